/- strings.Builder; Quote. -/
import Derived.Test.YthckfhllgpfidaaGreatDoorP05
import Derived.Test.YthckfhllgpfidaaGreatDoorP03
import Derived.Lib.SmallJoins
import Derived.Deep.Slices
import Derived.OpenShut
import Derived.Lib.IndexLaws
set_option linter.unusedSimpArgs false
set_option linter.unusedVariables false
set_option linter.unusedSectionVars false
namespace Go.Ev
open Go
variable {T : Tab} {st : St}
def u8s (l:List UInt8):List AV:=l.map fun c=> .int .u8 ((c.toNat:Nat):Int)
theorem u8s_len (l:List UInt8):(u8s l).length=l.length:=by simp[u8s]
theorem u8s_snoc (l:List UInt8) (c:UInt8):u8s (l++[c])=u8s l++[.int .u8 (c.toNat:Int)]:=by simp[u8s]
theorem u8s_append (a b:List UInt8):u8s (a++b)=u8s a++u8s b:=by simp[u8s]
def Grow (st0 s:St) (v:AV) (l:List UInt8):Prop:=Sl s v 5 1 l.length (u8s l)∧Mine [] st0 v∧NK v
theorem Grow.nil (st0 s:St):Grow st0 s .nilslice []:=⟨.nil _ _ _,.nil _ _,fun _ _ _ _ h=>by cases h⟩
theorem Grow.ge {st0 s:St} {v:AV} {l:List UInt8} (a:Grow st0 s v l):∀n∈v.nms,st0.nx≤n:=fun n hn=>by
 rcases a.2.1 n hn with h | h
 ·cases h
 ·exact h
theorem Grow.frm {st0 s s':St} {v:AV} {l:List UInt8} {S:List Nat} (a:Grow st0 s v l) (f:Frm S s s') (hw:s.Wf) (hn:∀n∈v.nms,n∉S):Grow st0 s' v l:=⟨a.1.frm f hw hn,a.2.1,a.2.2⟩
theorem Grow.ext {st0 s s':St} {v:AV} {l:List UInt8} (a:Grow st0 s v l) (f:Ext s s') (hw:s.Wf):Grow st0 s' v l:=a.frm (f.fr []) hw (by simp)
theorem Grow.dropLoc {st0 s:St} {v:AV} {l:List UInt8} {c:Nat} (a:Grow st0 s v l) (hw:s.Wf):Grow st0 ⟨Go.Ev.dropLoc c s.h,s.nx⟩ v l:=⟨a.1.dropLoc hw,a.2.1,a.2.2⟩
theorem Grow.nms {st0 s:St} {v:AV} {l:List UInt8} (a:Grow st0 s v l) {n:Nat} (h:n∈v.nms):(∃ty,hget s.h n=some (.cells ty false (u8s l)))∨hget s.h n=some (.buf 5 1 (u8s l)):=by
 obtain⟨⟨m,a⟩,_,_⟩:=a
 rcases a with ⟨h1,h2,h3⟩ | ⟨h1,h2,h3⟩ | ⟨ty',h1,h2,h3⟩ <;> rw[h1]at h <;> simp[AV.nms]at h <;> subst h
 ·exact .inr h2
 ·exact .inl ⟨_,h2⟩
theorem Grow.push {st0 s1:St} (hF:st0.nx≤s1.nx) (hw:s1.Wf) {v:AV} {l:List UInt8} {c:UInt8} {k:Nat} (hk:0<k) (a:Grow st0 s1 v l) (hl:l.length<35184372088831):
  CRes (aappend 5 1 1 ⟨(s1.nx,.cells 5 false [.int .u8 (c.toNat:Int)])::s1.h,s1.nx+k⟩ v (.slice s1.nx 0 1 (.known 1))) fun v' s=>Grow st0 s v' (l++[c])∧Frm v.nms s1 s:=by
 obtain⟨a1,a2,a3⟩:=a
 have xa:=Ext.newA hw (.cells 5 false [.int .u8 (c.toNat:Int)]) hk
 have hap:=Sl.append (x:= .slice s1.nx 0 1 (.known 1)) (j:=1) (new:=[.int .u8 (c.toNat:Int)]) (b:=1) (Frm.refl xa.wf v.nms) (fun n h=> .inl h) (a1.ext xa hw)
  (.inr ⟨_,_,_,rfl,rd_all (ty:=5) (l:=false) (by simp[hget_cons]) rfl⟩) (by simp[AV.sc]) (by omega) (by omega) (.inl (by omega))
 refine(hap.also (fun _ _ h=>aappend_nk h a3)).mono ?_
 rintro v2 s2 ⟨⟨k1,k2,k3,_⟩,hnk2⟩
 refine⟨⟨by rw[u8s_snoc];simpa using k1,fun n hn=> ?_,hnk2⟩,(xa.fr v.nms).trans k2 (fun n h=> .inl h)⟩
 rcases k3 n hn with h | h
 ·exact a2 n h
 ·simp at h;exact .inr (by omega)
theorem Grow.sc {st0 s:St} {v:AV} {l:List UInt8} (a:Grow st0 s v l):v.sc=true:=by
 obtain⟨⟨m,a⟩,_,_⟩:=a
 rcases a with ⟨h1,h2,h3⟩ | ⟨h1,h2,h3⟩ | ⟨ty',h1,h2,h3⟩ <;> rw[h1] <;> rfl
theorem Grow.acells {st0 s:St} {v:AV} {l:List UInt8} (a:Grow st0 s v l):Go.Ev.acells v=[v]:=by
 obtain⟨⟨m,a⟩,_,_⟩:=a
 rcases a with ⟨h1,h2,h3⟩ | ⟨h1,h2,h3⟩ | ⟨ty',h1,h2,h3⟩ <;> rw[h1] <;> rfl
theorem Grow.apart {st0 s:St} {v x:AV} {l:List UInt8} (a:Grow st0 s v l) {q ty:Nat} {cs:List AV} (hq:hget s.h q=some (.cells ty false cs)) (hx:x∈cs) (hn:∀k n,x≠.int k n):q∉v.nms:=fun hm=>by
 have hz:∀l,x∉u8s l:=fun l h=>by
  simp only[u8s,List.mem_map]at h
  obtain⟨c,_,h⟩:=h
  exact hn _ _ h.symm
 rcases a.nms hm with ⟨t,h⟩ | h <;> rw[h]at hq <;> injection hq with hq <;> injection hq
 rename_i _ _ e
 rw[←e]at hx
 exact hz _ hx
theorem Ext.dropGe {st0 s:St} (a:Ext st0 s) {c:Nat} (hc:st0.nx≤c):Ext st0 ⟨Go.Ev.dropLoc c s.h,s.nx⟩:=
 ⟨a.nx,a.wf.dropLoc _,fun n hn=>by rw[hget_dropLoc_lt (Nat.lt_of_lt_of_le hn hc),a.keep n hn]⟩
def Bd (st0 s:St) (q:Nat) (l:List UInt8):Prop:=st0.nx≤q∧∃a v,hget s.h q=some (.cells 84 false [a,v])∧(a= .nilptr∨a= .ptr q 0)∧Grow st0 s v l∧q∉v.nms
theorem copyCheck_res (H:B.H_strings_Builder_copyCheck T) (hwf:st.Wf) {q:Nat} {a v:AV} (hq:hget st.h q=some (.cells 84 false [a,v])) (ha:a= .nilptr∨a= .ptr q 0):
  CRes (call T (.fn 109 [] []) [.ptr q 0] st) fun _ s'=>Frm [q] st s'∧hget s'.h q=some (.cells 84 false [.ptr q 0,v]):=by
 refine call_res H.e H.f rfl ?_
 rcases ha with rfl | rfl
 ·have hw1:wrCells st.h q 0 [.ptr q 0]=some (hset st.h q (.cells 84 false [.ptr q 0,v])):=wr_cells hq rfl (by simp[AV.sc])
  have hr:rdCell st.h q 0=some .nilptr:=by simp[rdCell,hq]
  have hen:=fun st=>call_entry (st:=st) H.abi_NoEscape.en (first:=[]) (args:=[.ptr q 0]) (cap:=[])
  have x1:=Frm.set hwf hq (o:= .cells 84 false [.ptr q 0,v])
  simp[B.strings_Builder_copyCheck,go_sem,RO.run,WO.run,hr,hen,B.E_abi_NoEscape,nilEq,hw1,hq]
  exact⟨x1.dropLoc,hget_dropLoc_keep x1.wf (hget_hset_self hq) rfl⟩
 ·simp[B.strings_Builder_copyCheck,go_sem,RO.run,show rdCell st.h q 0=some (.ptr q 0)by simp[rdCell,hq],nilEq]
  exact⟨((Ext.refl hwf).dropLoc).fr _,hget_dropLoc_keep hwf hq rfl⟩
theorem Bd.ext {st0 s s':St} {q:Nat} {l:List UInt8} (b:Bd st0 s q l) (x:Ext s s') (hw:s.Wf):Bd st0 s' q l:=by
 obtain⟨h1,a,v,h2,h3,h4,h5⟩:=b
 exact⟨h1,a,v,x.get hw h2,h3,h4.ext x hw,h5⟩
theorem writeByte_res (H:B.H_strings_Builder_WriteByte T) {st0:St} (hx:Ext st0 st) {q:Nat} {l:List UInt8} {c:UInt8} (b:Bd st0 st q l) (hl:l.length<35184372088831):
  CRes (call T (.fn 91 [] []) [.ptr q 0,.int .u8 (c.toNat:Int)] st) fun _ s'=>Ext st0 s'∧Bd st0 s' q (l++[c]):=by
 obtain⟨h1,a,v,h2,h3,h4,h5⟩:=b
 refine call_res H.e H.f rfl ?_
 simp[B.strings_Builder_WriteByte,go_sem]
 refine(copyCheck_res H.strings_Builder_copyCheck hx.wf h2 h3).mono ?_
 rintro _ s1 ⟨f1,g1⟩
 have x1:Ext st0 s1:=hx.frm f1 (by simpa using h1)
 have g4:=h4.frm f1 hx.wf (by intro n hn h;simp at h;subst h;exact h5 hn)
 have hr:rdCell s1.h q 1=some v:=by simp[rdCell,g1]
 simp[go_sem,RO.run,NO.run,hr,reps]
 refine(g4.push x1.nx x1.wf (k:=1) (by omega) (c:=c) hl).mono ?_
 rintro v2 s2 ⟨o2,f2⟩
 have x2:=x1.frm f2 h4.ge
 have g2:hget s2.h q=some (.cells 84 false [.ptr q 0,v]):=f2.get x1.wf g1 h5
 have hw2:wrCells s2.h q 1 [v2]=some (hset s2.h q (.cells 84 false [.ptr q 0,v2])):=wr_cells g2 o2.sc (by simp)
 have f3:=Frm.set x2.wf g2 (o:= .cells 84 false [.ptr q 0,v2])
 have hap:=o2.apart g2 (x:= .ptr q 0) (by simp) (by simp)
 have g3:=hget_hset_self (o:= .cells 84 false [.ptr q 0,v2]) g2
 simp[go_sem,WO.run,o2.acells,hw2]
 have x3:Ext st0 ⟨hset s2.h q (.cells 84 false [.ptr q 0,v2]),s2.nx⟩:=x2.frm f3 (by simpa using h1)
 have o3:Grow st0 ⟨hset s2.h q (.cells 84 false [.ptr q 0,v2]),s2.nx⟩ v2 (l++[c]):=o2.frm f3 x2.wf (by intro n hn h;simp at h;subst h;exact hap hn)
 refine⟨?_,h1,_,v2,hget_dropLoc_keep x3.wf g3 rfl,.inr rfl,o3.dropLoc x3.wf,hap⟩
 exact x3.dropGe hx.nx
theorem writeByte_at (H:B.H_strings_Builder_WriteByte T) {st0:St} (hx:Ext st0 st) {q:Nat} {l:List UInt8} (c:UInt8) {n:Int} (hn:n=(c.toNat:Int)) (b:Bd st0 st q l) (hl:l.length<35184372088831):
  CRes (call T (.fn 91 [] []) [.ptr q 0,.int .u8 n] st) fun _ s'=>Ext st0 s'∧Bd st0 s' q (l++[c]):=by
 rw[hn];exact writeByte_res H hx b hl
theorem toBytes_u8s:∀l:List UInt8,toBytes (u8s l)=some l
 | []=>rfl
 | c::l=>by
   have h:u8s (c::l)= .int .u8 (c.toNat:Int)::u8s l:=rfl
   rw[h]
   simp[toBytes,toBytes_u8s l]
theorem string_res (H:B.H_strings_Builder_String T) {st0:St} (hx:Ext st0 st) {q:Nat} {l:List UInt8} (b:Bd st0 st q l) (hl:1≤l.length) (hl2:l.length<4000000000000000000):
  CRes (call T (.fn 92 [] []) [.ptr q 0] st) fun v s'=>v= .str l∧Ext st0 s':=by
 obtain⟨h1,a,v,h2,h3,h4,h5⟩:=b
 refine call_res H.e H.f rfl ?_
 have hr:rdCell st.h q 1=some v:=by simp[rdCell,h2]
 obtain⟨⟨m,hs⟩,h6,h7⟩:=h4
 rcases hs with ⟨k1,k2,k3⟩ | ⟨k1,k2,k3⟩ | ⟨ty',k1,k2,k3⟩
 ·omega
 ·subst k1
  have xa:=hx.trans (Ext.aside hx.wf 12)
  have hm:=h6 m (by simp[AV.nms])
  simp at hm
  have f:=Frm.hdel (st:=⟨st.h,st.nx+12⟩) xa.wf m
  have x2:=xa.frm f (by simpa using hm)
  simp only[u8s_len]at k3
  simp[B.strings_Builder_String,go_sem,RO.run,WO.run,hr,hl,k2,u8s_len,toBytes_u8s,show l.length≤9223372036854775807 by omega]
  exact x2.dropGe hx.nx
 ·subst k1
  exact absurd rfl (h7 _ _ _ _)
def od2 (c:UInt8):UInt8:=UInt8.ofNat (48+c.toNat / 64)
def od1 (c:UInt8):UInt8:=UInt8.ofNat (48+c.toNat / 8 % 8)
def od0 (c:UInt8):UInt8:=UInt8.ofNat (48+c.toNat % 8)
theorem od_eq (c:UInt8):IntKind.u8.wrap (48+iand .u8 (ishr .u8 (c.toNat:Int) 6) 7)=((od2 c).toNat:Int)∧IntKind.u8.wrap (48+iand .u8 (ishr .u8 (c.toNat:Int) 3) 7)=((od1 c).toNat:Int)∧IntKind.u8.wrap (48+iand .u8 (ishr .u8 (c.toNat:Int) 0) 7)=((od0 c).toNat:Int):=by
 have h:(List.range 256).all (fun n=>decide (IntKind.u8.wrap (48+iand .u8 (ishr .u8 ((n:Nat):Int) 6) 7)=((UInt8.ofNat (48+n / 64)).toNat:Int)) && decide (IntKind.u8.wrap (48+iand .u8 (ishr .u8 ((n:Nat):Int) 3) 7)=((UInt8.ofNat (48+n / 8 % 8)).toNat:Int)) && decide (IntKind.u8.wrap (48+iand .u8 (ishr .u8 ((n:Nat):Int) 0) 7)=((UInt8.ofNat (48+n % 8)).toNat:Int)))=true:=by kernel_rfl
 have:=all_octets h c
 simp only[Bool.and_eq_true,decide_eq_true_eq]at this
 exact⟨this.1.1,this.1.2,this.2⟩
def quoteC (c:UInt8):List UInt8:=if c=40∨c=41∨c=92 then [92,c]else if c.toNat<32∨126<c.toNat then [92,od2 c,od1 c,od0 c]else [c]
def quoteS (s:List UInt8):List UInt8:=40::(s.flatMap quoteC++[41])
theorem quoteC_len (c:UInt8):1≤(quoteC c).length∧(quoteC c).length≤4:=by
 unfold quoteC
 split
 ·simp
 ·split <;> simp
theorem Bd.snoc {st0 s:St} {q:Nat} {l m:List UInt8} (h:Bd st0 s q l) (e:l=m):Bd st0 s q m:=e▸h
theorem quote_oct (H:B.H_lex_Quote T) {st0:St} (hx:Ext st0 st) {q:Nat} {l:List UInt8} {c:UInt8} {e:Env} (b:Bd st0 st q l) (hl:l.length<35184372088827) (g3:eget e 3= .ptr q 0) (g5:eget e 5= .int .u8 (c.toNat:Int)) (g6:eget e 6= .int .i64 6):
  Res (run T (.loop B.lex_Quote_l0) e st) fun x e' s'=>x= .exit 3∧Ext st0 s'∧Bd st0 s' q (l++[od2 c,od1 c,od0 c])∧eget e' 0=eget e 0∧eget e' 3= .ptr q 0∧eget e' 9=eget e 9∧eget e' 10=eget e 10:=by
 obtain⟨d2,d1,d0⟩:=od_eq c
 rw[run_loop]
 simp[B.lex_Quote_l0,go_sem,g3,g5,g6,d2]
 refine(writeByte_res H.strings_Builder_WriteByte hx b (by omega)).mono ?_
 rintro _ s1 ⟨x1,b1⟩
 simp[go_sem]
 rw[run_loop,show IntKind.i64.wrap 3=3 from rfl]
 simp[go_sem,d1]
 refine(writeByte_res H.strings_Builder_WriteByte x1 b1 (by simp;omega)).mono ?_
 rintro _ s2 ⟨x2,b2⟩
 simp[go_sem]
 rw[run_loop,show IntKind.i64.wrap 0=0 from rfl]
 simp[go_sem,d0]
 refine(writeByte_res H.strings_Builder_WriteByte x2 b2 (by simp;omega)).mono ?_
 rintro _ s3 ⟨x3,b3⟩
 simp[go_sem]
 rw[run_loop,show IntKind.i64.wrap (-3)= -3 from rfl]
 simp[go_sem]
 exact⟨x3,b3.snoc (by simp)⟩
theorem quote_loop (H:B.H_lex_Quote T) {s:List UInt8} (hs:s.length<1000000000000) (st0:St):∀(m i:Nat) (e:Env) (st1:St) (q:Nat) (l:List UInt8),i+m=s.length→Ext st0 st1→Bd st0 st1 q l→l.length≤1+4*i→eget e 0= .str s→eget e 3= .ptr q 0→eget e 9= .int .i64 s.length→eget e 10= .int .i64 i→
  Res (run T (.loop B.lex_Quote_l1) e st1) fun x e' s'=>x= .exit 0∧Ext st0 s'∧eget e' 3= .ptr q 0∧Bd st0 s' q (l++(s.drop i).flatMap quoteC):=by
 intro m
 induction m with
 | zero=>
   intro i e st1 q l hi hx hb hl g0 g3 g9 g10
   have hil:i=s.length:=by omega
   subst hil
   rw[run_loop]
   simp[B.lex_Quote_l1,go_sem,g0,g3,g9,g10,hx,hb]
 | succ m ih=>
   intro i e st1 q l hi hx hb hl g0 g3 g9 g10
   have hil:i<s.length:=by omega
   have hil':(i:Int)<s.length:=by omega
   obtain⟨c,hc,hd⟩:=idx_some hil
   rw[run_loop]
   have next:∀(e':Env) (s':St),Ext st0 s'→Bd st0 s' q (l++quoteC c)→eget e' 0= .str s→eget e' 3= .ptr q 0→eget e' 9= .int .i64 s.length→eget e' 10= .int .i64 ((i+1:Nat):Int)→
     Res (run T (.loop B.lex_Quote_l1) e' s') fun x e' s'=>x= .exit 0∧Ext st0 s'∧eget e' 3= .ptr q 0∧Bd st0 s' q (l++(s.drop i).flatMap quoteC):=by
    intro e' s' hx' hb' k0 k3 k9 k10
    have:=quoteC_len c
    have:=ih (i+1) e' s' q _ (by omega) hx' hb' (by rw[List.length_append];omega) k0 k3 k9 k10
    rw[List.append_assoc]at this
    rw[hd];exact this
   have e4:IntKind.i64.wrap ((i:Int)+1)=((i+1:Nat):Int):=wrap64' (by omega) (by omega)
   by_cases h1:c=40∨c=41∨c=92
   ·have hq:quoteC c=[92,c]:=by simp[quoteC,h1]
    have hcn:(c.toNat:Int)=40∨(c.toNat:Int)=41∨(c.toNat:Int)=92:=by rcases h1 with rfl | rfl | rfl <;> simp
    obtain⟨n,hn⟩:∃n:Int,n=c.toNat:=⟨_,rfl⟩
    rw[←hn]at hcn
    rcases hcn with rfl | rfl | rfl
    all_goals
     simp[B.lex_Quote_l1,go_sem,g0,g3,g9,g10,hil',hc,←hn]
     refine(writeByte_at H.strings_Builder_WriteByte hx 92 rfl hb (by omega)).mono ?_
     rintro _ s1 ⟨x1,b1⟩
     simp[go_sem]
     refine(writeByte_at H.strings_Builder_WriteByte x1 c hn b1 (by simp;omega)).mono ?_
     rintro _ s2 ⟨x2,b2⟩
     simp[go_sem,e4]
     exact next _ _ x2 (b2.snoc (by rw[hq];simp)) (by simp[go_sem]) (by simp[go_sem]) (by simp[go_sem]) (by simp[go_sem])
   ·simp only[not_or]at h1
    have n1:¬(c.toNat:Int)=40:=u8_ne h1.1 rfl
    have n2:¬(c.toNat:Int)=41:=u8_ne h1.2.1 rfl
    have n3:¬(c.toNat:Int)=92:=u8_ne h1.2.2 rfl
    have m1:¬c.toNat=40:=by omega
    have m2:¬c.toNat=41:=by omega
    have m3:¬c.toNat=92:=by omega
    by_cases h2:c.toNat<32∨126<c.toNat
    ·have hq:quoteC c=[92,od2 c,od1 c,od0 c]:=by simp[quoteC,h1,h2]
     have h2':(c.toNat:Int)<32∨¬(c.toNat:Int)<32∧(126:Int)<c.toNat:=by omega
     rcases h2' with h2' | ⟨h2',h2''⟩
     ·simp[B.lex_Quote_l1,go_sem,g0,g3,g9,g10,hil',hc,n1,n2,n3,m1,m2,m3,h2']
      refine(writeByte_at H.strings_Builder_WriteByte hx 92 rfl hb (by omega)).mono ?_
      rintro _ s1 ⟨x1,b1⟩
      simp[go_sem]
      refine(quote_oct H (c:=c) x1 b1 (by simp;omega) (by simp[go_sem]) (by simp[go_sem]) (by simp[go_sem])).mono ?_
      rintro x e' s2 ⟨rfl,x2,b2,k0,k3,k9,k10⟩
      simp[go_sem]at k0 k9 k10
      simp[go_sem,e4,k0,k3,k9,k10]
      exact next _ _ x2 (b2.snoc (by rw[hq];simp)) (by simp[go_sem]) (by simp[go_sem]) (by simp[go_sem]) (by simp[go_sem])
     ·simp[B.lex_Quote_l1,go_sem,g0,g3,g9,g10,hil',hc,n1,n2,n3,m1,m2,m3,h2',h2'']
      refine(writeByte_at H.strings_Builder_WriteByte hx 92 rfl hb (by omega)).mono ?_
      rintro _ s1 ⟨x1,b1⟩
      simp[go_sem]
      refine(quote_oct H (c:=c) x1 b1 (by simp;omega) (by simp[go_sem]) (by simp[go_sem]) (by simp[go_sem])).mono ?_
      rintro x e' s2 ⟨rfl,x2,b2,k0,k3,k9,k10⟩
      simp[go_sem]at k0 k9 k10
      simp[go_sem,e4,k0,k3,k9,k10]
      exact next _ _ x2 (b2.snoc (by rw[hq];simp)) (by simp[go_sem]) (by simp[go_sem]) (by simp[go_sem]) (by simp[go_sem])
    ·have hq:quoteC c=[c]:=by simp[quoteC,h1,h2]
     have h2':¬(c.toNat:Int)<32:=by omega
     have h2'':¬(126:Int)<c.toNat:=by omega
     simp[B.lex_Quote_l1,go_sem,g0,g3,g9,g10,hil',hc,n1,n2,n3,m1,m2,m3,h2',h2'']
     refine(writeByte_res H.strings_Builder_WriteByte hx hb (by omega)).mono ?_
     rintro _ s1 ⟨x1,b1⟩
     simp[go_sem,e4]
     exact next _ _ x1 (b1.snoc (by rw[hq])) (by simp[go_sem]) (by simp[go_sem]) (by simp[go_sem]) (by simp[go_sem])
theorem quote_tells (H:B.H_lex_Quote T) (hwf:st.Wf) {s:List UInt8} (hs:s.length<1000000000000):Tells T st (.fn 71 [] []) [.str s] (.str (quoteS s)):=by
 refine tells_of H.e H.f rfl ?_
 have hx:=Ext.new hwf (.cells 84 false [.nilptr,.nilslice])
 have hb:Bd st ⟨(st.nx,.cells 84 false [.nilptr,.nilslice])::st.h,st.nx+1⟩ st.nx []:=⟨Nat.le_refl _,.nilptr,.nilslice,by simp[hget_cons],.inl rfl,.nil _ _,by simp[AV.nms]⟩
 simp[B.lex_Quote,go_sem,NO.run]
 refine(writeByte_at H.strings_Builder_WriteByte hx 40 rfl hb (by simp)).mono ?_
 rintro _ s1 ⟨x1,b1⟩
 simp[go_sem]
 refine(quote_loop H hs st s.length 0 _ s1 st.nx [40] (by simp) x1 b1 (by simp) (by simp[go_sem]) (by simp[go_sem]) (by simp[go_sem]) (by simp[go_sem])).mono ?_
 rintro x e' s2 ⟨rfl,x2,k3,b2⟩
 simp[go_sem,k3]
 have hlen:∀l:List UInt8,(l.flatMap quoteC).length≤4*l.length:=by
  intro l
  induction l with
  | nil=>simp
  | cons c l ih=>
    have:=quoteC_len c
    simp only[List.flatMap_cons,List.length_append,List.length_cons]
    omega
 have:=hlen s
 rw[List.drop_zero]at b2
 refine(writeByte_at H.strings_Builder_WriteByte x2 41 rfl b2 (by simp only[List.length_append,List.length_singleton];omega)).mono ?_
 rintro _ s3 ⟨x3,b3⟩
 simp[go_sem]
 refine(string_res H.strings_Builder_String x3 (b3.snoc (m:=quoteS s) (by simp[quoteS])) (by simp[quoteS]) (by simp only[quoteS,List.length_append,List.length_cons,List.length_nil];omega)).mono ?_
 rintro v s4 ⟨rfl,x4⟩
 simp[go_sem]
 exact x4
end Go.Ev

/- Unquote: the source's steps. -/
namespace Go.Ev
open Go
variable {T : Tab} {st : St}
def octN:Nat→Nat→List UInt8→Nat×Nat
 | 0,n,_=>(n,0)
 | k+1,n,c::r=>if 48≤c.toNat∧c.toNat≤55 then((octN k (8*n+(c.toNat - 48)) r).1,(octN k (8*n+(c.toNat - 48)) r).2+1)else(n,0)
 | _+1,n,[]=>(n,0)
def lineN (c:UInt8) (r:List UInt8):Nat:=if c=13∧r.head? =some 10 then 1 else 0
def letter (c:UInt8):Option UInt8:=if c=110 then some 10 else if c=114 then some 13 else if c=116 then some 9 else if c=98 then some 8 else if c=102 then some 12 else none
def esc:List UInt8→Option (List UInt8×Nat)
 | []=>none
 | c::r=>some (match letter c with
   | some o=>([o],1)
   | none=>if c=10∨c=13 then([],1+lineN c r)else if 48≤c.toNat∧c.toNat≤55 then([UInt8.ofNat (octN 2 (c.toNat - 48) r).1],1+(octN 2 (c.toNat - 48) r).2)else([c],1))
def unq:Nat→Nat→List UInt8→List UInt8→Option (List UInt8×List UInt8)
 | 0,_,_,_=>none
 | _+1,_,[],_=>none
 | f+1,d,c::r,out=>
   if c=92 then match esc r with
    | none=>none
    | some (o,n)=>unq f d (r.drop n) (out++o)
   else if c=40 then unq f (d+1) r (out++[40])
   else if c=41 then if d=1 then some (out,r)else unq f (d - 1) r (out++[41])
   else if c=10∨c=13 then unq f d (r.drop (lineN c r)) (out++[10])
   else unq f d r (out++[c])
def QAt (st0 s':St) (q:Nat) (s:List UInt8) (k:Nat) (out:List UInt8) (d:Int):Prop:=st0.nx≤q∧∃v,hget s'.h q=some (.cells 164 false [.str s,.int .i64 k,v,.int .i64 d])∧Grow st0 s' v out∧q∉v.nms
theorem QAt.ext {st0 s s':St} {q k:Nat} {t l:List UInt8} {d:Int} (b:QAt st0 s q t k l d) (x:Ext s s') (hw:s.Wf):QAt st0 s' q t k l d:=by
 obtain⟨h1,v,h2,h4,h5⟩:=b
 exact⟨h1,v,x.get hw h2,h4.ext x hw,h5⟩
theorem QAt.put {st0 s:St} {q k k':Nat} {t l:List UInt8} {d d':Int} {v:AV} (hx:Ext st0 s) (h1:st0.nx≤q) (h2:hget s.h q=some (.cells 164 false [.str t,.int .i64 k,v,.int .i64 d])) (h4:Grow st0 s v l) (h5:q∉v.nms):
  Ext st0 ⟨hset s.h q (.cells 164 false [.str t,.int .i64 k',v,.int .i64 d']),s.nx⟩∧QAt st0 ⟨hset s.h q (.cells 164 false [.str t,.int .i64 k',v,.int .i64 d']),s.nx⟩ q t k' l d':=by
 have f3:=Frm.set hx.wf h2 (o:= .cells 164 false [.str t,.int .i64 k',v,.int .i64 d'])
 refine⟨hx.frm f3 (by simpa using h1),h1,v,hget_hset_self h2,h4.frm f3 hx.wf ?_,h5⟩
 intro n hn h
 simp at h;subst h;exact h5 hn
theorem QAt.out {st0 s:St} {q k:Nat} {t l:List UInt8} {d:Int} {u v:AV} (hx:Ext st0 s) (h1:st0.nx≤q) (h2:hget s.h q=some (.cells 164 false [.str t,.int .i64 k,u,.int .i64 d])) (h4:Grow st0 s v l):
  wrCells s.h q 2 [v]=some (hset s.h q (.cells 164 false [.str t,.int .i64 k,v,.int .i64 d]))∧Ext st0 ⟨hset s.h q (.cells 164 false [.str t,.int .i64 k,v,.int .i64 d]),s.nx⟩∧QAt st0 ⟨hset s.h q (.cells 164 false [.str t,.int .i64 k,v,.int .i64 d]),s.nx⟩ q t k l d:=by
 have f3:=Frm.set hx.wf h2 (o:= .cells 164 false [.str t,.int .i64 k,v,.int .i64 d])
 have h5:=h4.apart h2 (x:= .str t) (by simp) (by simp)
 refine⟨wr_cells h2 h4.sc (by simp),hx.frm f3 (by simpa using h1),h1,v,hget_hset_self h2,h4.frm f3 hx.wf ?_,h5⟩
 intro n hn h
 simp at h;subst h;exact h5 hn
theorem QAt.dropLoc {st0 s:St} {q k c:Nat} {t l:List UInt8} {d:Int} (b:QAt st0 s q t k l d) (hw:s.Wf):QAt st0 ⟨Go.Ev.dropLoc c s.h,s.nx⟩ q t k l d:=by
 obtain⟨h1,v,h2,h4,h5⟩:=b
 exact⟨h1,v,hget_dropLoc_keep hw h2 rfl,h4.dropLoc hw,h5⟩
theorem QAt.push {st0 s1:St} (hx:Ext st0 s1) {q k:Nat} {t out:List UInt8} {d:Int} (b:QAt st0 s1 q t k out d) (hl:out.length<35184372088831) (c:UInt8):
  ∃v,rdCell s1.h q 2=some v∧CRes (aappend 5 1 1 ⟨(s1.nx,.cells 5 false [.int .u8 (c.toNat:Int)])::s1.h,s1.nx+1⟩ v (.slice s1.nx 0 1 (.known 1))) fun v' s=>acells v'=[v']∧∃h',wrCells s.h q 2 [v']=some h'∧Ext st0 ⟨h',s.nx⟩∧QAt st0 ⟨h',s.nx⟩ q t k (out++[c]) d:=by
 obtain⟨h1,v,h2,h4,h5⟩:=b
 refine⟨v,by simp[rdCell,h2],(h4.push hx.nx hx.wf (k:=1) (by omega) (c:=c) hl).mono ?_⟩
 rintro v2 s2 ⟨o2,f2⟩
 have x2:=hx.frm f2 h4.ge
 have g2:=f2.get hx.wf h2 h5
 obtain⟨z1,z2,z3⟩:=QAt.out x2 h1 g2 o2
 exact⟨o2.acells,_,z1,z2,z3⟩
theorem next_res (H:B.H_lex_quoted_next T) {st0:St} (hx:Ext st0 st) {q k:Nat} {s out:List UInt8} {d:Int} (hs:s.length<1000000000000) (hk:k≤s.length) (b:QAt st0 st q s k out d):
  CRes (call T (.fn 86 [] []) [.ptr q 0] st) fun v s'=>Ext st0 s'∧((s[k]? =none∧v= .tuple [.int .u8 0,.bool false]∧QAt st0 s' q s k out d)∨∃c,s[k]? =some c∧v= .tuple [.int .u8 (c.toNat:Int),.bool true]∧QAt st0 s' q s (k+1) out d):=by
 obtain⟨h1,w,h2,h4,h5⟩:=b
 refine call_res H.e H.f rfl ?_
 have r0:rdCell st.h q 0=some (.str s):=by simp[rdCell,h2]
 have r1:rdCell st.h q 1=some (.int .i64 k):=by simp[rdCell,h2]
 have xa:=Ext.aside hx.wf 12
 have b0:QAt st0 ⟨st.h,st.nx+12⟩ q s k out d:=QAt.ext ⟨h1,w,h2,h4,h5⟩ xa hx.wf
 by_cases hkl:k=s.length
 ·subst hkl
  simp[B.lex_quoted_next,go_sem,RO.run,r0,r1]
  exact⟨(hx.trans xa).dropGe hx.nx,b0.dropLoc xa.wf⟩
 ·have hkl':¬(k:Int)=s.length:=by omega
  have hkl2:¬(s.length:Int)≤k:=by omega
  have hkl3:¬s.length≤k:=by omega
  obtain⟨c,hc,hd⟩:=idx_some (s:=s) (i:=k) (by omega)
  have e4:IntKind.i64.wrap ((k:Int)+1)=((k+1:Nat):Int):=wrap64' (by omega) (by omega)
  have e5:IntKind.i64.wrap (((k+1:Nat):Int) - 1)=(k:Int):=by rw[wrap64' (by omega) (by omega)];omega
  obtain⟨k2,hk2⟩:∃k2,k2=k+1:=⟨_,rfl⟩
  rw[←hk2]at e4 e5
  have hw1:wrCells st.h q 1 [.int .i64 (k2:Int)]=some (hset st.h q (.cells 164 false [.str s,.int .i64 k2,w,.int .i64 d])):=wr_cells h2 rfl (by simp)
  obtain⟨y1,y2⟩:=QAt.put (k':=k2) (d':=d) (hx.trans xa) h1 (k:=k) h2 (h4.ext xa hx.wf) h5
  have q0:rdCell (hset st.h q (.cells 164 false [.str s,.int .i64 k2,w,.int .i64 d])) q 0=some (.str s):=by simp[rdCell,hget_hset_self h2]
  have q1:rdCell (hset st.h q (.cells 164 false [.str s,.int .i64 k2,w,.int .i64 d])) q 1=some (.int .i64 k2):=by simp[rdCell,hget_hset_self h2]
  simp[B.lex_quoted_next,go_sem,RO.run,WO.run,r0,r1,hkl',hkl2,hkl3,e4,hw1,q0,q1,e5,hc]
  rw[←hk2]
  have z:=Ext.aside y1.wf 14
  exact⟨(y1.trans z).dropGe hx.nx,(y2.ext z y1.wf).dropLoc z.wf⟩
theorem line_res (H:B.H_lex_quoted_line T) {st0:St} (hx:Ext st0 st) {q k:Nat} {s out:List UInt8} {d:Int} (hs:s.length<1000000000000) (hk:k≤s.length) (c:UInt8) (b:QAt st0 st q s k out d):
  CRes (call T (.fn 107 [] []) [.ptr q 0,.int .u8 (c.toNat:Int)] st) fun v s'=>Ext st0 s'∧QAt st0 s' q s (k+lineN c (s.drop k)) out d:=by
 obtain⟨h1,w,h2,h4,h5⟩:=b
 refine call_res H.e H.f rfl ?_
 have r0:rdCell st.h q 0=some (.str s):=by simp[rdCell,h2]
 have r1:rdCell st.h q 1=some (.int .i64 k):=by simp[rdCell,h2]
 have xa:=fun n=>Ext.aside hx.wf n
 have b0:∀n,QAt st0 ⟨st.h,st.nx+n⟩ q s k out d:=fun n=>QAt.ext ⟨h1,w,h2,h4,h5⟩ (xa n) hx.wf
 have stay:lineN c (s.drop k)=0→∀n,Ext st0 ⟨dropLoc st.nx st.h,st.nx+n⟩∧QAt st0 ⟨dropLoc st.nx st.h,st.nx+n⟩ q s (k+lineN c (s.drop k)) out d:=fun h n=>by
  rw[h]
  exact⟨(hx.trans (xa n)).dropGe hx.nx,(b0 n).dropLoc (xa n).wf⟩
 by_cases h13:c=13
 ·subst h13
  by_cases hkl:k=s.length
  ·subst hkl
   simp[B.lex_quoted_line,go_sem,RO.run,r0,r1]
   have:=stay (by simp[lineN])
   simp only[List.drop_length]at this
   exact this _
  ·have hkl':¬(k:Int)=s.length:=by omega
   have hkl2:(k:Int)<s.length:=by omega
   have hkl3:k<s.length:=by omega
   obtain⟨b,hc,hd⟩:=idx_some (s:=s) (i:=k) (by omega)
   by_cases h10:b=10
   ·subst h10
    have e4:IntKind.i64.wrap ((k:Int)+1)=((k+1:Nat):Int):=wrap64' (by omega) (by omega)
    obtain⟨k2,hk2⟩:∃k2,k2=k+1:=⟨_,rfl⟩
    have hln:k+lineN 13 (s.drop k)=k2:=by simp[lineN,hd,hk2]
    rw[←hk2]at e4
    have hw1:wrCells st.h q 1 [.int .i64 (k2:Int)]=some (hset st.h q (.cells 164 false [.str s,.int .i64 k2,w,.int .i64 d])):=wr_cells h2 rfl (by simp)
    simp[B.lex_quoted_line,go_sem,RO.run,WO.run,r0,r1,hkl2,hc,e4,hw1]
    rw[hln]
    obtain⟨y1,y2⟩:=QAt.put (k':=k2) (d':=d) (hx.trans (xa 30)) h1 (k:=k) h2 (h4.ext (xa 30) hx.wf) h5
    exact⟨y1.dropGe hx.nx,y2.dropLoc y1.wf⟩
   ·have n1:¬(b.toNat:Int)=10:=u8_ne h10 rfl
    have m1:¬b.toNat=10:=by omega
    simp[B.lex_quoted_line,go_sem,RO.run,r0,r1,hkl2,hc,n1,m1]
    exact stay (by simp[lineN,hd,h10]) _
 ·have n1:¬(c.toNat:Int)=13:=u8_ne h13 rfl
  have m1:¬c.toNat=13:=by omega
  simp[B.lex_quoted_line,go_sem,n1,m1]
  exact stay (by simp[lineN,h13]) _
theorem letters_res (H:B.H_lex_letters T) (hwf:st.Wf):CRes (call T (.fn 117 [] []) [] st) fun v s'=>v= .map st.nx∧Ext st s'∧hget s'.h st.nx=some (.map [(.int .u8 110,.int .u8 10),(.int .u8 114,.int .u8 13),(.int .u8 116,.int .u8 9),(.int .u8 98,.int .u8 8),(.int .u8 102,.int .u8 12)]):=by
 refine call_res H.e H.f rfl ?_
 simp[B.lex_letters,go_sem,NO.run,WO.run,hget_cons,hset_cons,mins,cellEqK]
 have x:=Ext.new hwf (.map [(.int .u8 110,.int .u8 10),(.int .u8 114,.int .u8 13),(.int .u8 116,.int .u8 9),(.int .u8 98,.int .u8 8),(.int .u8 102,.int .u8 12)])
 exact⟨x.dropLoc,hget_dropLoc_keep x.wf (by simp[hget_cons]) rfl⟩
theorem octal_loop (H:B.H_lex_quoted_escape T) {st0:St} {q:Nat} {s out:List UInt8} {d:Int} (hs:s.length<1000000000000):∀(m i n k:Nat) (e:Env) (st1:St),i+m=2→(i=0→n≤7)→(i=1→n≤63)→n≤511→k≤s.length→Ext st0 st1→QAt st0 st1 q s k out d→eget e 0= .ptr q 0→eget e 7= .int .i64 n→eget e 63= .int .i64 i→
  Res (run T (.loop B.lex_quoted_escape_l0) e st1) fun x e' s'=>x= .exit 1∧Ext st0 s'∧QAt st0 s' q s (k+(octN m n (s.drop k)).2) out d∧eget e' 0= .ptr q 0∧eget e' 7= .int .i64 ((octN m n (s.drop k)).1:Nat)∧(octN m n (s.drop k)).1≤511:=by
 intro m
 induction m with
 | zero=>
   intro i n k e st1 hi hn1 hn2 hn hk hx b g0 g7 g63
   have:i=2:=by omega
   subst this
   rw[run_loop]
   simp[B.lex_quoted_escape_l0,go_sem,g0,g7,g63,octN,hx,b,hn]
 | succ m ih=>
   intro i n k e st1 hi hn1 hn2 hn hk hx b g0 g7 g63
   have b':=b
   obtain⟨h1,w,h2,h4,h5⟩:=b'
   have hi2:(i:Int)<2:=by omega
   have r0:rdCell st1.h q 0=some (.str s):=by simp[rdCell,h2]
   have r1:rdCell st1.h q 1=some (.int .i64 k):=by simp[rdCell,h2]
   rw[run_loop]
   have xa:=Ext.aside hx.wf 40
   have stay:octN (m+1) n (s.drop k)=(n,0)→Ext st0 ⟨st1.h,st1.nx+40⟩∧QAt st0 ⟨st1.h,st1.nx+40⟩ q s (k+(octN (m+1) n (s.drop k)).2) out d∧(n:Int)=((octN (m+1) n (s.drop k)).1:Nat)∧(octN (m+1) n (s.drop k)).1≤511:=fun h=>by
    rw[h]
    exact⟨hx.trans xa,b.ext xa hx.wf,rfl,hn⟩
   by_cases hkl:k=s.length
   ·subst hkl
    have z:=stay (by simp[octN])
    simp[B.lex_quoted_escape_l0,go_sem,g0,g7,g63,RO.run,r0,r1,hi2]
    simp only[List.drop_length]at z
    obtain⟨z1,z2,z3,z4⟩:=z
    exact⟨z1,z2,by omega,z4⟩
   ·have hkl2:(k:Int)<s.length:=by omega
    obtain⟨c,hc,hd⟩:=idx_some (s:=s) (i:=k) (by omega)
    by_cases hlo:48≤c.toNat
    ·by_cases hhi:c.toNat≤55
     ·have e1:IntKind.u8.wrap ((c.toNat:Int) - 48)=((c.toNat - 48:Nat):Int):=by
       rw[wrap_u8 (by omega) (by have:=c.toNat_lt;omega)];omega
      have e2:IntKind.i64.wrap ((c.toNat - 48:Nat):Int)=((c.toNat - 48:Nat):Int):=wrap64' (by omega) (by omega)
      have e3:IntKind.i64.wrap (8*(n:Int))=8*n:=wrap64' (by omega) (by omega)
      have e4:IntKind.i64.wrap (8*(n:Int)+((c.toNat - 48:Nat):Int))=((8*n+(c.toNat - 48):Nat):Int):=by rw[wrap64' (by omega) (by omega)];omega
      have e5:IntKind.i64.wrap ((k:Int)+1)=((k+1:Nat):Int):=wrap64' (by omega) (by omega)
      have e6:IntKind.i64.wrap ((i:Int)+1)=((i+1:Nat):Int):=wrap64' (by omega) (by omega)
      have hoc:octN (m+1) n (s.drop k)=((octN m (8*n+(c.toNat - 48)) (s.drop (k+1))).1,(octN m (8*n+(c.toNat - 48)) (s.drop (k+1))).2+1):=by rw[hd];simp[octN,hlo,hhi]
      rw[hoc]
      have hkk:k+((octN m (8*n+(c.toNat - 48)) (s.drop (k+1))).2+1)=k+1+(octN m (8*n+(c.toNat - 48)) (s.drop (k+1))).2:=by omega
      rw[hkk]
      obtain⟨k2,hk2⟩:∃k2,k2=k+1:=⟨_,rfl⟩
      obtain⟨n2,hn2⟩:∃n2,n2=8*n+(c.toNat - 48):=⟨_,rfl⟩
      rw[←hk2]at e5⊢
      rw[←hn2]at e4⊢
      have hw1:wrCells st1.h q 1 [.int .i64 (k2:Int)]=some (hset st1.h q (.cells 164 false [.str s,.int .i64 k2,w,.int .i64 d])):=wr_cells h2 rfl (by simp)
      have xb:=Ext.aside hx.wf (40+17)
      obtain⟨y1,y2⟩:=QAt.put (k':=k2) (d':=d) (hx.trans xb) h1 (k:=k) h2 (h4.ext xb hx.wf) h5
      simp[B.lex_quoted_escape_l0,go_sem,g0,g7,g63,RO.run,WO.run,r0,r1,hi2,hkl2,hc,show (48:Int)≤c.toNat by omega,show (c.toNat:Int)≤55 by omega,hlo,hhi,e1,e2,e3,e4,e5,hw1]
      refine(ih (i+1) n2 k2 _ _ (by omega) (by omega) (by omega) (by omega) (by omega) y1 y2 ?_ ?_ ?_).mono fun x e s h=>h
      ·simp[go_sem]
      ·simp[go_sem]
      ·simp[go_sem,e6]
     ·have z:=stay (by simp[octN,hd,hlo,hhi])
      simp[B.lex_quoted_escape_l0,go_sem,g0,g7,g63,RO.run,r0,r1,hi2,hkl2,hc,show (48:Int)≤c.toNat by omega,show¬(c.toNat:Int)≤55 by omega,hlo,hhi]
      obtain⟨z1,z2,z3,z4⟩:=z
      exact⟨z1,z2,by omega,z4⟩
    ·have z:=stay (by simp[octN,hd,hlo])
     simp[B.lex_quoted_escape_l0,go_sem,g0,g7,g63,RO.run,r0,r1,hi2,hkl2,hc,show¬(48:Int)≤c.toNat by omega,hlo]
     obtain⟨z1,z2,z3,z4⟩:=z
     exact⟨z1,z2,by omega,z4⟩
def letterM:List (AV×AV):=[(.int .u8 110,.int .u8 10),(.int .u8 114,.int .u8 13),(.int .u8 116,.int .u8 9),(.int .u8 98,.int .u8 8),(.int .u8 102,.int .u8 12)]
theorem lookup_letter (c:UInt8):mfind (.i .u8) (.int .u8 (c.toNat:Int)) letterM=some ((letter c).map fun o=> .int .u8 (o.toNat:Int)):=by
 have hn:∀k:UInt8,c≠k→¬(c.toNat:Int)=(k.toNat:Int):=fun k h=>u8_ne h rfl
 unfold letterM letter
 by_cases h1:c=110
 ·subst h1;rfl
 by_cases h2:c=114
 ·subst h2;rfl
 by_cases h3:c=116
 ·subst h3;rfl
 by_cases h4:c=98
 ·subst h4;rfl
 by_cases h5:c=102
 ·subst h5;rfl
 have m1:=hn _ h1
 have m2:=hn _ h2
 have m3:=hn _ h3
 have m4:=hn _ h4
 have m5:=hn _ h5
 simp at m1 m2 m3 m4 m5
 simp[mfind,cellEqK,h1,h2,h3,h4,h5,m1,m2,m3,m4,m5]
theorem escape_res (H:B.H_lex_quoted_escape T) {st0:St} (hx:Ext st0 st) {q k:Nat} {s out:List UInt8} {d:Int} (hs:s.length<1000000000000) (hk:k≤s.length) (ho:out.length≤s.length) (b:QAt st0 st q s k out d):
  CRes (call T (.fn 106 [] []) [.ptr q 0] st) fun v s'=>Ext st0 s'∧match esc (s.drop k)with
   | none=>v= .bool false
   | some (o,n)=>v= .bool true∧QAt st0 s' q s (k+n) (out++o) d:=by
 refine call_res H.e H.f rfl ?_
 simp[B.lex_quoted_escape,go_sem]
 refine(next_res H.lex_quoted_next hx hs hk b).mono ?_
 rintro v1 s1 ⟨x1,⟨hc,rfl,b1⟩ | ⟨c,hc,rfl,b1⟩⟩
 ·have hd:s.drop k=[]:=by rw[List.drop_eq_nil_iff];exact List.getElem?_eq_none_iff.1 hc
  simp[go_sem,hd,esc]
  exact x1.dropGe hx.nx
 ·have hkl:k<s.length:=by
   rcases Nat.lt_or_ge k s.length with h | h
   ·exact h
   ·rw[List.getElem?_eq_none h]at hc;cases hc
  obtain⟨c',hc',hd⟩:=idx_some hkl
  rw[hc]at hc';cases hc'
  simp[go_sem]
  refine(letters_res H.lex_letters x1.wf).mono ?_
  rintro v2 s2 ⟨rfl,x2,hm⟩
  have y2:=x1.trans x2
  have b2:=b1.ext x2 x1.wf
  have hlk:=lookup_letter c
  have hm':hget s2.h s1.nx=some (.map letterM):=hm
  have push:∀(o:UInt8) (e:Env) (s3:St),Ext st0 s3→QAt st0 s3 q s (k+1) out d→True:=fun _ _ _ _ _=>trivial
  have hp:=fun o=>b2.push y2 (by omega) o
  cases hl:letter c with
  | some o=>
    rw[hl]at hlk
    obtain⟨w,r2,hw⟩:=hp o
    simp[go_sem,RO.run,NO.run,hm',hlk,cellEqK,r2,reps]
    refine hw.mono ?_
    rintro v3 s3 ⟨a3,h',w3,x3,q3⟩
    simp[go_sem,WO.run,a3,w3,hd,esc,hl]
    exact⟨x3.dropGe hx.nx,q3.dropLoc x3.wf⟩
  | none=>
    rw[hl]at hlk
    by_cases hln:c=10∨c=13
    ·have he:esc (s.drop k)=some ([],1+lineN c (s.drop (k+1))):=by rw[hd];simp[esc,hl,hln]
     have hcn:(c.toNat:Int)=10∨(c.toNat:Int)=13:=by rcases hln with rfl | rfl <;> simp
     have hll:=line_res H.lex_quoted_line y2 hs (by omega) c b2
     rw[he]
     obtain⟨n,hn⟩:∃n:Int,n=c.toNat:=⟨_,rfl⟩
     rw[←hn]at hcn hll hlk
     have fin:∀s3,Ext st0 s3→QAt st0 s3 q s (k+1+lineN c (s.drop (k+1))) out d→Ext st0 ⟨dropLoc st.nx s3.h,s3.nx⟩∧QAt st0 ⟨dropLoc st.nx s3.h,s3.nx⟩ q s (k+(1+lineN c (s.drop (k+1)))) out d:=fun s3 x3 q3=>by
      rw[←Nat.add_assoc];exact⟨x3.dropGe hx.nx,q3.dropLoc x3.wf⟩
     rcases hcn with rfl | rfl
     ·simp[go_sem,RO.run,NO.run,hm',hlk,cellEqK,←hn]
      refine hll.mono ?_
      rintro v3 s3 ⟨x3,q3⟩
      simp[go_sem]
      exact fin s3 x3 q3
     ·simp[go_sem,RO.run,NO.run,hm',hlk,cellEqK,←hn]
      refine hll.mono ?_
      rintro v3 s3 ⟨x3,q3⟩
      simp[go_sem]
      exact fin s3 x3 q3
    ·simp only[not_or]at hln
     have n1:¬(c.toNat:Int)=10:=u8_ne hln.1 rfl
     have n2:¬(c.toNat:Int)=13:=u8_ne hln.2 rfl
     have m1:¬c.toNat=10:=by omega
     have m2:¬c.toNat=13:=by omega
     by_cases hoc:48≤c.toNat∧c.toNat≤55
     ·have he:esc (s.drop k)=some ([UInt8.ofNat (octN 2 (c.toNat - 48) (s.drop (k+1))).1],1+(octN 2 (c.toNat - 48) (s.drop (k+1))).2):=by rw[hd];simp[esc,hl,hln,hoc]
      have e1:IntKind.u8.wrap ((c.toNat:Int) - 48)=((c.toNat - 48:Nat):Int):=by
       rw[wrap_u8 (by omega) (by have:=c.toNat_lt;omega)];omega
      have e2:IntKind.i64.wrap ((c.toNat - 48:Nat):Int)=((c.toNat - 48:Nat):Int):=wrap64' (by omega) (by omega)
      rw[he]
      simp[go_sem,RO.run,NO.run,hm',hlk,cellEqK,n1,n2,m1,m2,hoc,show (48:Int)≤c.toNat by omega,show (c.toNat:Int)≤55 by omega,e1,e2]
      refine(octal_loop H (q:=q) (s:=s) (out:=out) (d:=d) hs 2 0 (c.toNat - 48) (k+1) _ s2 (by omega) (by omega) (by omega) (by omega) (by omega) y2 b2 (by simp[go_sem]) (by simp[go_sem]) (by simp[go_sem])).mono ?_
      generalize octN 2 (c.toNat - 48) (s.drop (k+1))=oc
      rintro x e' s3 ⟨rfl,x3,q3,g0,g7,hle⟩
      have e3:IntKind.u8.wrap ((oc.1:Nat):Int)=((UInt8.ofNat oc.1).toNat:Int):=by
       simp only[IntKind.wrap,IntKind.signed,IntKind.bits,UInt8.toNat_ofNat']
       simp
      obtain⟨w,r2,hw⟩:=q3.push x3 (by omega) (UInt8.ofNat oc.1)
      simp only[←e3]at hw
      simp[go_sem,RO.run,NO.run,g0,g7,r2,reps]
      refine hw.mono ?_
      rintro v4 s4 ⟨a4,h',w4,x4,q4⟩
      simp[go_sem,WO.run,a4,w4]
      exact⟨x4.dropGe hx.nx,by rw[←Nat.add_assoc];exact q4.dropLoc x4.wf⟩
     ·have he:esc (s.drop k)=some ([c],1):=by rw[hd];simp[esc,hl,hln,hoc]
      rw[he]
      obtain⟨w,r2,hw⟩:=hp c
      by_cases hlo:48≤c.toNat
      ·have hhi:¬c.toNat≤55:=fun h=>hoc ⟨hlo,h⟩
       simp[go_sem,RO.run,NO.run,hm',hlk,cellEqK,n1,n2,m1,m2,hlo,hhi,show (48:Int)≤c.toNat by omega,show¬(c.toNat:Int)≤55 by omega,r2,reps]
       refine hw.mono ?_
       rintro v3 s3 ⟨a3,h',w3,x3,q3⟩
       simp[go_sem,WO.run,a3,w3]
       exact⟨x3.dropGe hx.nx,q3.dropLoc x3.wf⟩
      ·simp[go_sem,RO.run,NO.run,hm',hlk,cellEqK,n1,n2,m1,m2,hlo,show¬(48:Int)≤c.toNat by omega,r2,reps]
       refine hw.mono ?_
       rintro v3 s3 ⟨a3,h',w3,x3,q3⟩
       simp[go_sem,WO.run,a3,w3]
       exact⟨x3.dropGe hx.nx,q3.dropLoc x3.wf⟩
end Go.Ev

/- Unquote told. -/
namespace Go.Ev
open Go
variable {T : Tab} {st : St}
theorem octN_used:∀(k n:Nat) (r:List UInt8),(octN k n r).2≤r.length
 | 0,_,_=>by simp[octN]
 | k+1,n,[]=>by simp[octN]
 | k+1,n,c::r=>by
   simp only[octN]
   split
   ·have:=octN_used k (8*n+(c.toNat - 48)) r
    simp only[List.length_cons];omega
   ·simp
theorem lineN_used (c:UInt8) (r:List UInt8):lineN c r≤r.length:=by
 unfold lineN
 split
 ·rename_i h
  cases r with
  | nil=>simp at h
  | cons=>simp
 ·omega
theorem esc_used {r o:List UInt8} {n:Nat} (h:esc r=some (o,n)):1≤n∧n≤r.length∧o.length≤n:=by
 cases r with
 | nil=>cases h
 | cons c r=>
   simp only[esc,Option.some.injEq]at h
   have h1:=lineN_used c r
   have h2:=octN_used 2 (c.toNat - 48) r
   split at h
   ·injection h with a b;subst a;subst b;simp
   ·split at h
    ·injection h with a b;subst a;subst b;simp;omega
    ·split at h
     ·injection h with a b;subst a;subst b;simp;omega
     ·injection h with a b;subst a;subst b;simp
theorem unq_left:∀{f d:Nat} {r out o l:List UInt8},unq f d r out=some (o,l)→l.length+1≤r.length
 | 0,_,_,_,_,_,h=>by cases h
 | f+1,d,[],_,_,_,h=>by cases h
 | f+1,d,c::r,out,o,l,h=>by
   simp only[unq]at h
   split at h
   ·split at h
    ·cases h
    ·have:=unq_left h
     simp only[List.length_drop,List.length_cons]at this⊢
     omega
   ·split at h
    ·have:=unq_left h
     simp only[List.length_cons]at this⊢;omega
    ·split at h
     ·split at h
      ·injection h with h;injection h with h1 h2;subst h2;simp
      ·have:=unq_left h
       simp only[List.length_cons]at this⊢;omega
     ·split at h
      ·have:=unq_left h
       simp only[List.length_drop,List.length_cons]at this⊢;omega
      ·have:=unq_left h
       simp only[List.length_cons]at this⊢;omega
theorem run_loop_q (H:B.H_lex_quoted_run T) {st0:St} {q:Nat} {s:List UInt8} (hs:s.length<1000000000000):∀(f d k:Nat) (out:List UInt8) (e:Env) (st1:St),s.length+1≤k+f→k≤s.length→1≤d→d≤k+1→out.length≤k→Ext st0 st1→QAt st0 st1 q s k out d→eget e 0= .ptr q 0→
  Res (run T (.loop B.lex_quoted_run_l0) e st1) fun x e' s'=>Ext st0 s'∧match unq f d (s.drop k) out with
   | none=>x= .ret∧eget e' 2= .bool false
   | some (o,r)=>x= .exit 0∧QAt st0 s' q s (s.length - r.length) o 0:=by
 intro f
 induction f with
 | zero=>intro d k out e st1 h1 h2;omega
 | succ f ih=>
   intro d k out e st1 hf hk hd1 hdk ho hx b g0
   obtain⟨b1,w,b2,b4,b5⟩:=id b
   have r3:rdCell st1.h q 3=some (.int .i64 d):=by simp[rdCell,b2]
   have hd0:(0:Int)<d:=by omega
   have hd0':0<d:=by omega
   rw[run_loop]
   simp[B.lex_quoted_run_l0,go_sem,g0,RO.run,r3,hd0,hd0']
   refine(next_res H.lex_quoted_next hx hs hk b).mono ?_
   rintro v1 s1 ⟨x1,⟨hc,rfl,q1⟩ | ⟨c,hc,rfl,q1⟩⟩
   ·have hd:s.drop k=[]:=by rw[List.drop_eq_nil_iff];exact List.getElem?_eq_none_iff.1 hc
    simp[go_sem,hd,unq,x1]
   ·have hkl:k<s.length:=by
     rcases Nat.lt_or_ge k s.length with h | h
     ·exact h
     ·rw[List.getElem?_eq_none h]at hc;cases hc
    obtain⟨c',hc',hd⟩:=idx_some hkl
    rw[hc]at hc';cases hc'
    by_cases h92:c=92
    ·subst h92
     simp[go_sem]
     refine(escape_res H.lex_quoted_escape x1 hs (by omega) (by omega) q1).mono ?_
     rintro v2 s2 ⟨x2,hv2⟩
     cases hes:esc (s.drop (k+1))with
     | none=>
       rw[hes]at hv2
       subst hv2
       simp[go_sem,hd,unq,hes,x2]
     | some p=>
       obtain⟨o,n⟩:=p
       rw[hes]at hv2
       obtain⟨rfl,q2⟩:=hv2
       obtain⟨u1,u2,u3⟩:=esc_used hes
       simp only[List.length_drop]at u2
       simp[go_sem]
       refine(ih d (k+1+n) (out++o) _ s2 (by omega) (by omega) hd1 (by omega) (by simp;omega) x2 q2 (by simp[go_sem])).mono ?_
       rintro x e' s' ⟨y1,y2⟩
       refine⟨y1,?_⟩
       rw[hd]
       simpa [unq,hes,List.drop_drop] using y2
    ·have n1:¬(c.toNat:Int)=92:=u8_ne h92 rfl
     have m1:¬c.toNat=92:=by omega
     obtain⟨p1,u,p2,p4,p5⟩:=id q1
     have r3':rdCell s1.h q 3=some (.int .i64 d):=by simp[rdCell,p2]
     have step:∀(d':Nat) (c':UInt8) (k':Nat) (s2:St) (e':Env) (st2:St),unq (f+1) d (s.drop k) out=unq f d' (s.drop k') (out++[c'])→k+1≤k'→k'≤s.length→1≤d'→d'≤k+2→Ext st0 st2→QAt st0 st2 q s k' (out++[c']) d'→eget e' 0= .ptr q 0→
       Res (run T (.loop B.lex_quoted_run_l0) e' st2) fun x e' s'=>Ext st0 s'∧match unq (f+1) d (s.drop k) out with
        | none=>x= .ret∧eget e' 2= .bool false
        | some (o,r)=>x= .exit 0∧QAt st0 s' q s (s.length - r.length) o 0:=by
      intro d' c' k' s2 e' st2 he h1 h2 h3 h3' h4 h5 h6
      rw[he]
      exact ih d' k' (out++[c']) e' st2 (by omega) h2 h3 (by omega) (by simp;omega) h4 h5 h6
     by_cases h40:c=40
     ·subst h40
      have e5:IntKind.i64.wrap ((d:Int)+1)=((d+1:Nat):Int):=wrap64' (by omega) (by omega)
      have hw3:wrCells s1.h q 3 [.int .i64 ((d+1:Nat):Int)]=some (hset s1.h q (.cells 164 false [.str s,.int .i64 (k+1:Nat),u,.int .i64 (d+1:Nat)])):=wr_cells p2 rfl (by simp)
      obtain⟨y1,y2⟩:=QAt.put (k':=k+1) (d':=((d+1:Nat):Int)) x1 p1 p2 p4 p5
      obtain⟨z,z1,z2⟩:=y2.push y1 (by omega) 40
      have hun:unq (f+1) d (s.drop k) out=unq f (d+1) (s.drop (k+1)) (out++[40]):=by rw[hd];simp[unq]
      obtain⟨D,hD⟩:∃D,D=d+1:=⟨_,rfl⟩
      obtain⟨k2,hk2⟩:∃k2,k2=k+1:=⟨_,rfl⟩
      rw[←hD]at e5 hw3 y1 y2 z1 z2 hun
      rw[←hk2]at hw3 y1 y2 z1 z2 hun
      generalize hU:unq (f+1) d (s.drop k) out=U at step⊢
      simp[go_sem,RO.run,WO.run,NO.run,r3',e5,hw3,z1,reps]
      refine z2.mono ?_
      rintro v4 s4 ⟨a4,h',w4,x4,q4⟩
      simp[go_sem,WO.run,a4,w4]
      exact step D 40 k2 s1 _ _ (hU.symm.trans hun) (by omega) (by omega) (by omega) (by omega) x4 q4 (by simp[go_sem])
     have n2:¬(c.toNat:Int)=40:=u8_ne h40 rfl
     have m2:¬c.toNat=40:=by omega
     by_cases h41:c=41
     ·subst h41
      have e5:IntKind.i64.wrap ((d:Int) - 1)=((d - 1:Nat):Int):=by rw[wrap64' (by omega) (by omega)];omega
      have hw3:wrCells s1.h q 3 [.int .i64 ((d - 1:Nat):Int)]=some (hset s1.h q (.cells 164 false [.str s,.int .i64 (k+1:Nat),u,.int .i64 (d - 1:Nat)])):=wr_cells p2 rfl (by simp)
      obtain⟨y1,y2⟩:=QAt.put (k':=k+1) (d':=((d - 1:Nat):Int)) x1 p1 p2 p4 p5
      have r3'':rdCell (hset s1.h q (.cells 164 false [.str s,.int .i64 (k+1:Nat),u,.int .i64 (d - 1:Nat)])) q 3=some (.int .i64 (d - 1:Nat)):=by simp[rdCell,hget_hset_self p2]
      obtain⟨z,z1,z2⟩:=y2.push y1 (by omega) 41
      by_cases hdd:d=1
      ·subst hdd
       have hd0:eget e 0= .ptr q 0:=g0
       have r0:rdCell (hset s1.h q (.cells 164 false [.str s,.int .i64 (k+1:Nat),u,.int .i64 (1 - 1:Nat)])) q 3=some (.int .i64 0):=r3''
       have hun:unq (f+1) 1 (s.drop k) out=some (out,s.drop (k+1)):=by rw[hd];simp[unq]
       have hlen:s.length - (s.drop (k+1)).length=k+1:=by rw[List.length_drop];omega
       rw[hun]
       simp only[hlen]
       have hc0:((1 - 1:Nat):Int)=0:=rfl
       obtain⟨k2,hk2⟩:∃k2,k2=k+1:=⟨_,rfl⟩
       rw[←hk2]at hw3 y1 y2 r0⊢
       rw[hc0]at hw3 y1 y2 r0 e5
       have r3s:rdCell s1.h q 3=some (.int .i64 1):=r3'
       have e50:IntKind.i64.wrap 0=0:=rfl
       simp[go_sem,RO.run,WO.run,NO.run,r3s,e5,e50,hw3,r0,reps]
       rw[run_loop]
       simp[B.lex_quoted_run_l0,go_sem,RO.run,r0]
       exact⟨y1,y2⟩
      ·have hun:unq (f+1) d (s.drop k) out=unq f (d - 1) (s.drop (k+1)) (out++[41]):=by rw[hd];simp[unq,hdd]
       obtain⟨D,hD⟩:∃D,D=d - 1:=⟨_,rfl⟩
       obtain⟨k2,hk2⟩:∃k2,k2=k+1:=⟨_,rfl⟩
       rw[←hD]at e5 hw3 y1 y2 z1 z2 hun r3''
       rw[←hk2]at hw3 y1 y2 z1 z2 hun r3''
       have hD0:¬(D:Int)=0:=by omega
       have hD0':¬D=0:=by omega
       generalize hU:unq (f+1) d (s.drop k) out=U at step⊢
       simp[go_sem,RO.run,WO.run,NO.run,r3',e5,hw3,r3'',hD0,hD0',z1,reps]
       refine z2.mono ?_
       rintro v4 s4 ⟨a4,h',w4,x4,q4⟩
       simp[go_sem,WO.run,a4,w4]
       exact step D 41 k2 s1 _ _ (hU.symm.trans hun) (by omega) (by omega) (by omega) (by omega) x4 q4 (by simp[go_sem])
     have n3:¬(c.toNat:Int)=41:=u8_ne h41 rfl
     have m3:¬c.toNat=41:=by omega
     by_cases hln:c=10∨c=13
     ·have hun:unq (f+1) d (s.drop k) out=unq f d (s.drop (k+1+lineN c (s.drop (k+1)))) (out++[10]):=by rw[hd];simp[unq,h92,h40,h41,hln,List.drop_drop]
      have hll:=line_res H.lex_quoted_line x1 hs (by omega) c q1
      have hlu:=lineN_used c (s.drop (k+1))
      rw[List.length_drop]at hlu
      generalize hU:unq (f+1) d (s.drop k) out=U at step⊢
      have hcn:(c.toNat:Int)=10∨(c.toNat:Int)=13:=by rcases hln with rfl | rfl <;> simp
      obtain⟨n,hn⟩:∃n:Int,n=c.toNat:=⟨_,rfl⟩
      generalize lineN c (s.drop (k+1))=L at hll hun hlu
      have tail:∀(s2:St),Ext st0 s2→QAt st0 s2 q s (k+1+L) out d→∃v,rdCell s2.h q 2=some v∧CRes (aappend 5 1 1 ⟨(s2.nx,.cells 5 false [.int .u8 10])::s2.h,s2.nx+1⟩ v (.slice s2.nx 0 1 (.known 1))) fun v' s'=>acells v'=[v']∧∃h',wrCells s'.h q 2 [v']=some h'∧Ext st0 ⟨h',s'.nx⟩∧QAt st0 ⟨h',s'.nx⟩ q s (k+1+L) (out++[10]) d:=fun s2 x2 q2=>q2.push x2 (by omega) 10
      rw[←hn]at hcn hll
      rcases hcn with rfl | rfl
      ·simp[go_sem,←hn]
       refine hll.mono ?_
       rintro v2 s2 ⟨x2,q2⟩
       obtain⟨z,z1,z2⟩:=tail s2 x2 q2
       simp[go_sem,RO.run,WO.run,NO.run,z1,reps]
       refine z2.mono ?_
       rintro v4 s4 ⟨a4,h',w4,x4,q4⟩
       simp[go_sem,WO.run,a4,w4]
       exact step d 10 _ s1 _ _ (hU.symm.trans hun) (by omega) (by omega) (by omega) (by omega) x4 q4 (by simp[go_sem])
      ·simp[go_sem,←hn]
       refine hll.mono ?_
       rintro v2 s2 ⟨x2,q2⟩
       obtain⟨z,z1,z2⟩:=tail s2 x2 q2
       simp[go_sem,RO.run,WO.run,NO.run,z1,reps]
       refine z2.mono ?_
       rintro v4 s4 ⟨a4,h',w4,x4,q4⟩
       simp[go_sem,WO.run,a4,w4]
       exact step d 10 _ s1 _ _ (hU.symm.trans hun) (by omega) (by omega) (by omega) (by omega) x4 q4 (by simp[go_sem])
     ·have hun:unq (f+1) d (s.drop k) out=unq f d (s.drop (k+1)) (out++[c]):=by rw[hd];simp[unq,h92,h40,h41,hln]
      simp only[not_or]at hln
      have n4:¬(c.toNat:Int)=10:=u8_ne hln.1 rfl
      have n5:¬(c.toNat:Int)=13:=u8_ne hln.2 rfl
      have m4:¬c.toNat=10:=by omega
      have m5:¬c.toNat=13:=by omega
      obtain⟨z,z1,z2⟩:=q1.push x1 (by omega) c
      generalize hU:unq (f+1) d (s.drop k) out=U at step⊢
      simp[go_sem,RO.run,WO.run,NO.run,n1,n2,n3,n4,n5,m1,m2,m3,m4,m5,z1,reps]
      refine z2.mono ?_
      rintro v4 s4 ⟨a4,h',w4,x4,q4⟩
      simp[go_sem,WO.run,a4,w4]
      exact step d c _ s1 _ _ (hU.symm.trans hun) (by omega) (by omega) (by omega) (by omega) x4 q4 (by simp[go_sem])
theorem run_res (H:B.H_lex_quoted_run T) {st0:St} (hx:Ext st0 st) {q k:Nat} {s out:List UInt8} {d:Int} (hs:s.length<1000000000000) (hk:k≤s.length) (ho:out.length≤k) (b:QAt st0 st q s k out d) {f:Nat} (hf:s.length+1≤k+f):
  CRes (call T (.fn 87 [] []) [.ptr q 0] st) fun v s'=>Ext st0 s'∧match unq f 1 (s.drop k) out with
   | none=>v= .bool false
   | some (o,r)=>v= .bool true∧QAt st0 s' q s (s.length - r.length) o 0:=by
 refine call_res H.e H.f rfl ?_
 obtain⟨b1,w,b2,b4,b5⟩:=id b
 have hw3:wrCells st.h q 3 [.int .i64 1]=some (hset st.h q (.cells 164 false [.str s,.int .i64 k,w,.int .i64 1])):=wr_cells b2 rfl (by simp)
 obtain⟨y1,y2⟩:=QAt.put (k':=k) (d':=((1:Nat):Int)) hx b1 b2 b4 b5
 simp[B.lex_quoted_run,go_sem,RO.run,WO.run,hw3]
 refine(run_loop_q H hs f 1 k out _ _ hf hk (by omega) (by omega) ho y1 y2 (by simp[go_sem])).mono ?_
 generalize unq f 1 (s.drop k) out=U
 rintro x e s' ⟨x1,h⟩
 cases U with
 | none=>
   obtain⟨rfl,g⟩:=h
   simp[go_sem,g]
   exact x1.dropGe hx.nx
 | some p=>
   obtain⟨o,r⟩:=p
   obtain⟨rfl,q2⟩:=h
   simp[go_sem]
   exact⟨x1.dropGe hx.nx,q2.dropLoc x1.wf⟩
def unquoteT (s:List UInt8):List UInt8×Nat×Int:=
 match s with
 | c::r=>if c=40 then match unq s.length 1 r []with
    | none=>([],0,5)
    | some (o,l)=>if 1000<o.length then([],0,26)else(o,s.length - l.length,0)
   else([],0,5)
 | []=>([],0,5)
def toU (t:List UInt8×Nat×Int):AV:= .tuple [.str t.1,.int .i64 (t.2.1:Int),.int .i64 t.2.2]
theorem unquote_tells (H:B.H_lex_Unquote T) (hwf:st.Wf) {s:List UInt8} (hs:s.length<1000000000000):Tells T st (.fn 69 [] []) [.str s] (toU (unquoteT s)):=by
 refine tells_of H.e H.f rfl ?_
 have hx:=Ext.new hwf (.cells 164 false [.str s,.int .i64 0,.nilslice,.int .i64 0])
 have hb:QAt st ⟨(st.nx,.cells 164 false [.str s,.int .i64 0,.nilslice,.int .i64 0])::st.h,st.nx+1⟩ st.nx s 0 [] 0:=⟨Nat.le_refl _,.nilslice,by simp[hget_cons],.nil _ _,by simp[AV.nms]⟩
 simp[B.lex_Unquote,go_sem,NO.run]
 refine(next_res H.lex_quoted_next hx hs (Nat.zero_le _) hb).mono ?_
 rintro v1 s1 ⟨x1,⟨hc,rfl,q1⟩ | ⟨c,hc,rfl,q1⟩⟩
 ·have:s=[]:=by
   cases s with
   | nil=>rfl
   | cons=>simp at hc
  subst this
  simp[go_sem,toU,unquoteT,x1]
 ·obtain⟨r,rfl⟩:∃r,s=c::r:=by
   cases s with
   | nil=>simp at hc
   | cons a r=>simp at hc;exact⟨r,by rw[hc]⟩
  by_cases h40:c=40
  ·subst h40
   have hr:=run_res H.lex_quoted_run x1 hs (by simp) (by simp) q1 (f:=r.length+1) (by simp;omega)
   have ht:unquoteT (40::r)=match unq (r.length+1) 1 r []with
    | none=>([],0,5)
    | some (o,l)=>if 1000<o.length then([],0,26)else(o,(40::r).length - l.length,0):=by simp[unquoteT]
   rw[ht]
   rw[show (40::r:List UInt8).drop (0+1)=r from rfl]at hr
   simp[go_sem]
   refine hr.mono ?_
   cases hu:unq (r.length+1) 1 r []with
   | none=>
     rintro v2 s2 ⟨x2,rfl⟩
     simp[go_sem,toU,x2]
   | some p=>
     obtain⟨o,l⟩:=p
     rintro v2 s2 ⟨x2,rfl,q2⟩
     obtain⟨b1,w,b2,b4,b5⟩:=id q2
     have r2:rdCell s2.h st.nx 2=some w:=by simp[rdCell,b2]
     have r1:rdCell s2.h st.nx 1=some (.int .i64 (((40::r).length - l.length:Nat):Int)):=by simp[rdCell,b2]
     have hsrc:=b4.1.rd.src
     have hu8:=toBytes_u8s o
     generalize hN:(40::r).length - l.length=N at r1⊢
     have hN':r.length+1 - l.length=N:=hN
     obtain⟨⟨m,hsl⟩,b6,b7⟩:=b4
     have xa:=fun n=>x2.trans (Ext.aside x2.wf n)
     rcases hsl with ⟨k1,k2,k3⟩ | ⟨k1,k2,k3⟩ | ⟨ty',k1,k2,k3⟩
     ·subst k1
      have:o=[]:=List.length_eq_zero_iff.1 k3
      subst this
      simp[go_sem,RO.run,r2,r1,hsrc,hu8,toU,xa,hN']
     ·subst k1
      have hrd:rdCells s2.h m 0 o.length=some (u8s o):=by
       simp[rdCells,k2,u8s_len]
       exact List.take_of_length_le (by rw[u8s_len];exact Nat.le_refl _)
      by_cases hlong:1000<o.length
      ·simp[go_sem,RO.run,r2,r1,hsrc,hu8,toU,xa,hlong,show (1000:Int)<o.length by omega,x2]
      ·simp[go_sem,RO.run,r2,r1,hrd,hu8,toU,xa,hN',hlong,show¬(1000:Int)<o.length by omega]
     ·exact absurd k1 (b7 _ _ _ _)
  ·have n1:¬(c.toNat:Int)=40:=u8_ne h40 rfl
   have m1:¬c.toNat=40:=by omega
   simp[go_sem,n1,m1,toU,unquoteT,h40,x1]
end Go.Ev

/- Valid tokens; Check. -/
namespace Go.Ev
open Go
variable {T : Tab} {st : St}
theorem tok_eq {a b a' b':Int} {c c':List UInt8}:cellsEqK [.i .i64,.i .i64,.s] [.int .i64 a,.int .i64 b,.str c] [.int .i64 a',.int .i64 b',.str c']=some (decide (a=a') && (decide (b=b') && (c == c'))):=by
 simp only[cellsEqK,cellEqK,seq8_eq]
 by_cases h1:a=a' <;> by_cases h2:b=b' <;> cases h3:(c == c') <;> simp[h1,h2]
theorem is110_tells (H:B.H_real_Is T) (hwf:st.Wf) {n:Int}:Tells T st (.fn 110 [] []) [.int .i64 n] (.bool (decide (-2147483648≤n) && decide (n≤2147483648))):=by
 refine tells_of H.e H.f rfl ?_
 by_cases h: -2147483648≤n
 ·simp[B.real_Is,go_sem,h,Ext.refl hwf]
 ·simp[B.real_Is,go_sem,h,Ext.refl hwf]
def namedT (k:Int) (t:List UInt8):Bool:=decide (t.length≤100) && regAll t && (decide (k≠3) || (!(t == []) && decide ((numT t).2.2=5)))
theorem named_tells (H:B.H_lex_named T) (hwf:st.Wf) {k n:Int} {t:List UInt8} (hs:t.length<4000000000000000000):Tells T st (.fn 111 [] []) [.agg [.int .i64 k,.int .i64 n,.str t]] (.bool (namedT k t)):=by
 refine tells_of H.e H.f rfl ?_
 have hx:=Ext.new hwf (.cells 134 true [.int .i64 k,.int .i64 n,.str t])
 have g:hget ((st.nx,AObj.cells 134 true [.int .i64 k,.int .i64 n,.str t])::st.h) st.nx=some (.cells 134 true [.int .i64 k,.int .i64 n,.str t]):=by simp[hget_cons]
 by_cases hl:100<t.length
 ·have hn:namedT k t=false:=by simp[namedT];omega
  simp[B.lex_named,go_sem,NO.run,WO.run,RO.run,rdCell,hget_cons,hl,show (100:Int)<t.length by omega,hn,hx]
 ·simp[B.lex_named,go_sem,NO.run,WO.run,RO.run,rdCell,hget_cons,hl,show¬(100:Int)<t.length by omega]
  refine(lexregular_tells H.lex_regular hx.wf (s:=t) (by omega)).use fun s1 hs1=> ?_
  have e1:=hx.trans hs1
  have g1:=hs1.get hx.wf g
  cases hr:regAll t with
  | false=>simp[go_sem,hr,namedT,e1]
  | true=>
    by_cases h3:k=3
    ·subst h3
     simp[go_sem,RO.run,rdCell,g1]
     refine(number_tells H.lex_Number e1.wf hs).use fun s2 hs2=> ?_
     have e2:=e1.trans hs2
     have g2:=hs2.get e1.wf g1
     have hnm:namedT 3 t=(!(t == []) && decide ((numT t).2.2=5)):=by simp[namedT,hr];omega
     rw[hnm]
     obtain⟨u,hu⟩:∃u,u=numT t:=⟨_,rfl⟩
     rw[←hu]
     have x3:=e2.trans (Ext.new e2.wf (.cells 134 true [.int .i64 u.1,.int .i64 u.2.1,.str []]))
     have hne:¬s2.nx=st.nx:=by have:=e2.wf.lt _ _ g2;omega
     by_cases hz:t=[]
     ·subst hz
      simp[go_sem,toA,tokA,tokC,NO.run,WO.run,RO.run,wr_tok,rdCell,hget_cons,hne,g2,seq8_eq,x3]
     ·have hq:t.isEmpty=false:=by cases t with | nil=>exact absurd rfl hz | cons=>rfl
      simp[go_sem,toA,tokA,tokC,NO.run,WO.run,RO.run,wr_tok,rdCell,hget_cons,hne,g2,seq8_eq,hq,x3]
    ·have hnm:namedT k t=true:=by simp[namedT,hr,h3];omega
     simp[go_sem,RO.run,rdCell,g1,h3,hnm,e1]
def markT (k n:Int) (t:List UInt8):Bool:=decide (k=3) && (decide (n=0) && ((t == [91]) || (t == [93]) || (t == [60,60]) || (t == [62,62])))
def rightT (k n:Int) (t:List UInt8):Bool:=
 if k=1 then decide (-2147483648≤n) && decide (n≤2147483647) && (t == [])
 else if k=2 then decide (-2147483648≤n) && decide (n≤2147483648) && (t == [])
 else if k=3∨k=4∨k=5 then markT k n t || (decide (n=0) && namedT k t)
 else if k=6 then decide (n=0) && decide (t.length≤1000)
 else(decide (k=7) || decide (k=8)) && (decide (n=0) && (t == []))
theorem right_loop {m:Nat} {k n:Int} {t:List UInt8} {e:Env} (hrd:rdCells st.h m 0 3=some [.int .i64 k,.int .i64 n,.str t]) (g1:eget e 1= .ptr m 0) (g36:eget e 36= .agg [.str [91],.str [93],.str [60,60],.str [62,62]]) (g37:eget e 37= .int .i64 0):
  Res (run T (.loop B.lex_right_l0) e st) (fun x e s=>s=st∧((x= .exit 1∧eget e 1= .ptr m 0∧markT k n t=false)∨(x= .ret∧eget e 2= .bool true∧markT k n t=true))):=by
 have w0:IntKind.i64.wrap 1=1:=rfl
 have w1:IntKind.i64.wrap 2=2:=rfl
 have w2:IntKind.i64.wrap 3=3:=rfl
 have w3:IntKind.i64.wrap 4=4:=rfl
 by_cases hk:k=3
 ·by_cases hn:n=0
  ·subst hk;subst hn
   rw[run_loop]
   by_cases h0:t=[91]
   ·simp[B.lex_right_l0,go_sem,RO.run,hrd,tok_eq,g1,g36,g37,h0,markT]
   simp[B.lex_right_l0,go_sem,RO.run,hrd,tok_eq,g1,g36,g37,h0]
   rw[run_loop]
   by_cases h1:t=[93]
   ·simp[B.lex_right_l0,go_sem,RO.run,hrd,tok_eq,w0,h1,markT]
   simp[B.lex_right_l0,go_sem,RO.run,hrd,tok_eq,w0,h1]
   rw[run_loop]
   by_cases h2:t=[60,60]
   ·simp[B.lex_right_l0,go_sem,RO.run,hrd,tok_eq,w1,h2,markT]
   simp[B.lex_right_l0,go_sem,RO.run,hrd,tok_eq,w1,h2]
   rw[run_loop]
   by_cases h3:t=[62,62]
   ·simp[B.lex_right_l0,go_sem,RO.run,hrd,tok_eq,w2,h3,markT]
   simp[B.lex_right_l0,go_sem,RO.run,hrd,tok_eq,w2,h3]
   rw[run_loop]
   simp[B.lex_right_l0,go_sem,RO.run,w3,markT,h0,h1,h2,h3]
  ·have hm:markT k n t=false:=by simp[markT,hn]
   rw[hm]
   rw[run_loop]
   simp[B.lex_right_l0,go_sem,RO.run,hrd,tok_eq,g1,g36,g37,hn]
   rw[run_loop]
   simp[B.lex_right_l0,go_sem,RO.run,hrd,tok_eq,w0,hn]
   rw[run_loop]
   simp[B.lex_right_l0,go_sem,RO.run,hrd,tok_eq,w1,hn]
   rw[run_loop]
   simp[B.lex_right_l0,go_sem,RO.run,hrd,tok_eq,w2,hn]
   rw[run_loop]
   simp[B.lex_right_l0,go_sem,RO.run,w3]
 ·have hm:markT k n t=false:=by simp[markT,hk]
  rw[hm]
  rw[run_loop]
  simp[B.lex_right_l0,go_sem,RO.run,hrd,tok_eq,g1,g36,g37,hk]
  rw[run_loop]
  simp[B.lex_right_l0,go_sem,RO.run,hrd,tok_eq,w0,hk]
  rw[run_loop]
  simp[B.lex_right_l0,go_sem,RO.run,hrd,tok_eq,w1,hk]
  rw[run_loop]
  simp[B.lex_right_l0,go_sem,RO.run,hrd,tok_eq,w2,hk]
  rw[run_loop]
  simp[B.lex_right_l0,go_sem,RO.run,w3]
theorem right_tells (H:B.H_lex_right T) (hwf:st.Wf) {k n:Int} {t:List UInt8} (hs:t.length<4000000000000000000):Tells T st (.fn 93 [] []) [.agg [.int .i64 k,.int .i64 n,.str t]] (.bool (rightT k n t)):=by
 refine tells_of H.e H.f rfl ?_
 have hx:=Ext.new hwf (.cells 134 true [.int .i64 k,.int .i64 n,.str t])
 have g:hget ((st.nx,AObj.cells 134 true [.int .i64 k,.int .i64 n,.str t])::st.h) st.nx=some (.cells 134 true [.int .i64 k,.int .i64 n,.str t]):=by simp[hget_cons]
 by_cases h1:k=1
 ·subst h1
  by_cases a1: -2147483648≤n
  ·by_cases a2:n≤2147483647
   ·simp[B.lex_right,go_sem,NO.run,WO.run,RO.run,rdCell,hget_cons,a1,a2,rightT,seq8_eq,hx]
   ·simp[B.lex_right,go_sem,NO.run,WO.run,RO.run,rdCell,hget_cons,a1,a2,rightT,seq8_eq,hx]
  ·simp[B.lex_right,go_sem,NO.run,WO.run,RO.run,rdCell,hget_cons,a1,rightT,seq8_eq,hx]
 by_cases h2:k=2
 ·subst h2
  simp[B.lex_right,go_sem,NO.run,WO.run,RO.run,rdCell,hget_cons]
  refine(is110_tells H.real_Is hx.wf).use fun s1 hs1=> ?_
  have e1:=hx.trans hs1
  have g1:=hs1.get hx.wf g
  by_cases a1: -2147483648≤n∧n≤2147483648
  ·simp[go_sem,RO.run,rdCell,g1,a1,rightT,seq8_eq,e1]
  ·have:(decide (-2147483648≤n) && decide (n≤2147483648))=false:=by simpa using a1
   simp[go_sem,RO.run,rdCell,g1,this,rightT,seq8_eq,e1]
 by_cases h3:k=3∨k=4∨k=5
 ·have hr3:rdCells ((st.nx,AObj.cells 134 true [.int .i64 k,.int .i64 n,.str t])::st.h) st.nx 0 3=some [.int .i64 k,.int .i64 n,.str t]:=rd_tok ..
  have lp:=fun e a b c=>right_loop (T:=T) (e:=e) (st:=⟨(st.nx,AObj.cells 134 true [.int .i64 k,.int .i64 n,.str t])::st.h,st.nx+1⟩) hr3 a b c
  have hrt:rightT k n t=(markT k n t || (decide (n=0) && namedT k t)):=by
   unfold rightT
   rw[if_neg (by omega),if_neg (by omega),if_pos h3]
  rw[hrt]
  generalize markT k n t=BB at lp⊢
  rcases h3 with rfl | rfl | rfl
  ·simp[B.lex_right,go_sem,NO.run,WO.run,RO.run,rdCell,hget_cons]
   refine(lp _ (by simp[go_sem]) (by simp[go_sem]) (by simp[go_sem])).mono ?_
   rintro x e' s' ⟨rfl,⟨rfl,k1,k2⟩ | ⟨rfl,k1,k2⟩⟩
   ·by_cases a1:n=0
    ·subst a1
     simp[go_sem,k1,RO.run,rdCell,hget_cons,rd_tok]
     refine(named_tells H.lex_named hx.wf hs).use fun s1 hs1=> ?_
     simp[go_sem,k2,hx.trans hs1]
    ·simp[go_sem,k1,RO.run,rdCell,hget_cons,rd_tok,a1,k2,hx]
   ·simp[go_sem,k1,k2,hx]
  ·simp[B.lex_right,go_sem,NO.run,WO.run,RO.run,rdCell,hget_cons]
   refine(lp _ (by simp[go_sem]) (by simp[go_sem]) (by simp[go_sem])).mono ?_
   rintro x e' s' ⟨rfl,⟨rfl,k1,k2⟩ | ⟨rfl,k1,k2⟩⟩
   ·by_cases a1:n=0
    ·subst a1
     simp[go_sem,k1,RO.run,rdCell,hget_cons,rd_tok]
     refine(named_tells H.lex_named hx.wf hs).use fun s1 hs1=> ?_
     simp[go_sem,k2,hx.trans hs1]
    ·simp[go_sem,k1,RO.run,rdCell,hget_cons,rd_tok,a1,k2,hx]
   ·simp[go_sem,k1,k2,hx]
  ·simp[B.lex_right,go_sem,NO.run,WO.run,RO.run,rdCell,hget_cons]
   refine(lp _ (by simp[go_sem]) (by simp[go_sem]) (by simp[go_sem])).mono ?_
   rintro x e' s' ⟨rfl,⟨rfl,k1,k2⟩ | ⟨rfl,k1,k2⟩⟩
   ·by_cases a1:n=0
    ·subst a1
     simp[go_sem,k1,RO.run,rdCell,hget_cons,rd_tok]
     refine(named_tells H.lex_named hx.wf hs).use fun s1 hs1=> ?_
     simp[go_sem,k2,hx.trans hs1]
    ·simp[go_sem,k1,RO.run,rdCell,hget_cons,rd_tok,a1,k2,hx]
   ·simp[go_sem,k1,k2,hx]
 simp only[not_or]at h3
 by_cases h6:k=6
 ·subst h6
  by_cases a1:n=0
  ·subst a1
   simp[B.lex_right,go_sem,NO.run,WO.run,RO.run,rdCell,hget_cons,rightT,hx]
   omega
  ·simp[B.lex_right,go_sem,NO.run,WO.run,RO.run,rdCell,hget_cons,a1,rightT,hx]
 ·by_cases h7:k=7
  ·subst h7
   by_cases hb:n=0∧t=[]
   ·obtain⟨rfl,rfl⟩:=hb
    simp[B.lex_right,go_sem,NO.run,WO.run,RO.run,rdCell,hget_cons,rightT,rd_tok,tok_eq,hx]
   ·have hb1:(decide (n=0) && t.isEmpty)=false:=by simpa using hb
    have hb2:(n=0→¬t=[]):=fun a b=>hb ⟨a,b⟩
    simp[B.lex_right,go_sem,NO.run,WO.run,RO.run,rdCell,hget_cons,rightT,rd_tok,tok_eq,hb1,hx]
  ·simp[B.lex_right,go_sem,NO.run,WO.run,RO.run,rdCell,hget_cons,rightT,rd_tok,tok_eq,h1,h2,h3,h6,h7,hx]
theorem check_tells (H:B.H_lex_Check T) (hwf:st.Wf) {k n:Int} {t:List UInt8} (hs:t.length<4000000000000000000):Tells T st (.fn 74 [] []) [.agg [.int .i64 k,.int .i64 n,.str t]] (.int .i64 (if rightT k n t=true then 0 else 130)):=by
 refine tells_of H.e H.f rfl ?_
 have hx:=Ext.new hwf (.cells 134 true [.int .i64 k,.int .i64 n,.str t])
 simp[B.lex_Check,go_sem,NO.run,WO.run,RO.run,rd_tok]
 refine(right_tells H.lex_right hx.wf hs).use fun s1 hs1=> ?_
 have e1:=hx.trans hs1
 cases hr:rightT k n t <;> simp[go_sem,hr,e1]
end Go.Ev

/- The chapter's examples. -/
namespace Go.Ev
open Go
variable {T : Tab} {st : St}
end Go.Ev

/- LexKnown told. -/
namespace Go.Ev
open Go
variable {T : Tab} {st : St}
def zeros:List UInt8:=Lib.repeatL [48] 39
theorem zl:zeros.length=39:=by kernel_rfl
end Go.Ev

/- LexNests told. -/
namespace Go.Ev
open Go
variable {T : Tab} {st : St}
end Go.Ev

/- Octets among the arguments: what they are, and the names of their blocks. -/
namespace Go.Ev
open Go Go.RowKit Go.ChangeShapes Go.WideShapes Go.Deep Go.Joins
theorem stNone_wf (n:Nat):St.Wf ⟨[],n⟩:=⟨(fun n o h=>by cases h),(by simp)⟩
theorem wf_u8 {n:Int} (h:(Lit.int .u8 n).wf=true):0≤n∧n<256:=by
 simp[Lit.wf,IntKind.min,IntKind.max,IntKind.signed,IntKind.bits]at h
 omega
section
variable {H : Type} {enc : TypeId × Value → H} {P : Program} {w : World} {base : Nat} {spare : Nat → Bool} {held : Bool}
end
end Go.Ev

/- The reference's Unquote: its parts. -/
namespace Go.Ev
open Go
variable {T : Tab} {st : St}
theorem Grow.app {st0 s1:St} (hF:st0.nx≤s1.nx) (hw:s1.Wf) {v x:AV} {l m:List UInt8} (a:Grow st0 s1 v l) (hx:Rd s1.h x 1 m.length (u8s m)) (hl:l.length+m.length<35184372088831):
  CRes (aappend 5 1 1 s1 v x) fun v' s=>Grow st0 s v' (l++m)∧Frm v.nms s1 s:=by
 obtain⟨a1,a2,a3⟩:=a
 have hap:=Sl.append (x:=x) (j:=m.length) (new:=u8s m) (b:=1) (Frm.refl hw v.nms) (fun n h=> .inl h) a1 hx (by simp[u8s,AV.sc]) (by omega) (by omega) (.inr fun n c h=>a3 _ _ _ _ h)
 refine(hap.also (fun _ _ h=>aappend_nk h a3)).mono ?_
 rintro v2 s2 ⟨⟨k1,k2,k3,_⟩,hnk2⟩
 refine⟨⟨by rw[u8s_append,List.length_append];exact k1,fun n hn=> ?_,hnk2⟩,k2⟩
 rcases k3 n hn with h | h
 ·exact a2 n h
 ·exact .inr (Nat.le_trans hF h)
end Go.Ev

/- The reference's Unquote told. -/
namespace Go.Ev
open Go
variable {T : Tab} {st : St}
end Go.Ev

/- The reference's Quote; LexQuotes told. -/
namespace Go.Ev
open Go
variable {T : Tab} {st : St}
theorem GrowS.app {st0 s1:St} (hF:st0.nx≤s1.nx) (hw:s1.Wf) {v:AV} {l m:List UInt8} (a:Sl s1 v 5 1 l.length (u8s l)) (b:Mine [] st0 v) (hm:0<m.length) (hl:l.length+m.length<35184372088831):
  CRes (aappend 5 1 1 ⟨(s1.nx,.cells 5 false (u8s m))::s1.h,s1.nx+1⟩ v (.slice s1.nx 0 m.length (.known m.length))) fun v' s=>Sl s v' 5 1 (l++m).length (u8s (l++m))∧Mine [] st0 v'∧Ext s1 ⟨s1.h,s1.nx⟩∧Frm v.nms s1 s:=by
 have xa:=Ext.new hw (.cells 5 false (u8s m))
 have hap:=Sl.append (x:= .slice s1.nx 0 m.length (.known m.length)) (j:=m.length) (new:=u8s m) (b:=1) (Frm.refl xa.wf v.nms) (fun n h=> .inl h) (a.ext xa hw)
  (.inr ⟨_,_,_,rfl,rd_all (ty:=5) (l:=false) (by simp[hget_cons]) (by rw[u8s_len,Nat.mul_one])⟩) (by simp[u8s,AV.sc]) (by omega) (by omega) (.inl hm)
 refine hap.mono ?_
 rintro v2 s2 ⟨k1,k2,k3,_⟩
 refine⟨by rw[u8s_append,List.length_append];exact k1,fun n hn=> ?_,.refl hw,(xa.fr v.nms).trans k2 (fun n h=> .inl h)⟩
 rcases k3 n hn with h | h
 ·exact b n h
 ·simp at h;exact .inr (by omega)
end Go.Ev

/- The reference's reader of decimals. -/
namespace Go.Ev
open Go
variable {T : Tab} {st : St}
def i64s (l:List Nat):List AV:=l.map fun n=> .int .i64 ((n:Nat):Int)
theorem i64s_len (l:List Nat):(i64s l).length=l.length:=by simp[i64s]
theorem i64s_snoc (l:List Nat) (n:Nat):i64s (l++[n])=i64s l++[.int .i64 (n:Int)]:=by simp[i64s]
theorem digit102_tells (H:B.H_chaseref01_digit T) (hwf:st.Wf) (c:UInt8):Tells T st (.fn 102 [] []) [.int .u8 (c.toNat:Int)] (.bool (isDig c)):=by
 refine tells_of H.e H.f rfl ?_
 by_cases h:48≤c.toNat
 ·simp[B.chaseref01_digit,go_sem,h,show (48:Int)≤c.toNat by omega,isDig,Ext.refl hwf]
  omega
 ·simp[B.chaseref01_digit,go_sem,h,show¬(48:Int)≤c.toNat by omega,isDig,Ext.refl hwf]
def mant:Bool→List UInt8→List Nat×Nat×List UInt8
 | _,[]=>([],0,[])
 | pt,c::r=>
   if isDig c=true then((c.toNat - 48)::(mant pt r).1,(if pt=true then 1 else 0)+(mant pt r).2.1,(mant pt r).2.2)
   else if c=46∧pt=false then mant true r
   else([],0,c::r)
theorem mant_len:∀(pt:Bool) (r:List UInt8),(mant pt r).1.length+(mant pt r).2.2.length≤r.length∧(mant pt r).2.1≤(mant pt r).1.length
 | _,[]=>by simp[mant]
 | pt,c::r=>by
   have h1:=mant_len pt r
   have h2:=mant_len true r
   simp only[mant]
   split
   ·simp only[List.length_cons];split <;> omega
   ·split
    ·simp only[List.length_cons];omega
    ·simp
theorem read_l0 (H:B.H_chaseref01_Read T) {s:List UInt8} (hs:s.length<1000000000000) (sg:Int) (st0:St):∀(m i:Nat) (l:List Nat) (ex:Int) (pt:Bool) (e:Env) (st1:St) (v:AV),i+m=s.length→l.length≤i→-(i:Int)≤ex→ex≤0→Ext st0 st1→Sl st1 v 3 1 l.length (i64s l)→Mine [] st0 v→eget e 0= .str s→eget e 6= .int .i64 i→eget e 7= .int .i64 sg→eget e 8=v→eget e 9= .int .i64 ex→eget e 10= .bool pt→
  Res (run T (.loop B.chaseref01_Read_l0) e st1) fun x e' s'=>x= .exit 0∧Ext st0 s'∧eget e' 0= .str s∧eget e' 6= .int .i64 ((s.length - (mant pt (s.drop i)).2.2.length:Nat):Int)∧eget e' 7= .int .i64 sg∧Sl s' (eget e' 8) 3 1 (l++(mant pt (s.drop i)).1).length (i64s (l++(mant pt (s.drop i)).1))∧Mine [] st0 (eget e' 8)∧eget e' 9= .int .i64 (ex - ((mant pt (s.drop i)).2.1:Nat)):=by
 intro m
 induction m with
 | zero=>
   intro i l ex pt e st1 v hi hl hx1 hx2 hx hv hm g0 g6 g7 g8 g9 g10
   have:i=s.length:=by omega
   subst this
   have hd:s.drop s.length=[]:=by simp
   rw[hd,run_loop]
   simp[B.chaseref01_Read_l0,go_sem,g0,g6,g7,g8,g9,g10,mant,hx,hv,hm]
 | succ m ih=>
   intro i l ex pt e st1 v hi hl hx1 hx2 hx hv hm g0 g6 g7 g8 g9 g10
   have hil:(i:Int)<s.length:=by omega
   obtain⟨c,hc,hd⟩:=idx_some (s:=s) (i:=i) (by omega)
   have e6:IntKind.i64.wrap ((i:Int)+1)=((i+1:Nat):Int):=wrap64' (by omega) (by omega)
   have hge:∀n∈v.nms,st0.nx≤n:=fun n hn=>by
    rcases hm n hn with h | h
    ·cases h
    ·exact h
   have hml:=mant_len pt (s.drop i)
   have hstop:s.length - (c::s.drop (i+1)).length=i:=by simp only[List.length_cons,List.length_drop];omega
   rw[run_loop]
   simp[B.chaseref01_Read_l0,go_sem,g0,g6,g7,g8,g9,g10,hil,hc]
   refine(digit102_tells H.chaseref01_digit hx.wf c).use fun s1 x1'=> ?_
   have x1:=hx.trans x1'
   have hv1:=hv.ext x1' hx.wf
   by_cases hdg:isDig c=true
   ·have hd2:48≤c.toNat∧c.toNat≤57:=by simpa [isDig] using hdg
    have n46:¬(c.toNat:Int)=46:=by omega
    have m46:¬c.toNat=46:=by omega
    have e1:IntKind.u8.wrap ((c.toNat:Int) - 48)=((c.toNat - 48:Nat):Int):=by
     rw[wrap_u8 (by omega) (by have:=c.toNat_lt;omega)];omega
    have e2:IntKind.i64.wrap ((c.toNat - 48:Nat):Int)=((c.toNat - 48:Nat):Int):=wrap64' (by omega) (by omega)
    have hmt:mant pt (s.drop i)=((c.toNat - 48)::(mant pt (s.drop (i+1))).1,(if pt=true then 1 else 0)+(mant pt (s.drop (i+1))).2.1,(mant pt (s.drop (i+1))).2.2):=by rw[hd];simp[mant,hdg]
    simp[go_sem,hdg,hc,n46,m46,e1,e2,NO.run,reps]
    refine Sl.push (st0:=st0) (S:=[]) (x1.fr []) hm hv1 (y:= .int .i64 ((c.toNat - 48:Nat):Int)) rfl (by omega) (by omega) ?_
    intro v2 s2 o2 f2 m2 _
    have x2:Ext st0 s2:=f2.ext (by simp)
    rw[hmt]
    cases pt with
    | false=>
      simp[go_sem]
      refine(ih (i+1) (l++[c.toNat - 48]) ex false _ s2 v2 (by omega) (by simp;omega) (by omega) hx2 x2 (by rw[i64s_snoc];simpa using o2) m2 (by simp[go_sem]) (by simp[go_sem,e6]) (by simp[go_sem]) (by simp[go_sem]) (by simp[go_sem]) (by simp[go_sem])).mono ?_
      rintro x e s h
      simpa using h
    | true=>
      have e9:IntKind.i64.wrap (ex - 1)=ex - 1:=wrap64' (by omega) (by omega)
      simp[go_sem]
      refine(ih (i+1) (l++[c.toNat - 48]) (ex - 1) true _ s2 v2 (by omega) (by simp;omega) (by omega) (by omega) x2 (by rw[i64s_snoc];simpa using o2) m2 (by simp[go_sem]) (by simp[go_sem,e6]) (by simp[go_sem]) (by simp[go_sem]) (by simp[go_sem,e9]) (by simp[go_sem])).mono ?_
      rintro x e s ⟨a1,a2,a3,a4,a5,a6,a7,a8⟩
      refine⟨by simpa using a1,by simpa using a2,by simpa using a3,by simpa using a4,by simpa using a5,by simpa using a6,by simpa using a7,?_⟩
      rw[a8]
      congr 1
      omega
   ·have hdf:isDig c=false:=by simpa using hdg
    by_cases h46:c=46∧pt=false
    ·obtain⟨rfl,rfl⟩:=h46
     have hmt:mant false (s.drop i)=mant true (s.drop (i+1)):=by rw[hd];simp[mant,isDig]
     simp[go_sem,hdf,hc]
     rw[hmt]
     refine(ih (i+1) l ex true _ s1 v (by omega) (by omega) (by omega) hx2 x1 hv1 hm (by simp[go_sem]) (by simp[go_sem,e6]) (by simp[go_sem]) (by simp[go_sem]) (by simp[go_sem]) (by simp[go_sem])).mono fun x e s h=>by simpa using h
    ·have hmt:mant pt (s.drop i)=([],0,c::s.drop (i+1)):=by rw[hd];simp[mant,hdf,h46]
     rw[hmt,hstop]
     by_cases hc46:c=46
     ·subst hc46
      have hpt:pt=true:=by cases pt <;> simp at h46⊢
      subst hpt
      simp[go_sem,hdf,hc,x1,hv1,hm]
     ·have n46:¬(c.toNat:Int)=46:=u8_ne hc46 rfl
      have m46:¬c.toNat=46:=by omega
      simp[go_sem,hdf,hc,n46,m46,x1,hv1,hm]
theorem read_l1 (H:B.H_chaseref01_Read T) {s:List UInt8} (hs:s.length<1000000000000) (sg ex:Int) (v:AV) (b:Bool) (st0:St):∀(m i n:Nat) (e:Env) (st1:St),i+m=s.length→m≤3→n<1000*10 ^ (3 - m)→Ext st0 st1→eget e 0= .str s→eget e 6= .int .i64 i→eget e 7= .int .i64 sg→eget e 8=v→eget e 9= .int .i64 ex→eget e 11= .bool b→eget e 12= .int .i64 n→
  Res (run T (.loop B.chaseref01_Read_l1) e st1) fun x e' s'=>Ext st0 s'∧
   if(spanD (s.drop i)).2=[]then x= .exit 2∧eget e' 7= .int .i64 sg∧eget e' 8=v∧eget e' 9= .int .i64 ex∧eget e' 11= .bool b∧eget e' 12= .int .i64 (((spanD (s.drop i)).1.foldl (fun a d=>10*a+d) n:Nat):Int)
   else x= .ret∧eget e' 2= .int .i64 0∧eget e' 3= .nilslice∧eget e' 4= .int .i64 0∧eget e' 5= .bool false:=by
 intro m
 induction m with
 | zero=>
   intro i n e st1 hi hm hn hx g0 g6 g7 g8 g9 g11 g12
   have:i=s.length:=by omega
   subst this
   have hd:s.drop s.length=[]:=by simp
   rw[hd,run_loop]
   simp[B.chaseref01_Read_l1,go_sem,g0,g6,g7,g8,g9,g11,g12,spanD,hx]
 | succ m ih=>
   intro i n e st1 hi hm hn hx g0 g6 g7 g8 g9 g11 g12
   have hil:(i:Int)<s.length:=by omega
   obtain⟨c,hc,hd⟩:=idx_some (s:=s) (i:=i) (by omega)
   have e6:IntKind.i64.wrap ((i:Int)+1)=((i+1:Nat):Int):=wrap64' (by omega) (by omega)
   have hn':n<1000000:=Nat.lt_of_lt_of_le hn (by
    have:10 ^ (3 - (m+1))≤10 ^ 3:=Nat.pow_le_pow_right (by omega) (by omega)
    omega)
   rw[run_loop]
   simp[B.chaseref01_Read_l1,go_sem,g0,g6,g7,g8,g9,g11,g12,hil,hc]
   refine(digit102_tells H.chaseref01_digit hx.wf c).use fun s1 x1'=> ?_
   have x1:=hx.trans x1'
   by_cases hdg:isDig c=true
   ·have hd2:48≤c.toNat∧c.toNat≤57:=by simpa [isDig] using hdg
    have e1:IntKind.u8.wrap ((c.toNat:Int) - 48)=((c.toNat - 48:Nat):Int):=by
     rw[wrap_u8 (by omega) (by have:=c.toNat_lt;omega)];omega
    have e2:IntKind.i64.wrap ((c.toNat - 48:Nat):Int)=((c.toNat - 48:Nat):Int):=wrap64' (by omega) (by omega)
    have e3:IntKind.i64.wrap (10*(n:Int))=10*n:=wrap64' (by omega) (by omega)
    have e4:IntKind.i64.wrap (10*(n:Int)+((c.toNat - 48:Nat):Int))=((10*n+(c.toNat - 48):Nat):Int):=by rw[wrap64' (by omega) (by omega)];omega
    have hsp:spanD (s.drop i)=((c.toNat - 48)::(spanD (s.drop (i+1))).1,(spanD (s.drop (i+1))).2):=by rw[hd];simp[spanD,hd2]
    rw[hsp]
    simp[go_sem,hdg,hc,e1,e2,e3,e4]
    refine(ih (i+1) (10*n+(c.toNat - 48)) _ s1 (by omega) (by omega) ?_ x1 (by simp[go_sem]) (by simp[go_sem,e6]) (by simp[go_sem]) (by simp[go_sem]) (by simp[go_sem]) (by simp[go_sem]) (by simp[go_sem,e4])).mono fun x e s h=>by simpa using h
    have h3:3 - m=(3 - (m+1))+1:=by omega
    have hp:0<10 ^ (3 - (m+1)):=Nat.pow_pos (by omega)
    rw[h3,Nat.pow_succ]
    omega
   ·have hdf:isDig c=false:=by simpa using hdg
    have hd2:¬(48≤c.toNat∧c.toNat≤57):=by simpa [isDig] using hdg
    have hsp:spanD (s.drop i)=([],c::s.drop (i+1)):=by rw[hd];simp[spanD,hd2]
    rw[hsp]
    simp[go_sem,hdf,x1]
end Go.Ev

/- The reference's Read told. -/
namespace Go.Ev
open Go
variable {T : Tab} {st : St}
def MCode.a:MCode→MCode
 | .seq x _=>x
 | c=>c
def MCode.b:MCode→MCode
 | .seq _ y=>y
 | c=>c
theorem ab_seq (x y:MCode):(MCode.seq x y).a=x∧(MCode.seq x y).b=y:=⟨rfl,rfl⟩
theorem sgn_drop (s:List UInt8):(sgn s).2=s.drop (s.length - (sgn s).2.length)∧(sgn s).2.length≤s.length∧s.length≤(sgn s).2.length+1:=by
 cases s with
 | nil=>simp[sgn]
 | cons c r=>
   simp only[sgn]
   split
   ·simp
   ·split <;> simp
def readR (s:List UInt8):Option (Bool×List Nat×Int):=
 let m:=mant false (sgn s).2
 if m.1=[]then none
 else match m.2.2 with
  | []=>some ((sgn s).1,m.1, -(m.2.1:Int))
  | c::t=>
    if c≠101∧c≠69 then none
    else if(sgn t).2.length<1∨3<(sgn t).2.length then none
    else if(spanD (sgn t).2).2=[]then some ((sgn s).1,m.1, -(m.2.1:Int)+(if(sgn t).1=true then -(numD (spanD (sgn t).2).1:Int)else(numD (spanD (sgn t).2).1:Int)))
    else none
def sgnI (b:Bool):Int:=if b=true then -1 else 1
def rb:Nat→MCode
 | 0=>B.chaseref01_Read.body
 | k+1=>(rb k).b
theorem cut {T:Tab} {c:MCode} (hc:c= .seq c.a c.b) (hA:∀l,c.a≠.keep l) {e:Env} {Q:Ex→Env→St→Prop} (P:Ex→Env→St→Prop) (h1:Res (run T c.a e st) P) (h2:∀x e s,P x e s→kSeq T c.b Q x e s):Res (run T c e st) Q:=by
 rw[hc]
 exact seq_cut P hA h1 h2
theorem read_sign {s:List UInt8} (hs:s.length<1000000000000) {e:Env} (g0:eget e 0= .str s) (g6:eget e 6= .int .i64 0) (g7:eget e 7= .int .i64 1):
  Res (run T (rb 2).a e st) fun x e' s'=>x= .norm∧s'=st∧eget e' 0= .str s∧eget e' 6= .int .i64 ((s.length - (sgn s).2.length:Nat):Int)∧eget e' 7= .int .i64 (sgnI (sgn s).1):=by
 simp only[rb,B.chaseref01_Read,ab_seq]
 cases s with
 | nil=>simp[go_sem,g0,g6,g7,sgn,sgnI]
 | cons c r=>
   by_cases h43:c=43
   ·subst h43
    simp[go_sem,g0,g6,g7,sgn,sgnI]
    rfl
   ·by_cases h45:c=45
    ·subst h45
     simp[go_sem,g0,g6,g7,sgn,sgnI]
     rfl
    ·have n1:¬(c.toNat:Int)=43:=u8_ne h43 rfl
     have n2:¬(c.toNat:Int)=45:=u8_ne h45 rfl
     have m1:¬c.toNat=43:=by omega
     have m2:¬c.toNat=45:=by omega
     simp[go_sem,g0,g6,g7,sgn,sgnI,h43,h45,n1,n2,m1,m2]
theorem read_sign2 {s t:List UInt8} {i:Nat} (hs:s.length<1000000000000) (hi:i≤s.length) (ht:s.drop i=t) {e:Env} {sg ex:Int} {v:AV} (g0:eget e 0= .str s) (g6:eget e 6= .int .i64 i) (g7:eget e 7= .int .i64 sg) (g8:eget e 8=v) (g9:eget e 9= .int .i64 ex) (g11:eget e 11= .bool false):
  Res (run T (rb 15).a e st) fun x e' s'=>x= .norm∧s'=st∧eget e' 0= .str s∧eget e' 6= .int .i64 ((s.length - (sgn t).2.length:Nat):Int)∧eget e' 7= .int .i64 sg∧eget e' 8=v∧eget e' 9= .int .i64 ex∧eget e' 11= .bool (sgn t).1:=by
 simp only[rb,B.chaseref01_Read,ab_seq]
 have hl:=congrArg List.length ht
 rw[List.length_drop]at hl
 cases t with
 | nil=>
   have:i=s.length:=by simp at hl;omega
   subst this
   simp[go_sem,g0,g6,g7,g8,g9,g11,sgn]
 | cons c r=>
   simp only[List.length_cons]at hl
   have hil:i<s.length:=by omega
   have hil':(i:Int)<s.length:=by omega
   obtain⟨c',hc,hd⟩:=idx_some hil
   rw[ht]at hd
   injection hd with h1 h2
   subst h1
   have e6:IntKind.i64.wrap ((i:Int)+1)=((i+1:Nat):Int):=wrap64' (by omega) (by omega)
   have e7:s.length - r.length=i+1:=by omega
   have e8:s.length - (c::r).length=i:=by simp only[List.length_cons];omega
   by_cases h43:c=43
   ·subst h43
    simp[go_sem,g0,g6,g7,g8,g9,g11,sgn,hil',hc,e7]
    exact e6
   ·by_cases h45:c=45
    ·subst h45
     simp[go_sem,g0,g6,g7,g8,g9,g11,sgn,hil',hc,e7]
     exact e6
    ·have n1:¬(c.toNat:Int)=43:=u8_ne h43 rfl
     have n2:¬(c.toNat:Int)=45:=u8_ne h45 rfl
     have m1:¬c.toNat=43:=by omega
     have m2:¬c.toNat=45:=by omega
     simp only[List.length_cons]at e8
     simp[go_sem,g0,g6,g7,g8,g9,g11,sgn,h43,h45,n1,n2,m1,m2,hil',hc,e8]
def ReadQ (st:St) (U:Option (Bool×List Nat×Int)) (x:Ex) (e':Env) (s':St):Prop:=
 (x= .norm∨x= .ret)∧Ext st s'∧match U with
   | none=>eget e' 2= .int .i64 0∧eget e' 3= .nilslice∧eget e' 4= .int .i64 0∧eget e' 5= .bool false
   | some (neg,l,ex)=>eget e' 2= .int .i64 (sgnI neg)∧Sl s' (eget e' 3) 3 1 l.length (i64s l)∧eget e' 4= .int .i64 ex∧eget e' 5= .bool true
theorem read_end (H:B.H_chaseref01_Read T) {s u:List UInt8} {i:Nat} (hs:s.length<1000000000000) (hi:i≤s.length) (hu:s.drop i=u) {e:Env} {neg b:Bool} {ex:Int} {l:List Nat} {v:AV} {st0:St} (hx:Ext st0 st) (hv:Sl st v 3 1 l.length (i64s l)) (hex: -1000000000000≤ex∧ex≤0)
  (g0:eget e 0= .str s) (g6:eget e 6= .int .i64 i) (g7:eget e 7= .int .i64 (sgnI neg)) (g8:eget e 8=v) (g9:eget e 9= .int .i64 ex) (g11:eget e 11= .bool b):
  Res (run T (rb 16) e st) (ReadQ st0 (if u.length<1∨3<u.length then none else if(spanD u).2=[]then some (neg,l,ex+(if b=true then -(numD (spanD u).1:Int)else(numD (spanD u).1:Int)))else none)):=by
 have hl:=congrArg List.length hu
 rw[List.length_drop]at hl
 have ew:IntKind.i64.wrap ((s.length:Int) - i)=(u.length:Int):=by rw[wrap64' (by omega) (by omega)];omega
 simp only[rb,B.chaseref01_Read,ab_seq]
 by_cases h1:u.length<1
 ·rw[if_pos (.inl h1)]
  have h1':(u.length:Int)<1:=by omega
  simp[go_sem,g0,g6,g7,g8,g9,g11,ew,h1',ReadQ,hx]
 have h1':¬(u.length:Int)<1:=by omega
 by_cases h3:3<u.length
 ·rw[if_pos (.inr h3)]
  have h3':(3:Int)<u.length:=by omega
  simp[go_sem,g0,g6,g7,g8,g9,g11,ew,h1',h3',ReadQ,hx]
 have h3':¬(3:Int)<u.length:=by omega
 rw[if_neg (by omega)]
 have hnb:numD (spanD u).1<1000:=by
  have hlu:=spanD_len u
  refine Nat.lt_of_lt_of_le (numD_lt (fun d hd=>spanD_lt _ d hd)) ?_
  exact Nat.le_trans (Nat.pow_le_pow_right (by omega) (show _≤3 by omega)) (by omega)
 have hfo:(spanD u).1.foldl (fun a d=>10*a+d) 0=numD (spanD u).1:=rfl
 simp[go_sem,g0,g6,g7,g8,g9,g11,ew,h1',h3']
 refine(read_l1 H hs (sgnI neg) ex v b st u.length i 0 _ st (by omega) (by omega) (Nat.mul_pos (by omega) (Nat.pow_pos (by omega))) (.refl hx.wf) (by simp[go_sem]) (by simp[go_sem]) (by simp[go_sem]) (by simp[go_sem]) (by simp[go_sem]) (by simp[go_sem]) (by simp[go_sem])).mono ?_
 rw[hu,hfo]
 rintro x e' s' ⟨x1',hh⟩
 have x1:=hx.trans x1'
 have hv1:=hv.ext x1' hx.wf
 generalize numD (spanD u).1=N at hh hnb⊢
 by_cases hz:(spanD u).2=[]
 ·rw[if_pos hz]at hh
  obtain⟨rfl,k7,k8,k9,k11,k12⟩:=hh
  rw[if_pos hz]
  have en:IntKind.i64.wrap (-(N:Int))= -N:=wrap64' (by omega) (by omega)
  have ea:IntKind.i64.wrap (ex+ -(N:Int))=ex+ -N:=wrap64' (by omega) (by omega)
  have eb:IntKind.i64.wrap (ex+(N:Int))=ex+N:=wrap64' (by omega) (by omega)
  cases b with
  | true=>simp[go_sem,ReadQ,k7,k8,k9,k11,k12,x1,en,ea,hv1]
  | false=>simp[go_sem,ReadQ,k7,k8,k9,k11,k12,x1,eb,hv1]
 ·rw[if_neg hz]at hh
  obtain⟨rfl,k2,k3,k4,k5⟩:=hh
  rw[if_neg hz]
  simp[go_sem,ReadQ,k2,k3,k4,k5,x1]
def E5 (s:List UInt8) (i:Nat) (sg:Int) (v:AV) (ex:Int) (e:Env):Prop:=eget e 0= .str s∧eget e 6= .int .i64 i∧eget e 7= .int .i64 sg∧eget e 8=v∧eget e 9= .int .i64 ex
def midS (neg:Bool) (l:List Nat) (ex:Int):List UInt8→Option (Bool×List Nat×Int)
 | []=>some (neg,l,ex)
 | c::t=>if c≠101∧c≠69 then none
   else if(sgn t).2.length<1∨3<(sgn t).2.length then none
   else if(spanD (sgn t).2).2=[]then some (neg,l,ex+(if(sgn t).1=true then -(numD (spanD (sgn t).2).1:Int)else(numD (spanD (sgn t).2).1:Int)))
   else none
theorem read_mid (H:B.H_chaseref01_Read T) {s:List UInt8} {i:Nat} (hs:s.length<1000000000000) (hi:i≤s.length) {e:Env} {neg:Bool} {ex:Int} {l:List Nat} {n:Nat} {cp:Cap} {st0:St} (hx:Ext st0 st) (hv:Sl st (.slice n 0 l.length cp) 3 1 l.length (i64s l)) (hex: -1000000000000≤ex∧ex≤0)
  (h5:E5 s i (sgnI neg) (.slice n 0 l.length cp) ex e):
  Res (run T (rb 8) e st) (ReadQ st0 (if l=[]then none else midS neg l ex (s.drop i))):=by
 obtain⟨g0,g6,g7,g8,g9⟩:=id h5
 by_cases hl:l=[]
 ·subst hl
  simp only[rb,B.chaseref01_Read,ab_seq]
  simp[go_sem,g0,g6,g7,g8,g9,ReadQ,hx]
 rw[if_neg hl]
 have hlen:¬l.length=0:=fun h=>hl (List.length_eq_zero_iff.1 h)
 have hlen':¬(l.length:Int)=0:=by omega
 refine cut (c:=rb 8) rfl (by intro l;simp[rb,B.chaseref01_Read,ab_seq]) (fun x e' s'=>x= .norm∧s'=st∧E5 s i (sgnI neg) (.slice n 0 l.length cp) ex e') ?_ ?_
 ·simp only[rb,B.chaseref01_Read,ab_seq]
  simp[go_sem,g0,g6,g7,g8,g9,hlen,hlen',E5]
 rintro _ e1 s1 ⟨rfl,hst,h51⟩
 rw[kSeq_norm,hst]
 clear hst
 clear g0 g6 g7 g8 g9
 obtain⟨g0,g6,g7,g8,g9⟩:=id h51
 by_cases hil:i=s.length
 ·subst hil
  have hd:s.drop s.length=[]:=by simp
  rw[hd]
  show Res (run T (rb 9) e1 _) _
  simp only[rb,B.chaseref01_Read,ab_seq]
  simp[go_sem,g0,g6,g7,g8,g9,midS,ReadQ,hx,hv]
 have hil1:i<s.length:=by omega
 have hil2:¬(i:Int)=s.length:=by omega
 obtain⟨c,hc,hd⟩:=idx_some hil1
 refine cut (c:=rb 9) rfl (by intro l;simp[rb,B.chaseref01_Read,ab_seq]) (fun x e' s'=>x= .norm∧s'=st∧E5 s i (sgnI neg) (.slice n 0 l.length cp) ex e') ?_ ?_
 ·simp only[rb,B.chaseref01_Read,ab_seq]
  simp[go_sem,g0,g6,g7,g8,g9,hil,hil2,E5]
 rintro _ e2 s2 ⟨rfl,hst,h52⟩
 rw[kSeq_norm,hst]
 clear hst g0 g6 g7 g8 g9
 obtain⟨g0,g6,g7,g8,g9⟩:=id h52
 show Res (run T (.seq (.keep [0,6,7,8,9]) (rb 11)) e2 st) _
 rw[run_keep]
 have h53:E5 s i (sgnI neg) (.slice n 0 l.length cp) ex (keepE [0,6,7,8,9] e2):=by simp[E5,keepE,eget,g0,g6,g7,g8,g9]
 generalize keepE [0,6,7,8,9] e2=e3 at h53
 clear g0 g6 g7 g8 g9
 obtain⟨g0,g6,g7,g8,g9⟩:=id h53
 have hil3:(i:Int)<s.length:=by omega
 rw[hd]
 by_cases hE:c≠101∧c≠69
 ·have n1:¬(c.toNat:Int)=101:=u8_ne hE.1 rfl
  have n2:¬(c.toNat:Int)=69:=u8_ne hE.2 rfl
  have m1:¬c.toNat=101:=by omega
  have m2:¬c.toNat=69:=by omega
  simp only[midS]
  rw[if_pos hE]
  simp only[rb,B.chaseref01_Read,ab_seq]
  simp[go_sem,g0,g6,g7,g8,g9,hc,n1,n2,m1,m2,ReadQ,hx]
 simp only[midS]
 rw[if_neg hE]
 refine cut (c:=rb 11) rfl (by intro l;simp[rb,B.chaseref01_Read,ab_seq]) (fun x e' s'=>x= .norm∧s'=st∧E5 s i (sgnI neg) (.slice n 0 l.length cp) ex e') ?_ ?_
 ·have hcn:(c.toNat:Int)=101∨(c.toNat:Int)=69:=by
   by_cases h:c=101
   ·subst h;simp
   ·by_cases h':c=69
    ·subst h';simp
    ·exact absurd ⟨h,h'⟩ hE
  obtain⟨nn,hnn⟩:∃nn:Int,nn=c.toNat:=⟨_,rfl⟩
  rw[←hnn]at hcn
  simp only[rb,B.chaseref01_Read,ab_seq]
  rcases hcn with rfl | rfl
  ·simp[go_sem,g0,g6,g7,g8,g9,hc,←hnn,E5]
  ·simp[go_sem,g0,g6,g7,g8,g9,hc,←hnn,E5]
 rintro _ e4 s4 ⟨rfl,hst,h54⟩
 rw[kSeq_norm,hst]
 clear hst g0 g6 g7 g8 g9
 obtain⟨g0,g6,g7,g8,g9⟩:=id h54
 show Res (run T (.seq (.keep [0,6,7,8,9]) (rb 13)) e4 st) _
 rw[run_keep]
 have h55:E5 s i (sgnI neg) (.slice n 0 l.length cp) ex (keepE [0,6,7,8,9] e4):=by simp[E5,keepE,eget,g0,g6,g7,g8,g9]
 generalize keepE [0,6,7,8,9] e4=e5 at h55
 clear g0 g6 g7 g8 g9
 obtain⟨g0,g6,g7,g8,g9⟩:=id h55
 have e6:IntKind.i64.wrap ((i:Int)+1)=((i+1:Nat):Int):=wrap64' (by omega) (by omega)
 refine cut (c:=rb 13) rfl (by intro l;simp[rb,B.chaseref01_Read,ab_seq]) (fun x e' s'=>x= .norm∧s'=st∧E5 s (i+1) (sgnI neg) (.slice n 0 l.length cp) ex e') ?_ ?_
 ·simp only[rb,B.chaseref01_Read,ab_seq]
  simp[go_sem,g0,g6,g7,g8,g9,E5,e6]
 rintro _ e6' s6 ⟨rfl,hst,h56⟩
 rw[kSeq_norm,hst]
 clear hst g0 g6 g7 g8 g9 e6
 obtain⟨g0,g6,g7,g8,g9⟩:=id h56
 refine cut (c:=rb 14) rfl (by intro l;simp[rb,B.chaseref01_Read,ab_seq]) (fun x e' s'=>x= .norm∧s'=st∧E5 s (i+1) (sgnI neg) (.slice n 0 l.length cp) ex e'∧eget e' 11= .bool false) ?_ ?_
 ·simp only[rb,B.chaseref01_Read,ab_seq]
  simp[go_sem,g0,g6,g7,g8,g9,E5]
 rintro _ e7 s7 ⟨rfl,hst,h57,g11⟩
 rw[kSeq_norm,hst]
 clear hst g0 g6 g7 g8 g9
 obtain⟨g0,g6,g7,g8,g9⟩:=id h57
 refine cut (c:=rb 15) rfl (by intro l;simp[rb,B.chaseref01_Read,ab_seq]) _ (read_sign2 (t:=s.drop (i+1)) hs (by omega) rfl g0 g6 g7 g8 g9 g11) ?_
 rintro _ e8 s8 ⟨rfl,hst,k0,k6,k7,k8,k9,k11⟩
 rw[kSeq_norm,hst]
 obtain⟨z1,z2,z3⟩:=sgn_drop (s.drop (i+1))
 rw[List.length_drop]at z2 z3
 have hdr:s.drop (s.length - (sgn (s.drop (i+1))).2.length)=(sgn (s.drop (i+1))).2:=by
  conv=>rhs;rw[z1]
  rw[List.drop_drop,List.length_drop]
  congr 1
  omega
 exact read_end H hs (by omega) hdr hx hv hex k0 k6 k7 k8 k9 k11
theorem mant_suffix:∀(pt:Bool) (r:List UInt8),∃k,(mant pt r).2.2=r.drop k∧k≤r.length
 | _,[]=>⟨0,by simp[mant]⟩
 | pt,c::r=>by
   simp only[mant]
   split
   ·obtain⟨k,h1,h2⟩:=mant_suffix pt r
    exact⟨k+1,by simp[h1],by simp;omega⟩
   ·split
    ·obtain⟨k,h1,h2⟩:=mant_suffix true r
     exact⟨k+1,by simp[h1],by simp;omega⟩
    ·exact⟨0,by simp⟩
theorem Sl.cases {s:St} {v:AV} {ty es k:Nat} {cs:List AV} (a:Sl s v ty es k cs):(v= .nilslice∧cs=[]∧k=0)∨∃n cp,v= .slice n 0 k cp:=by
 obtain⟨n,a⟩:=a
 rcases a with ⟨h1,h2,h3⟩ | ⟨h1,h2,h3⟩ | ⟨ty',h1,h2,h3⟩
 ·exact .inl ⟨h1,h2,h3⟩
 ·exact .inr ⟨n,_,h1⟩
 ·exact .inr ⟨n,_,h1⟩
theorem readR_mid (s:List UInt8):readR s=if(mant false (sgn s).2).1=[]then none else midS (sgn s).1 (mant false (sgn s).2).1 (0 - ((mant false (sgn s).2).2.1:Int)) (mant false (sgn s).2).2.2:=by
 unfold readR
 simp only
 split
 ·rfl
 ·cases (mant false (sgn s).2).2.2 with
  | nil=>simp[midS]
  | cons c t=>
    simp only[midS,Int.zero_sub]
theorem read_tells (H:B.H_chaseref01_Read T) (hwf:st.Wf) {s:List UInt8} (hs:s.length<1000000000000):
  CRes (call T (.fn 80 [] []) [.str s] st) fun v s'=>Ext st s'∧match readR s with
   | none=>v= .tuple [.int .i64 0,.nilslice,.int .i64 0,.bool false]
   | some (neg,l,ex)=>∃sv,v= .tuple [.int .i64 (sgnI neg),sv,.int .i64 ex,.bool true]∧Sl s' sv 3 1 l.length (i64s l):=by
 refine call_res H.e H.f rfl ?_
 have main:Res (run T (rb 0) (argEnv 0 ([]++[.str s]++[])) st) (ReadQ st (readR s)):=by
  refine cut (c:=rb 0) rfl (by intro l;simp[rb,B.chaseref01_Read,ab_seq]) (fun x e' s'=>x= .norm∧s'=st∧eget e' 0= .str s) ?_ ?_
  ·simp only[rb,B.chaseref01_Read,ab_seq]
   simp[go_sem]
  rintro _ e1 s1 ⟨rfl,hst,g0⟩
  rw[kSeq_norm,hst]
  clear hst
  refine cut (c:=rb 1) rfl (by intro l;simp[rb,B.chaseref01_Read,ab_seq]) (fun x e' s'=>x= .norm∧s'=st∧eget e' 0= .str s∧eget e' 6= .int .i64 0∧eget e' 7= .int .i64 1) ?_ ?_
  ·simp only[rb,B.chaseref01_Read,ab_seq]
   simp[go_sem,g0]
  rintro _ e2 s2 ⟨rfl,hst,g0,g6,g7⟩
  rw[kSeq_norm,hst]
  clear hst
  refine cut (c:=rb 2) rfl (by intro l;simp[rb,B.chaseref01_Read,ab_seq]) _ (read_sign hs g0 g6 g7) ?_
  rintro _ e3 s3 ⟨rfl,hst,g0,g6,g7⟩
  rw[kSeq_norm,hst]
  clear hst
  show Res (run T (.seq (.keep [0,6,7]) (rb 4)) e3 st) _
  rw[run_keep]
  have h4:eget (keepE [0,6,7] e3) 0= .str s∧eget (keepE [0,6,7] e3) 6= .int .i64 ((s.length - (sgn s).2.length:Nat):Int)∧eget (keepE [0,6,7] e3) 7= .int .i64 (sgnI (sgn s).1):=by simp[keepE,eget,g0,g6,g7]
  generalize keepE [0,6,7] e3=e4 at h4
  obtain⟨k0,k6,k7⟩:=h4
  refine cut (c:=rb 4) rfl (by intro l;simp[rb,B.chaseref01_Read,ab_seq]) (fun x e' s'=>x= .norm∧s'=st∧eget e' 0= .str s∧eget e' 6= .int .i64 ((s.length - (sgn s).2.length:Nat):Int)∧eget e' 7= .int .i64 (sgnI (sgn s).1)∧eget e' 8= .nilslice) ?_ ?_
  ·simp only[rb,B.chaseref01_Read,ab_seq]
   simp[go_sem,k0,k6,k7]
  rintro _ e5 s5 ⟨rfl,hst,j0,j6,j7,j8⟩
  rw[kSeq_norm,hst]
  clear hst
  refine cut (c:=rb 5) rfl (by intro l;simp[rb,B.chaseref01_Read,ab_seq]) (fun x e' s'=>x= .norm∧s'=st∧eget e' 0= .str s∧eget e' 6= .int .i64 ((s.length - (sgn s).2.length:Nat):Int)∧eget e' 7= .int .i64 (sgnI (sgn s).1)∧eget e' 8= .nilslice∧eget e' 9= .int .i64 0∧eget e' 10= .bool false) ?_ ?_
  ·simp only[rb,B.chaseref01_Read,ab_seq]
   simp[go_sem,j0,j6,j7,j8]
  rintro _ e6 s6 ⟨rfl,hst,i0,i6,i7,i8,i9,i10⟩
  rw[kSeq_norm,hst]
  clear hst
  obtain⟨z1,z2,z3⟩:=sgn_drop s
  obtain⟨k,y1,y2⟩:=mant_suffix false (sgn s).2
  have hml:=mant_len false (sgn s).2
  refine cut (c:=rb 6) rfl (by intro l;simp[rb,B.chaseref01_Read,ab_seq]) (fun x e' s'=>x= .norm∧Ext st s'∧eget e' 0= .str s∧eget e' 6= .int .i64 ((s.length - (mant false (sgn s).2).2.2.length:Nat):Int)∧eget e' 7= .int .i64 (sgnI (sgn s).1)∧Sl s' (eget e' 8) 3 1 (mant false (sgn s).2).1.length (i64s (mant false (sgn s).2).1)∧eget e' 9= .int .i64 (0 - ((mant false (sgn s).2).2.1:Int))) ?_ ?_
  ·show Res (run T (.block 0 (.loop B.chaseref01_Read_l0)) e6 st) _
   simp only[run_block,Res_blockE]
   refine(read_l0 H hs (sgnI (sgn s).1) st (s.length - (s.length - (sgn s).2.length)) (s.length - (sgn s).2.length) [] 0 false e6 st .nilslice (by omega) (by simp) (by omega) (by omega) (.refl hwf) (.nil _ _ _) (Mine.nil _ _) i0 i6 i7 i8 i9 i10).mono ?_
   rw[←z1]
   rintro x e s' ⟨rfl,a1,a2,a3,a4,a5,a6,a7⟩
   simp only[List.nil_append]at a5
   simp[go_sem,a1,a2,a3,a4,a5,a7]
  rintro _ e7 s7 ⟨rfl,x7,j0,j6,j7,j8,j9⟩
  rw[kSeq_norm]
  show Res (run T (.seq (.keep [0,6,7,8,9]) (rb 8)) e7 s7) _
  rw[run_keep]
  rw[readR_mid]
  have hdr:s.drop (s.length - (mant false (sgn s).2).2.2.length)=(mant false (sgn s).2).2.2:=by
   rw[y1,z1,List.drop_drop,List.length_drop]
   congr 1
   omega
  have hil:s.length - (mant false (sgn s).2).2.2.length≤s.length:=by omega
  have hex: -1000000000000≤(0 - ((mant false (sgn s).2).2.1:Int))∧(0 - ((mant false (sgn s).2).2.1:Int))≤0:=by omega
  generalize (mant false (sgn s).2).2.2=rest at*
  generalize 0 - ((mant false (sgn s).2).2.1:Int)=ex at*
  generalize (mant false (sgn s).2).1=l at*
  generalize s.length - rest.length=i1 at*
  rcases j8.cases with ⟨h1,h2,h3⟩ | ⟨n,cp,h1⟩
  ·have:l=[]:=List.length_eq_zero_iff.1 h3
   subst this
   simp only[rb,B.chaseref01_Read,ab_seq]
   simp[go_sem,j0,j6,j7,h1,j9,ReadQ,x7]
  ·rw[h1]at j8
   have h55:E5 s i1 (sgnI (sgn s).1) (.slice n 0 l.length cp) ex (keepE [0,6,7,8,9] e7):=by simp[E5,keepE,eget,j0,j6,j7,h1,j9]
   have:=read_mid H hs hil x7 j8 hex h55
   rw[hdr]at this
   exact this
 refine main.mono ?_
 rintro x e s' ⟨hx,x1,hU⟩
 refine⟨hx,_,rfl,?_⟩
 cases hr:readR s with
 | none=>
   rw[hr]at hU
   obtain⟨k2,k3,k4,k5⟩:=hU
   exact⟨x1.dropLoc,by simp[B.chaseref01_Read,resVal,k2,k3,k4,k5]⟩
 | some p=>
   obtain⟨neg,l,ex⟩:=p
   rw[hr]at hU
   obtain⟨k2,k3,k4,k5⟩:=hU
   exact⟨x1.dropLoc,_,by simp[B.chaseref01_Read,resVal,k2,k4,k5],k3.dropLoc x1.wf⟩
end Go.Ev

/- Digits multiplied. -/
namespace Go.Ev
open Go
variable {T : Tab} {st : St}
def mul1:List Nat→List Nat×Nat
 | []=>([],0)
 | d::l=>((131072*d+(mul1 l).2) % 10::(mul1 l).1,(131072*d+(mul1 l).2) / 10)
def pad:Nat→Nat→List Nat
 | 0,_=>[]
 | k+1,c=>pad k (c / 10)++[c % 10]
def timesS (l:List Nat):List Nat:=pad 6 (mul1 l).2++(mul1 l).1
theorem mul1_len:∀l,(mul1 l).1.length=l.length
 | []=>rfl
 | d::l=>by simp[mul1,mul1_len l]
theorem pad_len:∀k c,(pad k c).length=k
 | 0,_=>rfl
 | k+1,c=>by simp[pad,pad_len k]
theorem mul1_lt:∀l,(∀d∈l,d<10)→(mul1 l).2<131072
 | [],_=>by simp[mul1]
 | d::l,h=>by
   have h1:=mul1_lt l fun x hx=>h x (List.mem_cons_of_mem _ hx)
   have h2:=h d List.mem_cons_self
   simp only[mul1];omega
theorem mul1_dig:∀l,∀d∈(mul1 l).1,d<10
 | [],d,h=>by cases h
 | x::l,d,h=>by
   simp only[mul1]at h
   rcases List.mem_cons.1 h with rfl | h
   ·omega
   ·exact mul1_dig l d h
theorem pad_dig:∀k c,∀d∈pad k c,d<10
 | 0,_,d,h=>by cases h
 | k+1,c,d,h=>by
   simp only[pad]at h
   rcases List.mem_append.1 h with h | h
   ·exact pad_dig k _ d h
   ·simp at h;omega
theorem set_zero (p q:Nat) (X:List Nat):(i64s (List.replicate (p+1) 0++X)).set p (.int .i64 (q:Int))=i64s (List.replicate p 0++(q::X)):=by
 have h:(i64s (List.replicate p 0)).length=p:=by simp[i64s]
 rw[List.replicate_succ',List.append_assoc]
 simp only[i64s,List.map_append]at h⊢
 rw[List.set_append_right _ _ (by omega),h]
 simp
theorem mulw {d c N:Nat} (hd10:d<10) (hc:c<131072) (hN:N=131072*d+c):N<1310720∧IntKind.i64.wrap ((d:Int)*131072)=d*131072∧IntKind.i64.wrap ((d:Int)*131072+c)=(N:Int)∧IntKind.i64.wrap ((N / 10:Nat):Int)=((N / 10:Nat):Int):=by
 have h:N<1310720:=by omega
 refine⟨h,wrap64' (by omega) (by omega),?_,wrap64' (by omega) (by omega)⟩
 rw[wrap64' (by omega) (by omega)];omega
theorem div10 (N:Nat):(N:Int).tmod 10=((N % 10:Nat):Int)∧(N:Int).tdiv 10=((N / 10:Nat):Int):=by
 refine⟨?_,?_⟩
 ·rw[Int.tmod_eq_emod_of_nonneg (by omega)];omega
 ·rw[Int.tdiv_eq_ediv_of_nonneg (by omega)];omega
theorem idx6 {m k:Nat} (h:m<k) (hk:k≤1000000):IntKind.i64.wrap ((m:Int)+6)=((m+6:Nat):Int)∧IntKind.i64.wrap ((m:Int) - 1)=(m:Int) - 1:=by
 refine⟨?_,wrap64' (by omega) (by omega)⟩
 rw[wrap64' (by omega) (by omega)];omega
theorem times_l0 {sv:AV} {l:List Nat} {n:Nat} (hk:l.length≤1000000) (hd:∀d∈l,d<10) (st0:St) (hn:st0.nx≤n) (hsv:∀m∈sv.nms,m≠n):∀(m:Nat) (e:Env) (st1:St),m≤l.length→Ext st0 st1→Rd st1.h sv 1 l.length (i64s l)→hget st1.h n=some (.cells 3 false (i64s (List.replicate (6+m) 0++(mul1 (l.drop m)).1)))→eget e 0=sv→eget e 3= .slice n 0 (l.length+6) (.known (l.length+6))→eget e 4= .int .i64 ((mul1 (l.drop m)).2:Nat)→eget e 5= .int .i64 ((m:Int) - 1)→
  Res (run T (.loop B.chaseref01_times_l0) e st1) fun x e' s'=>x= .exit 0∧Ext st0 s'∧hget s'.h n=some (.cells 3 false (i64s (List.replicate 6 0++(mul1 l).1)))∧eget e' 3= .slice n 0 (l.length+6) (.known (l.length+6))∧eget e' 4= .int .i64 ((mul1 l).2:Nat):=by
 intro m
 induction m with
 | zero=>
   intro e st1 hm hx hr hg g0 g3 g4 g5
   rw[run_loop]
   simp at hg
   simp[B.chaseref01_times_l0,go_sem,g0,g3,g4,g5,hx]
   exact hg
 | succ m ih=>
   intro e st1 hm hx hr hg g0 g3 g4 g5
   have hml:m<l.length:=by omega
   obtain⟨d,hdm,hdr⟩:∃d,l[m]? =some d∧l.drop m=d::l.drop (m+1):=⟨l[m],List.getElem?_eq_getElem hml,List.drop_eq_getElem_cons hml⟩
   have hd10:d<10:=hd d (List.mem_of_getElem? hdm)
   have hc:=mul1_lt (l.drop (m+1)) fun x hx=>hd x (List.mem_of_mem_drop hx)
   have hmu:mul1 (l.drop m)=((131072*d+(mul1 (l.drop (m+1))).2) % 10::(mul1 (l.drop (m+1))).1,(131072*d+(mul1 (l.drop (m+1))).2) / 10):=by rw[hdr];simp only[mul1]
   have hlen1:=mul1_len (l.drop (m+1))
   generalize mul1 (l.drop (m+1))=M at hg g4 hc hmu hlen1
   obtain⟨M1,M2⟩:=M
   simp only at hg g4 hc hmu hlen1
   have e5:((m+1:Nat):Int) - 1=(m:Int):=by omega
   rw[e5]at g5
   obtain⟨N,hN⟩:∃N,N=131072*d+M2:=⟨_,rfl⟩
   obtain⟨hNb,w1,w2,w6⟩:=mulw hd10 hc hN
   obtain⟨w4,w5⟩:=div10 N
   obtain⟨w3,w7⟩:=idx6 hml hk
   obtain⟨nn,off,cp,hsvs,hrr⟩:∃nn off cp,sv= .slice nn off l.length cp∧rdCell st1.h nn (off+m)=some (.int .i64 (d:Int)):=by
    rcases hr with ⟨h1,h2,h3⟩ | ⟨nn,off,cp,h1,h2⟩
    ·omega
    ·refine⟨nn,off,cp,h1,?_⟩
     rw[rdCells_get h2 (by omega)]
     simp[i64s,hdm]
   have hw:wrCells st1.h n (m+6) [.int .i64 ((N % 10:Nat):Int)]=some (hset st1.h n (.cells 3 false (i64s (List.replicate (6+m) 0++(N % 10::M1))))):=by
    rw[wr_cells hg rfl (by rw[i64s_len];simp;omega),show m+6=6+m by omega,show 6+(m+1)=(6+m)+1 by omega,set_zero]
   have f1:=Frm.set hx.wf hg (o:= .cells 3 false (i64s (List.replicate (6+m) 0++(N % 10::M1))))
   have x1:Ext st0 ⟨hset st1.h n (.cells 3 false (i64s (List.replicate (6+m) 0++(N % 10::M1)))),st1.nx⟩:=hx.frm f1 (by simpa using hn)
   have r1:Rd (hset st1.h n (.cells 3 false (i64s (List.replicate (6+m) 0++(N % 10::M1))))) sv 1 l.length (i64s l):=hr.frm f1 hx.wf (fun k hk hk'=>by simp at hk';exact hsv k hk hk')
   have g1:hget (hset st1.h n (.cells 3 false (i64s (List.replicate (6+m) 0++(N % 10::M1))))) n=some (.cells 3 false (i64s (List.replicate (6+m) 0++(N % 10::M1)))):=hget_hset_self hg
   rw[←hN]at hmu
   rw[show (N % 10::M1)=(mul1 (l.drop m)).1 by rw[hmu]]at hw x1 r1 g1
   rw[show N / 10=(mul1 (l.drop m)).2 by rw[hmu]]at w5 w6
   clear f1
   generalize mul1 (l.drop m)=MM at hw x1 r1 g1 w5 w6 ih
   generalize N % 10=R at w4 hw
   have hml':(m:Int)<l.length:=by omega
   have hm6:((m+6:Nat):Int)<(l.length+6:Nat):=by omega
   obtain⟨q,hq⟩:∃q,q=m+6:=⟨_,rfl⟩
   have hq6:(q:Int)<(l.length:Int)+6:=by omega
   rw[←hq]at w3 hw hm6
   rw[run_loop]
   simp[B.chaseref01_times_l0,go_sem,g0,g3,g4,g5,hsvs,RO.run,WO.run,hml',hrr,w1,w2,w3,w4,w5,w6,hq6,hw]
   refine ih _ _ (by omega) x1 r1 g1 ?_ ?_ ?_ ?_
   ·simp[go_sem,hsvs]
   ·simp[go_sem]
   ·simp[go_sem,w5,w6]
   ·simp[go_sem,w7]
theorem times_l1 {n k:Nat} {X:List Nat} (st0:St) (hn:st0.nx≤n):∀(m c:Nat) (e:Env) (st1:St),m≤6→c<1000000→Ext st0 st1→k=6+X.length - 6→∀Y:List Nat,Y.length=6 - m+X.length→hget st1.h n=some (.cells 3 false (i64s (List.replicate m 0++Y)))→eget e 3= .slice n 0 (k+6) (.known (k+6))→eget e 4= .int .i64 (c:Nat)→eget e 7= .int .i64 ((m:Int) - 1)→
  Res (run T (.loop B.chaseref01_times_l1) e st1) fun x e' s'=>x= .exit 2∧Ext st0 s'∧hget s'.h n=some (.cells 3 false (i64s (pad m c++Y)))∧eget e' 3= .slice n 0 (k+6) (.known (k+6)):=by
 intro m
 induction m with
 | zero=>
   intro c e st1 hm hcb hx hk Y hY hg g3 g4 g7
   rw[run_loop]
   simp at hg
   simp[B.chaseref01_times_l1,go_sem,g3,g4,g7,hx,pad]
   exact hg
 | succ m ih=>
   intro c e st1 hm hcb hx hk Y hY hg g3 g4 g7
   have e5:((m+1:Nat):Int) - 1=(m:Int):=by omega
   rw[e5]at g7
   obtain⟨w4,w5⟩:=div10 c
   have w7:IntKind.i64.wrap ((m:Int) - 1)=(m:Int) - 1:=wrap64' (by omega) (by omega)
   have w6:IntKind.i64.wrap ((c / 10:Nat):Int)=((c / 10:Nat):Int):=wrap64' (by omega) (by omega)
   have hw:wrCells st1.h n m [.int .i64 ((c % 10:Nat):Int)]=some (hset st1.h n (.cells 3 false (i64s (List.replicate m 0++(c % 10::Y))))):=by
    rw[wr_cells hg rfl (by rw[i64s_len];simp;omega),set_zero]
   have hpad:pad (m+1) c++Y=pad m (c / 10)++(c % 10::Y):=by simp[pad]
   rw[hpad]
   have hc10:c / 10<1000000:=by omega
   generalize c % 10=R at w4 hw⊢
   generalize c / 10=C at w5 w6 hc10⊢
   have f1:=Frm.set hx.wf hg (o:= .cells 3 false (i64s (List.replicate m 0++(R::Y))))
   have x1:Ext st0 ⟨hset st1.h n (.cells 3 false (i64s (List.replicate m 0++(R::Y)))),st1.nx⟩:=hx.frm f1 (by simpa using hn)
   have g1:hget (hset st1.h n (.cells 3 false (i64s (List.replicate m 0++(R::Y))))) n=some (.cells 3 false (i64s (List.replicate m 0++(R::Y)))):=hget_hset_self hg
   have hm6:(m:Int)<(k:Int)+6:=by omega
   rw[run_loop]
   simp[B.chaseref01_times_l1,go_sem,g3,g4,g7,RO.run,WO.run,hm6,w4,w5,w6,hw]
   refine ih C _ _ (by omega) hc10 x1 hk (R::Y) (by simp;omega) g1 ?_ ?_ ?_
   ·simp[go_sem]
   ·simp[go_sem,w5,w6]
   ·simp[go_sem,w7]
theorem reps_zero:∀k,reps [AV.int .i64 0] k=i64s (List.replicate k 0)
 | 0=>rfl
 | k+1=>by
   rw[List.replicate_succ]
   simp[reps,reps_zero k,i64s]
theorem times_tells (H:B.H_chaseref01_times T) (hwf:st.Wf) {nn off:Nat} {cp:Cap} {l:List Nat} (hk:l.length≤1000000) (hd:∀d∈l,d<10) (hr:Rd st.h (.slice nn off l.length cp) 1 l.length (i64s l)):
  CRes (call T (.fn 103 [] []) [.slice nn off l.length cp] st) fun v s'=>Ext st s'∧∃n c,v= .slice n 0 (l.length+6) c∧Rd s'.h v 1 (l.length+6) (i64s (timesS l)):=by
 refine call_res H.e H.f rfl ?_
 have w1:IntKind.i64.wrap ((l.length:Int)+6)=((l.length+6:Nat):Int):=by rw[wrap64' (by omega) (by omega)];omega
 have w2:IntKind.i64.wrap ((l.length:Int) - 1)=(l.length:Int) - 1:=wrap64' (by omega) (by omega)
 have xn:=Ext.new hwf (.cells 3 false (i64s (List.replicate (6+l.length) 0)))
 have hg:hget ((st.nx,AObj.cells 3 false (i64s (List.replicate (6+l.length) 0)))::st.h) st.nx=some (.cells 3 false (i64s (List.replicate (6+l.length) 0++(mul1 (l.drop l.length)).1))):=by simp[hget_cons,mul1]
 have hrn:=hr.ext xn hwf
 have hsv:∀m∈(AV.slice nn off l.length cp).nms,m≠st.nx:=fun m hm h=>by have:=hr.lt hwf m hm;omega
 have lp:=fun e a b c d=>times_l0 (T:=T) hk hd st (Nat.le_refl _) hsv l.length e _ (Nat.le_refl _) xn hrn hg a b c d
 have hmz:mul1 (l.drop l.length)=([],0):=by simp[mul1]
 rw[hmz]at lp
 have hml:=mul1_len l
 have hmb:=mul1_lt l hd
 have hq8:((l.length:Int)+6)*8≤140737488355328:=by omega
 have hq9:(l.length:Int)+6≤140737488355328:=by omega
 have hts:timesS l=pad 6 (mul1 l).2++(mul1 l).1:=rfl
 rw[hts]
 generalize mul1 l=M at lp hml hmb⊢
 obtain⟨q,hq⟩:∃q,q=l.length+6:=⟨_,rfl⟩
 have hq':(q:Int)=(l.length:Int)+6:=by omega
 rw[show 6+l.length=q by omega]at lp
 rw[←hq]at w1 lp⊢
 have hq8:(q:Int)*8≤140737488355328:=by omega
 have hq9:(q:Int)≤140737488355328:=by omega
 simp[B.chaseref01_times,go_sem,NO.run,w1,w2,hq8,hq9,reps_zero]
 refine(lp _ (by simp[go_sem]) (by simp[go_sem]) (by simp[go_sem]) (by simp[go_sem])).mono ?_
 rintro x e s1 ⟨rfl,x1,g1,k3,k4⟩
 simp[go_sem,k3,k4]
 refine(times_l1 (T:=T) (X:=M.1) (k:=l.length) st (Nat.le_refl _) 6 M.2 _ s1 (by omega) (by omega) x1 (by omega) M.1 (by omega) g1 (by simp[go_sem,hq]) (by simp[go_sem]) (by simp[go_sem])).mono ?_
 rintro x e2 s2 ⟨rfl,x2,g2,j3⟩
 simp[go_sem,j3]
 have g3:=hget_dropLoc_keep (c:=st.nx) x2.wf g2 rfl
 refine⟨x2.dropLoc,by omega,.inr ⟨_,_,_,by rw[←hq],rd_all g3 ?_⟩⟩
 rw[i64s_len,List.length_append,pad_len]
 omega
theorem tdm2 (a:Int):(0≤a∧a.tdiv 2=a / 2∧a.tmod 2=a % 2)∨(a<0∧a.tdiv 2= -((-a) / 2)∧a.tmod 2= -((-a) % 2)):=by
 by_cases h:0≤a
 ·exact .inl ⟨h,Int.tdiv_eq_ediv_of_nonneg h,Int.tmod_eq_emod_of_nonneg h⟩
 ·refine .inr ⟨by omega,?_,?_⟩
  ·have:=Int.neg_tdiv (-a) 2
   rw[Int.neg_neg]at this
   rw[this,Int.tdiv_eq_ediv_of_nonneg (by omega)]
  ·have:=Int.neg_tmod (-a) 2
   rw[Int.neg_neg]at this
   rw[this,Int.tmod_eq_emod_of_nonneg (by omega)]
theorem floor_tells (H:B.H_chaseref01_Floor T) (hwf:st.Wf) {a:Int} (h0: -1000000000000000≤a) (h1:a≤1000000000000000):Tells T st (.fn 104 [] []) [.int .i64 a,.int .i64 2] (.int .i64 (a / 2)):=by
 refine tells_of H.e H.f rfl ?_
 have ht:=tdm2 a
 have w1:IntKind.i64.wrap (a.tdiv 2)=a.tdiv 2:=wrap64' (by omega) (by omega)
 have w2:IntKind.i64.wrap (a.tdiv 2 - 1)=a.tdiv 2 - 1:=wrap64' (by omega) (by omega)
 by_cases h:a.tmod 2<0
 ·have hq:a / 2=a.tdiv 2 - 1:=by omega
  simp[B.chaseref01_Floor,go_sem,h,w1,w2,hq,Ext.refl hwf]
 ·have hq:a / 2=a.tdiv 2:=by omega
  simp[B.chaseref01_Floor,go_sem,h,w1,hq,Ext.refl hwf]
theorem is105_tells (H:B.H_chaseref01_Is T) (hwf:st.Wf) {n:Int}:Tells T st (.fn 105 [] []) [.int .i64 n] (.bool (decide (-2147483648≤n) && decide (n≤2147483648))):=by
 refine tells_of H.e H.f rfl ?_
 by_cases h: -2147483648≤n
 ·simp[B.chaseref01_Is,go_sem,h,Ext.refl hwf]
 ·simp[B.chaseref01_Is,go_sem,h,Ext.refl hwf]
end Go.Ev

/- The reference's Parse told. -/
namespace Go.Ev
open Go
variable {T : Tab} {st : St}
def accD:Nat→List Nat→Nat→Bool→Nat×Bool
 | _,[],N,r=>(N,r)
 | 0,d::l,N,r=>accD 0 l N (r || decide (d≠0))
 | k+1,d::l,N,r=>accD k l (min (10*N+d) 1099511627776) r
theorem accD_step {k:Nat} {l l2:List Nat} {d N:Nat} {r:Bool} (h:l=d::l2):accD k l N r=if 0<k then accD (k - 1) l2 (min (10*N+d) 1099511627776) r else accD 0 l2 N (r || decide (d≠0)):=by
 subst h
 cases k with
 | zero=>simp[accD]
 | succ k=>simp[accD]
theorem minw {N d:Nat} (hN:N≤1099511627776) (hd:d<10):IntKind.i64.wrap (10*(N:Int))=10*N∧IntKind.i64.wrap (10*(N:Int)+d)=10*N+d∧(if(1099511627776:Int)<10*(N:Int)+d then 1099511627776 else 10*(N:Int)+d)=((min (10*N+d) 1099511627776:Nat):Int):=by
 refine⟨wrap64' (by omega) (by omega),wrap64' (by omega) (by omega),?_⟩
 split <;> omega
theorem lenw {L i E:Nat} {ex:Int} (hE:E=ex.toNat) (h1: -100000≤ex) (h2:ex≤100000) (hL:L≤100000) (hi:i≤200000):(if ex<0 then 0 else ex)=(E:Int)∧IntKind.i64.wrap ((L:Int)+(E:Int))=((L+E:Nat):Int)∧IntKind.i64.wrap ((L:Int)+ex)=L+ex∧IntKind.i64.wrap ((i:Int)+1)=((i+1:Nat):Int)∧((i:Int)<(L:Int)+ex↔0<((L:Int)+ex).toNat - i)∧E≤100000:=by
 refine⟨?_,?_,wrap64' (by omega) (by omega),wrap64' (by omega) (by omega),by omega,by omega⟩
 ·split <;> omega
 ·rw[wrap64' (by omega) (by omega)];omega
theorem parseR_l0 {t:List Nat} {nn E:Nat} {cp:Cap} {ex:Int} {L:Nat} (hE:E=ex.toNat) (hL:L=t.length) (hLb:L≤100000) (h1: -100000≤ex) (h2:ex≤100000) (ht:∀d∈t,d<10) (hr:Rd st.h (.slice nn 0 L cp) 1 L (i64s t)) (sg:Int) {C:Nat} (hC:C=((L:Int)+ex).toNat):
  ∀(m i N:Nat) (r:Bool) (e:Env),i+m=L+E→N≤1099511627776→eget e 4= .int .i64 sg→eget e 6= .int .i64 ex→eget e 8= .slice nn 0 L cp→eget e 9= .int .i64 N→eget e 10= .bool r→eget e 11= .int .i64 i→
  Res (run T (.loop B.chaseref01_Parse_l0) e st) fun x e' s'=>x= .exit 0∧s'=st∧eget e' 4= .int .i64 sg∧eget e' 9= .int .i64 ((accD (C - i) ((t++List.replicate E 0).drop i) N r).1:Nat)∧eget e' 10= .bool (accD (C - i) ((t++List.replicate E 0).drop i) N r).2:=by
 intro m
 induction m with
 | zero=>
   intro i N r e hi hN g4 g6 g8 g9 g10 g11
   have hEb:E≤100000:=by omega
   obtain⟨q1,q2,q3,q4,q5,q6⟩:=lenw (i:=i) hE h1 h2 hLb (by omega)
   have hd:(t++List.replicate E 0).drop i=[]:=List.drop_eq_nil_iff.2 (by simp;omega)
   rw[hd]
   obtain⟨W,hW⟩:∃W,W=L+E:=⟨_,rfl⟩
   rw[←hW]at q2
   have hni:¬(i:Int)<(W:Int):=by omega
   have hni':¬i<W:=by omega
   rw[run_loop]
   simp[B.chaseref01_Parse_l0,go_sem,g4,g6,g8,g9,g10,g11,q1,q2,hni,hni',accD]
 | succ m ih=>
   intro i N r e hi hN g4 g6 g8 g9 g10 g11
   have hEb:E≤100000:=by omega
   obtain⟨q1,q2,q3,q4,q5,q6⟩:=lenw (i:=i) hE h1 h2 hLb (by omega)
   rw[←hC]at q5
   have hlt:i<(t++List.replicate E 0).length:=by simp;omega
   obtain⟨d,hdi,hdr⟩:∃d,(t++List.replicate E 0)[i]? =some d∧(t++List.replicate E 0).drop i=d::(t++List.replicate E 0).drop (i+1):=⟨_,List.getElem?_eq_getElem hlt,List.drop_eq_getElem_cons hlt⟩
   have hd10:d<10:=by
    rcases List.mem_append.1 (List.mem_of_getElem? hdi)with h | h
    ·exact ht d h
    ·have:=List.eq_of_mem_replicate h;omega
   obtain⟨p1,p2,p3⟩:=minw hN hd10
   rw[accD_step hdr]
   obtain⟨W,hW⟩:∃W,W=L+E:=⟨_,rfl⟩
   rw[←hW]at q2
   have hni:(i:Int)<(W:Int):=by omega
   have next:∀(N':Nat) (r':Bool) (e':Env),N'≤1099511627776→(if 0<C - i then accD (C - i - 1) ((t++List.replicate E 0).drop (i+1)) (min (10*N+d) 1099511627776) r else accD 0 ((t++List.replicate E 0).drop (i+1)) N (r || decide (d≠0)))=accD (C - (i+1)) ((t++List.replicate E 0).drop (i+1)) N' r'→eget e' 4= .int .i64 sg→eget e' 6= .int .i64 ex→eget e' 8= .slice nn 0 L cp→eget e' 9= .int .i64 N'→eget e' 10= .bool r'→eget e' 11= .int .i64 ((i+1:Nat):Int)→
     Res (run T (.loop B.chaseref01_Parse_l0) e' st) fun x e' s'=>x= .exit 0∧s'=st∧eget e' 4= .int .i64 sg∧eget e' 9= .int .i64 ((if 0<C - i then accD (C - i - 1) ((t++List.replicate E 0).drop (i+1)) (min (10*N+d) 1099511627776) r else accD 0 ((t++List.replicate E 0).drop (i+1)) N (r || decide (d≠0))).1:Nat)∧eget e' 10= .bool (if 0<C - i then accD (C - i - 1) ((t++List.replicate E 0).drop (i+1)) (min (10*N+d) 1099511627776) r else accD 0 ((t++List.replicate E 0).drop (i+1)) N (r || decide (d≠0))).2:=by
    intro N' r' e' hN' he k4 k6 k8 k9 k10 k11
    rw[he]
    exact ih (i+1) N' r' e' (by omega) hN' k4 k6 k8 k9 k10 k11
   generalize hGD:(if 0<C - i then accD (C - i - 1) ((t++List.replicate E 0).drop (i+1)) (min (10*N+d) 1099511627776) r else accD 0 ((t++List.replicate E 0).drop (i+1)) N (r || decide (d≠0)))=G at next⊢
   rw[run_loop]
   by_cases hil:i<L
   ·have hil':(i:Int)<(L:Int):=by omega
    have hrr:rdCell st.h nn i=some (.int .i64 (d:Int)):=by
     rcases hr with ⟨h,_⟩ | ⟨n2,off,cp2,h,h2'⟩
     ·cases h
     ·injection h with a1 a2 a3 a4
      subst a1;subst a2
      have:=rdCells_get (i:=i) h2' (by omega)
      rw[Nat.zero_add]at this
      rw[this]
      rw[List.getElem?_append_left (by omega)]at hdi
      simp[i64s,hdi]
    by_cases hik:(i:Int)<(L:Int)+ex
    ·have hk0:=q5.1 hik
     obtain⟨M,hM⟩:∃M,M=min (10*N+d) 1099511627776:=⟨_,rfl⟩
     rw[←hM]at p3
     have hG:G=accD (C - (i+1)) ((t++List.replicate E 0).drop (i+1)) M r:=by rw[←hGD,if_pos hk0,←hM,Nat.sub_sub]
     simp[B.chaseref01_Parse_l0,go_sem,g4,g6,g8,g9,g10,g11,q1,q2,q3,hni,hil,hil',RO.run,hrr,hik,p1,p2,p3]
     exact next M r _ (by omega) hG (by simp[go_sem]) (by simp[go_sem]) (by simp[go_sem]) (by simp[go_sem]) (by simp[go_sem]) (by simp[go_sem,q4])
    ·have hk0:¬0<C - i:=fun h=>hik (q5.2 h)
     have hG:G=accD (C - (i+1)) ((t++List.replicate E 0).drop (i+1)) N (r || decide (d≠0)):=by rw[←hGD,if_neg hk0,show C - (i+1)=0 by omega]
     have hik':¬(i:Int)<(L:Int)+ex:=hik
     cases r with
     | true=>
       simp[B.chaseref01_Parse_l0,go_sem,g4,g6,g8,g9,g10,g11,q1,q2,q3,hni,hil,hil',RO.run,hrr,hik']
       exact next N true _ hN (by simpa using hG) (by simp[go_sem]) (by simp[go_sem]) (by simp[go_sem]) (by simp[go_sem]) (by simp[go_sem]) (by simp[go_sem,q4])
     | false=>
       simp[B.chaseref01_Parse_l0,go_sem,g4,g6,g8,g9,g10,g11,q1,q2,q3,hni,hil,hil',RO.run,hrr,hik']
       exact next N (decide (d≠0)) _ hN (by simpa using hG) (by simp[go_sem]) (by simp[go_sem]) (by simp[go_sem]) (by simp[go_sem]) (by simp[go_sem]) (by simp[go_sem,q4])
   ·have hil':¬(i:Int)<(L:Int):=by omega
    have hd0:d=0:=by
     rw[List.getElem?_append_right (by omega),List.getElem?_replicate]at hdi
     split at hdi
     ·exact(Option.some.inj hdi).symm
     ·cases hdi
    subst hd0
    by_cases hik:(i:Int)<(L:Int)+ex
    ·have hk0:=q5.1 hik
     obtain⟨M,hM⟩:∃M,M=min (10*N+0) 1099511627776:=⟨_,rfl⟩
     have p3':(if(1099511627776:Int)<10*(N:Int)then 1099511627776 else 10*(N:Int))=(M:Int):=by rw[hM];split <;> omega
     have hG:G=accD (C - (i+1)) ((t++List.replicate E 0).drop (i+1)) M r:=by rw[←hGD,if_pos hk0,←hM,Nat.sub_sub]
     simp[B.chaseref01_Parse_l0,go_sem,g4,g6,g8,g9,g10,g11,q1,q2,q3,hni,hil,hil',hik,p1,p3']
     exact next M r _ (by omega) hG (by simp[go_sem]) (by simp[go_sem]) (by simp[go_sem]) (by simp[go_sem]) (by simp[go_sem]) (by simp[go_sem,q4])
    ·have hk0:¬0<C - i:=fun h=>hik (q5.2 h)
     have hG:G=accD (C - (i+1)) ((t++List.replicate E 0).drop (i+1)) N r:=by rw[←hGD,if_neg hk0,show C - (i+1)=0 by omega];simp
     have hik':¬(i:Int)<(L:Int)+ex:=hik
     cases r with
     | true=>
       simp[B.chaseref01_Parse_l0,go_sem,g4,g6,g8,g9,g10,g11,q1,q2,q3,hni,hil,hil',hik']
       exact next N true _ hN hG (by simp[go_sem]) (by simp[go_sem]) (by simp[go_sem]) (by simp[go_sem]) (by simp[go_sem]) (by simp[go_sem,q4])
     | false=>
       simp[B.chaseref01_Parse_l0,go_sem,g4,g6,g8,g9,g10,g11,q1,q2,q3,hni,hil,hil',hik']
       exact next N false _ hN hG (by simp[go_sem]) (by simp[go_sem]) (by simp[go_sem]) (by simp[go_sem]) (by simp[go_sem]) (by simp[go_sem,q4])
theorem mant_dig:∀(pt:Bool) (r:List UInt8),∀d∈(mant pt r).1,d<10
 | _,[],d,h=>by simp[mant]at h
 | pt,c::r,d,h=>by
   simp only[mant]at h
   split at h
   ·rename_i hc
    have hc2:48≤c.toNat∧c.toNat≤57:=by simpa [isDig] using hc
    rcases List.mem_cons.1 h with rfl | h
    ·omega
    ·exact mant_dig pt r d h
   ·split at h
    ·exact mant_dig true r d h
    ·simp at h
theorem readR_facts {s:List UInt8} {neg:Bool} {l:List Nat} {ex:Int} (h:readR s=some (neg,l,ex)):l≠[]∧(∀d∈l,d<10)∧l.length≤s.length∧-(s.length:Int) - 1000≤ex∧ex≤1000:=by
 have hz:=sgn_drop s
 have hml:=mant_len false (sgn s).2
 have hmd:=mant_dig false (sgn s).2
 unfold readR at h
 simp only at h
 split at h
 ·cases h
 ·rename_i hne
  split at h
  ·simp only[Option.some.injEq,Prod.mk.injEq]at h
   obtain⟨_,rfl,rfl⟩:=h
   exact⟨hne,hmd,by omega,by omega,by omega⟩
  ·rename_i c t _
   split at h
   ·cases h
   ·split at h
    ·cases h
    ·rename_i hlen
     split at h
     ·have hnb:numD (spanD (sgn t).2).1<1000:=by
       have hlu:=spanD_len (sgn t).2
       refine Nat.lt_of_lt_of_le (numD_lt (fun d hd=>spanD_lt _ d hd)) ?_
       exact Nat.le_trans (Nat.pow_le_pow_right (by omega) (show _≤3 by omega)) (by omega)
      simp only[Option.some.injEq,Prod.mk.injEq]at h
      obtain⟨_,rfl,rfl⟩:=h
      refine⟨hne,hmd,by omega,?_,?_⟩ <;> split <;> omega
     ·cases h
def roundR (neg:Bool) (l:List Nat) (ex:Int):Int:=
 let a:=accD (((l.length+6:Nat):Int)+ex).toNat (timesS l++List.replicate ex.toNat 0) 0 false
 let up:Int:=if neg=true then(if a.2=true then -(a.1:Int) - 1 else -(a.1:Int))else(a.1:Int)
 (up+1) / 2
def parseR (s:List UInt8):Int×Int:=
 if 40<s.length then(0,3)
 else match readR s with
  | none=>(0,5)
  | some (neg,l,ex)=>if -2147483648≤roundR neg l ex∧roundR neg l ex≤2147483648 then(roundR neg l ex,0)else(0,6)
theorem accD_le:∀(l:List Nat) (k N:Nat) (r:Bool),N≤1099511627776→(accD k l N r).1≤1099511627776
 | [],_,_,_,h=>by simpa [accD] using h
 | d::l,0,N,r,h=>by simp only[accD];exact accD_le l 0 N _ h
 | d::l,k+1,N,r,h=>by simp only[accD];exact accD_le l k _ r (Nat.min_le_right _ _)
theorem parseR_tells (H:B.H_chaseref01_Parse T) (hwf:st.Wf) {s:List UInt8} (hs:s.length<1000000000000):Tells T st (.fn 81 [] []) [.str s] (.tuple [.int .i64 (parseR s).1,.int .i64 (parseR s).2]):=by
 refine tells_of H.e H.f rfl ?_
 by_cases h40:40<s.length
 ·have h40':(40:Int)<s.length:=by omega
  simp[B.chaseref01_Parse,go_sem,h40,h40',parseR,Ext.refl hwf]
 have h40':¬(40:Int)<s.length:=by omega
 simp[B.chaseref01_Parse,go_sem,h40,h40']
 refine(read_tells H.chaseref01_Read hwf hs).mono ?_
 rintro v1 s1 ⟨x1,hU⟩
 cases hr:readR s with
 | none=>
   rw[hr]at hU
   subst hU
   simp[go_sem,parseR,h40,hr,x1]
 | some p=>
   obtain⟨neg,l,ex⟩:=p
   rw[hr]at hU
   obtain⟨sv,rfl,hsl⟩:=hU
   obtain⟨f1,f2,f3,f4,f5⟩:=readR_facts hr
   have hps:parseR s=if -2147483648≤roundR neg l ex∧roundR neg l ex≤2147483648 then(roundR neg l ex,0)else(0,6):=by simp only[parseR,if_neg h40,hr]
   rw[hps]
   have hlen:l.length≠0:=fun h=>f1 (List.length_eq_zero_iff.1 h)
   rcases hsl.cases with ⟨_,_,h3⟩ | ⟨n,cp,rfl⟩
   ·omega
   have hrd:Rd s1.h (.slice n 0 l.length cp) 1 l.length (i64s l):=hsl.rd
   simp[go_sem]
   refine(times_tells H.chaseref01_times x1.wf (by omega) f2 hrd).mono ?_
   rintro v2 s2 ⟨x2',n2,c2,rfl,hr2⟩
   have x2:=x1.trans x2'
   have htl:(timesS l).length=l.length+6:=by simp[timesS,pad_len,mul1_len];omega
   have htd:∀d∈timesS l,d<10:=fun d hd=>by
    rcases List.mem_append.1 hd with h | h
    ·exact pad_dig _ _ d h
    ·exact mul1_dig _ d h
   have lp:=fun e a b c d f g=>parseR_l0 (T:=T) (st:=s2) (E:=ex.toNat) (L:=l.length+6) rfl htl.symm (by omega) (by omega) (by omega) htd hr2 (sgnI neg) rfl (l.length+6+ex.toNat) 0 0 false e (by omega) (by omega) a b c d f g
   simp only[List.drop_zero,Nat.sub_zero]at lp
   have hal:=accD_le (timesS l++List.replicate ex.toNat 0) (((l.length+6:Nat):Int)+ex).toNat 0 false (by omega)
   have hrr:roundR neg l ex=((if neg=true then(if(accD (((l.length+6:Nat):Int)+ex).toNat (timesS l++List.replicate ex.toNat 0) 0 false).2=true then -((accD (((l.length+6:Nat):Int)+ex).toNat (timesS l++List.replicate ex.toNat 0) 0 false).1:Int) - 1 else -((accD (((l.length+6:Nat):Int)+ex).toNat (timesS l++List.replicate ex.toNat 0) 0 false).1:Int))else((accD (((l.length+6:Nat):Int)+ex).toNat (timesS l++List.replicate ex.toNat 0) 0 false).1:Int))+1) / 2:=rfl
   rw[hrr]
   generalize accD (((l.length+6:Nat):Int)+ex).toNat (timesS l++List.replicate ex.toNat 0) 0 false=A at lp hal hrr⊢
   simp[go_sem]
   refine(lp _ (by simp[go_sem]) (by simp[go_sem]) (by simp[go_sem]) (by simp[go_sem]) (by simp[go_sem]) (by simp[go_sem])).mono ?_
   rintro x e s3 ⟨rfl,hs3,k4,k9,k10⟩
   subst hs3
   clear lp hrr hps hrd hr2
   obtain⟨N,r⟩:=A
   simp only at hal k9 k10⊢
   have w0:IntKind.i64.wrap (-(N:Int))= -(N:Int):=wrap64' (by omega) (by omega)
   have w1:IntKind.i64.wrap (-(N:Int) - 1)= -(N:Int) - 1:=wrap64' (by omega) (by omega)
   have w2:IntKind.i64.wrap ((N:Int)+1)=(N:Int)+1:=wrap64' (by omega) (by omega)
   have w3:IntKind.i64.wrap (-(N:Int)+1)= -(N:Int)+1:=wrap64' (by omega) (by omega)
   cases neg with
   | false=>
     simp[go_sem,sgnI,k4,k9,k10,w2]
     refine(floor_tells H.chaseref01_Floor x2.wf (a:=(N:Int)+1) (by omega) (by omega)).use fun s4 x4'=> ?_
     have x4:=x2.trans x4'
     simp[go_sem]
     refine(is105_tells H.chaseref01_Is x4.wf (n:=((N:Int)+1) / 2)).use fun s5 x5'=> ?_
     have x5:=x4.trans x5'
     by_cases hin: -2147483648≤((N:Int)+1) / 2∧((N:Int)+1) / 2≤2147483648
     ·simp[go_sem,hin,x5]
     ·have hb:(decide (-2147483648≤((N:Int)+1) / 2) && decide (((N:Int)+1) / 2≤2147483648))=false:=by simpa using hin
      simp[go_sem,hb,hin,x5]
   | true=>
     cases r with
     | false=>
       simp[go_sem,sgnI,k4,k9,k10,w0,w3]
       refine(floor_tells H.chaseref01_Floor x2.wf (a:= -(N:Int)+1) (by omega) (by omega)).use fun s4 x4'=> ?_
       have x4:=x2.trans x4'
       simp[go_sem]
       refine(is105_tells H.chaseref01_Is x4.wf (n:=(-(N:Int)+1) / 2)).use fun s5 x5'=> ?_
       have x5:=x4.trans x5'
       by_cases hin: -2147483648≤(-(N:Int)+1) / 2∧(-(N:Int)+1) / 2≤2147483648
       ·simp[go_sem,hin,x5]
       ·have hb:(decide (-2147483648≤(-(N:Int)+1) / 2) && decide ((-(N:Int)+1) / 2≤2147483648))=false:=by simpa using hin
        simp[go_sem,hb,hin,x5]
     | true=>
       simp[go_sem,sgnI,k4,k9,k10,w0,w1]
       refine(floor_tells H.chaseref01_Floor x2.wf (a:= -(N:Int)) (by omega) (by omega)).use fun s4 x4'=> ?_
       have x4:=x2.trans x4'
       simp[go_sem]
       refine(is105_tells H.chaseref01_Is x4.wf (n:=(-(N:Int)) / 2)).use fun s5 x5'=> ?_
       have x5:=x4.trans x5'
       by_cases hin: -2147483648≤(-(N:Int)) / 2∧(-(N:Int)) / 2≤2147483648
       ·simp[go_sem,hin,x5]
       ·have hb:(decide (-2147483648≤(-(N:Int)) / 2) && decide ((-(N:Int)) / 2≤2147483648))=false:=by simpa using hin
        simp[go_sem,hb,hin,x5]
end Go.Ev

/- The reference's Number. -/
namespace Go.Ev
open Go
variable {T : Tab} {st : St}
def tryR (s:List UInt8) (i:Nat):Option Int:=
 if s[i]? =some 35∧2≤cntR 10 (s.take i)∧cntR 10 (s.take i)≤36∧0≤cntR (cntR 10 (s.take i)) (s.drop (i+1))then some (cntR (cntR 10 (s.take i)) (s.drop (i+1)))else none
def numR (s:List UInt8):Tk:=
 if 0≤cntR 10 (unsign s).1 then ansT ((unsign s).2*cntR 10 (unsign s).1) s.length
 else match tryR s 1 with
  | some n=>ansT n s.length
  | none=>match tryR s 2 with
    | some n=>ansT n s.length
    | none=>match readR s with
      | none=>(0,0,5)
      | some _=>if(parseR s).2≠0 then(0,0,26)else(2,(parseR s).1,0)
theorem cntFrom_le (M:Nat) (base:Int):∀(s:List UInt8) (n:Nat),n≤M→∀v,cntFrom M base n s=some v→v≤M
 | [],n,h,v,hv=>by simp[cntFrom]at hv;omega
 | c::s,n,h,v,hv=>by
   simp only[cntFrom]at hv
   split at hv
   ·cases hv
   ·exact cntFrom_le M base s _ (Nat.min_le_right _ _) v hv
theorem cntR_le (base:Int) (s:List UInt8): -1≤cntR base s∧cntR base s≤8589934592:=by
 unfold cntR
 split
 ·omega
 ·split
  ·rename_i n h
   have:=cntFrom_le 8589934592 base s 0 (by omega) n h
   omega
  ·omega
theorem numR_step (H:B.H_chaseref03_Number T) {s:List UInt8} {m:Nat} (hs:s.length<1000000000000) {st0:St} (hn:st0.nx≤m) {i:Nat} (hi:i=1∨i=2) (hil:i<s.length) (hx:Ext st0 st) (hg:hget st.h m=some (.cells 134 true [.int .i64 0,.int .i64 0,.str []])) {e:Env} (g0:eget e 0= .str s) (g2:eget e 2= .ptr m 0) (g7:eget e 7= .int .i64 i) {Q:Ex→Env→St→Prop}
  (hsome:∀n e' s',tryR s i=some n→Ext st0 s'→hget s'.h m=some (.cells 134 true [.int .i64 (ansT n s.length).1,.int .i64 (ansT n s.length).2.1,.str []])→eget e' 2= .ptr m 0→eget e' 3= .int .i64 (ansT n s.length).2.2→Q .ret e' s')
  (hnone:∀e' s',tryR s i=none→Ext st0 s'→hget s'.h m=some (.cells 134 true [.int .i64 0,.int .i64 0,.str []])→eget e' 0= .str s→eget e' 2= .ptr m 0→eget e' 7= .int .i64 ((i+1:Nat):Int)→Res (run T (.loop B.chaseref03_Number_l0) e' s') Q):
  Res (run T (.loop B.chaseref03_Number_l0) e st) Q:=by
 have hi2:(i:Int)≤2:=by omega
 have hil':(i:Int)<s.length:=by omega
 obtain⟨c,hc,hd⟩:=idx_some hil
 have e7:IntKind.i64.wrap ((i:Int)+1)=((i+1:Nat):Int):=wrap64' (by omega) (by omega)
 have hsub:asubS s none (some (.int .i64 (i:Int)))=some (.str (s.take i)):=by rw[asubS_to (by omega) (by omega)];simp
 have hsub2:asubS s (some (.int .i64 ((i+1:Nat):Int))) none=some (.str (s.drop (i+1))):=by rw[asubS_from (by omega) (by omega)];simp
 obtain⟨b,hb⟩:∃b,b=cntR 10 (s.take i):=⟨_,rfl⟩
 have hbl:=cntR_le 10 (s.take i)
 rw[←hb]at hbl
 rw[run_loop]
 simp[B.chaseref03_Number_l0,go_sem,g0,g2,g7,hi2,hil',hsub]
 refine(refcount_tells H.chaseref03_count hx.wf (s:=s.take i) (by rw[List.length_take];omega) (base:=10) (by omega) (by omega)).use fun s1 x1'=> ?_
 have x1:=hx.trans x1'
 have g1:=x1'.get hx.wf hg
 rw[←hb]
 obtain⟨i2,hi3⟩:∃i2,i2=i+1:=⟨_,rfl⟩
 rw[←hi3]at e7 hsub2 hnone
 have hi4:(i2:Int)≤s.length:=by omega
 by_cases h35:c=35
 ·subst h35
  by_cases hb2:2≤b
  ·by_cases hb36:b≤36
   ·have hcnt:=fun(st':St) (hw:st'.Wf)=>refcount_tells (st:=st') H.chaseref03_count hw (s:=s.drop i2) (by rw[List.length_drop];omega) (base:=b) (by omega) hb36
    have htry:tryR s i=if 0≤cntR b (s.drop i2)then some (cntR b (s.drop i2))else none:=by
     simp only[tryR,←hb,←hi3,hc]
     by_cases h:0≤cntR b (s.drop i2) <;> simp[h,hb2,hb36]
    obtain⟨n,hn'⟩:∃n,n=cntR b (s.drop i2):=⟨_,rfl⟩
    rw[←hn']at htry hcnt
    simp[go_sem,hc,hb2,hb36,e7,hsub2]
    refine(hcnt _ x1.wf).use fun s2 x2'=> ?_
    have x2:=x1.trans x2'
    have g2':=x2'.get x1.wf g1
    by_cases hn0:0≤n
    ·rw[if_pos hn0]at htry
     simp[go_sem,hn0,hc,e7,hsub2]
     refine(hcnt _ x2.wf).use fun s3 x3'=> ?_
     have x3:=x2.trans x3'
     have g3':=x3'.get x2.wf g2'
     simp[go_sem]
     refine(refWhole_tells H.chaseref03_whole x3.wf (k:=s.length) (n:=n)).use fun s4 x4'=> ?_
     have x4:=x3.trans x4'
     have g4':=x4'.get x3.wf g3'
     rw[ansS_eq]
     obtain⟨t,ht⟩:∃t,t=ansT n s.length:=⟨_,rfl⟩
     have hso:=fun e' s'=>hsome n e' s' htry
     rw[←ht]at hso⊢
     have f5:=Frm.set x4.wf g4' (o:= .cells 134 true [.int .i64 t.1,.int .i64 t.2.1,.str []])
     simp[go_sem,toA,tokA,tokC,WO.run,tok_wr g4']
     exact hso _ _ (x4.frm f5 (by simpa using hn)) (hget_hset_self g4') (by simp[go_sem]) (by simp[go_sem])
    ·rw[if_neg hn0]at htry
     simp[go_sem,hn0,e7]
     exact hnone _ _ htry x2 g2' (by simp[go_sem]) (by simp[go_sem]) (by simp[go_sem,e7])
   ·have htry:tryR s i=none:=by simp[tryR,←hb,hb36]
    simp[go_sem,hc,hb2,hb36,e7]
    exact hnone _ _ htry x1 g1 (by simp[go_sem]) (by simp[go_sem]) (by simp[go_sem,e7])
  ·have htry:tryR s i=none:=by simp[tryR,←hb,hb2]
   simp[go_sem,hc,hb2,e7]
   exact hnone _ _ htry x1 g1 (by simp[go_sem]) (by simp[go_sem]) (by simp[go_sem,e7])
 ·have n1:¬(c.toNat:Int)=35:=u8_ne h35 rfl
  have m1:¬c.toNat=35:=by omega
  have htry:tryR s i=none:=by simp[tryR,hc,h35]
  simp[go_sem,hc,n1,m1,e7]
  exact hnone _ _ htry x1 g1 (by simp[go_sem]) (by simp[go_sem]) (by simp[go_sem,e7])
def nb:Nat→MCode
 | 0=>B.chaseref03_Number.body
 | k+1=>(nb k).b
theorem unsign_cases (s:List UInt8):unsign s=match s with
  | []=>([],1)
  | c::r=>if c=45 then(r, -1)else if c=43 then(r,1)else(c::r,1):=by
 cases s with
 | nil=>rfl
 | cons c r=>
   by_cases h:c=45
   ·subst h;rfl
   ·by_cases h':c=43
    ·subst h';rfl
    ·simp only[if_neg h,if_neg h']
     unfold unsign
     split
     ·rename_i heq;injection heq with a;exact absurd a h
     ·rename_i heq;injection heq with a;exact absurd a h'
     ·rfl
theorem number_sign {s:List UInt8} (hs:s.length<1000000000000) {m:Nat} {e:Env} (g0:eget e 0= .str s) (g2:eget e 2= .ptr m 0) (g4:eget e 4= .str s) (g5:eget e 5= .int .i64 1):
  Res (run T (nb 2).a e st) fun x e' s'=>x= .norm∧s'=st∧eget e' 0= .str s∧eget e' 2= .ptr m 0∧eget e' 4= .str (unsign s).1∧eget e' 5= .int .i64 (unsign s).2:=by
 rw[unsign_cases]
 simp only[nb,B.chaseref03_Number,ab_seq]
 cases s with
 | nil=>simp[go_sem,g0,g2,g4,g5,seq8_eq]
 | cons c r=>
   have hsub:asubS (c::r) (some (.int .i64 1)) none=some (.str r):=by rw[asubS_from (by omega) (by simp;omega)];simp
   by_cases h45:c=45
   ·subst h45
    simp[go_sem,g0,g2,g4,g5,seq8_eq,hsub]
   ·by_cases h43:c=43
    ·subst h43
     simp[go_sem,g0,g2,g4,g5,seq8_eq,hsub]
    ·have n1:¬(c.toNat:Int)=45:=u8_ne h45 rfl
     have n2:¬(c.toNat:Int)=43:=u8_ne h43 rfl
     have m1:¬c.toNat=45:=by omega
     have m2:¬c.toNat=43:=by omega
     simp[go_sem,g0,g2,g4,g5,seq8_eq,n1,n2,m1,m2,h45,h43]
theorem unsign_facts (s:List UInt8):(unsign s).1.length≤s.length∧((unsign s).2=1∨(unsign s).2= -1):=by
 rw[unsign_cases]
 cases s with
 | nil=>simp
 | cons c r=>
   simp only
   split
   ·simp
   ·split <;> simp
def NumQ (st:St) (m:Nat) (t:Tk) (x:Ex) (e':Env) (s':St):Prop:=
 x= .ret∧Ext st s'∧hget s'.h m=some (.cells 134 true [.int .i64 t.1,.int .i64 t.2.1,.str []])∧eget e' 2= .ptr m 0∧eget e' 3= .int .i64 t.2.2
theorem numR_dec (H:B.H_chaseref03_Number T) {s:List UInt8} {m:Nat} (hs:s.length<1000000000000) {st0:St} (hn:st0.nx≤m) (hx:Ext st0 st) (hg:hget st.h m=some (.cells 134 true [.int .i64 0,.int .i64 0,.str []])) {e:Env} (g0:eget e 0= .str s) (g2:eget e 2= .ptr m 0):
  Res (run T (nb 7) e st) (NumQ st0 m (match readR s with | none=>(0,0,5) | some _=>if(parseR s).2≠0 then(0,0,26)else(2,(parseR s).1,0))):=by
 simp only[nb,B.chaseref03_Number,ab_seq]
 simp[go_sem,g0,g2]
 refine(read_tells H.chaseref01_Read hx.wf hs).mono ?_
 rintro v1 s1 ⟨x1',hU⟩
 have x1:=hx.trans x1'
 have g1:=x1'.get hx.wf hg
 cases hr:readR s with
 | none=>
   rw[hr]at hU
   subst hU
   have f2:=Frm.set x1.wf g1 (o:= .cells 134 true [.int .i64 0,.int .i64 0,.str []])
   simp[go_sem,WO.run,tok_wr g1,NumQ]
   exact⟨x1.frm f2 (by simpa using hn),hget_hset_self g1⟩
 | some p=>
   obtain⟨neg,l,ex⟩:=p
   rw[hr]at hU
   obtain⟨sv,rfl,hsl⟩:=hU
   simp[go_sem]
   refine(parseR_tells H.chaseref01_Parse x1.wf hs).use fun s2 x2'=> ?_
   have x2:=x1.trans x2'
   have g3:=x2'.get x1.wf g1
   generalize parseR s=P
   have f3:=fun a b=>Frm.set x2.wf g3 (o:= .cells 134 true [.int .i64 a,.int .i64 b,.str []])
   by_cases h0:P.2=0
   ·simp[go_sem,h0,WO.run,tok_wr g3,NumQ]
    exact⟨x2.frm (f3 _ _) (by simpa using hn),hget_hset_self g3⟩
   ·simp[go_sem,h0,WO.run,tok_wr g3,NumQ]
    exact⟨x2.frm (f3 _ _) (by simpa using hn),hget_hset_self g3⟩
theorem refNumber_tells (H:B.H_chaseref03_Number T) (hwf:st.Wf) {s:List UInt8} (hs:s.length<1000000000000):Tells T st (.fn 64 [] []) [.str s] (toA (numR s)):=by
 refine tells_of H.e H.f rfl ?_
 have hx:=Ext.new hwf (.cells 134 true [.int .i64 0,.int .i64 0,.str []])
 have hg:hget ((st.nx,AObj.cells 134 true [.int .i64 0,.int .i64 0,.str []])::st.h) st.nx=some (.cells 134 true [.int .i64 0,.int .i64 0,.str []]):=by simp[hget_cons]
 have main:Res (run T (nb 0) (argEnv 0 ([]++[.str s]++[])) st) (NumQ st st.nx (numR s)):=by
  refine cut (c:=nb 0) rfl (by intro l;simp[nb,B.chaseref03_Number,ab_seq]) (fun x e' s'=>x= .norm∧s'=⟨(st.nx,AObj.cells 134 true [.int .i64 0,.int .i64 0,.str []])::st.h,st.nx+1⟩∧eget e' 0= .str s∧eget e' 2= .ptr st.nx 0) ?_ ?_
  ·simp only[nb,B.chaseref03_Number,ab_seq]
   simp[go_sem,NO.run]
  rintro _ e1 s1 ⟨rfl,hst,g0,g2⟩
  rw[kSeq_norm,hst]
  clear hst
  generalize hS:(⟨(st.nx,AObj.cells 134 true [.int .i64 0,.int .i64 0,.str []])::st.h,st.nx+1⟩:St)=sA at hx⊢
  rw[show (st.nx,AObj.cells 134 true [.int .i64 0,.int .i64 0,.str []])::st.h=sA.h by rw[←hS]]at hg
  clear hS
  refine cut (c:=nb 1) rfl (by intro l;simp[nb,B.chaseref03_Number,ab_seq]) (fun x e' s'=>x= .norm∧s'=sA∧eget e' 0= .str s∧eget e' 2= .ptr st.nx 0∧eget e' 4= .str s∧eget e' 5= .int .i64 1) ?_ ?_
  ·simp only[nb,B.chaseref03_Number,ab_seq]
   simp[go_sem,g0,g2]
  rintro _ e2 s2 ⟨rfl,hst,k0,k2,k4,k5⟩
  rw[kSeq_norm,hst]
  clear hst
  refine cut (c:=nb 2) rfl (by intro l;simp[nb,B.chaseref03_Number,ab_seq]) _ (number_sign hs k0 k2 k4 k5) ?_
  rintro _ e3 s3 ⟨rfl,hst,j0,j2,j4,j5⟩
  rw[kSeq_norm,hst]
  clear hst
  show Res (run T (.seq (.keep [0,2,4,5]) (nb 4)) e3 sA) _
  rw[run_keep]
  have h4:eget (keepE [0,2,4,5] e3) 0= .str s∧eget (keepE [0,2,4,5] e3) 2= .ptr st.nx 0∧eget (keepE [0,2,4,5] e3) 4= .str (unsign s).1∧eget (keepE [0,2,4,5] e3) 5= .int .i64 (unsign s).2:=by simp[keepE,eget,j0,j2,j4,j5]
  generalize keepE [0,2,4,5] e3=e4 at h4
  obtain⟨i0,i2,i4,i5⟩:=h4
  obtain⟨u1,u2⟩:=unsign_facts s
  have hcl:=cntR_le 10 (unsign s).1
  have hcnt:=fun(st':St) (hw:st'.Wf)=>refcount_tells (st:=st') H.chaseref03_count hw (s:=(unsign s).1) (by omega) (base:=10) (by omega) (by omega)
  have hnr:numR s=if 0≤cntR 10 (unsign s).1 then ansT ((unsign s).2*cntR 10 (unsign s).1) s.length else match tryR s 1 with
   | some n=>ansT n s.length
   | none=>match tryR s 2 with
     | some n=>ansT n s.length
     | none=>match readR s with
       | none=>(0,0,5)
       | some _=>if(parseR s).2≠0 then(0,0,26)else(2,(parseR s).1,0):=rfl
  rw[hnr]
  generalize cntR 10 (unsign s).1=N at hcl hcnt⊢
  generalize (unsign s).2=sg at i5 u2⊢
  refine cut (c:=nb 4) rfl (by intro l;simp[nb,B.chaseref03_Number,ab_seq]) (fun x e' s'=>(0≤N∧NumQ st st.nx (ansT (sg*N) s.length) x e' s')∨(¬0≤N∧x= .norm∧Ext st s'∧hget s'.h st.nx=some (.cells 134 true [.int .i64 0,.int .i64 0,.str []])∧eget e' 0= .str s∧eget e' 2= .ptr st.nx 0)) ?_ ?_
  ·have w1:IntKind.i64.wrap (sg*N)=sg*N:=by rcases u2 with rfl | rfl <;> exact wrap64' (by omega) (by omega)
   simp only[nb,B.chaseref03_Number,ab_seq]
   simp[go_sem,i0,i2,i4,i5]
   refine(hcnt _ hx.wf).use fun s5 x5'=> ?_
   have x5:=hx.trans x5'
   have g5:=x5'.get hx.wf hg
   by_cases hN:0≤N
   ·simp[go_sem,hN,w1,i0,i2,i5]
    refine(refWhole_tells H.chaseref03_whole x5.wf (k:=s.length) (n:=sg*N)).use fun s6 x6'=> ?_
    have x6:=x5.trans x6'
    have g6:=x6'.get x5.wf g5
    rw[ansS_eq]
    generalize ansT (sg*N) s.length=t
    have f7:=Frm.set x6.wf g6 (o:= .cells 134 true [.int .i64 t.1,.int .i64 t.2.1,.str []])
    simp[go_sem,toA,tokA,tokC,WO.run,tok_wr g6,NumQ,i2]
    exact⟨x6.frm f7 (by simp),hget_hset_self g6⟩
   ·simp[go_sem,hN,x5,g5,i0,i2]
    omega
  rintro x e5 s5 (⟨hN,hq⟩ | ⟨hN,rfl,x5,g5,q0,q2⟩)
  ·rw[if_pos hN]
   have:x= .ret:=hq.1
   subst this
   exact hq
  rw[if_neg hN,kSeq_norm]
  show Res (run T (.seq (.keep [0,2]) (nb 6)) e5 s5) _
  rw[run_keep]
  have h6:eget (keepE [0,2] e5) 0= .str s∧eget (keepE [0,2] e5) 2= .ptr st.nx 0:=by simp[keepE,eget,q0,q2]
  generalize keepE [0,2] e5=e6 at h6
  obtain⟨p0,p2⟩:=h6
  have tn:∀i,s.length≤i→tryR s i=none:=fun i h=>by simp[tryR,List.getElem?_eq_none h]
  refine cut (c:=nb 6) rfl (by intro l;simp[nb,B.chaseref03_Number,ab_seq]) (fun x e' s'=>(∃n,(match tryR s 1 with | some n=>some n | none=>tryR s 2)=some n∧NumQ st st.nx (ansT n s.length) x e' s')∨(tryR s 1=none∧tryR s 2=none∧x= .norm∧Ext st s'∧hget s'.h st.nx=some (.cells 134 true [.int .i64 0,.int .i64 0,.str []])∧eget e' 0= .str s∧eget e' 2= .ptr st.nx 0)) ?_ ?_
  ·have stop:∀(i:Nat) (e':Env) (s':St),(s.length≤i∨i=3)→eget e' 0= .str s→eget e' 2= .ptr st.nx 0→eget e' 7= .int .i64 i→Ext st s'→hget s'.h st.nx=some (.cells 134 true [.int .i64 0,.int .i64 0,.str []])→i≤3→tryR s 1=none→tryR s 2=none→
     Res (run T (.loop B.chaseref03_Number_l0) e' s') fun x e' s'=>(x= .ret∧∃n,(match tryR s 1 with | some n=>some n | none=>tryR s 2)=some n∧NumQ st st.nx (ansT n s.length) .ret e' s')∨(x= .exit 0∧tryR s 1=none∧tryR s 2=none∧Ext st s'∧hget s'.h st.nx=some (.cells 134 true [.int .i64 0,.int .i64 0,.str []])∧eget e' 0= .str s∧eget e' 2= .ptr st.nx 0):=by
    intro i e' s' h a0 a2 a7 y1 y2 y3 t1 t2
    rw[run_loop]
    rcases h with h | rfl
    ·have hil:¬(i:Int)<s.length:=by omega
     have hil':¬i<s.length:=by omega
     by_cases hi2:i≤2
     ·simp[B.chaseref03_Number_l0,go_sem,a0,a2,a7,hil,hil',hi2,show (i:Int)≤2 by omega,y1,y2,t1,t2]
     ·simp[B.chaseref03_Number_l0,go_sem,a0,a2,a7,hi2,show¬(i:Int)≤2 by omega,y1,y2,t1,t2]
    ·simp[B.chaseref03_Number_l0,go_sem,a0,a2,a7,y1,y2,t1,t2]
   have two:∀(e':Env) (s':St),eget e' 0= .str s→eget e' 2= .ptr st.nx 0→eget e' 7= .int .i64 ((2:Nat):Int)→Ext st s'→hget s'.h st.nx=some (.cells 134 true [.int .i64 0,.int .i64 0,.str []])→tryR s 1=none→
     Res (run T (.loop B.chaseref03_Number_l0) e' s') fun x e' s'=>(x= .ret∧∃n,(match tryR s 1 with | some n=>some n | none=>tryR s 2)=some n∧NumQ st st.nx (ansT n s.length) .ret e' s')∨(x= .exit 0∧tryR s 1=none∧tryR s 2=none∧Ext st s'∧hget s'.h st.nx=some (.cells 134 true [.int .i64 0,.int .i64 0,.str []])∧eget e' 0= .str s∧eget e' 2= .ptr st.nx 0):=by
    intro e' s' a0 a2 a7 y1 y2 t1
    by_cases h2:2<s.length
    ·refine numR_step H hs (Nat.le_refl _) (.inr rfl) h2 y1 y2 a0 a2 a7 ?_ ?_
     ·intro n e2 s2 ht z1 z2 z3 z4
      exact .inl ⟨rfl,n,by rw[t1];exact ht,rfl,z1,z2,z3,z4⟩
     ·intro e2 s2 ht z1 z2 z3 z4 z5
      exact stop 3 e2 s2 (.inr rfl) z3 z4 z5 z1 z2 (by omega) t1 ht
    ·exact stop 2 e' s' (.inl (by omega)) a0 a2 a7 y1 y2 (by omega) t1 (tn 2 (by omega))
   have one:∀(e':Env),eget e' 0= .str s→eget e' 2= .ptr st.nx 0→eget e' 7= .int .i64 ((1:Nat):Int)→
     Res (run T (.loop B.chaseref03_Number_l0) e' s5) fun x e' s'=>(x= .ret∧∃n,(match tryR s 1 with | some n=>some n | none=>tryR s 2)=some n∧NumQ st st.nx (ansT n s.length) .ret e' s')∨(x= .exit 0∧tryR s 1=none∧tryR s 2=none∧Ext st s'∧hget s'.h st.nx=some (.cells 134 true [.int .i64 0,.int .i64 0,.str []])∧eget e' 0= .str s∧eget e' 2= .ptr st.nx 0):=by
    intro e' a0 a2 a7
    by_cases h1:1<s.length
    ·refine numR_step H hs (Nat.le_refl _) (.inl rfl) h1 x5 g5 a0 a2 a7 ?_ ?_
     ·intro n e2 s2 ht z1 z2 z3 z4
      exact .inl ⟨rfl,n,by rw[ht],rfl,z1,z2,z3,z4⟩
     ·intro e2 s2 ht z1 z2 z3 z4 z5
      exact two e2 s2 z3 z4 z5 z1 z2 ht
    ·exact stop 1 e' s5 (.inl (by omega)) a0 a2 a7 x5 g5 (by omega) (tn 1 (by omega)) (tn 2 (by omega))
   show Res (run T (.seq (.reg [B.p 7 (.mov (.k (.int .i64 1)))]) (.block 0 (.loop B.chaseref03_Number_l0))) e6 s5) _
   have e7:(1:Int)=((1:Nat):Int):=rfl
   refine seq_cut (fun x e' s'=>x= .norm∧s'=s5∧eget e' 0= .str s∧eget e' 2= .ptr st.nx 0∧eget e' 7= .int .i64 ((1:Nat):Int)) (by intro l;simp) (by simp[go_sem,p0,p2]) ?_
   rintro _ e8 s8 ⟨rfl,hst,a0,a2,a7⟩
   rw[kSeq_norm,hst,run_block,Res_blockE]
   refine(one e8 a0 a2 a7).mono ?_
   rintro x e9 s9 (⟨rfl,n,hn,hq⟩ | ⟨rfl,t1,t2,z1,z2,z3,z4⟩)
   ·exact .inl ⟨n,hn,hq⟩
   ·simp only[kBlk_exit,if_true]
    exact .inr ⟨t1,t2,trivial,z1,z2,z3,z4⟩
  rintro x e7 s7 (⟨n,hn,hq⟩ | ⟨t1,t2,rfl,z1,z2,z3,z4⟩)
  ·have:x= .ret:=hq.1
   subst this
   have hT:(match tryR s 1 with
    | some n=>ansT n s.length
    | none=>match tryR s 2 with
      | some n=>ansT n s.length
      | none=>match readR s with
        | none=>(0,0,5)
        | some _=>if(parseR s).2≠0 then(0,0,26)else(2,(parseR s).1,0))=ansT n s.length:=by
    cases h1:tryR s 1 with
    | some a=>rw[h1]at hn;simp at hn;rw[hn]
    | none=>
      rw[h1]at hn
      simp at hn
      simp[hn]
   rw[hT]
   exact hq
  ·rw[t1,t2,kSeq_norm]
   exact numR_dec H hs (Nat.le_refl _) z1 z2 z3 z4
 refine main.mono ?_
 rintro x e s' ⟨rfl,x1,g1,g2,g3⟩
 refine⟨.inr rfl,?_,x1⟩
 simp[B.chaseref03_Number,fresults,resVals,resVal,RO.run,go_sem,g2,g3,tok_rd g1,toA,tokA,tokC]
end Go.Ev

/- The reference's Word told. -/
namespace Go.Ev
open Go
variable {T : Tab} {st : St}
end Go.Ev

/- The plain law of numbers: ints, with and without a base. -/
namespace Go.Ev
open Go
theorem cnt_caps {C1 C2:Nat} (hC:C1≤C2) {base:Int} (hb:1≤base.toNat):∀(s:List UInt8) (n:Nat),cntFrom C1 base (min n C1) s=(cntFrom C2 base n s).map fun v=>min v C1
 | [],n=>by simp[cntFrom]
 | c::s,n=>by
   simp only[cntFrom]
   split
   ·rfl
   ·have h:min (min n C1*base.toNat+digV c) C1=min (min (n*base.toNat+digV c) C2) C1:=by
     generalize base.toNat=b at hb
     generalize digV c=d
     rw[Nat.min_assoc,Nat.min_eq_right hC]
     by_cases hn:n≤C1
     ·rw[Nat.min_eq_left hn]
     ·have h1:C1≤C1*b:=Nat.le_mul_of_pos_right _ hb
      have h2:C1*b≤n*b:=Nat.mul_le_mul_right _ (by omega)
      rw[Nat.min_eq_right (by omega:C1≤n),Nat.min_eq_right (by omega),Nat.min_eq_right (by omega)]
    rw[h]
    exact cnt_caps hC hb s _
theorem cntR_S {base:Int} (hb:1≤base) (s:List UInt8):((cntS base s).2=true↔0≤cntR base s)∧((cntS base s).2=true→cntR base s=((min (cntS base s).1 8589934592:Nat):Int)):=by
 have h:=cnt_caps (C1:=8589934592) (C2:=1099511627776) (by omega) (base:=base) (by omega) s 0
 rw[Nat.zero_min]at h
 unfold cntS cntR
 rw[h]
 cases hc:cntFrom 1099511627776 base 0 s with
 | none=>by_cases hs:s=[] <;> simp[hs]
 | some n=>by_cases hs:s=[] <;> simp[hs]
theorem ansT_min {sg:Int} (hsg:sg=1∨sg= -1) (n len:Nat):ansT (sg*((min n 8589934592:Nat):Int)) len=ansT (sg*n) len:=by
 by_cases h:n≤8589934592
 ·rw[Nat.min_eq_left h]
 ·have h1:min n 8589934592=8589934592:=by omega
  rw[h1]
  unfold ansT
  rcases hsg with rfl | rfl
  ·rw[if_pos (by omega),if_pos (by omega)]
  ·rw[if_pos (by omega),if_pos (by omega)]
theorem ansT_not5 (n:Int) (len:Nat):(ansT n len).2.2≠5:=by
 unfold ansT;split <;> simp
theorem whole_law (s:List UInt8):wholeT s=if 0≤cntR 10 (unsign s).1 then ansT ((unsign s).2*cntR 10 (unsign s).1) s.length else(0,0,5):=by
 obtain⟨h1,h2⟩:=cntR_S (base:=10) (by omega) (unsign s).1
 unfold wholeT
 by_cases h:(cntS 10 (unsign s).1).2=true
 ·rw[if_pos h,if_pos (h1.1 h),h2 h,ansT_min (unsign_facts s).2]
 ·rw[if_neg h,if_neg (fun h'=>h (h1.2 h'))]
theorem cntFrom_35 (C:Nat) {base:Int} (hb:base≤36):∀(s:List UInt8) (n:Nat),35∈s→cntFrom C base n s=none
 | c::s,n,h=>by
   simp only[cntFrom]
   split
   ·rfl
   ·rename_i hc
    rcases List.mem_cons.1 h with rfl | h
    ·exact absurd (show (digV 35:Int)≥base by have:digV 35=99:=rfl;omega) hc
    ·exact cntFrom_35 C hb s _ h
theorem cntR_35 {base:Int} (hb:base≤36) {s:List UInt8} (h:35∈s):cntR base s= -1:=by
 unfold cntR
 rw[cntFrom_35 _ hb s 0 h]
 split <;> rfl
theorem tryR_none {s:List UInt8} {k i:Nat} (hk:s[k]? =some 35) (hki:k<i):tryR s i=none:=by
 have:35∈s.take i:=List.mem_of_getElem? (i:=k) (by rw[List.getElem?_take,if_pos hki];exact hk)
 unfold tryR
 rw[cntR_35 (by omega) this]
 simp
theorem tryR_cut {s:List UInt8} {k:Nat} (hk:s[k]? =some 35) (hk0:1≤k) (hk2:k≤2) (hks:k<s.length):
  (if(cntS 10 (s.take k)).2=false∨2<(s.take k).length∨(cntS 10 (s.take k)).1<2∨36<(cntS 10 (s.take k)).1 then((0,0,5):Tk)
    else if(cntS (cntS 10 (s.take k)).1 (s.drop (k+1))).2=true then ansT (cntS (cntS 10 (s.take k)).1 (s.drop (k+1))).1 s.length else(0,0,5))=match tryR s k with | some n=>ansT n s.length | none=>(0,0,5):=by
 obtain⟨h1,h2⟩:=cntR_S (base:=10) (by omega) (s.take k)
 have hl:¬2<(s.take k).length:=by rw[List.length_take];omega
 unfold tryR
 by_cases ho:(cntS 10 (s.take k)).2=true
 ·have hb:=h2 ho
  generalize (cntS 10 (s.take k)).1=b at hb⊢
  by_cases hb2:b<2∨36<b
  ·have:¬(s[k]? =some 35∧2≤cntR 10 (s.take k)∧cntR 10 (s.take k)≤36∧0≤cntR (cntR 10 (s.take k)) (s.drop (k+1))):=by rw[hb];omega
   rw[if_neg this,if_pos (by omega)]
  ·have hbb:cntR 10 (s.take k)=(b:Int):=by rw[hb];omega
   rw[hbb,if_neg (by simp[ho];rw[List.length_take]at hl;omega)]
   obtain⟨h3,h4⟩:=cntR_S (base:=(b:Int)) (by omega) (s.drop (k+1))
   by_cases hr:(cntS (b:Int) (s.drop (k+1))).2=true
   ·rw[if_pos hr,if_pos ⟨hk,by omega,by omega,h3.1 hr⟩]
    simp only
    rw[h4 hr]
    have:=ansT_min (sg:=1) (.inl rfl) (cntS (b:Int) (s.drop (k+1))).1 s.length
    simpa using this.symm
   ·rw[if_neg hr,if_neg (fun h=>hr (h3.2 h.2.2.2))]
 ·have hneg:¬0≤cntR 10 (s.take k):=fun h=>ho (h1.2 h)
  rw[if_pos (.inl (by simpa using ho)),if_neg (by omega)]
theorem indexByte_ge:∀(s:List UInt8) (d:UInt8), -1≤Lib.indexByte s d
 | [],_=>by simp[Lib.indexByte]
 | c::r,d=>by
   have:=indexByte_ge r d
   simp only[Lib.indexByte]
   (repeat' split) <;> omega
theorem radix_law (s:List UInt8):radixT s=match tryR s 1 with | some n=>ansT n s.length | none=>match tryR s 2 with | some n=>ansT n s.length | none=>(0,0,5):=by
 have hlt:=indexByte_lt' s 35
 have tn:∀i,s[i]?≠some 35→tryR s i=none:=fun i h=>by simp[tryR,h]
 by_cases h0:0≤Lib.indexByte s 35
 ·obtain⟨k,hk⟩:=Int.eq_ofNat_of_zero_le h0
  obtain⟨hs,hmin⟩:=Lib.indexByte_some hk
  have hks:k<s.length:=by omega
  have hcut:cutS 35 s=(s.take k,s.drop (k+1),true):=by unfold cutS;rw[if_pos h0,hk];rfl
  have hrt:radixT s=(if(cntS 10 (s.take k)).2=false∨2<(s.take k).length∨(cntS 10 (s.take k)).1<2∨36<(cntS 10 (s.take k)).1 then((0,0,5):Tk)
    else if(cntS (cntS 10 (s.take k)).1 (s.drop (k+1))).2=true then ansT (cntS (cntS 10 (s.take k)).1 (s.drop (k+1))).1 s.length else(0,0,5)):=by
   unfold radixT
   rw[hcut]
   simp
  rw[hrt]
  by_cases hk0:k=0
  ·subst hk0
   rw[tryR_none hs (by omega),tryR_none hs (by omega),if_pos (.inl (by simp[cntS,cntFrom]))]
  by_cases hk1:k=1
  ·subst hk1
   rw[tryR_cut hs (by omega) (by omega) hks,tryR_none hs (i:=2) (by omega)]
  by_cases hk2:k=2
  ·subst hk2
   rw[tryR_cut hs (by omega) (by omega) hks,tn 1 (hmin 1 (by omega))]
  ·rw[tn 1 (hmin 1 (by omega)),tn 2 (hmin 2 (by omega)),if_pos (.inr (.inl (by rw[List.length_take];omega)))]
 ·have hcut:cutS 35 s=(s,[],false):=by unfold cutS;rw[if_neg h0]
  have hge:=indexByte_ge s 35
  have hm1:Lib.indexByte s 35= -1:=by omega
  have hno:=Lib.indexByte_none hm1
  rw[tn 1 (hno 1),tn 2 (hno 2)]
  unfold radixT
  rw[hcut,if_pos (.inl rfl)]
end Go.Ev

/- The plain law of numbers: decimals are read alike. -/
namespace Go.Ev
open Go
theorem isDig_iff (c:UInt8):isDig c=true↔48≤c.toNat∧c.toNat≤57:=by simp[isDig]
theorem mant_true:∀u:List UInt8,mant true u=((spanD u).1,(spanD u).1.length,(spanD u).2)
 | []=>rfl
 | c::r=>by
   simp only[mant,spanD]
   by_cases h:48≤c.toNat∧c.toNat≤57
   ·rw[if_pos ((isDig_iff c).2 h),if_pos h,mant_true r]
    simp[Nat.add_comm]
   ·rw[if_neg (fun h'=>h ((isDig_iff c).1 h')),if_neg h,if_neg (by simp)]
    rfl
theorem mant_false:∀u:List UInt8,mant false u=if oneB [46] (spanD u).2=true then((spanD u).1++(spanD (spanD u).2.tail).1,(spanD (spanD u).2.tail).1.length,(spanD (spanD u).2.tail).2)else((spanD u).1,0,(spanD u).2)
 | []=>rfl
 | c::r=>by
   by_cases h:48≤c.toNat∧c.toNat≤57
   ·have hsp:spanD (c::r)=((c.toNat - 48)::(spanD r).1,(spanD r).2):=by simp[spanD,h]
    rw[hsp,mant,if_pos ((isDig_iff c).2 h),mant_false r]
    simp only
    split <;> simp
   ·have hsp:spanD (c::r)=([],c::r):=by simp[spanD,h]
    rw[hsp,mant,if_neg (fun h'=>h ((isDig_iff c).1 h'))]
    by_cases h46:c=46
    ·subst h46
     rw[if_pos ⟨rfl,rfl⟩,mant_true]
     simp[oneB]
    ·rw[if_neg (by simp[h46])]
     simp[oneB,h46]
theorem exp_law (neg:Bool) (L:List Nat) (R:List UInt8) (k n1:Nat) (h:n1+k=L.length):
  (if L=[]then none else match R with
    | []=>some (neg,L, -(k:Int))
    | c::t=>
      if c≠101∧c≠69 then none
      else if(sgn t).2.length<1∨3<(sgn t).2.length then none
      else if(spanD (sgn t).2).2=[]then some (neg,L, -(k:Int)+(if(sgn t).1=true then -(numD (spanD (sgn t).2).1:Int)else(numD (spanD (sgn t).2).1:Int)))
      else none)=
  Option.map (fun p:Bool×List Nat×Int=>(p.1,p.2.1,p.2.2 - (p.2.1.length:Int))) (if L=[]then none
   else if oneB [101,69] R=true then
    if(spanD (sgn R.tail).2).1.length<1∨3<(spanD (sgn R.tail).2).1.length then none
    else if(spanD (sgn R.tail).2).2=[]then some (neg,L,(n1:Int)+(if(sgn R.tail).1=true then -(numD (spanD (sgn R.tail).2).1:Int)else(numD (spanD (sgn R.tail).2).1:Int)))
    else none
   else if R=[]then some (neg,L,(n1:Int))else none):=by
 by_cases hL:L=[]
 ·simp[hL]
 rw[if_neg hL,if_neg hL]
 cases R with
 | nil=>simp[oneB];omega
 | cons c t=>
   by_cases hc:c≠101∧c≠69
   ·simp[oneB,hc]
   ·have ho:oneB [101,69] (c::t)=true:=by
     simp only[oneB,decide_eq_true_eq]
     by_cases h1:c=101
     ·simp[h1]
     ·by_cases h2:c=69
      ·simp[h2]
      ·exact absurd ⟨h1,h2⟩ hc
    have hl:=spanD_len (sgn t).2
    by_cases hz:(spanD (sgn t).2).2=[]
    ·rw[hz]at hl
     simp only[List.length_nil,Nat.add_zero]at hl
     cases hsg:(sgn t).1 <;> simp[hc,ho,hz,hl,hsg] <;> split <;> simp <;> omega
    ·by_cases hlen:(sgn t).2.length<1∨3<(sgn t).2.length <;> simp[hc,ho,hz,hlen]
theorem readR_D (s:List UInt8):readR s=(decD s).map fun p=>(p.1,p.2.1,p.2.2 - (p.2.1.length:Int)):=by
 unfold readR decD decL decR
 simp only[mant_false]
 generalize (sgn s).1=neg
 generalize (sgn s).2=u
 by_cases hp:oneB [46] (spanD u).2=true
 ·simp only[if_pos hp]
  exact exp_law neg _ _ _ _ (by simp)
 ·simp only[if_neg hp]
  exact exp_law neg _ _ 0 _ (by simp)
end Go.Ev

/- The plain law of numbers: a decimal without a point or an exponent is an int. -/
namespace Go.Ev
open Go
theorem unsign_sgn (s:List UInt8):(unsign s).1=(sgn s).2:=by
 rw[unsign_cases]
 cases s with
 | nil=>rfl
 | cons c r=>
   simp only[sgn]
   by_cases h:c=45
   ·simp[h]
   ·by_cases h':c=43
    ·simp[h']
    ·simp[h,h']
theorem cntFrom_dig (C:Nat):∀(u:List UInt8) (n:Nat),(spanD u).2=[]→∃v,cntFrom C 10 n u=some v
 | [],n,_=>⟨n,rfl⟩
 | c::r,n,h=>by
   by_cases hc:48≤c.toNat∧c.toNat≤57
   ·have hsp:(spanD (c::r)).2=(spanD r).2:=by simp[spanD,hc]
    rw[hsp]at h
    have hd:digV c=c.toNat - 48:=by simp[digV,hc]
    simp only[cntFrom]
    rw[if_neg (by omega)]
    exact cntFrom_dig C r _ h
   ·have hsp:(spanD (c::r)).2=c::r:=by simp[spanD,hc]
    rw[hsp]at h
    cases h
theorem cntR_dig {u:List UInt8} (h:(spanD u).2=[]) (hu:u≠[]):0≤cntR 10 u:=by
 obtain⟨v,hv⟩:=cntFrom_dig 8589934592 u 0 h
 unfold cntR
 rw[if_neg hu,hv]
 exact Int.natCast_nonneg v
theorem plain_int {s:List UInt8} (h:anyOf [46,101,69] s=false) (hd:decD s≠none):0≤cntR 10 (unsign s).1:=by
 rw[unsign_sgn]
 have hall:∀c∈s,c≠46∧c≠101∧c≠69:=by
  intro c hc
  simp[anyOf]at h
  have:=h c hc
  simpa using this
 have hu:∀c∈(sgn s).2,c∈s:=fun c hc=>by
  rw[(sgn_drop s).1]at hc
  exact List.mem_of_mem_drop hc
 have hz:∀R:List UInt8,(∀c∈R,c∈s)→oneB [46] R=false∧oneB [101,69] R=false:=fun R hR=>by
  cases R with
  | nil=>exact⟨rfl,rfl⟩
  | cons c r=>
    have:=hall c (hR c List.mem_cons_self)
    simp[oneB,this.1,this.2.1,this.2.2]
 have hsuf:∀c∈(spanD (sgn s).2).2,c∈s:=fun c hc=>by
  rw[spanD_rest]at hc
  exact hu c (List.mem_of_mem_drop hc)
 obtain⟨z1,z2⟩:=hz _ hsuf
 have hR:decR s=(spanD (sgn s).2).2:=by unfold decR;rw[if_neg (by simp[z1])]
 have hL:decL s=(spanD (sgn s).2).1:=by unfold decL;rw[if_neg (by simp[z1])]
 unfold decD at hd
 rw[hR,hL]at hd
 by_cases h1:(spanD (sgn s).2).1=[]
 ·rw[if_pos h1]at hd;exact absurd rfl hd
 ·by_cases h2:(spanD (sgn s).2).2=[]
  ·refine cntR_dig h2 fun h3=>h1 ?_
   rw[h3];rfl
  ·rw[if_neg h1,if_neg (by simp[z2]),if_neg h2]at hd
   exact absurd rfl hd
end Go.Ev
