/- The reference's count; Word. -/
import Derived.Test.YthckfhllgpfidaaGreatDoorP05
import Derived.Test.YthckfhllgpfidaaGreatDoorP03
import Derived.Lib.SmallJoins
import Derived.Deep.Slices
import Derived.OpenShut
namespace Go.Ev
open Go
set_option linter.unusedSimpArgs false
set_option linter.unusedSectionVars false
set_option linter.unusedVariables false
variable {T : Tab} {st : St}
def cntR (base:Int) (s:List UInt8):Int:=if s=[]then -1 else match cntFrom 8589934592 base 0 s with | some n=>n | none=> -1
theorem digR_lt {c:UInt8} {base:Int} (h:base≤36):(base≤(digR c:Int)↔base≤(digV c:Int))∧(¬base≤(digV c:Int)→digR c=digV c):=by
 unfold digR
 split
 ·rename_i e;rw[e];refine⟨by omega,fun h=>by omega⟩
 ·exact⟨Iff.rfl,fun _=>rfl⟩
theorem refcount_loop (H:B.H_chaseref03_digit T) {s:List UInt8} (hs:s.length<9223372036854775807) {base:Int} (h0:0≤base) (h1:base≤36) (st0:St):∀(m i n:Nat) (e:Env) (st1:St),i+m=s.length→n≤8589934592→Ext st0 st1→eget e 0= .str s→eget e 1= .int .i64 base→eget e 5= .int .i64 n→eget e 6= .int .i64 i→
  Res (run T (.loop B.chaseref03_count_l0) e st1) fun x e' s'=>Ext st0 s'∧((x= .exit 0∧∃v:Nat,cntFrom 8589934592 base n (s.drop i)=some v∧eget e' 5= .int .i64 v)∨(x= .ret∧cntFrom 8589934592 base n (s.drop i)=none∧eget e' 4= .int .i64 (-1))):=by
 intro m
 induction m with
 | zero=>
   intro i n e st1 hi hn hx g0 g1 g5 g6
   have hil:i=s.length:=by omega
   subst hil
   rw[run_loop]
   simp[B.chaseref03_count_l0,go_sem,g0,g1,g5,g6,hx,cntFrom]
 | succ m ih=>
   intro i n e st1 hi hn hx g0 g1 g5 g6
   have hil:i<s.length:=by omega
   have hil':(i:Int)<s.length:=by omega
   obtain⟨c,hc,hd⟩:=idx_some hil
   obtain⟨k1,k2⟩:=digR_lt (c:=c) h1
   have hcf:cntFrom 8589934592 base n (s.drop i)=if(digV c:Int)≥base then none else cntFrom 8589934592 base (min (n*base.toNat+digV c) 8589934592) (s.drop (i+1)):=by rw[hd];rfl
   rw[hcf]
   rw[run_loop]
   simp[B.chaseref03_count_l0,go_sem,g0,g1,g5,g6,hil',hc]
   refine(refDigit_tells H hx.wf c).use fun s1 hs1=> ?_
   have hx1:=hx.trans hs1
   by_cases hb:base≤(digV c:Int)
   ·have hb':=k1.2 hb
    simp[go_sem,hb,hb',hx1]
    intro h
    omega
   ·have hb':¬base≤(digR c:Int):=fun h=>hb (k1.1 h)
    simp[go_sem,hb,hb',hc]
    refine(refDigit_tells H hx1.wf c).use fun s2 hs2=> ?_
    have hx2:=hx1.trans hs2
    have hle:=digV_le c
    have hm:(n:Int)*base≤8589934592*36:=Int.mul_le_mul (by omega) h1 h0 (by omega)
    have hm0:0≤(n:Int)*base:=Int.mul_nonneg (by omega) h0
    have e1:IntKind.i64.wrap ((n:Int)*base)=n*base:=wrap64' (by omega) (by omega)
    have e2:IntKind.i64.wrap ((n:Int)*base+digV c)=n*base+digV c:=wrap64' (by omega) (by omega)
    obtain⟨v,hv⟩:∃v,v=min (n*base.toNat+digV c) 8589934592:=⟨_,rfl⟩
    have e3:(if(8589934592:Int)<n*base+digV c then 8589934592 else n*base+digV c)=(v:Int):=by
     have:((n*base.toNat:Nat):Int)=n*base:=by rw[Int.natCast_mul,Int.toNat_of_nonneg h0]
     rw[hv]
     split <;> omega
    have e4:IntKind.i64.wrap ((i:Int)+1)=((i+1:Nat):Int):=wrap64' (by omega) (by omega)
    rw[←hv]
    simp[go_sem,k2 hb,e1,e2,e3]
    have hb2:(digV c:Int)<base:=by omega
    refine(ih (i+1) v _ s2 (by omega) (by omega) hx2 ?_ ?_ ?_ ?_).mono fun x e' s' h=>by simpa [hb2] using h
    ·simp[go_sem]
    ·simp[go_sem]
    ·simp[go_sem]
    ·simp[go_sem,e4]
theorem refcount_tells (H:B.H_chaseref03_count T) (hwf:st.Wf) {s:List UInt8} (hs:s.length<9223372036854775807) {base:Int} (h0:0≤base) (h1:base≤36):Tells T st (.fn 78 [] []) [.str s,.int .i64 base] (.int .i64 (cntR base s)):=by
 refine tells_of H.e H.f rfl ?_
 by_cases hz:s=[]
 ·subst hz
  simp[B.chaseref03_count,go_sem,seq8,cntR,Ext.refl hwf]
 ·have hq:seq8 s []=false:=by cases s with | nil=>exact absurd rfl hz | cons=>rfl
  simp[B.chaseref03_count,go_sem,hq]
  refine(refcount_loop H.chaseref03_digit hs h0 h1 st s.length 0 0 _ st (by simp) (by omega) (.refl hwf) ?_ ?_ ?_ ?_).mono ?_
  ·simp[go_sem]
  ·simp[go_sem]
  ·simp[go_sem]
  ·simp[go_sem]
  ·simp only[List.drop_zero]
   rintro x e s' ⟨hx,⟨rfl,v,h,g⟩ | ⟨rfl,h,g⟩⟩
   ·simp[go_sem,g,cntR,hz,h,hx]
   ·simp[go_sem,g,cntR,hz,h,hx]
def wordT (s:List UInt8):Int×Int×List UInt8×Int:=
 if s=[]∨regAll s=false then(0,0,[],5)
 else if(numT s).2.2≠5 then((numT s).1,(numT s).2.1,[],(numT s).2.2)
 else if 100<s.length then(0,0,[],26)else(3,0,s,0)
def toW (t:Int×Int×List UInt8×Int):AV:=tokA t.1 t.2.1 t.2.2.1 t.2.2.2
theorem word_tells (H:B.H_lex_Word T) (hwf:st.Wf) {s:List UInt8} (hs:s.length<4000000000000000000):Tells T st (.fn 65 [] []) [.str s] (toW (wordT s)):=by
 refine tells_of H.e H.f rfl ?_
 have hx:=Ext.new hwf (.cells 134 true [.int .i64 0,.int .i64 0,.str []])
 have hg:hget ((st.nx,AObj.cells 134 true [.int .i64 0,.int .i64 0,.str []])::st.h) st.nx=some (.cells 134 true [.int .i64 0,.int .i64 0,.str []]):=by simp[hget_cons]
 have bad:∀{s1:St},Ext st s1→hget s1.h st.nx=some (.cells 134 true [.int .i64 0,.int .i64 0,.str []])→∀k n t,Ext st ⟨hset s1.h st.nx (.cells 134 true [.int .i64 k,.int .i64 n,.str t]),s1.nx⟩:=fun e1 g1 k n t=>e1.setNew g1 (Nat.le_refl _)
 by_cases hz:s=[]
 ·subst hz
  simp[B.lex_Word,go_sem,NO.run,seq8,tok_wr hg,WO.run,fresults,resVals,resVal,RO.run,tok_rd (hget_hset_self hg),toW,wordT,tokA,tokC]
  exact hx.setNew (st:=st) hg (Nat.le_refl _)
 ·have hq:seq8 s []=false:=by cases s with | nil=>exact absurd rfl hz | cons=>rfl
  simp[B.lex_Word,go_sem,NO.run,hq]
  refine(lexregular_tells H.lex_regular hx.wf (s:=s) (by omega)).use fun s1 hs1=> ?_
  have e1:=hx.trans hs1
  have g1:=hs1.get hx.wf hg
  cases hr:regAll s with
  | false=>
    simp[go_sem,hr,tok_wr g1,WO.run,fresults,resVals,resVal,RO.run,tok_rd (hget_hset_self g1),toW,wordT,tokA,tokC]
    exact bad e1 g1 _ _ _
  | true=>
    simp[go_sem,hr]
    refine(number_tells H.lex_Number e1.wf hs).use fun s2 hs2=> ?_
    have e2:=e1.trans hs2
    have g2:=hs2.get e1.wf g1
    obtain⟨t,ht⟩:∃t,t=numT s:=⟨_,rfl⟩
    have hwd:wordT s=if t.2.2≠5 then(t.1,t.2.1,[],t.2.2)else if 100<s.length then(0,0,[],26)else(3,0,s,0):=by simp[wordT,hz,hr,ht]
    rw[←ht,hwd]
    clear ht hwd
    have x3:=Ext.new e2.wf (.cells 134 true [.int .i64 0,.int .i64 0,.str []])
    have hnx:st.nx<s2.nx:=by have:=e2.wf.lt _ _ g2;exact this
    simp[go_sem,NO.run,WO.run,toA,tokA,tokC,wr_tok]
    have hgn:hget ((s2.nx,AObj.cells 134 true [.int .i64 t.1,.int .i64 t.2.1,.str []])::s2.h) st.nx=some (.cells 134 true [.int .i64 0,.int .i64 0,.str []]):=by
     rw[hget_cons,if_neg (by omega)];exact g2
    have xn:=e2.trans (Ext.new e2.wf (.cells 134 true [.int .i64 t.1,.int .i64 t.2.1,.str []]))
    by_cases h5:t.2.2=5
    ·by_cases hl:100<s.length
     ·have hl':(100:Int)<s.length:=by omega
      simp[go_sem,h5,hl,hl',tok_wr hgn,WO.run,fresults,resVals,resVal,RO.run,tok_rd (hget_hset_self hgn),toW,tokA,tokC]
      exact bad xn hgn _ _ _
     ·have hl':¬(100:Int)<s.length:=by omega
      simp[go_sem,h5,hl,hl',tok_wr hgn,WO.run,fresults,resVals,resVal,RO.run,tok_rd (hget_hset_self hgn),toW,tokA,tokC]
      exact bad xn hgn _ _ _
    ·simp[go_sem,h5,rd_tok,tok_wr hgn,WO.run,fresults,resVals,resVal,RO.run,tok_rd (hget_hset_self hgn),toW,tokA,tokC]
     exact bad xn hgn _ _ _
end Go.Ev

/- strings.Builder; Quote. -/
namespace Go.Ev
open Go
set_option linter.unusedSimpArgs false
set_option linter.unusedSectionVars false
set_option linter.unusedVariables false
variable {T : Tab} {st : St}
def u8s (l:List UInt8):List AV:=l.map fun c=> .int .u8 ((c.toNat:Nat):Int)
theorem u8s_len (l:List UInt8):(u8s l).length=l.length:=by simp[u8s]
theorem u8s_snoc (l:List UInt8) (c:UInt8):u8s (l++[c])=u8s l++[.int .u8 (c.toNat:Int)]:=by simp[u8s]
theorem u8s_append (a b:List UInt8):u8s (a++b)=u8s a++u8s b:=by simp[u8s]
def Grow (st0 s:St) (v:AV) (l:List UInt8):Prop:=Sl s v 5 1 l.length (u8s l)∧Mine [] st0 v∧NK v
theorem Grow.nil (st0 s:St):Grow st0 s .nilslice []:=⟨.nil _ _ _,.nil _ _,fun _ _ _ _ h=>by cases h⟩
theorem Grow.ge {st0 s:St} {v:AV} {l:List UInt8} (a:Grow st0 s v l):∀n∈v.nms,st0.nx≤n:=fun n hn=>by
 rcases a.2.1 n hn with h | h
 ·cases h
 ·exact h
theorem Grow.frm {st0 s s':St} {v:AV} {l:List UInt8} {S:List Nat} (a:Grow st0 s v l) (f:Frm S s s') (hw:s.Wf) (hn:∀n∈v.nms,n∉S):Grow st0 s' v l:=⟨a.1.frm f hw hn,a.2.1,a.2.2⟩
theorem Grow.ext {st0 s s':St} {v:AV} {l:List UInt8} (a:Grow st0 s v l) (f:Ext s s') (hw:s.Wf):Grow st0 s' v l:=a.frm (f.fr []) hw (by simp)
theorem Grow.dropLoc {st0 s:St} {v:AV} {l:List UInt8} {c:Nat} (a:Grow st0 s v l) (hw:s.Wf):Grow st0 ⟨Go.Ev.dropLoc c s.h,s.nx⟩ v l:=⟨a.1.dropLoc hw,a.2.1,a.2.2⟩
theorem Grow.nms {st0 s:St} {v:AV} {l:List UInt8} (a:Grow st0 s v l) {n:Nat} (h:n∈v.nms):(∃ty,hget s.h n=some (.cells ty false (u8s l)))∨hget s.h n=some (.buf 5 1 (u8s l)):=by
 obtain⟨⟨m,a⟩,_,_⟩:=a
 rcases a with ⟨h1,h2,h3⟩ | ⟨h1,h2,h3⟩ | ⟨ty',h1,h2,h3⟩ <;> rw[h1]at h <;> simp[AV.nms]at h <;> subst h
 ·exact .inr h2
 ·exact .inl ⟨_,h2⟩
theorem Grow.push {st0 s1:St} (hF:st0.nx≤s1.nx) (hw:s1.Wf) {v:AV} {l:List UInt8} {c:UInt8} {k:Nat} (hk:0<k) (a:Grow st0 s1 v l) (hl:l.length<35184372088831):
  CRes (aappend 5 1 1 ⟨(s1.nx,.cells 5 false [.int .u8 (c.toNat:Int)])::s1.h,s1.nx+k⟩ v (.slice s1.nx 0 1 (.known 1))) fun v' s=>Grow st0 s v' (l++[c])∧Frm v.nms s1 s:=by
 obtain⟨a1,a2,a3⟩:=a
 have xa:=Ext.newA hw (.cells 5 false [.int .u8 (c.toNat:Int)]) hk
 have hap:=Sl.append (x:= .slice s1.nx 0 1 (.known 1)) (j:=1) (new:=[.int .u8 (c.toNat:Int)]) (b:=1) (Frm.refl xa.wf v.nms) (fun n h=> .inl h) (a1.ext xa hw)
  (.inr ⟨_,_,_,rfl,rd_all (ty:=5) (l:=false) (by simp[hget_cons]) rfl⟩) (by simp[AV.sc]) (by omega) (by omega) (.inl (by omega))
 refine(hap.also (fun _ _ h=>aappend_nk h a3)).mono ?_
 rintro v2 s2 ⟨⟨k1,k2,k3,_⟩,hnk2⟩
 refine⟨⟨by rw[u8s_snoc];simpa using k1,fun n hn=> ?_,hnk2⟩,(xa.fr v.nms).trans k2 (fun n h=> .inl h)⟩
 rcases k3 n hn with h | h
 ·exact a2 n h
 ·simp at h;exact .inr (by omega)
theorem Grow.sc {st0 s:St} {v:AV} {l:List UInt8} (a:Grow st0 s v l):v.sc=true:=by
 obtain⟨⟨m,a⟩,_,_⟩:=a
 rcases a with ⟨h1,h2,h3⟩ | ⟨h1,h2,h3⟩ | ⟨ty',h1,h2,h3⟩ <;> rw[h1] <;> rfl
theorem Grow.acells {st0 s:St} {v:AV} {l:List UInt8} (a:Grow st0 s v l):Go.Ev.acells v=[v]:=by
 obtain⟨⟨m,a⟩,_,_⟩:=a
 rcases a with ⟨h1,h2,h3⟩ | ⟨h1,h2,h3⟩ | ⟨ty',h1,h2,h3⟩ <;> rw[h1] <;> rfl
theorem Grow.apart {st0 s:St} {v x:AV} {l:List UInt8} (a:Grow st0 s v l) {q ty:Nat} {cs:List AV} (hq:hget s.h q=some (.cells ty false cs)) (hx:x∈cs) (hn:∀k n,x≠.int k n):q∉v.nms:=fun hm=>by
 have hz:∀l,x∉u8s l:=fun l h=>by
  simp only[u8s,List.mem_map]at h
  obtain⟨c,_,h⟩:=h
  exact hn _ _ h.symm
 rcases a.nms hm with ⟨t,h⟩ | h <;> rw[h]at hq <;> injection hq with hq <;> injection hq
 rename_i _ _ e
 rw[←e]at hx
 exact hz _ hx
theorem Ext.dropGe {st0 s:St} (a:Ext st0 s) {c:Nat} (hc:st0.nx≤c):Ext st0 ⟨Go.Ev.dropLoc c s.h,s.nx⟩:=
 ⟨a.nx,a.wf.dropLoc _,fun n hn=>by rw[hget_dropLoc_lt (Nat.lt_of_lt_of_le hn hc),a.keep n hn]⟩
theorem toBytes_u8s:∀l:List UInt8,toBytes (u8s l)=some l
 | []=>rfl
 | c::l=>by
   have h:u8s (c::l)= .int .u8 (c.toNat:Int)::u8s l:=rfl
   rw[h]
   simp[toBytes,toBytes_u8s l]
end Go.Ev

/- Unquote: the source's steps. -/
namespace Go.Ev
open Go
set_option linter.unusedSimpArgs false
set_option linter.unusedSectionVars false
set_option linter.unusedVariables false
variable {T : Tab} {st : St}
def octN:Nat→Nat→List UInt8→Nat×Nat
 | 0,n,_=>(n,0)
 | k+1,n,c::r=>if 48≤c.toNat∧c.toNat≤55 then((octN k (8*n+(c.toNat - 48)) r).1,(octN k (8*n+(c.toNat - 48)) r).2+1)else(n,0)
 | _+1,n,[]=>(n,0)
def lineN (c:UInt8) (r:List UInt8):Nat:=if c=13∧r.head? =some 10 then 1 else 0
def letter (c:UInt8):Option UInt8:=if c=110 then some 10 else if c=114 then some 13 else if c=116 then some 9 else if c=98 then some 8 else if c=102 then some 12 else none
def esc:List UInt8→Option (List UInt8×Nat)
 | []=>none
 | c::r=>some (match letter c with
   | some o=>([o],1)
   | none=>if c=10∨c=13 then([],1+lineN c r)else if 48≤c.toNat∧c.toNat≤55 then([UInt8.ofNat (octN 2 (c.toNat - 48) r).1],1+(octN 2 (c.toNat - 48) r).2)else([c],1))
def unq:Nat→Nat→List UInt8→List UInt8→Option (List UInt8×List UInt8)
 | 0,_,_,_=>none
 | _+1,_,[],_=>none
 | f+1,d,c::r,out=>
   if c=92 then match esc r with
    | none=>none
    | some (o,n)=>unq f d (r.drop n) (out++o)
   else if c=40 then unq f (d+1) r (out++[40])
   else if c=41 then if d=1 then some (out,r)else unq f (d - 1) r (out++[41])
   else if c=10∨c=13 then unq f d (r.drop (lineN c r)) (out++[10])
   else unq f d r (out++[c])
def QAt (st0 s':St) (q:Nat) (s:List UInt8) (k:Nat) (out:List UInt8) (d:Int):Prop:=st0.nx≤q∧∃v,hget s'.h q=some (.cells 164 false [.str s,.int .i64 k,v,.int .i64 d])∧Grow st0 s' v out∧q∉v.nms
theorem QAt.ext {st0 s s':St} {q k:Nat} {t l:List UInt8} {d:Int} (b:QAt st0 s q t k l d) (x:Ext s s') (hw:s.Wf):QAt st0 s' q t k l d:=by
 obtain⟨h1,v,h2,h4,h5⟩:=b
 exact⟨h1,v,x.get hw h2,h4.ext x hw,h5⟩
theorem QAt.put {st0 s:St} {q k k':Nat} {t l:List UInt8} {d d':Int} {v:AV} (hx:Ext st0 s) (h1:st0.nx≤q) (h2:hget s.h q=some (.cells 164 false [.str t,.int .i64 k,v,.int .i64 d])) (h4:Grow st0 s v l) (h5:q∉v.nms):
  Ext st0 ⟨hset s.h q (.cells 164 false [.str t,.int .i64 k',v,.int .i64 d']),s.nx⟩∧QAt st0 ⟨hset s.h q (.cells 164 false [.str t,.int .i64 k',v,.int .i64 d']),s.nx⟩ q t k' l d':=by
 have f3:=Frm.set hx.wf h2 (o:= .cells 164 false [.str t,.int .i64 k',v,.int .i64 d'])
 refine⟨hx.frm f3 (by simpa using h1),h1,v,hget_hset_self h2,h4.frm f3 hx.wf ?_,h5⟩
 intro n hn h
 simp at h;subst h;exact h5 hn
theorem QAt.out {st0 s:St} {q k:Nat} {t l:List UInt8} {d:Int} {u v:AV} (hx:Ext st0 s) (h1:st0.nx≤q) (h2:hget s.h q=some (.cells 164 false [.str t,.int .i64 k,u,.int .i64 d])) (h4:Grow st0 s v l):
  wrCells s.h q 2 [v]=some (hset s.h q (.cells 164 false [.str t,.int .i64 k,v,.int .i64 d]))∧Ext st0 ⟨hset s.h q (.cells 164 false [.str t,.int .i64 k,v,.int .i64 d]),s.nx⟩∧QAt st0 ⟨hset s.h q (.cells 164 false [.str t,.int .i64 k,v,.int .i64 d]),s.nx⟩ q t k l d:=by
 have f3:=Frm.set hx.wf h2 (o:= .cells 164 false [.str t,.int .i64 k,v,.int .i64 d])
 have h5:=h4.apart h2 (x:= .str t) (by simp) (by simp)
 refine⟨wr_cells h2 h4.sc (by simp),hx.frm f3 (by simpa using h1),h1,v,hget_hset_self h2,h4.frm f3 hx.wf ?_,h5⟩
 intro n hn h
 simp at h;subst h;exact h5 hn
theorem QAt.dropLoc {st0 s:St} {q k c:Nat} {t l:List UInt8} {d:Int} (b:QAt st0 s q t k l d) (hw:s.Wf):QAt st0 ⟨Go.Ev.dropLoc c s.h,s.nx⟩ q t k l d:=by
 obtain⟨h1,v,h2,h4,h5⟩:=b
 exact⟨h1,v,hget_dropLoc_keep hw h2 rfl,h4.dropLoc hw,h5⟩
theorem QAt.push {st0 s1:St} (hx:Ext st0 s1) {q k:Nat} {t out:List UInt8} {d:Int} (b:QAt st0 s1 q t k out d) (hl:out.length<35184372088831) (c:UInt8):
  ∃v,rdCell s1.h q 2=some v∧CRes (aappend 5 1 1 ⟨(s1.nx,.cells 5 false [.int .u8 (c.toNat:Int)])::s1.h,s1.nx+1⟩ v (.slice s1.nx 0 1 (.known 1))) fun v' s=>acells v'=[v']∧∃h',wrCells s.h q 2 [v']=some h'∧Ext st0 ⟨h',s.nx⟩∧QAt st0 ⟨h',s.nx⟩ q t k (out++[c]) d:=by
 obtain⟨h1,v,h2,h4,h5⟩:=b
 refine⟨v,by simp[rdCell,h2],(h4.push hx.nx hx.wf (k:=1) (by omega) (c:=c) hl).mono ?_⟩
 rintro v2 s2 ⟨o2,f2⟩
 have x2:=hx.frm f2 h4.ge
 have g2:=f2.get hx.wf h2 h5
 obtain⟨z1,z2,z3⟩:=QAt.out x2 h1 g2 o2
 exact⟨o2.acells,_,z1,z2,z3⟩
theorem next_res (H:B.H_lex_quoted_next T) {st0:St} (hx:Ext st0 st) {q k:Nat} {s out:List UInt8} {d:Int} (hs:s.length<1000000000000) (hk:k≤s.length) (b:QAt st0 st q s k out d):
  CRes (call T (.fn 86 [] []) [.ptr q 0] st) fun v s'=>Ext st0 s'∧((s[k]? =none∧v= .tuple [.int .u8 0,.bool false]∧QAt st0 s' q s k out d)∨∃c,s[k]? =some c∧v= .tuple [.int .u8 (c.toNat:Int),.bool true]∧QAt st0 s' q s (k+1) out d):=by
 obtain⟨h1,w,h2,h4,h5⟩:=b
 refine call_res H.e H.f rfl ?_
 have r0:rdCell st.h q 0=some (.str s):=by simp[rdCell,h2]
 have r1:rdCell st.h q 1=some (.int .i64 k):=by simp[rdCell,h2]
 have xa:=Ext.aside hx.wf 12
 have b0:QAt st0 ⟨st.h,st.nx+12⟩ q s k out d:=QAt.ext ⟨h1,w,h2,h4,h5⟩ xa hx.wf
 by_cases hkl:k=s.length
 ·subst hkl
  simp[B.lex_quoted_next,go_sem,RO.run,r0,r1]
  exact⟨(hx.trans xa).dropGe hx.nx,b0.dropLoc xa.wf⟩
 ·have hkl':¬(k:Int)=s.length:=by omega
  have hkl2:¬(s.length:Int)≤k:=by omega
  have hkl3:¬s.length≤k:=by omega
  obtain⟨c,hc,hd⟩:=idx_some (s:=s) (i:=k) (by omega)
  have e4:IntKind.i64.wrap ((k:Int)+1)=((k+1:Nat):Int):=wrap64' (by omega) (by omega)
  have e5:IntKind.i64.wrap (((k+1:Nat):Int) - 1)=(k:Int):=by rw[wrap64' (by omega) (by omega)];omega
  obtain⟨k2,hk2⟩:∃k2,k2=k+1:=⟨_,rfl⟩
  rw[←hk2]at e4 e5
  have hw1:wrCells st.h q 1 [.int .i64 (k2:Int)]=some (hset st.h q (.cells 164 false [.str s,.int .i64 k2,w,.int .i64 d])):=wr_cells h2 rfl (by simp)
  obtain⟨y1,y2⟩:=QAt.put (k':=k2) (d':=d) (hx.trans xa) h1 (k:=k) h2 (h4.ext xa hx.wf) h5
  have q0:rdCell (hset st.h q (.cells 164 false [.str s,.int .i64 k2,w,.int .i64 d])) q 0=some (.str s):=by simp[rdCell,hget_hset_self h2]
  have q1:rdCell (hset st.h q (.cells 164 false [.str s,.int .i64 k2,w,.int .i64 d])) q 1=some (.int .i64 k2):=by simp[rdCell,hget_hset_self h2]
  simp[B.lex_quoted_next,go_sem,RO.run,WO.run,r0,r1,hkl',hkl2,hkl3,e4,hw1,q0,q1,e5,hc]
  rw[←hk2]
  have z:=Ext.aside y1.wf 14
  exact⟨(y1.trans z).dropGe hx.nx,(y2.ext z y1.wf).dropLoc z.wf⟩
theorem line_res (H:B.H_lex_quoted_line T) {st0:St} (hx:Ext st0 st) {q k:Nat} {s out:List UInt8} {d:Int} (hs:s.length<1000000000000) (hk:k≤s.length) (c:UInt8) (b:QAt st0 st q s k out d):
  CRes (call T (.fn 107 [] []) [.ptr q 0,.int .u8 (c.toNat:Int)] st) fun v s'=>Ext st0 s'∧QAt st0 s' q s (k+lineN c (s.drop k)) out d:=by
 obtain⟨h1,w,h2,h4,h5⟩:=b
 refine call_res H.e H.f rfl ?_
 have r0:rdCell st.h q 0=some (.str s):=by simp[rdCell,h2]
 have r1:rdCell st.h q 1=some (.int .i64 k):=by simp[rdCell,h2]
 have xa:=fun n=>Ext.aside hx.wf n
 have b0:∀n,QAt st0 ⟨st.h,st.nx+n⟩ q s k out d:=fun n=>QAt.ext ⟨h1,w,h2,h4,h5⟩ (xa n) hx.wf
 have stay:lineN c (s.drop k)=0→∀n,Ext st0 ⟨dropLoc st.nx st.h,st.nx+n⟩∧QAt st0 ⟨dropLoc st.nx st.h,st.nx+n⟩ q s (k+lineN c (s.drop k)) out d:=fun h n=>by
  rw[h]
  exact⟨(hx.trans (xa n)).dropGe hx.nx,(b0 n).dropLoc (xa n).wf⟩
 by_cases h13:c=13
 ·subst h13
  by_cases hkl:k=s.length
  ·subst hkl
   simp[B.lex_quoted_line,go_sem,RO.run,r0,r1]
   have:=stay (by simp[lineN])
   simp only[List.drop_length]at this
   exact this _
  ·have hkl':¬(k:Int)=s.length:=by omega
   have hkl2:(k:Int)<s.length:=by omega
   have hkl3:k<s.length:=by omega
   obtain⟨b,hc,hd⟩:=idx_some (s:=s) (i:=k) (by omega)
   by_cases h10:b=10
   ·subst h10
    have e4:IntKind.i64.wrap ((k:Int)+1)=((k+1:Nat):Int):=wrap64' (by omega) (by omega)
    obtain⟨k2,hk2⟩:∃k2,k2=k+1:=⟨_,rfl⟩
    have hln:k+lineN 13 (s.drop k)=k2:=by simp[lineN,hd,hk2]
    rw[←hk2]at e4
    have hw1:wrCells st.h q 1 [.int .i64 (k2:Int)]=some (hset st.h q (.cells 164 false [.str s,.int .i64 k2,w,.int .i64 d])):=wr_cells h2 rfl (by simp)
    simp[B.lex_quoted_line,go_sem,RO.run,WO.run,r0,r1,hkl2,hc,e4,hw1]
    rw[hln]
    obtain⟨y1,y2⟩:=QAt.put (k':=k2) (d':=d) (hx.trans (xa 30)) h1 (k:=k) h2 (h4.ext (xa 30) hx.wf) h5
    exact⟨y1.dropGe hx.nx,y2.dropLoc y1.wf⟩
   ·have n1:¬(b.toNat:Int)=10:=u8_ne h10 rfl
    have m1:¬b.toNat=10:=by omega
    simp[B.lex_quoted_line,go_sem,RO.run,r0,r1,hkl2,hc,n1,m1]
    exact stay (by simp[lineN,hd,h10]) _
 ·have n1:¬(c.toNat:Int)=13:=u8_ne h13 rfl
  have m1:¬c.toNat=13:=by omega
  simp[B.lex_quoted_line,go_sem,n1,m1]
  exact stay (by simp[lineN,h13]) _
theorem letters_res (H:B.H_lex_letters T) (hwf:st.Wf):CRes (call T (.fn 117 [] []) [] st) fun v s'=>v= .map st.nx∧Ext st s'∧hget s'.h st.nx=some (.map [(.int .u8 110,.int .u8 10),(.int .u8 114,.int .u8 13),(.int .u8 116,.int .u8 9),(.int .u8 98,.int .u8 8),(.int .u8 102,.int .u8 12)]):=by
 refine call_res H.e H.f rfl ?_
 simp[B.lex_letters,go_sem,NO.run,WO.run,hget_cons,hset_cons,mins,cellEqK]
 have x:=Ext.new hwf (.map [(.int .u8 110,.int .u8 10),(.int .u8 114,.int .u8 13),(.int .u8 116,.int .u8 9),(.int .u8 98,.int .u8 8),(.int .u8 102,.int .u8 12)])
 exact⟨x.dropLoc,hget_dropLoc_keep x.wf (by simp[hget_cons]) rfl⟩
theorem octal_loop (H:B.H_lex_quoted_escape T) {st0:St} {q:Nat} {s out:List UInt8} {d:Int} (hs:s.length<1000000000000):∀(m i n k:Nat) (e:Env) (st1:St),i+m=2→(i=0→n≤7)→(i=1→n≤63)→n≤511→k≤s.length→Ext st0 st1→QAt st0 st1 q s k out d→eget e 0= .ptr q 0→eget e 7= .int .i64 n→eget e 63= .int .i64 i→
  Res (run T (.loop B.lex_quoted_escape_l0) e st1) fun x e' s'=>x= .exit 1∧Ext st0 s'∧QAt st0 s' q s (k+(octN m n (s.drop k)).2) out d∧eget e' 0= .ptr q 0∧eget e' 7= .int .i64 ((octN m n (s.drop k)).1:Nat)∧(octN m n (s.drop k)).1≤511:=by
 intro m
 induction m with
 | zero=>
   intro i n k e st1 hi hn1 hn2 hn hk hx b g0 g7 g63
   have:i=2:=by omega
   subst this
   rw[run_loop]
   simp[B.lex_quoted_escape_l0,go_sem,g0,g7,g63,octN,hx,b,hn]
 | succ m ih=>
   intro i n k e st1 hi hn1 hn2 hn hk hx b g0 g7 g63
   have b':=b
   obtain⟨h1,w,h2,h4,h5⟩:=b'
   have hi2:(i:Int)<2:=by omega
   have r0:rdCell st1.h q 0=some (.str s):=by simp[rdCell,h2]
   have r1:rdCell st1.h q 1=some (.int .i64 k):=by simp[rdCell,h2]
   rw[run_loop]
   have xa:=Ext.aside hx.wf 40
   have stay:octN (m+1) n (s.drop k)=(n,0)→Ext st0 ⟨st1.h,st1.nx+40⟩∧QAt st0 ⟨st1.h,st1.nx+40⟩ q s (k+(octN (m+1) n (s.drop k)).2) out d∧(n:Int)=((octN (m+1) n (s.drop k)).1:Nat)∧(octN (m+1) n (s.drop k)).1≤511:=fun h=>by
    rw[h]
    exact⟨hx.trans xa,b.ext xa hx.wf,rfl,hn⟩
   by_cases hkl:k=s.length
   ·subst hkl
    have z:=stay (by simp[octN])
    simp[B.lex_quoted_escape_l0,go_sem,g0,g7,g63,RO.run,r0,r1,hi2]
    simp only[List.drop_length]at z
    obtain⟨z1,z2,z3,z4⟩:=z
    exact⟨z1,z2,by omega,z4⟩
   ·have hkl2:(k:Int)<s.length:=by omega
    obtain⟨c,hc,hd⟩:=idx_some (s:=s) (i:=k) (by omega)
    by_cases hlo:48≤c.toNat
    ·by_cases hhi:c.toNat≤55
     ·have e1:IntKind.u8.wrap ((c.toNat:Int) - 48)=((c.toNat - 48:Nat):Int):=by
       rw[wrap_u8 (by omega) (by have:=c.toNat_lt;omega)];omega
      have e2:IntKind.i64.wrap ((c.toNat - 48:Nat):Int)=((c.toNat - 48:Nat):Int):=wrap64' (by omega) (by omega)
      have e3:IntKind.i64.wrap (8*(n:Int))=8*n:=wrap64' (by omega) (by omega)
      have e4:IntKind.i64.wrap (8*(n:Int)+((c.toNat - 48:Nat):Int))=((8*n+(c.toNat - 48):Nat):Int):=by rw[wrap64' (by omega) (by omega)];omega
      have e5:IntKind.i64.wrap ((k:Int)+1)=((k+1:Nat):Int):=wrap64' (by omega) (by omega)
      have e6:IntKind.i64.wrap ((i:Int)+1)=((i+1:Nat):Int):=wrap64' (by omega) (by omega)
      have hoc:octN (m+1) n (s.drop k)=((octN m (8*n+(c.toNat - 48)) (s.drop (k+1))).1,(octN m (8*n+(c.toNat - 48)) (s.drop (k+1))).2+1):=by rw[hd];simp[octN,hlo,hhi]
      rw[hoc]
      have hkk:k+((octN m (8*n+(c.toNat - 48)) (s.drop (k+1))).2+1)=k+1+(octN m (8*n+(c.toNat - 48)) (s.drop (k+1))).2:=by omega
      rw[hkk]
      obtain⟨k2,hk2⟩:∃k2,k2=k+1:=⟨_,rfl⟩
      obtain⟨n2,hn2⟩:∃n2,n2=8*n+(c.toNat - 48):=⟨_,rfl⟩
      rw[←hk2]at e5⊢
      rw[←hn2]at e4⊢
      have hw1:wrCells st1.h q 1 [.int .i64 (k2:Int)]=some (hset st1.h q (.cells 164 false [.str s,.int .i64 k2,w,.int .i64 d])):=wr_cells h2 rfl (by simp)
      have xb:=Ext.aside hx.wf (40+17)
      obtain⟨y1,y2⟩:=QAt.put (k':=k2) (d':=d) (hx.trans xb) h1 (k:=k) h2 (h4.ext xb hx.wf) h5
      simp[B.lex_quoted_escape_l0,go_sem,g0,g7,g63,RO.run,WO.run,r0,r1,hi2,hkl2,hc,show (48:Int)≤c.toNat by omega,show (c.toNat:Int)≤55 by omega,hlo,hhi,e1,e2,e3,e4,e5,hw1]
      refine(ih (i+1) n2 k2 _ _ (by omega) (by omega) (by omega) (by omega) (by omega) y1 y2 ?_ ?_ ?_).mono fun x e s h=>h
      ·simp[go_sem]
      ·simp[go_sem]
      ·simp[go_sem,e6]
     ·have z:=stay (by simp[octN,hd,hlo,hhi])
      simp[B.lex_quoted_escape_l0,go_sem,g0,g7,g63,RO.run,r0,r1,hi2,hkl2,hc,show (48:Int)≤c.toNat by omega,show¬(c.toNat:Int)≤55 by omega,hlo,hhi]
      obtain⟨z1,z2,z3,z4⟩:=z
      exact⟨z1,z2,by omega,z4⟩
    ·have z:=stay (by simp[octN,hd,hlo])
     simp[B.lex_quoted_escape_l0,go_sem,g0,g7,g63,RO.run,r0,r1,hi2,hkl2,hc,show¬(48:Int)≤c.toNat by omega,hlo]
     obtain⟨z1,z2,z3,z4⟩:=z
     exact⟨z1,z2,by omega,z4⟩
def letterM:List (AV×AV):=[(.int .u8 110,.int .u8 10),(.int .u8 114,.int .u8 13),(.int .u8 116,.int .u8 9),(.int .u8 98,.int .u8 8),(.int .u8 102,.int .u8 12)]
theorem lookup_letter (c:UInt8):mfind (.i .u8) (.int .u8 (c.toNat:Int)) letterM=some ((letter c).map fun o=> .int .u8 (o.toNat:Int)):=by
 have hn:∀k:UInt8,c≠k→¬(c.toNat:Int)=(k.toNat:Int):=fun k h=>u8_ne h rfl
 unfold letterM letter
 by_cases h1:c=110
 ·subst h1;rfl
 by_cases h2:c=114
 ·subst h2;rfl
 by_cases h3:c=116
 ·subst h3;rfl
 by_cases h4:c=98
 ·subst h4;rfl
 by_cases h5:c=102
 ·subst h5;rfl
 have m1:=hn _ h1
 have m2:=hn _ h2
 have m3:=hn _ h3
 have m4:=hn _ h4
 have m5:=hn _ h5
 simp at m1 m2 m3 m4 m5
 simp[mfind,cellEqK,h1,h2,h3,h4,h5,m1,m2,m3,m4,m5]
theorem escape_res (H:B.H_lex_quoted_escape T) {st0:St} (hx:Ext st0 st) {q k:Nat} {s out:List UInt8} {d:Int} (hs:s.length<1000000000000) (hk:k≤s.length) (ho:out.length≤s.length) (b:QAt st0 st q s k out d):
  CRes (call T (.fn 106 [] []) [.ptr q 0] st) fun v s'=>Ext st0 s'∧match esc (s.drop k)with
   | none=>v= .bool false
   | some (o,n)=>v= .bool true∧QAt st0 s' q s (k+n) (out++o) d:=by
 refine call_res H.e H.f rfl ?_
 simp[B.lex_quoted_escape,go_sem]
 refine(next_res H.lex_quoted_next hx hs hk b).mono ?_
 rintro v1 s1 ⟨x1,⟨hc,rfl,b1⟩ | ⟨c,hc,rfl,b1⟩⟩
 ·have hd:s.drop k=[]:=by rw[List.drop_eq_nil_iff];exact List.getElem?_eq_none_iff.1 hc
  simp[go_sem,hd,esc]
  exact x1.dropGe hx.nx
 ·have hkl:k<s.length:=by
   rcases Nat.lt_or_ge k s.length with h | h
   ·exact h
   ·rw[List.getElem?_eq_none h]at hc;cases hc
  obtain⟨c',hc',hd⟩:=idx_some hkl
  rw[hc]at hc';cases hc'
  simp[go_sem]
  refine(letters_res H.lex_letters x1.wf).mono ?_
  rintro v2 s2 ⟨rfl,x2,hm⟩
  have y2:=x1.trans x2
  have b2:=b1.ext x2 x1.wf
  have hlk:=lookup_letter c
  have hm':hget s2.h s1.nx=some (.map letterM):=hm
  have push:∀(o:UInt8) (e:Env) (s3:St),Ext st0 s3→QAt st0 s3 q s (k+1) out d→True:=fun _ _ _ _ _=>trivial
  have hp:=fun o=>b2.push y2 (by omega) o
  cases hl:letter c with
  | some o=>
    rw[hl]at hlk
    obtain⟨w,r2,hw⟩:=hp o
    simp[go_sem,RO.run,NO.run,hm',hlk,cellEqK,r2,reps]
    refine hw.mono ?_
    rintro v3 s3 ⟨a3,h',w3,x3,q3⟩
    simp[go_sem,WO.run,a3,w3,hd,esc,hl]
    exact⟨x3.dropGe hx.nx,q3.dropLoc x3.wf⟩
  | none=>
    rw[hl]at hlk
    by_cases hln:c=10∨c=13
    ·have he:esc (s.drop k)=some ([],1+lineN c (s.drop (k+1))):=by rw[hd];simp[esc,hl,hln]
     have hcn:(c.toNat:Int)=10∨(c.toNat:Int)=13:=by rcases hln with rfl | rfl <;> simp
     have hll:=line_res H.lex_quoted_line y2 hs (by omega) c b2
     rw[he]
     obtain⟨n,hn⟩:∃n:Int,n=c.toNat:=⟨_,rfl⟩
     rw[←hn]at hcn hll hlk
     have fin:∀s3,Ext st0 s3→QAt st0 s3 q s (k+1+lineN c (s.drop (k+1))) out d→Ext st0 ⟨dropLoc st.nx s3.h,s3.nx⟩∧QAt st0 ⟨dropLoc st.nx s3.h,s3.nx⟩ q s (k+(1+lineN c (s.drop (k+1)))) out d:=fun s3 x3 q3=>by
      rw[←Nat.add_assoc];exact⟨x3.dropGe hx.nx,q3.dropLoc x3.wf⟩
     rcases hcn with rfl | rfl
     ·simp[go_sem,RO.run,NO.run,hm',hlk,cellEqK,←hn]
      refine hll.mono ?_
      rintro v3 s3 ⟨x3,q3⟩
      simp[go_sem]
      exact fin s3 x3 q3
     ·simp[go_sem,RO.run,NO.run,hm',hlk,cellEqK,←hn]
      refine hll.mono ?_
      rintro v3 s3 ⟨x3,q3⟩
      simp[go_sem]
      exact fin s3 x3 q3
    ·simp only[not_or]at hln
     have n1:¬(c.toNat:Int)=10:=u8_ne hln.1 rfl
     have n2:¬(c.toNat:Int)=13:=u8_ne hln.2 rfl
     have m1:¬c.toNat=10:=by omega
     have m2:¬c.toNat=13:=by omega
     by_cases hoc:48≤c.toNat∧c.toNat≤55
     ·have he:esc (s.drop k)=some ([UInt8.ofNat (octN 2 (c.toNat - 48) (s.drop (k+1))).1],1+(octN 2 (c.toNat - 48) (s.drop (k+1))).2):=by rw[hd];simp[esc,hl,hln,hoc]
      have e1:IntKind.u8.wrap ((c.toNat:Int) - 48)=((c.toNat - 48:Nat):Int):=by
       rw[wrap_u8 (by omega) (by have:=c.toNat_lt;omega)];omega
      have e2:IntKind.i64.wrap ((c.toNat - 48:Nat):Int)=((c.toNat - 48:Nat):Int):=wrap64' (by omega) (by omega)
      rw[he]
      simp[go_sem,RO.run,NO.run,hm',hlk,cellEqK,n1,n2,m1,m2,hoc,show (48:Int)≤c.toNat by omega,show (c.toNat:Int)≤55 by omega,e1,e2]
      refine(octal_loop H (q:=q) (s:=s) (out:=out) (d:=d) hs 2 0 (c.toNat - 48) (k+1) _ s2 (by omega) (by omega) (by omega) (by omega) (by omega) y2 b2 (by simp[go_sem]) (by simp[go_sem]) (by simp[go_sem])).mono ?_
      generalize octN 2 (c.toNat - 48) (s.drop (k+1))=oc
      rintro x e' s3 ⟨rfl,x3,q3,g0,g7,hle⟩
      have e3:IntKind.u8.wrap ((oc.1:Nat):Int)=((UInt8.ofNat oc.1).toNat:Int):=by
       simp only[IntKind.wrap,IntKind.signed,IntKind.bits,UInt8.toNat_ofNat']
       simp
      obtain⟨w,r2,hw⟩:=q3.push x3 (by omega) (UInt8.ofNat oc.1)
      simp only[←e3]at hw
      simp[go_sem,RO.run,NO.run,g0,g7,r2,reps]
      refine hw.mono ?_
      rintro v4 s4 ⟨a4,h',w4,x4,q4⟩
      simp[go_sem,WO.run,a4,w4]
      exact⟨x4.dropGe hx.nx,by rw[←Nat.add_assoc];exact q4.dropLoc x4.wf⟩
     ·have he:esc (s.drop k)=some ([c],1):=by rw[hd];simp[esc,hl,hln,hoc]
      rw[he]
      obtain⟨w,r2,hw⟩:=hp c
      by_cases hlo:48≤c.toNat
      ·have hhi:¬c.toNat≤55:=fun h=>hoc ⟨hlo,h⟩
       simp[go_sem,RO.run,NO.run,hm',hlk,cellEqK,n1,n2,m1,m2,hlo,hhi,show (48:Int)≤c.toNat by omega,show¬(c.toNat:Int)≤55 by omega,r2,reps]
       refine hw.mono ?_
       rintro v3 s3 ⟨a3,h',w3,x3,q3⟩
       simp[go_sem,WO.run,a3,w3]
       exact⟨x3.dropGe hx.nx,q3.dropLoc x3.wf⟩
      ·simp[go_sem,RO.run,NO.run,hm',hlk,cellEqK,n1,n2,m1,m2,hlo,show¬(48:Int)≤c.toNat by omega,r2,reps]
       refine hw.mono ?_
       rintro v3 s3 ⟨a3,h',w3,x3,q3⟩
       simp[go_sem,WO.run,a3,w3]
       exact⟨x3.dropGe hx.nx,q3.dropLoc x3.wf⟩
end Go.Ev

/- Unquote told. -/
namespace Go.Ev
open Go
set_option linter.unusedSimpArgs false
set_option linter.unusedSectionVars false
set_option linter.unusedVariables false
variable {T : Tab} {st : St}
theorem octN_used:∀(k n:Nat) (r:List UInt8),(octN k n r).2≤r.length
 | 0,_,_=>by simp[octN]
 | k+1,n,[]=>by simp[octN]
 | k+1,n,c::r=>by
   simp only[octN]
   split
   ·have:=octN_used k (8*n+(c.toNat - 48)) r
    simp only[List.length_cons];omega
   ·simp
theorem lineN_used (c:UInt8) (r:List UInt8):lineN c r≤r.length:=by
 unfold lineN
 split
 ·rename_i h
  cases r with
  | nil=>simp at h
  | cons=>simp
 ·omega
theorem esc_used {r o:List UInt8} {n:Nat} (h:esc r=some (o,n)):1≤n∧n≤r.length∧o.length≤n:=by
 cases r with
 | nil=>cases h
 | cons c r=>
   simp only[esc,Option.some.injEq]at h
   have h1:=lineN_used c r
   have h2:=octN_used 2 (c.toNat - 48) r
   split at h
   ·injection h with a b;subst a;subst b;simp
   ·split at h
    ·injection h with a b;subst a;subst b;simp;omega
    ·split at h
     ·injection h with a b;subst a;subst b;simp;omega
     ·injection h with a b;subst a;subst b;simp
theorem run_loop_q (H:B.H_lex_quoted_run T) {st0:St} {q:Nat} {s:List UInt8} (hs:s.length<1000000000000):∀(f d k:Nat) (out:List UInt8) (e:Env) (st1:St),s.length+1≤k+f→k≤s.length→1≤d→d≤k+1→out.length≤k→Ext st0 st1→QAt st0 st1 q s k out d→eget e 0= .ptr q 0→
  Res (run T (.loop B.lex_quoted_run_l0) e st1) fun x e' s'=>Ext st0 s'∧match unq f d (s.drop k) out with
   | none=>x= .ret∧eget e' 2= .bool false
   | some (o,r)=>x= .exit 0∧QAt st0 s' q s (s.length - r.length) o 0:=by
 intro f
 induction f with
 | zero=>intro d k out e st1 h1 h2;omega
 | succ f ih=>
   intro d k out e st1 hf hk hd1 hdk ho hx b g0
   obtain⟨b1,w,b2,b4,b5⟩:=id b
   have r3:rdCell st1.h q 3=some (.int .i64 d):=by simp[rdCell,b2]
   have hd0:(0:Int)<d:=by omega
   have hd0':0<d:=by omega
   rw[run_loop]
   simp[B.lex_quoted_run_l0,go_sem,g0,RO.run,r3,hd0,hd0']
   refine(next_res H.lex_quoted_next hx hs hk b).mono ?_
   rintro v1 s1 ⟨x1,⟨hc,rfl,q1⟩ | ⟨c,hc,rfl,q1⟩⟩
   ·have hd:s.drop k=[]:=by rw[List.drop_eq_nil_iff];exact List.getElem?_eq_none_iff.1 hc
    simp[go_sem,hd,unq,x1]
   ·have hkl:k<s.length:=by
     rcases Nat.lt_or_ge k s.length with h | h
     ·exact h
     ·rw[List.getElem?_eq_none h]at hc;cases hc
    obtain⟨c',hc',hd⟩:=idx_some hkl
    rw[hc]at hc';cases hc'
    by_cases h92:c=92
    ·subst h92
     simp[go_sem]
     refine(escape_res H.lex_quoted_escape x1 hs (by omega) (by omega) q1).mono ?_
     rintro v2 s2 ⟨x2,hv2⟩
     cases hes:esc (s.drop (k+1))with
     | none=>
       rw[hes]at hv2
       subst hv2
       simp[go_sem,hd,unq,hes,x2]
     | some p=>
       obtain⟨o,n⟩:=p
       rw[hes]at hv2
       obtain⟨rfl,q2⟩:=hv2
       obtain⟨u1,u2,u3⟩:=esc_used hes
       simp only[List.length_drop]at u2
       simp[go_sem]
       refine(ih d (k+1+n) (out++o) _ s2 (by omega) (by omega) hd1 (by omega) (by simp;omega) x2 q2 (by simp[go_sem])).mono ?_
       rintro x e' s' ⟨y1,y2⟩
       refine⟨y1,?_⟩
       rw[hd]
       simpa [unq,hes,List.drop_drop] using y2
    ·have n1:¬(c.toNat:Int)=92:=u8_ne h92 rfl
     have m1:¬c.toNat=92:=by omega
     obtain⟨p1,u,p2,p4,p5⟩:=id q1
     have r3':rdCell s1.h q 3=some (.int .i64 d):=by simp[rdCell,p2]
     have step:∀(d':Nat) (c':UInt8) (k':Nat) (s2:St) (e':Env) (st2:St),unq (f+1) d (s.drop k) out=unq f d' (s.drop k') (out++[c'])→k+1≤k'→k'≤s.length→1≤d'→d'≤k+2→Ext st0 st2→QAt st0 st2 q s k' (out++[c']) d'→eget e' 0= .ptr q 0→
       Res (run T (.loop B.lex_quoted_run_l0) e' st2) fun x e' s'=>Ext st0 s'∧match unq (f+1) d (s.drop k) out with
        | none=>x= .ret∧eget e' 2= .bool false
        | some (o,r)=>x= .exit 0∧QAt st0 s' q s (s.length - r.length) o 0:=by
      intro d' c' k' s2 e' st2 he h1 h2 h3 h3' h4 h5 h6
      rw[he]
      exact ih d' k' (out++[c']) e' st2 (by omega) h2 h3 (by omega) (by simp;omega) h4 h5 h6
     by_cases h40:c=40
     ·subst h40
      have e5:IntKind.i64.wrap ((d:Int)+1)=((d+1:Nat):Int):=wrap64' (by omega) (by omega)
      have hw3:wrCells s1.h q 3 [.int .i64 ((d+1:Nat):Int)]=some (hset s1.h q (.cells 164 false [.str s,.int .i64 (k+1:Nat),u,.int .i64 (d+1:Nat)])):=wr_cells p2 rfl (by simp)
      obtain⟨y1,y2⟩:=QAt.put (k':=k+1) (d':=((d+1:Nat):Int)) x1 p1 p2 p4 p5
      obtain⟨z,z1,z2⟩:=y2.push y1 (by omega) 40
      have hun:unq (f+1) d (s.drop k) out=unq f (d+1) (s.drop (k+1)) (out++[40]):=by rw[hd];simp[unq]
      obtain⟨D,hD⟩:∃D,D=d+1:=⟨_,rfl⟩
      obtain⟨k2,hk2⟩:∃k2,k2=k+1:=⟨_,rfl⟩
      rw[←hD]at e5 hw3 y1 y2 z1 z2 hun
      rw[←hk2]at hw3 y1 y2 z1 z2 hun
      generalize hU:unq (f+1) d (s.drop k) out=U at step⊢
      simp[go_sem,RO.run,WO.run,NO.run,r3',e5,hw3,z1,reps]
      refine z2.mono ?_
      rintro v4 s4 ⟨a4,h',w4,x4,q4⟩
      simp[go_sem,WO.run,a4,w4]
      exact step D 40 k2 s1 _ _ (hU.symm.trans hun) (by omega) (by omega) (by omega) (by omega) x4 q4 (by simp[go_sem])
     have n2:¬(c.toNat:Int)=40:=u8_ne h40 rfl
     have m2:¬c.toNat=40:=by omega
     by_cases h41:c=41
     ·subst h41
      have e5:IntKind.i64.wrap ((d:Int) - 1)=((d - 1:Nat):Int):=by rw[wrap64' (by omega) (by omega)];omega
      have hw3:wrCells s1.h q 3 [.int .i64 ((d - 1:Nat):Int)]=some (hset s1.h q (.cells 164 false [.str s,.int .i64 (k+1:Nat),u,.int .i64 (d - 1:Nat)])):=wr_cells p2 rfl (by simp)
      obtain⟨y1,y2⟩:=QAt.put (k':=k+1) (d':=((d - 1:Nat):Int)) x1 p1 p2 p4 p5
      have r3'':rdCell (hset s1.h q (.cells 164 false [.str s,.int .i64 (k+1:Nat),u,.int .i64 (d - 1:Nat)])) q 3=some (.int .i64 (d - 1:Nat)):=by simp[rdCell,hget_hset_self p2]
      obtain⟨z,z1,z2⟩:=y2.push y1 (by omega) 41
      by_cases hdd:d=1
      ·subst hdd
       have hd0:eget e 0= .ptr q 0:=g0
       have r0:rdCell (hset s1.h q (.cells 164 false [.str s,.int .i64 (k+1:Nat),u,.int .i64 (1 - 1:Nat)])) q 3=some (.int .i64 0):=r3''
       have hun:unq (f+1) 1 (s.drop k) out=some (out,s.drop (k+1)):=by rw[hd];simp[unq]
       have hlen:s.length - (s.drop (k+1)).length=k+1:=by rw[List.length_drop];omega
       rw[hun]
       simp only[hlen]
       have hc0:((1 - 1:Nat):Int)=0:=rfl
       obtain⟨k2,hk2⟩:∃k2,k2=k+1:=⟨_,rfl⟩
       rw[←hk2]at hw3 y1 y2 r0⊢
       rw[hc0]at hw3 y1 y2 r0 e5
       have r3s:rdCell s1.h q 3=some (.int .i64 1):=r3'
       have e50:IntKind.i64.wrap 0=0:=rfl
       simp[go_sem,RO.run,WO.run,NO.run,r3s,e5,e50,hw3,r0,reps]
       rw[run_loop]
       simp[B.lex_quoted_run_l0,go_sem,RO.run,r0]
       exact⟨y1,y2⟩
      ·have hun:unq (f+1) d (s.drop k) out=unq f (d - 1) (s.drop (k+1)) (out++[41]):=by rw[hd];simp[unq,hdd]
       obtain⟨D,hD⟩:∃D,D=d - 1:=⟨_,rfl⟩
       obtain⟨k2,hk2⟩:∃k2,k2=k+1:=⟨_,rfl⟩
       rw[←hD]at e5 hw3 y1 y2 z1 z2 hun r3''
       rw[←hk2]at hw3 y1 y2 z1 z2 hun r3''
       have hD0:¬(D:Int)=0:=by omega
       have hD0':¬D=0:=by omega
       generalize hU:unq (f+1) d (s.drop k) out=U at step⊢
       simp[go_sem,RO.run,WO.run,NO.run,r3',e5,hw3,r3'',hD0,hD0',z1,reps]
       refine z2.mono ?_
       rintro v4 s4 ⟨a4,h',w4,x4,q4⟩
       simp[go_sem,WO.run,a4,w4]
       exact step D 41 k2 s1 _ _ (hU.symm.trans hun) (by omega) (by omega) (by omega) (by omega) x4 q4 (by simp[go_sem])
     have n3:¬(c.toNat:Int)=41:=u8_ne h41 rfl
     have m3:¬c.toNat=41:=by omega
     by_cases hln:c=10∨c=13
     ·have hun:unq (f+1) d (s.drop k) out=unq f d (s.drop (k+1+lineN c (s.drop (k+1)))) (out++[10]):=by rw[hd];simp[unq,h92,h40,h41,hln,List.drop_drop]
      have hll:=line_res H.lex_quoted_line x1 hs (by omega) c q1
      have hlu:=lineN_used c (s.drop (k+1))
      rw[List.length_drop]at hlu
      generalize hU:unq (f+1) d (s.drop k) out=U at step⊢
      have hcn:(c.toNat:Int)=10∨(c.toNat:Int)=13:=by rcases hln with rfl | rfl <;> simp
      obtain⟨n,hn⟩:∃n:Int,n=c.toNat:=⟨_,rfl⟩
      generalize lineN c (s.drop (k+1))=L at hll hun hlu
      have tail:∀(s2:St),Ext st0 s2→QAt st0 s2 q s (k+1+L) out d→∃v,rdCell s2.h q 2=some v∧CRes (aappend 5 1 1 ⟨(s2.nx,.cells 5 false [.int .u8 10])::s2.h,s2.nx+1⟩ v (.slice s2.nx 0 1 (.known 1))) fun v' s'=>acells v'=[v']∧∃h',wrCells s'.h q 2 [v']=some h'∧Ext st0 ⟨h',s'.nx⟩∧QAt st0 ⟨h',s'.nx⟩ q s (k+1+L) (out++[10]) d:=fun s2 x2 q2=>q2.push x2 (by omega) 10
      rw[←hn]at hcn hll
      rcases hcn with rfl | rfl
      ·simp[go_sem,←hn]
       refine hll.mono ?_
       rintro v2 s2 ⟨x2,q2⟩
       obtain⟨z,z1,z2⟩:=tail s2 x2 q2
       simp[go_sem,RO.run,WO.run,NO.run,z1,reps]
       refine z2.mono ?_
       rintro v4 s4 ⟨a4,h',w4,x4,q4⟩
       simp[go_sem,WO.run,a4,w4]
       exact step d 10 _ s1 _ _ (hU.symm.trans hun) (by omega) (by omega) (by omega) (by omega) x4 q4 (by simp[go_sem])
      ·simp[go_sem,←hn]
       refine hll.mono ?_
       rintro v2 s2 ⟨x2,q2⟩
       obtain⟨z,z1,z2⟩:=tail s2 x2 q2
       simp[go_sem,RO.run,WO.run,NO.run,z1,reps]
       refine z2.mono ?_
       rintro v4 s4 ⟨a4,h',w4,x4,q4⟩
       simp[go_sem,WO.run,a4,w4]
       exact step d 10 _ s1 _ _ (hU.symm.trans hun) (by omega) (by omega) (by omega) (by omega) x4 q4 (by simp[go_sem])
     ·have hun:unq (f+1) d (s.drop k) out=unq f d (s.drop (k+1)) (out++[c]):=by rw[hd];simp[unq,h92,h40,h41,hln]
      simp only[not_or]at hln
      have n4:¬(c.toNat:Int)=10:=u8_ne hln.1 rfl
      have n5:¬(c.toNat:Int)=13:=u8_ne hln.2 rfl
      have m4:¬c.toNat=10:=by omega
      have m5:¬c.toNat=13:=by omega
      obtain⟨z,z1,z2⟩:=q1.push x1 (by omega) c
      generalize hU:unq (f+1) d (s.drop k) out=U at step⊢
      simp[go_sem,RO.run,WO.run,NO.run,n1,n2,n3,n4,n5,m1,m2,m3,m4,m5,z1,reps]
      refine z2.mono ?_
      rintro v4 s4 ⟨a4,h',w4,x4,q4⟩
      simp[go_sem,WO.run,a4,w4]
      exact step d c _ s1 _ _ (hU.symm.trans hun) (by omega) (by omega) (by omega) (by omega) x4 q4 (by simp[go_sem])
theorem run_res (H:B.H_lex_quoted_run T) {st0:St} (hx:Ext st0 st) {q k:Nat} {s out:List UInt8} {d:Int} (hs:s.length<1000000000000) (hk:k≤s.length) (ho:out.length≤k) (b:QAt st0 st q s k out d) {f:Nat} (hf:s.length+1≤k+f):
  CRes (call T (.fn 87 [] []) [.ptr q 0] st) fun v s'=>Ext st0 s'∧match unq f 1 (s.drop k) out with
   | none=>v= .bool false
   | some (o,r)=>v= .bool true∧QAt st0 s' q s (s.length - r.length) o 0:=by
 refine call_res H.e H.f rfl ?_
 obtain⟨b1,w,b2,b4,b5⟩:=id b
 have hw3:wrCells st.h q 3 [.int .i64 1]=some (hset st.h q (.cells 164 false [.str s,.int .i64 k,w,.int .i64 1])):=wr_cells b2 rfl (by simp)
 obtain⟨y1,y2⟩:=QAt.put (k':=k) (d':=((1:Nat):Int)) hx b1 b2 b4 b5
 simp[B.lex_quoted_run,go_sem,RO.run,WO.run,hw3]
 refine(run_loop_q H hs f 1 k out _ _ hf hk (by omega) (by omega) ho y1 y2 (by simp[go_sem])).mono ?_
 generalize unq f 1 (s.drop k) out=U
 rintro x e s' ⟨x1,h⟩
 cases U with
 | none=>
   obtain⟨rfl,g⟩:=h
   simp[go_sem,g]
   exact x1.dropGe hx.nx
 | some p=>
   obtain⟨o,r⟩:=p
   obtain⟨rfl,q2⟩:=h
   simp[go_sem]
   exact⟨x1.dropGe hx.nx,q2.dropLoc x1.wf⟩
def unquoteT (s:List UInt8):List UInt8×Nat×Int:=
 match s with
 | c::r=>if c=40 then match unq s.length 1 r []with
    | none=>([],0,5)
    | some (o,l)=>if 1000<o.length then([],0,26)else(o,s.length - l.length,0)
   else([],0,5)
 | []=>([],0,5)
def toU (t:List UInt8×Nat×Int):AV:= .tuple [.str t.1,.int .i64 (t.2.1:Int),.int .i64 t.2.2]
theorem unquote_tells (H:B.H_lex_Unquote T) (hwf:st.Wf) {s:List UInt8} (hs:s.length<1000000000000):Tells T st (.fn 69 [] []) [.str s] (toU (unquoteT s)):=by
 refine tells_of H.e H.f rfl ?_
 have hx:=Ext.new hwf (.cells 164 false [.str s,.int .i64 0,.nilslice,.int .i64 0])
 have hb:QAt st ⟨(st.nx,.cells 164 false [.str s,.int .i64 0,.nilslice,.int .i64 0])::st.h,st.nx+1⟩ st.nx s 0 [] 0:=⟨Nat.le_refl _,.nilslice,by simp[hget_cons],.nil _ _,by simp[AV.nms]⟩
 simp[B.lex_Unquote,go_sem,NO.run]
 refine(next_res H.lex_quoted_next hx hs (Nat.zero_le _) hb).mono ?_
 rintro v1 s1 ⟨x1,⟨hc,rfl,q1⟩ | ⟨c,hc,rfl,q1⟩⟩
 ·have:s=[]:=by
   cases s with
   | nil=>rfl
   | cons=>simp at hc
  subst this
  simp[go_sem,toU,unquoteT,x1]
 ·obtain⟨r,rfl⟩:∃r,s=c::r:=by
   cases s with
   | nil=>simp at hc
   | cons a r=>simp at hc;exact⟨r,by rw[hc]⟩
  by_cases h40:c=40
  ·subst h40
   have hr:=run_res H.lex_quoted_run x1 hs (by simp) (by simp) q1 (f:=r.length+1) (by simp;omega)
   have ht:unquoteT (40::r)=match unq (r.length+1) 1 r []with
    | none=>([],0,5)
    | some (o,l)=>if 1000<o.length then([],0,26)else(o,(40::r).length - l.length,0):=by simp[unquoteT]
   rw[ht]
   rw[show (40::r:List UInt8).drop (0+1)=r from rfl]at hr
   simp[go_sem]
   refine hr.mono ?_
   cases hu:unq (r.length+1) 1 r []with
   | none=>
     rintro v2 s2 ⟨x2,rfl⟩
     simp[go_sem,toU,x2]
   | some p=>
     obtain⟨o,l⟩:=p
     rintro v2 s2 ⟨x2,rfl,q2⟩
     obtain⟨b1,w,b2,b4,b5⟩:=id q2
     have r2:rdCell s2.h st.nx 2=some w:=by simp[rdCell,b2]
     have r1:rdCell s2.h st.nx 1=some (.int .i64 (((40::r).length - l.length:Nat):Int)):=by simp[rdCell,b2]
     have hsrc:=b4.1.rd.src
     have hu8:=toBytes_u8s o
     generalize hN:(40::r).length - l.length=N at r1⊢
     have hN':r.length+1 - l.length=N:=hN
     obtain⟨⟨m,hsl⟩,b6,b7⟩:=b4
     have xa:=fun n=>x2.trans (Ext.aside x2.wf n)
     rcases hsl with ⟨k1,k2,k3⟩ | ⟨k1,k2,k3⟩ | ⟨ty',k1,k2,k3⟩
     ·subst k1
      have:o=[]:=List.length_eq_zero_iff.1 k3
      subst this
      simp[go_sem,RO.run,r2,r1,hsrc,hu8,toU,xa,hN']
     ·subst k1
      have hrd:rdCells s2.h m 0 o.length=some (u8s o):=by
       simp[rdCells,k2,u8s_len]
       exact List.take_of_length_le (by rw[u8s_len];exact Nat.le_refl _)
      by_cases hlong:1000<o.length
      ·simp[go_sem,RO.run,r2,r1,hsrc,hu8,toU,xa,hlong,show (1000:Int)<o.length by omega,x2]
      ·simp[go_sem,RO.run,r2,r1,hrd,hu8,toU,xa,hN',hlong,show¬(1000:Int)<o.length by omega]
     ·exact absurd k1 (b7 _ _ _ _)
  ·have n1:¬(c.toNat:Int)=40:=u8_ne h40 rfl
   have m1:¬c.toNat=40:=by omega
   simp[go_sem,n1,m1,toU,unquoteT,h40,x1]
end Go.Ev

/- Valid tokens; Check. -/
namespace Go.Ev
open Go
set_option linter.unusedSimpArgs false
set_option linter.unusedSectionVars false
set_option linter.unusedVariables false
variable {T : Tab} {st : St}
theorem tok_eq {a b a' b':Int} {c c':List UInt8}:cellsEqK [.i .i64,.i .i64,.s] [.int .i64 a,.int .i64 b,.str c] [.int .i64 a',.int .i64 b',.str c']=some (decide (a=a') && (decide (b=b') && (c == c'))):=by
 simp only[cellsEqK,cellEqK,seq8_eq]
 by_cases h1:a=a' <;> by_cases h2:b=b' <;> cases h3:(c == c') <;> simp[h1,h2]
theorem is110_tells (H:B.H_real_Is T) (hwf:st.Wf) {n:Int}:Tells T st (.fn 110 [] []) [.int .i64 n] (.bool (decide (-2147483648≤n) && decide (n≤2147483648))):=by
 refine tells_of H.e H.f rfl ?_
 by_cases h: -2147483648≤n
 ·simp[B.real_Is,go_sem,h,Ext.refl hwf]
 ·simp[B.real_Is,go_sem,h,Ext.refl hwf]
def namedT (k:Int) (t:List UInt8):Bool:=decide (t.length≤100) && regAll t && (decide (k≠3) || (!(t == []) && decide ((numT t).2.2=5)))
theorem named_tells (H:B.H_lex_named T) (hwf:st.Wf) {k n:Int} {t:List UInt8} (hs:t.length<4000000000000000000):Tells T st (.fn 111 [] []) [.agg [.int .i64 k,.int .i64 n,.str t]] (.bool (namedT k t)):=by
 refine tells_of H.e H.f rfl ?_
 have hx:=Ext.new hwf (.cells 134 true [.int .i64 k,.int .i64 n,.str t])
 have g:hget ((st.nx,AObj.cells 134 true [.int .i64 k,.int .i64 n,.str t])::st.h) st.nx=some (.cells 134 true [.int .i64 k,.int .i64 n,.str t]):=by simp[hget_cons]
 by_cases hl:100<t.length
 ·have hn:namedT k t=false:=by simp[namedT];omega
  simp[B.lex_named,go_sem,NO.run,WO.run,RO.run,rdCell,hget_cons,hl,show (100:Int)<t.length by omega,hn,hx]
 ·simp[B.lex_named,go_sem,NO.run,WO.run,RO.run,rdCell,hget_cons,hl,show¬(100:Int)<t.length by omega]
  refine(lexregular_tells H.lex_regular hx.wf (s:=t) (by omega)).use fun s1 hs1=> ?_
  have e1:=hx.trans hs1
  have g1:=hs1.get hx.wf g
  cases hr:regAll t with
  | false=>simp[go_sem,hr,namedT,e1]
  | true=>
    by_cases h3:k=3
    ·subst h3
     simp[go_sem,RO.run,rdCell,g1]
     refine(number_tells H.lex_Number e1.wf hs).use fun s2 hs2=> ?_
     have e2:=e1.trans hs2
     have g2:=hs2.get e1.wf g1
     have hnm:namedT 3 t=(!(t == []) && decide ((numT t).2.2=5)):=by simp[namedT,hr];omega
     rw[hnm]
     obtain⟨u,hu⟩:∃u,u=numT t:=⟨_,rfl⟩
     rw[←hu]
     have x3:=e2.trans (Ext.new e2.wf (.cells 134 true [.int .i64 u.1,.int .i64 u.2.1,.str []]))
     have hne:¬s2.nx=st.nx:=by have:=e2.wf.lt _ _ g2;omega
     by_cases hz:t=[]
     ·subst hz
      simp[go_sem,toA,tokA,tokC,NO.run,WO.run,RO.run,wr_tok,rdCell,hget_cons,hne,g2,seq8_eq,x3]
     ·have hq:t.isEmpty=false:=by cases t with | nil=>exact absurd rfl hz | cons=>rfl
      simp[go_sem,toA,tokA,tokC,NO.run,WO.run,RO.run,wr_tok,rdCell,hget_cons,hne,g2,seq8_eq,hq,x3]
    ·have hnm:namedT k t=true:=by simp[namedT,hr,h3];omega
     simp[go_sem,RO.run,rdCell,g1,h3,hnm,e1]
def markT (k n:Int) (t:List UInt8):Bool:=decide (k=3) && (decide (n=0) && ((t == [91]) || (t == [93]) || (t == [60,60]) || (t == [62,62])))
def rightT (k n:Int) (t:List UInt8):Bool:=
 if k=1 then decide (-2147483648≤n) && decide (n≤2147483647) && (t == [])
 else if k=2 then decide (-2147483648≤n) && decide (n≤2147483648) && (t == [])
 else if k=3∨k=4∨k=5 then markT k n t || (decide (n=0) && namedT k t)
 else if k=6 then decide (n=0) && decide (t.length≤1000)
 else(decide (k=7) || decide (k=8)) && (decide (n=0) && (t == []))
theorem right_loop {m:Nat} {k n:Int} {t:List UInt8} {e:Env} (hrd:rdCells st.h m 0 3=some [.int .i64 k,.int .i64 n,.str t]) (g1:eget e 1= .ptr m 0) (g36:eget e 36= .agg [.str [91],.str [93],.str [60,60],.str [62,62]]) (g37:eget e 37= .int .i64 0):
  Res (run T (.loop B.lex_right_l0) e st) (fun x e s=>s=st∧((x= .exit 1∧eget e 1= .ptr m 0∧markT k n t=false)∨(x= .ret∧eget e 2= .bool true∧markT k n t=true))):=by
 have w0:IntKind.i64.wrap 1=1:=rfl
 have w1:IntKind.i64.wrap 2=2:=rfl
 have w2:IntKind.i64.wrap 3=3:=rfl
 have w3:IntKind.i64.wrap 4=4:=rfl
 by_cases hk:k=3
 ·by_cases hn:n=0
  ·subst hk;subst hn
   rw[run_loop]
   by_cases h0:t=[91]
   ·simp[B.lex_right_l0,go_sem,RO.run,hrd,tok_eq,g1,g36,g37,h0,markT]
   simp[B.lex_right_l0,go_sem,RO.run,hrd,tok_eq,g1,g36,g37,h0]
   rw[run_loop]
   by_cases h1:t=[93]
   ·simp[B.lex_right_l0,go_sem,RO.run,hrd,tok_eq,w0,h1,markT]
   simp[B.lex_right_l0,go_sem,RO.run,hrd,tok_eq,w0,h1]
   rw[run_loop]
   by_cases h2:t=[60,60]
   ·simp[B.lex_right_l0,go_sem,RO.run,hrd,tok_eq,w1,h2,markT]
   simp[B.lex_right_l0,go_sem,RO.run,hrd,tok_eq,w1,h2]
   rw[run_loop]
   by_cases h3:t=[62,62]
   ·simp[B.lex_right_l0,go_sem,RO.run,hrd,tok_eq,w2,h3,markT]
   simp[B.lex_right_l0,go_sem,RO.run,hrd,tok_eq,w2,h3]
   rw[run_loop]
   simp[B.lex_right_l0,go_sem,RO.run,w3,markT,h0,h1,h2,h3]
  ·have hm:markT k n t=false:=by simp[markT,hn]
   rw[hm]
   rw[run_loop]
   simp[B.lex_right_l0,go_sem,RO.run,hrd,tok_eq,g1,g36,g37,hn]
   rw[run_loop]
   simp[B.lex_right_l0,go_sem,RO.run,hrd,tok_eq,w0,hn]
   rw[run_loop]
   simp[B.lex_right_l0,go_sem,RO.run,hrd,tok_eq,w1,hn]
   rw[run_loop]
   simp[B.lex_right_l0,go_sem,RO.run,hrd,tok_eq,w2,hn]
   rw[run_loop]
   simp[B.lex_right_l0,go_sem,RO.run,w3]
 ·have hm:markT k n t=false:=by simp[markT,hk]
  rw[hm]
  rw[run_loop]
  simp[B.lex_right_l0,go_sem,RO.run,hrd,tok_eq,g1,g36,g37,hk]
  rw[run_loop]
  simp[B.lex_right_l0,go_sem,RO.run,hrd,tok_eq,w0,hk]
  rw[run_loop]
  simp[B.lex_right_l0,go_sem,RO.run,hrd,tok_eq,w1,hk]
  rw[run_loop]
  simp[B.lex_right_l0,go_sem,RO.run,hrd,tok_eq,w2,hk]
  rw[run_loop]
  simp[B.lex_right_l0,go_sem,RO.run,w3]
theorem right_tells (H:B.H_lex_right T) (hwf:st.Wf) {k n:Int} {t:List UInt8} (hs:t.length<4000000000000000000):Tells T st (.fn 93 [] []) [.agg [.int .i64 k,.int .i64 n,.str t]] (.bool (rightT k n t)):=by
 refine tells_of H.e H.f rfl ?_
 have hx:=Ext.new hwf (.cells 134 true [.int .i64 k,.int .i64 n,.str t])
 have g:hget ((st.nx,AObj.cells 134 true [.int .i64 k,.int .i64 n,.str t])::st.h) st.nx=some (.cells 134 true [.int .i64 k,.int .i64 n,.str t]):=by simp[hget_cons]
 by_cases h1:k=1
 ·subst h1
  by_cases a1: -2147483648≤n
  ·by_cases a2:n≤2147483647
   ·simp[B.lex_right,go_sem,NO.run,WO.run,RO.run,rdCell,hget_cons,a1,a2,rightT,seq8_eq,hx]
   ·simp[B.lex_right,go_sem,NO.run,WO.run,RO.run,rdCell,hget_cons,a1,a2,rightT,seq8_eq,hx]
  ·simp[B.lex_right,go_sem,NO.run,WO.run,RO.run,rdCell,hget_cons,a1,rightT,seq8_eq,hx]
 by_cases h2:k=2
 ·subst h2
  simp[B.lex_right,go_sem,NO.run,WO.run,RO.run,rdCell,hget_cons]
  refine(is110_tells H.real_Is hx.wf).use fun s1 hs1=> ?_
  have e1:=hx.trans hs1
  have g1:=hs1.get hx.wf g
  by_cases a1: -2147483648≤n∧n≤2147483648
  ·simp[go_sem,RO.run,rdCell,g1,a1,rightT,seq8_eq,e1]
  ·have:(decide (-2147483648≤n) && decide (n≤2147483648))=false:=by simpa using a1
   simp[go_sem,RO.run,rdCell,g1,this,rightT,seq8_eq,e1]
 by_cases h3:k=3∨k=4∨k=5
 ·have hr3:rdCells ((st.nx,AObj.cells 134 true [.int .i64 k,.int .i64 n,.str t])::st.h) st.nx 0 3=some [.int .i64 k,.int .i64 n,.str t]:=rd_tok ..
  have lp:=fun e a b c=>right_loop (T:=T) (e:=e) (st:=⟨(st.nx,AObj.cells 134 true [.int .i64 k,.int .i64 n,.str t])::st.h,st.nx+1⟩) hr3 a b c
  have hrt:rightT k n t=(markT k n t || (decide (n=0) && namedT k t)):=by
   unfold rightT
   rw[if_neg (by omega),if_neg (by omega),if_pos h3]
  rw[hrt]
  generalize markT k n t=BB at lp⊢
  rcases h3 with rfl | rfl | rfl
  ·simp[B.lex_right,go_sem,NO.run,WO.run,RO.run,rdCell,hget_cons]
   refine(lp _ (by simp[go_sem]) (by simp[go_sem]) (by simp[go_sem])).mono ?_
   rintro x e' s' ⟨rfl,⟨rfl,k1,k2⟩ | ⟨rfl,k1,k2⟩⟩
   ·by_cases a1:n=0
    ·subst a1
     simp[go_sem,k1,RO.run,rdCell,hget_cons,rd_tok]
     refine(named_tells H.lex_named hx.wf hs).use fun s1 hs1=> ?_
     simp[go_sem,k2,hx.trans hs1]
    ·simp[go_sem,k1,RO.run,rdCell,hget_cons,rd_tok,a1,k2,hx]
   ·simp[go_sem,k1,k2,hx]
  ·simp[B.lex_right,go_sem,NO.run,WO.run,RO.run,rdCell,hget_cons]
   refine(lp _ (by simp[go_sem]) (by simp[go_sem]) (by simp[go_sem])).mono ?_
   rintro x e' s' ⟨rfl,⟨rfl,k1,k2⟩ | ⟨rfl,k1,k2⟩⟩
   ·by_cases a1:n=0
    ·subst a1
     simp[go_sem,k1,RO.run,rdCell,hget_cons,rd_tok]
     refine(named_tells H.lex_named hx.wf hs).use fun s1 hs1=> ?_
     simp[go_sem,k2,hx.trans hs1]
    ·simp[go_sem,k1,RO.run,rdCell,hget_cons,rd_tok,a1,k2,hx]
   ·simp[go_sem,k1,k2,hx]
  ·simp[B.lex_right,go_sem,NO.run,WO.run,RO.run,rdCell,hget_cons]
   refine(lp _ (by simp[go_sem]) (by simp[go_sem]) (by simp[go_sem])).mono ?_
   rintro x e' s' ⟨rfl,⟨rfl,k1,k2⟩ | ⟨rfl,k1,k2⟩⟩
   ·by_cases a1:n=0
    ·subst a1
     simp[go_sem,k1,RO.run,rdCell,hget_cons,rd_tok]
     refine(named_tells H.lex_named hx.wf hs).use fun s1 hs1=> ?_
     simp[go_sem,k2,hx.trans hs1]
    ·simp[go_sem,k1,RO.run,rdCell,hget_cons,rd_tok,a1,k2,hx]
   ·simp[go_sem,k1,k2,hx]
 simp only[not_or]at h3
 by_cases h6:k=6
 ·subst h6
  by_cases a1:n=0
  ·subst a1
   simp[B.lex_right,go_sem,NO.run,WO.run,RO.run,rdCell,hget_cons,rightT,hx]
   omega
  ·simp[B.lex_right,go_sem,NO.run,WO.run,RO.run,rdCell,hget_cons,a1,rightT,hx]
 ·by_cases h7:k=7
  ·subst h7
   by_cases hb:n=0∧t=[]
   ·obtain⟨rfl,rfl⟩:=hb
    simp[B.lex_right,go_sem,NO.run,WO.run,RO.run,rdCell,hget_cons,rightT,rd_tok,tok_eq,hx]
   ·have hb1:(decide (n=0) && t.isEmpty)=false:=by simpa using hb
    have hb2:(n=0→¬t=[]):=fun a b=>hb ⟨a,b⟩
    simp[B.lex_right,go_sem,NO.run,WO.run,RO.run,rdCell,hget_cons,rightT,rd_tok,tok_eq,hb1,hx]
  ·simp[B.lex_right,go_sem,NO.run,WO.run,RO.run,rdCell,hget_cons,rightT,rd_tok,tok_eq,h1,h2,h3,h6,h7,hx]
theorem check_tells (H:B.H_lex_Check T) (hwf:st.Wf) {k n:Int} {t:List UInt8} (hs:t.length<4000000000000000000):Tells T st (.fn 74 [] []) [.agg [.int .i64 k,.int .i64 n,.str t]] (.int .i64 (if rightT k n t=true then 0 else 130)):=by
 refine tells_of H.e H.f rfl ?_
 have hx:=Ext.new hwf (.cells 134 true [.int .i64 k,.int .i64 n,.str t])
 simp[B.lex_Check,go_sem,NO.run,WO.run,RO.run,rd_tok]
 refine(right_tells H.lex_right hx.wf hs).use fun s1 hs1=> ?_
 have e1:=hx.trans hs1
 cases hr:rightT k n t <;> simp[go_sem,hr,e1]
end Go.Ev

/- The chapter's examples. -/
namespace Go.Ev
open Go
set_option linter.unusedSimpArgs false
set_option linter.unusedSectionVars false
set_option linter.unusedVariables false
variable {T : Tab} {st : St}
end Go.Ev

/- LexKnown told. -/
namespace Go.Ev
open Go
set_option linter.unusedSimpArgs false
set_option linter.unusedSectionVars false
set_option linter.unusedVariables false
variable {T : Tab} {st : St}
end Go.Ev

/- LexNests told. -/
namespace Go.Ev
open Go
set_option linter.unusedSimpArgs false
set_option linter.unusedSectionVars false
set_option linter.unusedVariables false
variable {T : Tab} {st : St}
def InL (h:Heap) (v:AV) (l:List UInt8):Prop:=(v= .nilslice∧l=[])∨∃n full,v= .slice n 0 l.length .unk∧hget h n=some (.ro (u8s full))∧l=full.take l.length
theorem InL.ext {st':St} {v:AV} {l:List UInt8} (a:InL st.h v l) (x:Ext st st') (hw:st.Wf):InL st'.h v l:=by
 rcases a with h | ⟨n,full,h1,h2,h3⟩
 ·exact .inl h
 ·exact .inr ⟨n,full,h1,x.get hw h2,h3⟩
theorem InL.at {h:Heap} {v:AV} {l:List UInt8} {i:Nat} {c:UInt8} (a:InL h v l) (hc:l[i]? =some c):∃n,v= .slice n 0 l.length .unk∧rdCell h n i=some (.int .u8 (c.toNat:Int)):=by
 rcases a with ⟨rfl,rfl⟩ | ⟨n,full,rfl,h2,h3⟩
 ·simp at hc
 ·refine⟨n,rfl,?_⟩
  have:full[i]? =some c:=by
   rw[h3,List.getElem?_take]at hc
   split at hc
   ·exact hc
   ·cases hc
  simp[rdCell,h2,u8s,this]
end Go.Ev

/- Octets among the arguments: what they are, and the names of their blocks. -/
namespace Go.Ev
open Go Go.RowKit Go.ChangeShapes Go.WideShapes Go.Deep Go.Joins
set_option linter.unusedVariables false
set_option linter.unusedSimpArgs false
def nuOne (a:Addr):Nu:=⟨fun n=>if n=2 then some a else none,fun _=>0⟩
def stOne (cs:List AV):St:=⟨[(2,.ro cs)],3⟩
theorem stOne_wf (cs:List AV):(stOne cs).Wf:=⟨(fun n o h=>by
 simp only[stOne,hget]at h⊢
 split at h
 ·rename_i e;omega
 ·cases h),(by simp[stOne])⟩
theorem stNone_wf (n:Nat):St.Wf ⟨[],n⟩:=⟨(fun n o h=>by cases h),(by simp)⟩
theorem sr_one {X:Cx} {w:World} {a:Addr} {cs:List AV} {us:Array Value} {t:TypeId} {fz:Nat×Nat} (hb:w.heap[a.block]? =some (.cells us t fz))
  (hc:∀(i:Nat) (x:AV),cs[i]? =some x→∃u,w.cell? ⟨a.block,a.off+i,none⟩=some u∧VR X (nuOne a) x u):SR chkD X (nuOne a) (stOne cs) w:=by
 refine⟨⟨?_,?_⟩,?_⟩
 ·intro n o h
  simp only[stOne,hget]at h
  split at h
  ·rename_i e
   subst e
   injection h with h
   subst h
   exact⟨a,by simp[nuOne],⟨us,t,fz,hb⟩,hc⟩
  ·cases h
 ·intro n m o p x y h1 h2 h3
  simp only[stOne,hget]at h1
  split at h1
  ·injection h1 with h1;subst h1;cases h3
  ·cases h1
 ·intro n hn
  simp only[stOne]at hn
  simp only[nuOne]
  rw[if_neg (by omega)]
theorem own_one {a:Addr} {cs:List AV} (b:Nat):¬Own (nuOne a) (stOne cs).h b:=fun⟨n,o,x,h1,h2,_⟩=>by
 simp only[stOne,hget]at h1
 split at h1
 ·injection h1 with h1;subst h1;cases h2
 ·cases h1
theorem wf_u8 {n:Int} (h:(Lit.int .u8 n).wf=true):0≤n∧n<256:=by
 simp[Lit.wf,IntKind.min,IntKind.max,IntKind.signed,IntKind.bits]at h
 omega
section
variable {H : Type} {enc : TypeId × Value → H} {P : Program} {w : World} {base : Nat} {spare : Nat → Bool} {held : Bool}
theorem octet_open {t:TypeId} (ht:P.underlying t=some (.int .u8)) (hc:P.cellsOf t=1) {fuel:Nat} {cs:List Value} {x:DataW H×List MemPlace} (h:DataW.trod enc P w base spare held fuel t cs=some x):
  ∃n:Nat,n<256∧cs=[.int .u8 (n:Int)]:=by
 obtain⟨n,h2,_,h3⟩:=DataW.trod_int ht h
 have h4:=wf_u8 h3
 obtain⟨k,rfl⟩:=Int.eq_ofNat_of_zero_le h4.1
 exact⟨k,by omega,h2⟩
theorem octets_open2 {X:Cx} {r:Reach} {b0:Nat} {tb tsl:TypeId} {v:Value} {d:DataW H} {p:List MemPlace} (hP:X.P=P) (hb:P.underlying tb=some (.int .u8)) (hbc:P.cellsOf tb=1) (hsl:P.underlying tsl=some (.slice tb))
  (hv:Value.okWide P w r b0 tsl v) (h:DataW.Trod enc P w base spare held tsl v d p):
  ∃(N:Nu) (st:St) (sv:AV) (l:List UInt8),SR chkD X N st w∧st.Wf∧(∀b,¬Own N st.h b)∧InL st.h sv l∧l.length<9223372036854775808∧VR X N sv v∧(st=⟨[],3⟩∨∃cs,st=stOne cs):=by
 obtain⟨a0,len0,cap0,rfl⟩:=okWide_slice hsl hv
 obtain⟨fuel,hf⟩:=h
 rcases open_slice hsl hf with ⟨hcs,_⟩ | ⟨a,len,cap,m,n2,D,Pl,hcs,hba,hl,hm,hmm,_,hel⟩
 ·simp[Value.cells]at hcs
  obtain⟨rfl,rfl,rfl⟩:=hcs
  exact⟨Nu.none,⟨[],3⟩,.nilslice,[],sr_none 3 w,stNone_wf 3,own_none,.inl ⟨rfl,rfl⟩,by decide,rfl,.inl rfl⟩
 ·simp[Value.cells]at hcs
  obtain⟨rfl,rfl,rfl⟩:=hcs
  have hcell:Cell.okWide P w r b0 tsl (.slice (some a) len0 cap0):=by
   simpa only[Value.okWide,hsl] using hv
  have hhas:a.spot=none∧∃us tt fz,w.heap[a.block]? =some (.cells us tt fz):=by
   simp only[Cell.okWide,hsl,Cell.ok,World.has]at hcell
   obtain⟨_,_,_,h3,row,cells,h4,_⟩:=hcell
   refine⟨h3,?_⟩
   unfold World.shape? at h4
   split at h4
   ·exact⟨_,_,_,by assumption⟩
   ·cases h4
  obtain⟨hsp,us,tt,fz,hheap⟩:=hhas
  obtain⟨blk,off,spot⟩:=a
  simp only at hsp
  subst hsp
  have hmlen:len0≤m:=by rw[hmm];split <;> omega
  have hoct:∀j,j<len0→∃x:Nat,x<256∧w.cell? ⟨blk,off+j,none⟩=some (.int .u8 (x:Int)):=by
   intro j hj
   obtain⟨cs',h3,h4⟩:=hel j (by omega)
   rw[hbc]at h3
   obtain⟨x,h7,h8⟩:=octet_open hb hbc h4
   obtain⟨_,_,h9⟩:=World.cells?_some h3
   have h10:=h9 0 (by omega)
   rw[h8]at h10
   refine⟨x,h7,?_⟩
   simp only[List.getElem?_cons_zero,Nat.mul_one]at h10
   rw[Deep.add_add]at h10
   rw[Nat.add_zero]at h10
   unfold Addr.add at h10
   split at h10
   ·rename_i hj0;rw[hj0];exact h10
   ·exact h10
  obtain⟨f,hff⟩:=Deep.choose_lt (α:=Nat) (p:=fun j x=>x<256∧w.cell? ⟨blk,off+j,none⟩=some (.int .u8 (x:Int))) hoct
  let l:List UInt8:=(List.range len0).map fun j=>UInt8.ofNat (f j)
  have hll:l.length=len0:=by simp[l]
  have hxs:(u8s l).length=len0:=by simp[u8s,l]
  refine⟨nuOne ⟨blk,off,none⟩,stOne (u8s l),.slice 2 0 len0 .unk,l,?_,stOne_wf _,own_one,.inr ⟨2,l,by rw[hll],by simp[stOne,hget],by rw[List.take_of_length_le (Nat.le_refl _)]⟩,?_,?_,.inr ⟨_,rfl⟩⟩
  ·refine sr_one hheap (fun i x hx=> ?_)
   have hi:i<len0:=by rw[←hxs];exact(List.getElem?_eq_some_iff.1 hx).1
   have hf:=hff i hi
   have hx':x= .int .u8 ((f i:Nat):Int):=by
    simp[u8s,l,hi]at hx
    rw[←hx]
    have:f i % 256=f i:=Nat.mod_eq_of_lt hf.1
    congr 1
    omega
   subst hx'
   exact⟨_,hf.2,rfl⟩
  ·have:maxLen≤9223372036854775807:=by decide
   omega
  ·exact⟨⟨blk,off,none⟩,cap0,rfl,rfl,hl,trivial⟩
end
end Go.Ev

/- The reference's Unquote: its parts. -/
namespace Go.Ev
open Go
set_option linter.unusedSimpArgs false
set_option linter.unusedSectionVars false
set_option linter.unusedVariables false
variable {T : Tab} {st : St}
theorem Grow.app {st0 s1:St} (hF:st0.nx≤s1.nx) (hw:s1.Wf) {v x:AV} {l m:List UInt8} (a:Grow st0 s1 v l) (hx:Rd s1.h x 1 m.length (u8s m)) (hl:l.length+m.length<35184372088831):
  CRes (aappend 5 1 1 s1 v x) fun v' s=>Grow st0 s v' (l++m)∧Frm v.nms s1 s:=by
 obtain⟨a1,a2,a3⟩:=a
 have hap:=Sl.append (x:=x) (j:=m.length) (new:=u8s m) (b:=1) (Frm.refl hw v.nms) (fun n h=> .inl h) a1 hx (by simp[u8s,AV.sc]) (by omega) (by omega) (.inr fun n c h=>a3 _ _ _ _ h)
 refine(hap.also (fun _ _ h=>aappend_nk h a3)).mono ?_
 rintro v2 s2 ⟨⟨k1,k2,k3,_⟩,hnk2⟩
 refine⟨⟨by rw[u8s_append,List.length_append];exact k1,fun n hn=> ?_,hnk2⟩,k2⟩
 rcases k3 n hn with h | h
 ·exact a2 n h
 ·exact .inr (Nat.le_trans hF h)
def atS:List UInt8→Nat
 | []=>0
 | c::_=>c.toNat
theorem at_tells (H:B.H_chaseref03_at T) (hwf:st.Wf) {s:List UInt8} {i:Nat} (hs:s.length<1000000000000):Tells T st (.fn 88 [] []) [.str s,.int .i64 (i:Int)] (.int .u8 (atS (s.drop i):Nat)):=by
 refine tells_of H.e H.f rfl ?_
 by_cases h:i<s.length
 ·obtain⟨c,hc,hd⟩:=idx_some h
  simp[B.chaseref03_at,go_sem,show (i:Int)<s.length by omega,hc,hd,atS,Ext.refl hwf]
 ·have hd:s.drop i=[]:=List.drop_eq_nil_iff.2 (by omega)
  simp[B.chaseref03_at,go_sem,show¬(i:Int)<s.length by omega,h,hd,atS,Ext.refl hwf]
def endS (r:List UInt8):Nat:=if atS r=13∧atS r.tail=10 then 2 else if atS r=13∨atS r=10 then 1 else 0
theorem ended_tells (H:B.H_chaseref03_ended T) (hwf:st.Wf) {s:List UInt8} {i:Nat} (hi:i≤1000000000000) (hs:s.length<1000000000000):Tells T st (.fn 90 [] []) [.str s,.int .i64 (i:Int)] (.int .i64 (endS (s.drop i):Nat)):=by
 refine tells_of H.e H.f rfl ?_
 have e4:IntKind.i64.wrap ((i:Int)+1)=((i+1:Nat):Int):=wrap64' (by omega) (by omega)
 have hat1:=fun(st':St) (hw:st'.Wf)=>at_tells (st:=st') H.chaseref03_at hw (s:=s) (i:=i) hs
 have hat2:=fun(st':St) (hw:st'.Wf)=>at_tells (st:=st') H.chaseref03_at hw (s:=s) (i:=i+1) hs
 have ht:(s.drop i).tail=s.drop (i+1):=by simp
 unfold endS
 rw[ht]
 generalize atS (s.drop i)=a at hat1⊢
 generalize atS (s.drop (i+1))=b at hat2⊢
 simp[B.chaseref03_ended,go_sem]
 refine(hat1 _ hwf).use fun s1 x1=> ?_
 by_cases ha:a=13
 ·subst ha
  simp[go_sem,e4]
  refine(hat2 _ x1.wf).use fun s2 x2'=> ?_
  have x2:=x1.trans x2'
  by_cases hb:b=10
  ·subst hb;simp[go_sem,x2]
  ·have hb':¬(b:Int)=10:=by omega
   simp[go_sem,hb,hb']
   refine(hat1 _ x2.wf).use fun s3 x3'=> ?_
   have x3:=x2.trans x3'
   simp[go_sem,x3]
 ·have ha':¬(a:Int)=13:=by omega
  simp[go_sem,ha,ha']
  refine(hat1 _ x1.wf).use fun s2 x2'=> ?_
  have x2:=x1.trans x2'
  simp[go_sem,ha,ha']
  refine(hat1 _ x2.wf).use fun s3 x3'=> ?_
  have x3:=x2.trans x3'
  by_cases hb:a=10
  ·subst hb;simp[go_sem,x3]
  ·have hb':¬(a:Int)=10:=by omega
   simp[go_sem,hb,hb',x3]
def octS:Nat→List UInt8→Nat
 | 0,_=>0
 | _+1,[]=>0
 | k+1,c::r=>if 48≤c.toNat∧c.toNat≤55 then octS k r+1 else 0
theorem octS_at (k:Nat) (r:List UInt8):octS (k+1) r=if 48≤atS r∧atS r≤55 then octS k r.tail+1 else 0:=by
 cases r with
 | nil=>simp[octS,atS]
 | cons c r=>rfl
theorem octal108_loop (H:B.H_chaseref03_octal T) {s:List UInt8} {i:Nat} (hs:s.length<1000000000000) (hi:i≤1000000000000) (st0:St):∀(m n:Nat) (e:Env) (st1:St),n+m=3→Ext st0 st1→eget e 0= .str s→eget e 1= .int .i64 i→eget e 5= .int .i64 n→
  Res (run T (.loop B.chaseref03_octal_l0) e st1) fun x e' s'=>x= .exit 0∧Ext st0 s'∧eget e' 5= .int .i64 ((n+octS m (s.drop (i+n)):Nat):Int):=by
 intro m
 induction m with
 | zero=>
   intro n e st1 hn hx g0 g1 g5
   have:n=3:=by omega
   subst this
   rw[run_loop]
   simp[B.chaseref03_octal_l0,go_sem,g0,g1,g5,hx,octS]
 | succ m ih=>
   intro n e st1 hn hx g0 g1 g5
   have e1:IntKind.i64.wrap ((i:Int)+n)=((i+n:Nat):Int):=by rw[wrap64' (by omega) (by omega)];omega
   have e4:IntKind.i64.wrap ((n:Int)+1)=((n+1:Nat):Int):=wrap64' (by omega) (by omega)
   have hat:=fun(st':St) (hw:st'.Wf)=>at_tells (st:=st') H.chaseref03_at hw (s:=s) (i:=i+n) hs
   have ht:(s.drop (i+n)).tail=s.drop (i+(n+1)):=by simp[Nat.add_assoc]
   rw[octS_at,ht]
   generalize atS (s.drop (i+n))=a at hat⊢
   have hn3:(n:Int)<3:=by omega
   rw[run_loop]
   simp[B.chaseref03_octal_l0,go_sem,g0,g1,g5,hn3,e1]
   refine(hat _ hx.wf).use fun s1 x1'=> ?_
   have x1:=hx.trans x1'
   by_cases h1:48≤a
   ·simp[go_sem,h1,show (48:Int)≤a by omega,e1]
    refine(hat _ x1.wf).use fun s2 x2'=> ?_
    have x2:=x1.trans x2'
    by_cases h2:a≤55
    ·simp[go_sem,h1,h2,show (a:Int)≤55 by omega]
     refine(ih (n+1) _ s2 (by omega) x2 (by simp[go_sem]) (by simp[go_sem]) (by simp[go_sem,e4])).mono ?_
     rintro x e' s' ⟨a1,a2,a3⟩
     exact⟨a1,a2,by rw[a3];congr 1;omega⟩
    ·simp[go_sem,h1,h2,show¬(a:Int)≤55 by omega,x2]
   ·simp[go_sem,h1,show¬(48:Int)≤a by omega,x1]
theorem octal108_tells (H:B.H_chaseref03_octal T) (hwf:st.Wf) {s:List UInt8} {i:Nat} (hi:i≤1000000000000) (hs:s.length<1000000000000):Tells T st (.fn 108 [] []) [.str s,.int .i64 (i:Int)] (.int .i64 (octS 3 (s.drop i):Nat)):=by
 refine tells_of H.e H.f rfl ?_
 simp[B.chaseref03_octal,go_sem]
 refine(octal108_loop H hs hi st 3 0 _ st (by omega) (.refl hwf) (by simp[go_sem]) (by simp[go_sem]) (by simp[go_sem])).mono ?_
 rintro x e s' ⟨rfl,x2,g⟩
 simp[go_sem,g,x2]
def octV (n:Nat) (l:List UInt8):Nat:=l.foldl (fun v c=>8*v+(c.toNat - 48)) n
theorem octN_eq:∀(k n:Nat) (r:List UInt8),octN k n r=(octV n (r.take (octS k r)),octS k r)
 | 0,n,r=>by simp[octN,octS,octV]
 | k+1,n,[]=>by simp[octN,octS,octV]
 | k+1,n,c::r=>by
   simp only[octN,octS]
   split
   ·rw[octN_eq k]
    simp[octV]
   ·simp[octV]
theorem octS_dig:∀(k:Nat) (r:List UInt8),∀c∈r.take (octS k r),48≤c.toNat∧c.toNat≤55
 | 0,r,c,h=>by simp[octS]at h
 | k+1,[],c,h=>by simp[octS]at h
 | k+1,d::r,c,h=>by
   simp only[octS]at h
   split at h
   ·rw[List.take_succ_cons]at h
    rcases List.mem_cons.1 h with rfl | h
    ·assumption
    ·exact octS_dig k r c h
   ·simp at h
theorem octS_le:∀(k:Nat) (r:List UInt8),octS k r≤k∧octS k r≤r.length
 | 0,r=>by simp[octS]
 | k+1,[]=>by simp[octS]
 | k+1,d::r=>by
   have:=octS_le k r
   simp only[octS,List.length_cons]
   split <;> omega
theorem octV_le:∀(l:List UInt8) (n:Nat),(∀c∈l,48≤c.toNat∧c.toNat≤55)→octV n l+1≤(n+1)*8 ^ l.length
 | [],n,_=>by simp[octV]
 | c::l,n,h=>by
   have h1:=h c List.mem_cons_self
   have:=octV_le l (8*n+(c.toNat - 48)) fun d hd=>h d (List.mem_cons_of_mem _ hd)
   have e:octV n (c::l)=octV (8*n+(c.toNat - 48)) l:=rfl
   rw[e,List.length_cons,Nat.pow_succ,Nat.mul_comm (8 ^ l.length) 8,←Nat.mul_assoc]
   exact Nat.le_trans this (Nat.mul_le_mul_right _ (by omega))
theorem octV_loop {s:List UInt8} {i K:Nat} (hs:s.length<1000000000000) (hK:K≤3) (hi:i+1+K≤s.length) (hdig:∀c∈(s.drop (i+1)).take K,48≤c.toNat∧c.toNat≤55) (hwf:st.Wf):∀(m k v:Nat) (e:Env),k+m=K→v+1≤8 ^ k→eget e 0= .str s→eget e 1= .int .i64 i→eget e 6= .int .i64 K→eget e 7= .int .i64 v→eget e 8= .int .i64 k→
  Res (run T (.loop B.chaseref03_escape_l0) e st) fun x e' s'=>x= .exit 0∧s'=st∧eget e' 6= .int .i64 K∧eget e' 7= .int .i64 ((octV v (((s.drop (i+1)).take K).drop k):Nat):Int):=by
 intro m
 induction m with
 | zero=>
   intro k v e hk hv g0 g1 g6 g7 g8
   have:k=K:=by omega
   subst this
   rw[run_loop]
   have hz:((s.drop (i+1)).take k).drop k=[]:=List.drop_eq_nil_iff.2 (by rw[List.length_take];omega)
   simp[B.chaseref03_escape_l0,go_sem,g0,g1,g6,g7,g8]
   rfl
 | succ m ih=>
   intro k v e hk hv g0 g1 g6 g7 g8
   have hkK:(k:Int)<K:=by omega
   obtain⟨c,hc,hd⟩:=idx_some (s:=s) (i:=i+1+k) (by omega)
   have hd2:((s.drop (i+1)).take K).drop k=c::((s.drop (i+1)).take K).drop (k+1):=by
    have hl:k<((s.drop (i+1)).take K).length:=by rw[List.length_take,List.length_drop];omega
    obtain⟨c',hc',hd'⟩:=idx_some hl
    rw[hd']
    have:c'=c:=by
     rw[List.getElem?_take,if_pos (by omega),List.getElem?_drop,hc]at hc'
     exact(Option.some.inj hc').symm
    rw[this]
   have hcd:=hdig c (List.mem_of_mem_drop (by rw[hd2];exact List.mem_cons_self))
   have h8k:(8:Nat) ^ k≤8 ^ 3:=Nat.pow_le_pow_right (by omega) (by omega)
   have h8:(8:Nat) ^ 3=512:=rfl
   have e1:IntKind.i64.wrap ((v:Int)*8)=v*8:=wrap64' (by omega) (by omega)
   have e2:IntKind.i64.wrap ((i:Int)+1)=(i:Int)+1:=wrap64' (by omega) (by omega)
   have e3:IntKind.i64.wrap ((i:Int)+1+k)=((i+1+k:Nat):Int):=by rw[wrap64' (by omega) (by omega)];omega
   have e4:IntKind.i64.wrap ((c.toNat:Nat):Int)=c.toNat:=wrap64' (by omega) (by omega)
   have e5:IntKind.i64.wrap ((v:Int)*8+c.toNat)=v*8+c.toNat:=wrap64' (by omega) (by omega)
   have e6:IntKind.i64.wrap ((v:Int)*8+c.toNat - 48)=((8*v+(c.toNat - 48):Nat):Int):=by rw[wrap64' (by omega) (by omega)];omega
   have e7:IntKind.i64.wrap ((k:Int)+1)=((k+1:Nat):Int):=wrap64' (by omega) (by omega)
   obtain⟨q,hq⟩:∃q,q=i+1+k:=⟨_,rfl⟩
   rw[←hq]at e3 hc
   have hql:(q:Int)<s.length:=by omega
   rw[run_loop]
   simp[B.chaseref03_escape_l0,go_sem,g0,g1,g6,g7,g8,hkK,e1,e2,e3,e4,e5,e6,hc]
   rw[hd2]
   refine(ih (k+1) (8*v+(c.toNat - 48)) _ (by omega) (by rw[Nat.pow_succ];omega) (by simp[go_sem]) (by simp[go_sem]) (by simp[go_sem]) (by simp[go_sem,e6]) (by simp[go_sem,e7])).mono fun x e s h=>h
theorem letter_not {c:UInt8} (h:48≤c.toNat∧c.toNat≤55∨c=10∨c=13):letter c=none:=by
 have hb:(List.range 256).all (fun n=> !((decide (48≤n) && decide (n≤55)) || decide (n=10) || decide (n=13)) || (letter (UInt8.ofNat n)).isNone)=true:=by kernel_rfl
 have:=all_octets hb c
 simp only[UInt8.ofNat_toNat]at this
 cases hl:letter c with
 | none=>rfl
 | some o=>
   rw[hl]at this
   simp at this
   rcases h with h | rfl | rfl
   ·omega
   ·simp at this
   ·simp at this
theorem made_rd {s2:St} (x:Ext st s2) (c:UInt8):Ext st ⟨dropLoc st.nx ((s2.nx,.cells 5 false [.int .u8 (c.toNat:Int)])::s2.h),s2.nx+1⟩∧Rd (dropLoc st.nx ((s2.nx,AObj.cells 5 false [.int .u8 (c.toNat:Int)])::s2.h)) (.slice s2.nx 0 1 (.known 1)) 1 1 (u8s [c]):=by
 have y:=x.trans (Ext.new x.wf (.cells 5 false [.int .u8 (c.toNat:Int)]))
 refine⟨y.dropLoc,.inr ⟨_,_,_,rfl,rd_all (ty:=5) (l:=false) (hget_dropLoc_keep y.wf (by simp[hget_cons];rfl) rfl) rfl⟩⟩
theorem endS_line {c:UInt8} {r:List UInt8} (h:c=10∨c=13):endS (c::r)=1+lineN c r:=by
 unfold endS lineN
 rcases h with rfl | rfl
 ·simp[atS]
 ·cases r with
  | nil=>simp[atS]
  | cons b r=>
    by_cases hb:b=10
    ·subst hb;simp[atS]
    ·have:¬b.toNat=10:=fun e=>hb (UInt8.toNat_inj.1 e)
     simp[atS,hb,this]
theorem endS_none {c:UInt8} {r:List UInt8} (h:¬(c=10∨c=13)):endS (c::r)=0:=by
 simp only[not_or]at h
 have h1:¬c.toNat=10:=fun e=>h.1 (UInt8.toNat_inj.1 e)
 have h2:¬c.toNat=13:=fun e=>h.2 (UInt8.toNat_inj.1 e)
 simp[endS,atS,h1,h2]
theorem refEscape_res (H:B.H_chaseref03_escape T) (hwf:st.Wf) {s:List UInt8} {i:Nat} (hs:s.length<1000000000000) (hi:i+1<s.length) {o:List UInt8} {m:Nat} (he:esc (s.drop (i+1))=some (o,m)):
  CRes (call T (.fn 89 [] []) [.str s,.int .i64 (i:Int)] st) fun v s'=>∃sv,v= .tuple [sv,.int .i64 ((1+m:Nat):Int)]∧Ext st s'∧Rd s'.h sv 1 o.length (u8s o):=by
 refine call_res H.e H.f rfl ?_
 have e1:IntKind.i64.wrap ((i:Int)+1)=((i+1:Nat):Int):=wrap64' (by omega) (by omega)
 have ho:=fun(st':St) (hw:st'.Wf)=>octal108_tells (st:=st') H.chaseref03_octal hw (s:=s) (i:=i+1) (by omega) hs
 have hen:=fun(st':St) (hw:st'.Wf)=>ended_tells (st:=st') H.chaseref03_ended hw (s:=s) (i:=i+1) (by omega) hs
 obtain⟨c,hc,hd⟩:=idx_some (s:=s) (i:=i+1) (by omega)
 have hdig:=octS_dig 3 (s.drop (i+1))
 have hle:=octS_le 3 (s.drop (i+1))
 rw[List.length_drop]at hle
 simp[B.chaseref03_escape,go_sem,e1]
 refine(ho _ hwf).use fun s1 x1=> ?_
 obtain⟨k2,hk2⟩:∃k2,k2=i+1:=⟨_,rfl⟩
 by_cases hoc:48≤c.toNat∧c.toNat≤55
 ·have hK:octS 3 (s.drop (i+1))=octS 2 (s.drop (i+1+1))+1:=by rw[hd];simp[octS,hoc]
  have hesc:esc (s.drop (i+1))=some ([UInt8.ofNat (octV 0 ((s.drop (i+1)).take (octS 3 (s.drop (i+1)))))],octS 3 (s.drop (i+1))):=by
   rw[hK,hd]
   have h10:¬(c=10∨c=13):=by rintro(rfl | rfl) <;> simp at hoc
   simp only[esc,letter_not (.inl hoc),if_neg h10,if_pos hoc,octN_eq,List.take_succ_cons]
   simp[octV,Nat.add_comm]
  rw[hesc]at he
  simp only[Option.some.injEq,Prod.mk.injEq]at he
  obtain⟨rfl,rfl⟩:=he
  have hvl:=octV_le ((s.drop (i+1)).take (octS 3 (s.drop (i+1)))) 0 hdig
  have hKl:((s.drop (i+1)).take (octS 3 (s.drop (i+1)))).length≤3:=by rw[List.length_take];omega
  have h8k:=Nat.pow_le_pow_right (show 0<8 by omega) hKl
  have h8:(8:Nat) ^ 3=512:=rfl
  have lp:=fun e a b c d f=>octV_loop (T:=T) (st:=s1) (K:=octS 3 (s.drop (i+1))) hs hle.1 (by omega) hdig x1.wf (octS 3 (s.drop (i+1))) 0 0 e (by omega) (by simp) a b c d f
  simp only[List.drop_zero]at lp
  have hK0:0<octS 3 (s.drop (i+1)):=by omega
  generalize octV 0 ((s.drop (i+1)).take (octS 3 (s.drop (i+1))))=V at lp hvl⊢
  have hV:V≤511:=by omega
  generalize octS 3 (s.drop (i+1))=K at lp hK0 hle⊢
  have hK0':(0:Int)<K:=by omega
  simp[go_sem,hK0,hK0']
  refine(lp _ (by simp[go_sem]) (by simp[go_sem]) (by simp[go_sem]) (by simp[go_sem]) (by simp[go_sem])).mono ?_
  rintro x e' s2 ⟨rfl,rfl,g6,g7⟩
  have w1:(V:Int).tmod 256=((V % 256:Nat):Int):=by rw[Int.tmod_eq_emod_of_nonneg (by omega)];omega
  have w2:IntKind.u8.wrap ((V % 256:Nat):Int)=((UInt8.ofNat V).toNat:Int):=by
   rw[wrap_u8 (by omega) (by omega)];simp
  have w3:IntKind.i64.wrap (1+(K:Int))=((1+K:Nat):Int):=by rw[wrap64' (by omega) (by omega)];omega
  obtain⟨y1,y2⟩:=made_rd x1 (UInt8.ofNat V)
  generalize UInt8.ofNat V=b at w2 y1 y2⊢
  generalize V % 256=Vr at w1 w2
  simp[go_sem,g6,g7,NO.run,w1,w2,w3,reps]
  exact⟨y1,y2⟩
 ·have hK:octS 3 (s.drop (i+1))=0:=by rw[hd];simp[octS,hoc]
  rw[hK]
  simp[go_sem,e1]
  refine(hen _ x1.wf).use fun s2 x2'=> ?_
  have x2:=x1.trans x2'
  by_cases hln:c=10∨c=13
  ·have hes:endS (s.drop (i+1))=1+lineN c (s.drop (i+1+1)):=by rw[hd];exact endS_line hln
   have hesc:esc (s.drop (i+1))=some ([],1+lineN c (s.drop (i+1+1))):=by
    rw[hd];simp only[esc,letter_not (.inr hln),if_pos hln]
   rw[hesc]at he
   simp only[Option.some.injEq,Prod.mk.injEq]at he
   obtain⟨rfl,rfl⟩:=he
   have hlu:=lineN_used c (s.drop (i+1+1))
   rw[List.length_drop]at hlu
   rw[hes]
   generalize lineN c (s.drop (i+1+1))=L at hlu⊢
   obtain⟨L1,hL1⟩:∃L1,L1=1+L:=⟨_,rfl⟩
   have hL0:(0:Int)<L1:=by omega
   have hL0':0<L1:=by omega
   rw[←hL1]
   have w3:IntKind.i64.wrap (1+(L1:Int))=((1+L1:Nat):Int):=by rw[wrap64' (by omega) (by omega)];omega
   simp[go_sem,hL0,hL0',w3]
   exact⟨x2.dropLoc,.inl ⟨rfl,rfl,rfl⟩⟩
  ·have hes:endS (s.drop (i+1))=0:=by rw[hd];exact endS_none hln
   rw[hes]
   have hesc:esc (s.drop (i+1))=some (match letter c with | some o=>([o],1) | none=>([c],1)):=by
    rw[hd];simp only[esc,if_neg hln,if_neg hoc];try rfl
   rw[hesc]at he
   obtain⟨q,hq⟩:∃q,q=i+1:=⟨_,rfl⟩
   rw[←hq]at hc e1
   have fin:∀(b:UInt8),o=[b]∧m=1→Ext st ⟨dropLoc st.nx ((s2.nx,.cells 5 false [.int .u8 (b.toNat:Int)])::s2.h),s2.nx+1⟩∧Rd (dropLoc st.nx ((s2.nx,AObj.cells 5 false [.int .u8 (b.toNat:Int)])::s2.h)) (.slice s2.nx 0 1 (.known 1)) 1 o.length (u8s o):=by
    rintro b ⟨rfl,rfl⟩
    exact made_rd x2 b
   have hm1:m=1:=by
    cases hl:letter c <;> rw[hl]at he <;> simp at he <;> exact he.2.symm
   subst hm1
   have hn:∀k:UInt8,c≠k→¬(c.toNat:Int)=(k.toNat:Int)∧¬c.toNat=k.toNat:=fun k h=>⟨u8_ne h rfl,fun e=>h (UInt8.toNat_inj.1 e)⟩
   by_cases h1:c=110
   ·subst h1
    simp[letter]at he
    have f:=fin 10 ⟨he.symm,rfl⟩
    simp[go_sem,e1,hc,NO.run,reps]
    exact f
   by_cases h2:c=114
   ·subst h2
    simp[letter]at he
    have f:=fin 13 ⟨he.symm,rfl⟩
    simp[go_sem,e1,hc,NO.run,reps]
    exact f
   by_cases h3:c=116
   ·subst h3
    simp[letter]at he
    have f:=fin 9 ⟨he.symm,rfl⟩
    simp[go_sem,e1,hc,NO.run,reps]
    exact f
   by_cases h4:c=98
   ·subst h4
    simp[letter]at he
    have f:=fin 8 ⟨he.symm,rfl⟩
    simp[go_sem,e1,hc,NO.run,reps]
    exact f
   by_cases h5:c=102
   ·subst h5
    simp[letter]at he
    have f:=fin 12 ⟨he.symm,rfl⟩
    simp[go_sem,e1,hc,NO.run,reps]
    exact f
   have m1:=hn _ h1
   have m2:=hn _ h2
   have m3:=hn _ h3
   have m4:=hn _ h4
   have m5:=hn _ h5
   simp at m1 m2 m3 m4 m5
   simp[letter,h1,h2,h3,h4,h5]at he
   have f:=fin c ⟨he.symm,rfl⟩
   simp[go_sem,e1,hc,NO.run,reps,m1,m2,m3,m4,m5]
   exact f
end Go.Ev

/- The reference's Unquote told. -/
namespace Go.Ev
open Go
set_option linter.unusedSimpArgs false
set_option linter.unusedSectionVars false
set_option linter.unusedVariables false
variable {T : Tab} {st : St}
def finU (n:Nat):Option (List UInt8×List UInt8)→List UInt8×Nat×Int
 | none=>([],0,5)
 | some (o,l)=>if 1000<o.length then([],0,26)else(o,n - l.length,0)
theorem refUnquote_loop (H:B.H_chaseref03_Unquote T) {s:List UInt8} (hs:s.length<1000000000000) (st0:St):∀(f d k:Nat) (out:List UInt8) (e:Env) (st1:St) (v:AV),s.length+1≤k+f→k≤s.length→1≤d→d≤k+1→out.length≤k→Ext st0 st1→Grow st0 st1 v out→eget e 0= .str s→eget e 5=v→eget e 6= .int .i64 d→eget e 7= .int .i64 k→
  Res (run T (.loop B.chaseref03_Unquote_l0) e st1) fun x e' s'=>Ext st0 s'∧((x= .exit 0∧unq f d (s.drop k) out=none)∨(x= .ret∧eget e' 2= .str (finU s.length (unq f d (s.drop k) out)).1∧eget e' 3= .int .i64 ((finU s.length (unq f d (s.drop k) out)).2.1:Int)∧eget e' 4= .int .i64 (finU s.length (unq f d (s.drop k) out)).2.2)):=by
 intro f
 induction f with
 | zero=>intro d k out e st1 v h1 h2;omega
 | succ f ih=>
   intro d k out e st1 v hf hk hd1 hdk ho hx hg g0 g5 g6 g7
   rw[run_loop]
   by_cases hkl:k=s.length
   ·subst hkl
    have hd:s.drop s.length=[]:=by simp
    rw[hd]
    simp[B.chaseref03_Unquote_l0,go_sem,g0,g5,g6,g7,unq,hx]
   have hkl1:k<s.length:=by omega
   have hkl2:(k:Int)<s.length:=by omega
   obtain⟨c,hc,hd⟩:=idx_some hkl1
   have hen:=fun(st':St) (hw:st'.Wf)=>ended_tells (st:=st') H.chaseref03_ended hw (s:=s) (i:=k) (by omega) hs
   have step:∀(d':Nat) (o:List UInt8) (k':Nat) (e':Env) (st2:St) (v':AV),unq (f+1) d (s.drop k) out=unq f d' (s.drop k') (out++o)→k+1≤k'→k'≤s.length→1≤d'→d'≤k+2→k+o.length≤k'→Ext st0 st2→Grow st0 st2 v' (out++o)→eget e' 0= .str s→eget e' 5=v'→eget e' 6= .int .i64 d'→eget e' 7= .int .i64 k'→
     Res (run T (.loop B.chaseref03_Unquote_l0) e' st2) fun x e' s'=>Ext st0 s'∧((x= .exit 0∧unq (f+1) d (s.drop k) out=none)∨(x= .ret∧eget e' 2= .str (finU s.length (unq (f+1) d (s.drop k) out)).1∧eget e' 3= .int .i64 ((finU s.length (unq (f+1) d (s.drop k) out)).2.1:Int)∧eget e' 4= .int .i64 (finU s.length (unq (f+1) d (s.drop k) out)).2.2)):=by
    intro d' o k' e' st2 v' he h1 h2 h3 h3' h4 h5 h6 k0 k5 k6 k7
    rw[he]
    exact ih d' k' (out++o) e' st2 v' (by omega) h2 h3 (by omega) (by rw[List.length_append];omega) h5 h6 k0 k5 k6 k7
   generalize hU:unq (f+1) d (s.drop k) out=U at step⊢
   have ek:IntKind.i64.wrap ((k:Int)+1)=((k+1:Nat):Int):=wrap64' (by omega) (by omega)
   by_cases h41:c=41
   ·subst h41
    by_cases hdd:d=1
    ·subst hdd
     have hun:U=some (out,s.drop (k+1)):=by rw[←hU,hd];simp[unq]
     have hlen:s.length - (s.drop (k+1)).length=k+1:=by rw[List.length_drop];omega
     have hu8:=toBytes_u8s out
     obtain⟨⟨m,hsl⟩,b6,b7⟩:=hg
     rcases hsl with ⟨k1,k2,k3⟩ | ⟨k1,k2,k3⟩ | ⟨ty',k1,k2,k3⟩
     ·have:out=[]:=List.length_eq_zero_iff.1 k3
      subst this
      subst k1
      rw[hun]
      simp only[finU,hlen]
      obtain⟨q,hq⟩:∃q,q=k+1:=⟨_,rfl⟩
      rw[←hq]at ek⊢
      simp[B.chaseref03_Unquote_l0,go_sem,g0,g5,g6,g7,hkl2,hc,RO.run,ek,hx]
     ·have hrd:rdCells st1.h m 0 out.length=some (u8s out):=by
       simp[rdCells,k2,u8s_len]
       exact List.take_of_length_le (by rw[u8s_len];exact Nat.le_refl _)
      subst k1
      rw[hun]
      simp only[finU,hlen]
      obtain⟨q,hq⟩:∃q,q=k+1:=⟨_,rfl⟩
      rw[←hq]at ek⊢
      by_cases hlong:1000<out.length
      ·simp[B.chaseref03_Unquote_l0,go_sem,g0,g5,g6,g7,hkl2,hc,RO.run,ek,hx,hlong,show (1000:Int)<out.length by omega]
      ·simp[B.chaseref03_Unquote_l0,go_sem,g0,g5,g6,g7,hkl2,hc,RO.run,ek,hx,hlong,show¬(1000:Int)<out.length by omega,hrd,hu8]
     ·exact absurd k1 (b7 _ _ _ _)
    ·have hdd':¬(d:Int)=1:=by omega
     have hun:U=unq f (d - 1) (s.drop (k+1)) (out++[41]):=by rw[←hU,hd];simp[unq,hdd]
     have he0:endS (s.drop k)=0:=by rw[hd];exact endS_none (by decide)
     have e6:IntKind.i64.wrap ((d:Int) - 1)=((d - 1:Nat):Int):=by rw[wrap64' (by omega) (by omega)];omega
     simp[B.chaseref03_Unquote_l0,go_sem,g0,g5,g6,g7,hkl2,hc,hdd,hdd']
     refine(hen _ hx.wf).use fun s1 x1'=> ?_
     have x1:=hx.trans x1'
     have hg1:=hg.ext x1' hx.wf
     rw[he0]
     simp[go_sem,hc,NO.run,reps]
     refine(hg1.push x1.nx x1.wf (k:=1) (by omega) (c:=41) (by omega)).mono ?_
     rintro v2 s2 ⟨o2,f2⟩
     have x2:=x1.frm f2 hg1.ge
     simp[go_sem]
     exact step (d - 1) [41] (k+1) _ _ v2 hun (by omega) (by omega) (by omega) (by omega) (by simp) x2 o2 (by simp[go_sem]) (by simp[go_sem]) (by simp[go_sem,e6]) (by simp[go_sem,ek])
   ·have n1:¬(c.toNat:Int)=41:=u8_ne h41 rfl
    have m1:¬c.toNat=41:=by omega
    by_cases h92:c=92
    ·subst h92
     by_cases hk1:k+1=s.length
     ·have hun:U=none:=by rw[←hU,hd,hk1];simp[unq,esc]
      have hk1':((k+1:Nat):Int)=s.length:=by omega
      obtain⟨q,hq⟩:∃q,q=k+1:=⟨_,rfl⟩
      rw[←hq]at ek hk1'
      simp[B.chaseref03_Unquote_l0,go_sem,g0,g5,g6,g7,hkl2,hc,ek,hk1',hun,finU,hx]
     ·obtain⟨q,hq⟩:∃q,q=k+1:=⟨_,rfl⟩
      have hk1':¬(q:Int)=s.length:=by omega
      have hk1'':¬q=s.length:=by omega
      obtain⟨p,hes⟩:∃p,esc (s.drop (k+1))=some p:=by
       obtain⟨c2,_,hd2⟩:=idx_some (s:=s) (i:=k+1) (by omega)
       rw[hd2];exact⟨_,rfl⟩
      obtain⟨o,n⟩:=p
      obtain⟨u1,u2,u3⟩:=esc_used hes
      rw[List.length_drop]at u2
      have hun:U=unq f d (s.drop (k+1+n)) (out++o):=by rw[←hU,hd];simp[unq,hes,List.drop_drop]
      have hesc:=refEscape_res H.chaseref03_escape hx.wf hs (by omega) hes
      have en:IntKind.i64.wrap ((k:Int)+((1+n:Nat):Int))=((k+1+n:Nat):Int):=by rw[wrap64' (by omega) (by omega)];omega
      rw[←hq]at ek
      obtain⟨n1',hn1⟩:∃n1,n1=1+n:=⟨_,rfl⟩
      rw[←hn1]at hesc en
      simp[B.chaseref03_Unquote_l0,go_sem,g0,g5,g6,g7,hkl2,hc,ek,hk1',hk1'']
      refine hesc.mono ?_
      rintro vv s1 ⟨sv,rfl,x1',hrd⟩
      have x1:=hx.trans x1'
      have hg1:=hg.ext x1' hx.wf
      simp[go_sem]
      refine(hg1.app x1.nx x1.wf hrd (by omega)).mono ?_
      rintro v2 s2 ⟨o2,f2⟩
      have x2:=x1.frm f2 hg1.ge
      simp[go_sem]
      exact step d o (k+1+n) _ _ v2 hun (by omega) (by omega) (by omega) (by omega) (by omega) x2 o2 (by simp[go_sem]) (by simp[go_sem]) (by simp[go_sem]) (by simp[go_sem,en])
    ·have n2:¬(c.toNat:Int)=92:=u8_ne h92 rfl
     have m2:¬c.toNat=92:=by omega
     by_cases hln:c=10∨c=13
     ·have hes:endS (s.drop k)=1+lineN c (s.drop (k+1)):=by rw[hd];exact endS_line hln
      have h40:¬c=40:=by rintro rfl;simp at hln
      have hun:U=unq f d (s.drop (k+1+lineN c (s.drop (k+1)))) (out++[10]):=by rw[←hU,hd];simp[unq,h92,h40,h41,hln,List.drop_drop]
      have hlu:=lineN_used c (s.drop (k+1))
      rw[List.length_drop]at hlu
      generalize lineN c (s.drop (k+1))=L at hes hun hlu
      have eL:IntKind.i64.wrap ((k:Int)+((1+L:Nat):Int))=((k+1+L:Nat):Int):=by rw[wrap64' (by omega) (by omega)];omega
      rw[hes]at hen
      obtain⟨L1,hL1⟩:∃L1,L1=1+L:=⟨_,rfl⟩
      have hL0:(0:Int)<L1:=by omega
      have hL0':0<L1:=by omega
      rw[←hL1]at hen eL
      simp[B.chaseref03_Unquote_l0,go_sem,g0,g5,g6,g7,hkl2,hc,n1,n2,m1,m2]
      refine(hen _ hx.wf).use fun s1 x1'=> ?_
      have x1:=hx.trans x1'
      have hg1:=hg.ext x1' hx.wf
      simp[go_sem,hc,NO.run,reps,hL0,hL0']
      refine(hg1.push x1.nx x1.wf (k:=1) (by omega) (c:=10) (by omega)).mono ?_
      rintro v2 s2 ⟨o2,f2⟩
      have x2:=x1.frm f2 hg1.ge
      simp[go_sem]
      refine(hen _ x2.wf).use fun s3 x3'=> ?_
      have x3:=x2.trans x3'
      simp[go_sem]
      exact step d [10] (k+1+L) _ _ v2 hun (by omega) (by omega) (by omega) (by omega) (by simp) x3 (o2.ext x3' x2.wf) (by simp[go_sem]) (by simp[go_sem]) (by simp[go_sem]) (by simp[go_sem,eL])
     ·have he0:endS (s.drop k)=0:=by rw[hd];exact endS_none hln
      rw[he0]at hen
      by_cases h40:c=40
      ·subst h40
       have hun:U=unq f (d+1) (s.drop (k+1)) (out++[40]):=by rw[←hU,hd];simp[unq]
       have e6:IntKind.i64.wrap ((d:Int)+1)=((d+1:Nat):Int):=wrap64' (by omega) (by omega)
       simp[B.chaseref03_Unquote_l0,go_sem,g0,g5,g6,g7,hkl2,hc]
       refine(hen _ hx.wf).use fun s1 x1'=> ?_
       have x1:=hx.trans x1'
       have hg1:=hg.ext x1' hx.wf
       simp[go_sem,hc,NO.run,reps]
       refine(hg1.push x1.nx x1.wf (k:=1) (by omega) (c:=40) (by omega)).mono ?_
       rintro v2 s2 ⟨o2,f2⟩
       have x2:=x1.frm f2 hg1.ge
       simp[go_sem]
       exact step (d+1) [40] (k+1) _ _ v2 hun (by omega) (by omega) (by omega) (by omega) (by simp) x2 o2 (by simp[go_sem]) (by simp[go_sem]) (by simp[go_sem,e6]) (by simp[go_sem,ek])
      ·have hun:U=unq f d (s.drop (k+1)) (out++[c]):=by rw[←hU,hd];simp[unq,h92,h40,h41,hln]
       have n3:¬(c.toNat:Int)=40:=u8_ne h40 rfl
       have m3:¬c.toNat=40:=by omega
       simp[B.chaseref03_Unquote_l0,go_sem,g0,g5,g6,g7,hkl2,hc,n1,n2,m1,m2]
       refine(hen _ hx.wf).use fun s1 x1'=> ?_
       have x1:=hx.trans x1'
       have hg1:=hg.ext x1' hx.wf
       simp[go_sem,hc,NO.run,reps,n1,n2,n3,m1,m2,m3]
       refine(hg1.push x1.nx x1.wf (k:=1) (by omega) (c:=c) (by omega)).mono ?_
       rintro v2 s2 ⟨o2,f2⟩
       have x2:=x1.frm f2 hg1.ge
       simp[go_sem]
       exact step d [c] (k+1) _ _ v2 hun (by omega) (by omega) (by omega) (by omega) (by simp) x2 o2 (by simp[go_sem]) (by simp[go_sem]) (by simp[go_sem]) (by simp[go_sem,ek])
theorem refUnquote_tells (H:B.H_chaseref03_Unquote T) (hwf:st.Wf) {s:List UInt8} (hs:s.length<1000000000000):Tells T st (.fn 70 [] []) [.str s] (toU (unquoteT s)):=by
 refine tells_of H.e H.f rfl ?_
 simp[B.chaseref03_Unquote,go_sem]
 refine(at_tells H.chaseref03_at hwf hs (i:=0)).use fun s1 x1=> ?_
 rw[List.drop_zero]
 cases s with
 | nil=>simp[go_sem,atS,unquoteT,toU,x1]
 | cons c r=>
   by_cases h40:c=40
   ·subst h40
    have ht:unquoteT (40::r)=finU (40::r).length (unq (40::r).length 1 r []):=by
     rw[unquoteT,if_pos rfl]
     rfl
    simp[go_sem,atS]
    refine(refUnquote_loop H hs st (40::r).length 1 1 [] _ s1 .nilslice (by simp;omega) (by simp) (by omega) (by omega) (by simp) x1 (.nil _ _) (by simp[go_sem]) (by simp[go_sem]) (by simp[go_sem]) (by simp[go_sem])).mono ?_
    rw[show (40::r:List UInt8).drop 1=r from rfl,ht]
    generalize unq (40::r).length 1 r []=U
    rintro x e s2 ⟨x2,⟨rfl,rfl⟩ | ⟨rfl,g2,g3,g4⟩⟩
    ·simp[go_sem,toU,finU,x2]
    ·simp[go_sem,toU,g2,g3,g4,x2]
   ·have n1:¬(c.toNat:Int)=40:=u8_ne h40 rfl
    have m1:¬c.toNat=40:=by omega
    simp[go_sem,atS,n1,m1,toU,unquoteT,h40,x1]
end Go.Ev

/- The reference's Quote; LexQuotes told. -/
namespace Go.Ev
open Go
set_option linter.unusedSimpArgs false
set_option linter.unusedSectionVars false
set_option linter.unusedVariables false
variable {T : Tab} {st : St}
end Go.Ev

/- The reference's reader of decimals. -/
namespace Go.Ev
open Go
set_option linter.unusedSimpArgs false
set_option linter.unusedSectionVars false
set_option linter.unusedVariables false
variable {T : Tab} {st : St}
def i64s (l:List Nat):List AV:=l.map fun n=> .int .i64 ((n:Nat):Int)
theorem i64s_len (l:List Nat):(i64s l).length=l.length:=by simp[i64s]
theorem i64s_snoc (l:List Nat) (n:Nat):i64s (l++[n])=i64s l++[.int .i64 (n:Int)]:=by simp[i64s]
theorem digit102_tells (H:B.H_chaseref01_digit T) (hwf:st.Wf) (c:UInt8):Tells T st (.fn 102 [] []) [.int .u8 (c.toNat:Int)] (.bool (isDig c)):=by
 refine tells_of H.e H.f rfl ?_
 by_cases h:48≤c.toNat
 ·simp[B.chaseref01_digit,go_sem,h,show (48:Int)≤c.toNat by omega,isDig,Ext.refl hwf]
  omega
 ·simp[B.chaseref01_digit,go_sem,h,show¬(48:Int)≤c.toNat by omega,isDig,Ext.refl hwf]
def mant:Bool→List UInt8→List Nat×Nat×List UInt8
 | _,[]=>([],0,[])
 | pt,c::r=>
   if isDig c=true then((c.toNat - 48)::(mant pt r).1,(if pt=true then 1 else 0)+(mant pt r).2.1,(mant pt r).2.2)
   else if c=46∧pt=false then mant true r
   else([],0,c::r)
theorem mant_len:∀(pt:Bool) (r:List UInt8),(mant pt r).1.length+(mant pt r).2.2.length≤r.length∧(mant pt r).2.1≤(mant pt r).1.length
 | _,[]=>by simp[mant]
 | pt,c::r=>by
   have h1:=mant_len pt r
   have h2:=mant_len true r
   simp only[mant]
   split
   ·simp only[List.length_cons];split <;> omega
   ·split
    ·simp only[List.length_cons];omega
    ·simp
theorem read_l0 (H:B.H_chaseref01_Read T) {s:List UInt8} (hs:s.length<1000000000000) (sg:Int) (st0:St):∀(m i:Nat) (l:List Nat) (ex:Int) (pt:Bool) (e:Env) (st1:St) (v:AV),i+m=s.length→l.length≤i→-(i:Int)≤ex→ex≤0→Ext st0 st1→Sl st1 v 3 1 l.length (i64s l)→Mine [] st0 v→eget e 0= .str s→eget e 6= .int .i64 i→eget e 7= .int .i64 sg→eget e 8=v→eget e 9= .int .i64 ex→eget e 10= .bool pt→
  Res (run T (.loop B.chaseref01_Read_l0) e st1) fun x e' s'=>x= .exit 0∧Ext st0 s'∧eget e' 0= .str s∧eget e' 6= .int .i64 ((s.length - (mant pt (s.drop i)).2.2.length:Nat):Int)∧eget e' 7= .int .i64 sg∧Sl s' (eget e' 8) 3 1 (l++(mant pt (s.drop i)).1).length (i64s (l++(mant pt (s.drop i)).1))∧Mine [] st0 (eget e' 8)∧eget e' 9= .int .i64 (ex - ((mant pt (s.drop i)).2.1:Nat)):=by
 intro m
 induction m with
 | zero=>
   intro i l ex pt e st1 v hi hl hx1 hx2 hx hv hm g0 g6 g7 g8 g9 g10
   have:i=s.length:=by omega
   subst this
   have hd:s.drop s.length=[]:=by simp
   rw[hd,run_loop]
   simp[B.chaseref01_Read_l0,go_sem,g0,g6,g7,g8,g9,g10,mant,hx,hv,hm]
 | succ m ih=>
   intro i l ex pt e st1 v hi hl hx1 hx2 hx hv hm g0 g6 g7 g8 g9 g10
   have hil:(i:Int)<s.length:=by omega
   obtain⟨c,hc,hd⟩:=idx_some (s:=s) (i:=i) (by omega)
   have e6:IntKind.i64.wrap ((i:Int)+1)=((i+1:Nat):Int):=wrap64' (by omega) (by omega)
   have hge:∀n∈v.nms,st0.nx≤n:=fun n hn=>by
    rcases hm n hn with h | h
    ·cases h
    ·exact h
   have hml:=mant_len pt (s.drop i)
   have hstop:s.length - (c::s.drop (i+1)).length=i:=by simp only[List.length_cons,List.length_drop];omega
   rw[run_loop]
   simp[B.chaseref01_Read_l0,go_sem,g0,g6,g7,g8,g9,g10,hil,hc]
   refine(digit102_tells H.chaseref01_digit hx.wf c).use fun s1 x1'=> ?_
   have x1:=hx.trans x1'
   have hv1:=hv.ext x1' hx.wf
   by_cases hdg:isDig c=true
   ·have hd2:48≤c.toNat∧c.toNat≤57:=by simpa [isDig] using hdg
    have n46:¬(c.toNat:Int)=46:=by omega
    have m46:¬c.toNat=46:=by omega
    have e1:IntKind.u8.wrap ((c.toNat:Int) - 48)=((c.toNat - 48:Nat):Int):=by
     rw[wrap_u8 (by omega) (by have:=c.toNat_lt;omega)];omega
    have e2:IntKind.i64.wrap ((c.toNat - 48:Nat):Int)=((c.toNat - 48:Nat):Int):=wrap64' (by omega) (by omega)
    have hmt:mant pt (s.drop i)=((c.toNat - 48)::(mant pt (s.drop (i+1))).1,(if pt=true then 1 else 0)+(mant pt (s.drop (i+1))).2.1,(mant pt (s.drop (i+1))).2.2):=by rw[hd];simp[mant,hdg]
    simp[go_sem,hdg,hc,n46,m46,e1,e2,NO.run,reps]
    refine Sl.push (st0:=st0) (S:=[]) (x1.fr []) hm hv1 (y:= .int .i64 ((c.toNat - 48:Nat):Int)) rfl (by omega) (by omega) ?_
    intro v2 s2 o2 f2 m2 _
    have x2:Ext st0 s2:=f2.ext (by simp)
    rw[hmt]
    cases pt with
    | false=>
      simp[go_sem]
      refine(ih (i+1) (l++[c.toNat - 48]) ex false _ s2 v2 (by omega) (by simp;omega) (by omega) hx2 x2 (by rw[i64s_snoc];simpa using o2) m2 (by simp[go_sem]) (by simp[go_sem,e6]) (by simp[go_sem]) (by simp[go_sem]) (by simp[go_sem]) (by simp[go_sem])).mono ?_
      rintro x e s h
      simpa using h
    | true=>
      have e9:IntKind.i64.wrap (ex - 1)=ex - 1:=wrap64' (by omega) (by omega)
      simp[go_sem]
      refine(ih (i+1) (l++[c.toNat - 48]) (ex - 1) true _ s2 v2 (by omega) (by simp;omega) (by omega) (by omega) x2 (by rw[i64s_snoc];simpa using o2) m2 (by simp[go_sem]) (by simp[go_sem,e6]) (by simp[go_sem]) (by simp[go_sem]) (by simp[go_sem,e9]) (by simp[go_sem])).mono ?_
      rintro x e s ⟨a1,a2,a3,a4,a5,a6,a7,a8⟩
      refine⟨by simpa using a1,by simpa using a2,by simpa using a3,by simpa using a4,by simpa using a5,by simpa using a6,by simpa using a7,?_⟩
      rw[a8]
      congr 1
      omega
   ·have hdf:isDig c=false:=by simpa using hdg
    by_cases h46:c=46∧pt=false
    ·obtain⟨rfl,rfl⟩:=h46
     have hmt:mant false (s.drop i)=mant true (s.drop (i+1)):=by rw[hd];simp[mant,isDig]
     simp[go_sem,hdf,hc]
     rw[hmt]
     refine(ih (i+1) l ex true _ s1 v (by omega) (by omega) (by omega) hx2 x1 hv1 hm (by simp[go_sem]) (by simp[go_sem,e6]) (by simp[go_sem]) (by simp[go_sem]) (by simp[go_sem]) (by simp[go_sem])).mono fun x e s h=>by simpa using h
    ·have hmt:mant pt (s.drop i)=([],0,c::s.drop (i+1)):=by rw[hd];simp[mant,hdf,h46]
     rw[hmt,hstop]
     by_cases hc46:c=46
     ·subst hc46
      have hpt:pt=true:=by cases pt <;> simp at h46⊢
      subst hpt
      simp[go_sem,hdf,hc,x1,hv1,hm]
     ·have n46:¬(c.toNat:Int)=46:=u8_ne hc46 rfl
      have m46:¬c.toNat=46:=by omega
      simp[go_sem,hdf,hc,n46,m46,x1,hv1,hm]
theorem read_l1 (H:B.H_chaseref01_Read T) {s:List UInt8} (hs:s.length<1000000000000) (sg ex:Int) (v:AV) (b:Bool) (st0:St):∀(m i n:Nat) (e:Env) (st1:St),i+m=s.length→m≤3→n<1000*10 ^ (3 - m)→Ext st0 st1→eget e 0= .str s→eget e 6= .int .i64 i→eget e 7= .int .i64 sg→eget e 8=v→eget e 9= .int .i64 ex→eget e 11= .bool b→eget e 12= .int .i64 n→
  Res (run T (.loop B.chaseref01_Read_l1) e st1) fun x e' s'=>Ext st0 s'∧
   if(spanD (s.drop i)).2=[]then x= .exit 2∧eget e' 7= .int .i64 sg∧eget e' 8=v∧eget e' 9= .int .i64 ex∧eget e' 11= .bool b∧eget e' 12= .int .i64 (((spanD (s.drop i)).1.foldl (fun a d=>10*a+d) n:Nat):Int)
   else x= .ret∧eget e' 2= .int .i64 0∧eget e' 3= .nilslice∧eget e' 4= .int .i64 0∧eget e' 5= .bool false:=by
 intro m
 induction m with
 | zero=>
   intro i n e st1 hi hm hn hx g0 g6 g7 g8 g9 g11 g12
   have:i=s.length:=by omega
   subst this
   have hd:s.drop s.length=[]:=by simp
   rw[hd,run_loop]
   simp[B.chaseref01_Read_l1,go_sem,g0,g6,g7,g8,g9,g11,g12,spanD,hx]
 | succ m ih=>
   intro i n e st1 hi hm hn hx g0 g6 g7 g8 g9 g11 g12
   have hil:(i:Int)<s.length:=by omega
   obtain⟨c,hc,hd⟩:=idx_some (s:=s) (i:=i) (by omega)
   have e6:IntKind.i64.wrap ((i:Int)+1)=((i+1:Nat):Int):=wrap64' (by omega) (by omega)
   have hn':n<1000000:=Nat.lt_of_lt_of_le hn (by
    have:10 ^ (3 - (m+1))≤10 ^ 3:=Nat.pow_le_pow_right (by omega) (by omega)
    omega)
   rw[run_loop]
   simp[B.chaseref01_Read_l1,go_sem,g0,g6,g7,g8,g9,g11,g12,hil,hc]
   refine(digit102_tells H.chaseref01_digit hx.wf c).use fun s1 x1'=> ?_
   have x1:=hx.trans x1'
   by_cases hdg:isDig c=true
   ·have hd2:48≤c.toNat∧c.toNat≤57:=by simpa [isDig] using hdg
    have e1:IntKind.u8.wrap ((c.toNat:Int) - 48)=((c.toNat - 48:Nat):Int):=by
     rw[wrap_u8 (by omega) (by have:=c.toNat_lt;omega)];omega
    have e2:IntKind.i64.wrap ((c.toNat - 48:Nat):Int)=((c.toNat - 48:Nat):Int):=wrap64' (by omega) (by omega)
    have e3:IntKind.i64.wrap (10*(n:Int))=10*n:=wrap64' (by omega) (by omega)
    have e4:IntKind.i64.wrap (10*(n:Int)+((c.toNat - 48:Nat):Int))=((10*n+(c.toNat - 48):Nat):Int):=by rw[wrap64' (by omega) (by omega)];omega
    have hsp:spanD (s.drop i)=((c.toNat - 48)::(spanD (s.drop (i+1))).1,(spanD (s.drop (i+1))).2):=by rw[hd];simp[spanD,hd2]
    rw[hsp]
    simp[go_sem,hdg,hc,e1,e2,e3,e4]
    refine(ih (i+1) (10*n+(c.toNat - 48)) _ s1 (by omega) (by omega) ?_ x1 (by simp[go_sem]) (by simp[go_sem,e6]) (by simp[go_sem]) (by simp[go_sem]) (by simp[go_sem]) (by simp[go_sem]) (by simp[go_sem,e4])).mono fun x e s h=>by simpa using h
    have h3:3 - m=(3 - (m+1))+1:=by omega
    have hp:0<10 ^ (3 - (m+1)):=Nat.pow_pos (by omega)
    rw[h3,Nat.pow_succ]
    omega
   ·have hdf:isDig c=false:=by simpa using hdg
    have hd2:¬(48≤c.toNat∧c.toNat≤57):=by simpa [isDig] using hdg
    have hsp:spanD (s.drop i)=([],c::s.drop (i+1)):=by rw[hd];simp[spanD,hd2]
    rw[hsp]
    simp[go_sem,hdf,x1]
end Go.Ev

/- The reference's Read told. -/
namespace Go.Ev
open Go
set_option linter.unusedSimpArgs false
set_option linter.unusedSectionVars false
set_option linter.unusedVariables false
variable {T : Tab} {st : St}
def MCode.a:MCode→MCode
 | .seq x _=>x
 | c=>c
def MCode.b:MCode→MCode
 | .seq _ y=>y
 | c=>c
theorem ab_seq (x y:MCode):(MCode.seq x y).a=x∧(MCode.seq x y).b=y:=⟨rfl,rfl⟩
theorem sgn_drop (s:List UInt8):(sgn s).2=s.drop (s.length - (sgn s).2.length)∧(sgn s).2.length≤s.length∧s.length≤(sgn s).2.length+1:=by
 cases s with
 | nil=>simp[sgn]
 | cons c r=>
   simp only[sgn]
   split
   ·simp
   ·split <;> simp
def readR (s:List UInt8):Option (Bool×List Nat×Int):=
 let m:=mant false (sgn s).2
 if m.1=[]then none
 else match m.2.2 with
  | []=>some ((sgn s).1,m.1, -(m.2.1:Int))
  | c::t=>
    if c≠101∧c≠69 then none
    else if(sgn t).2.length<1∨3<(sgn t).2.length then none
    else if(spanD (sgn t).2).2=[]then some ((sgn s).1,m.1, -(m.2.1:Int)+(if(sgn t).1=true then -(numD (spanD (sgn t).2).1:Int)else(numD (spanD (sgn t).2).1:Int)))
    else none
def sgnI (b:Bool):Int:=if b=true then -1 else 1
def rb:Nat→MCode
 | 0=>B.chaseref01_Read.body
 | k+1=>(rb k).b
theorem cut {T:Tab} {c:MCode} (hc:c= .seq c.a c.b) (hA:∀l,c.a≠.keep l) {e:Env} {Q:Ex→Env→St→Prop} (P:Ex→Env→St→Prop) (h1:Res (run T c.a e st) P) (h2:∀x e s,P x e s→kSeq T c.b Q x e s):Res (run T c e st) Q:=by
 rw[hc]
 exact seq_cut P hA h1 h2
theorem read_sign {s:List UInt8} (hs:s.length<1000000000000) {e:Env} (g0:eget e 0= .str s) (g6:eget e 6= .int .i64 0) (g7:eget e 7= .int .i64 1):
  Res (run T (rb 2).a e st) fun x e' s'=>x= .norm∧s'=st∧eget e' 0= .str s∧eget e' 6= .int .i64 ((s.length - (sgn s).2.length:Nat):Int)∧eget e' 7= .int .i64 (sgnI (sgn s).1):=by
 simp only[rb,B.chaseref01_Read,ab_seq]
 cases s with
 | nil=>simp[go_sem,g0,g6,g7,sgn,sgnI]
 | cons c r=>
   by_cases h43:c=43
   ·subst h43
    simp[go_sem,g0,g6,g7,sgn,sgnI]
    rfl
   ·by_cases h45:c=45
    ·subst h45
     simp[go_sem,g0,g6,g7,sgn,sgnI]
     rfl
    ·have n1:¬(c.toNat:Int)=43:=u8_ne h43 rfl
     have n2:¬(c.toNat:Int)=45:=u8_ne h45 rfl
     have m1:¬c.toNat=43:=by omega
     have m2:¬c.toNat=45:=by omega
     simp[go_sem,g0,g6,g7,sgn,sgnI,h43,h45,n1,n2,m1,m2]
theorem read_sign2 {s t:List UInt8} {i:Nat} (hs:s.length<1000000000000) (hi:i≤s.length) (ht:s.drop i=t) {e:Env} {sg ex:Int} {v:AV} (g0:eget e 0= .str s) (g6:eget e 6= .int .i64 i) (g7:eget e 7= .int .i64 sg) (g8:eget e 8=v) (g9:eget e 9= .int .i64 ex) (g11:eget e 11= .bool false):
  Res (run T (rb 15).a e st) fun x e' s'=>x= .norm∧s'=st∧eget e' 0= .str s∧eget e' 6= .int .i64 ((s.length - (sgn t).2.length:Nat):Int)∧eget e' 7= .int .i64 sg∧eget e' 8=v∧eget e' 9= .int .i64 ex∧eget e' 11= .bool (sgn t).1:=by
 simp only[rb,B.chaseref01_Read,ab_seq]
 have hl:=congrArg List.length ht
 rw[List.length_drop]at hl
 cases t with
 | nil=>
   have:i=s.length:=by simp at hl;omega
   subst this
   simp[go_sem,g0,g6,g7,g8,g9,g11,sgn]
 | cons c r=>
   simp only[List.length_cons]at hl
   have hil:i<s.length:=by omega
   have hil':(i:Int)<s.length:=by omega
   obtain⟨c',hc,hd⟩:=idx_some hil
   rw[ht]at hd
   injection hd with h1 h2
   subst h1
   have e6:IntKind.i64.wrap ((i:Int)+1)=((i+1:Nat):Int):=wrap64' (by omega) (by omega)
   have e7:s.length - r.length=i+1:=by omega
   have e8:s.length - (c::r).length=i:=by simp only[List.length_cons];omega
   by_cases h43:c=43
   ·subst h43
    simp[go_sem,g0,g6,g7,g8,g9,g11,sgn,hil',hc,e7]
    exact e6
   ·by_cases h45:c=45
    ·subst h45
     simp[go_sem,g0,g6,g7,g8,g9,g11,sgn,hil',hc,e7]
     exact e6
    ·have n1:¬(c.toNat:Int)=43:=u8_ne h43 rfl
     have n2:¬(c.toNat:Int)=45:=u8_ne h45 rfl
     have m1:¬c.toNat=43:=by omega
     have m2:¬c.toNat=45:=by omega
     simp only[List.length_cons]at e8
     simp[go_sem,g0,g6,g7,g8,g9,g11,sgn,h43,h45,n1,n2,m1,m2,hil',hc,e8]
def ReadQ (st:St) (U:Option (Bool×List Nat×Int)) (x:Ex) (e':Env) (s':St):Prop:=
 (x= .norm∨x= .ret)∧Ext st s'∧match U with
   | none=>eget e' 2= .int .i64 0∧eget e' 3= .nilslice∧eget e' 4= .int .i64 0∧eget e' 5= .bool false
   | some (neg,l,ex)=>eget e' 2= .int .i64 (sgnI neg)∧Sl s' (eget e' 3) 3 1 l.length (i64s l)∧eget e' 4= .int .i64 ex∧eget e' 5= .bool true
theorem read_end (H:B.H_chaseref01_Read T) {s u:List UInt8} {i:Nat} (hs:s.length<1000000000000) (hi:i≤s.length) (hu:s.drop i=u) {e:Env} {neg b:Bool} {ex:Int} {l:List Nat} {v:AV} {st0:St} (hx:Ext st0 st) (hv:Sl st v 3 1 l.length (i64s l)) (hex: -1000000000000≤ex∧ex≤0)
  (g0:eget e 0= .str s) (g6:eget e 6= .int .i64 i) (g7:eget e 7= .int .i64 (sgnI neg)) (g8:eget e 8=v) (g9:eget e 9= .int .i64 ex) (g11:eget e 11= .bool b):
  Res (run T (rb 16) e st) (ReadQ st0 (if u.length<1∨3<u.length then none else if(spanD u).2=[]then some (neg,l,ex+(if b=true then -(numD (spanD u).1:Int)else(numD (spanD u).1:Int)))else none)):=by
 have hl:=congrArg List.length hu
 rw[List.length_drop]at hl
 have ew:IntKind.i64.wrap ((s.length:Int) - i)=(u.length:Int):=by rw[wrap64' (by omega) (by omega)];omega
 simp only[rb,B.chaseref01_Read,ab_seq]
 by_cases h1:u.length<1
 ·rw[if_pos (.inl h1)]
  have h1':(u.length:Int)<1:=by omega
  simp[go_sem,g0,g6,g7,g8,g9,g11,ew,h1',ReadQ,hx]
 have h1':¬(u.length:Int)<1:=by omega
 by_cases h3:3<u.length
 ·rw[if_pos (.inr h3)]
  have h3':(3:Int)<u.length:=by omega
  simp[go_sem,g0,g6,g7,g8,g9,g11,ew,h1',h3',ReadQ,hx]
 have h3':¬(3:Int)<u.length:=by omega
 rw[if_neg (by omega)]
 have hnb:numD (spanD u).1<1000:=by
  have hlu:=spanD_len u
  refine Nat.lt_of_lt_of_le (numD_lt (fun d hd=>spanD_lt _ d hd)) ?_
  exact Nat.le_trans (Nat.pow_le_pow_right (by omega) (show _≤3 by omega)) (by omega)
 have hfo:(spanD u).1.foldl (fun a d=>10*a+d) 0=numD (spanD u).1:=rfl
 simp[go_sem,g0,g6,g7,g8,g9,g11,ew,h1',h3']
 refine(read_l1 H hs (sgnI neg) ex v b st u.length i 0 _ st (by omega) (by omega) (Nat.mul_pos (by omega) (Nat.pow_pos (by omega))) (.refl hx.wf) (by simp[go_sem]) (by simp[go_sem]) (by simp[go_sem]) (by simp[go_sem]) (by simp[go_sem]) (by simp[go_sem]) (by simp[go_sem])).mono ?_
 rw[hu,hfo]
 rintro x e' s' ⟨x1',hh⟩
 have x1:=hx.trans x1'
 have hv1:=hv.ext x1' hx.wf
 generalize numD (spanD u).1=N at hh hnb⊢
 by_cases hz:(spanD u).2=[]
 ·rw[if_pos hz]at hh
  obtain⟨rfl,k7,k8,k9,k11,k12⟩:=hh
  rw[if_pos hz]
  have en:IntKind.i64.wrap (-(N:Int))= -N:=wrap64' (by omega) (by omega)
  have ea:IntKind.i64.wrap (ex+ -(N:Int))=ex+ -N:=wrap64' (by omega) (by omega)
  have eb:IntKind.i64.wrap (ex+(N:Int))=ex+N:=wrap64' (by omega) (by omega)
  cases b with
  | true=>simp[go_sem,ReadQ,k7,k8,k9,k11,k12,x1,en,ea,hv1]
  | false=>simp[go_sem,ReadQ,k7,k8,k9,k11,k12,x1,eb,hv1]
 ·rw[if_neg hz]at hh
  obtain⟨rfl,k2,k3,k4,k5⟩:=hh
  rw[if_neg hz]
  simp[go_sem,ReadQ,k2,k3,k4,k5,x1]
def E5 (s:List UInt8) (i:Nat) (sg:Int) (v:AV) (ex:Int) (e:Env):Prop:=eget e 0= .str s∧eget e 6= .int .i64 i∧eget e 7= .int .i64 sg∧eget e 8=v∧eget e 9= .int .i64 ex
def midS (neg:Bool) (l:List Nat) (ex:Int):List UInt8→Option (Bool×List Nat×Int)
 | []=>some (neg,l,ex)
 | c::t=>if c≠101∧c≠69 then none
   else if(sgn t).2.length<1∨3<(sgn t).2.length then none
   else if(spanD (sgn t).2).2=[]then some (neg,l,ex+(if(sgn t).1=true then -(numD (spanD (sgn t).2).1:Int)else(numD (spanD (sgn t).2).1:Int)))
   else none
theorem read_mid (H:B.H_chaseref01_Read T) {s:List UInt8} {i:Nat} (hs:s.length<1000000000000) (hi:i≤s.length) {e:Env} {neg:Bool} {ex:Int} {l:List Nat} {n:Nat} {cp:Cap} {st0:St} (hx:Ext st0 st) (hv:Sl st (.slice n 0 l.length cp) 3 1 l.length (i64s l)) (hex: -1000000000000≤ex∧ex≤0)
  (h5:E5 s i (sgnI neg) (.slice n 0 l.length cp) ex e):
  Res (run T (rb 8) e st) (ReadQ st0 (if l=[]then none else midS neg l ex (s.drop i))):=by
 obtain⟨g0,g6,g7,g8,g9⟩:=id h5
 by_cases hl:l=[]
 ·subst hl
  simp only[rb,B.chaseref01_Read,ab_seq]
  simp[go_sem,g0,g6,g7,g8,g9,ReadQ,hx]
 rw[if_neg hl]
 have hlen:¬l.length=0:=fun h=>hl (List.length_eq_zero_iff.1 h)
 have hlen':¬(l.length:Int)=0:=by omega
 refine cut (c:=rb 8) rfl (by intro l;simp[rb,B.chaseref01_Read,ab_seq]) (fun x e' s'=>x= .norm∧s'=st∧E5 s i (sgnI neg) (.slice n 0 l.length cp) ex e') ?_ ?_
 ·simp only[rb,B.chaseref01_Read,ab_seq]
  simp[go_sem,g0,g6,g7,g8,g9,hlen,hlen',E5]
 rintro _ e1 s1 ⟨rfl,hst,h51⟩
 rw[kSeq_norm,hst]
 clear hst
 clear g0 g6 g7 g8 g9
 obtain⟨g0,g6,g7,g8,g9⟩:=id h51
 by_cases hil:i=s.length
 ·subst hil
  have hd:s.drop s.length=[]:=by simp
  rw[hd]
  show Res (run T (rb 9) e1 _) _
  simp only[rb,B.chaseref01_Read,ab_seq]
  simp[go_sem,g0,g6,g7,g8,g9,midS,ReadQ,hx,hv]
 have hil1:i<s.length:=by omega
 have hil2:¬(i:Int)=s.length:=by omega
 obtain⟨c,hc,hd⟩:=idx_some hil1
 refine cut (c:=rb 9) rfl (by intro l;simp[rb,B.chaseref01_Read,ab_seq]) (fun x e' s'=>x= .norm∧s'=st∧E5 s i (sgnI neg) (.slice n 0 l.length cp) ex e') ?_ ?_
 ·simp only[rb,B.chaseref01_Read,ab_seq]
  simp[go_sem,g0,g6,g7,g8,g9,hil,hil2,E5]
 rintro _ e2 s2 ⟨rfl,hst,h52⟩
 rw[kSeq_norm,hst]
 clear hst g0 g6 g7 g8 g9
 obtain⟨g0,g6,g7,g8,g9⟩:=id h52
 show Res (run T (.seq (.keep [0,6,7,8,9]) (rb 11)) e2 st) _
 rw[run_keep]
 have h53:E5 s i (sgnI neg) (.slice n 0 l.length cp) ex (keepE [0,6,7,8,9] e2):=by simp[E5,keepE,eget,g0,g6,g7,g8,g9]
 generalize keepE [0,6,7,8,9] e2=e3 at h53
 clear g0 g6 g7 g8 g9
 obtain⟨g0,g6,g7,g8,g9⟩:=id h53
 have hil3:(i:Int)<s.length:=by omega
 rw[hd]
 by_cases hE:c≠101∧c≠69
 ·have n1:¬(c.toNat:Int)=101:=u8_ne hE.1 rfl
  have n2:¬(c.toNat:Int)=69:=u8_ne hE.2 rfl
  have m1:¬c.toNat=101:=by omega
  have m2:¬c.toNat=69:=by omega
  simp only[midS]
  rw[if_pos hE]
  simp only[rb,B.chaseref01_Read,ab_seq]
  simp[go_sem,g0,g6,g7,g8,g9,hc,n1,n2,m1,m2,ReadQ,hx]
 simp only[midS]
 rw[if_neg hE]
 refine cut (c:=rb 11) rfl (by intro l;simp[rb,B.chaseref01_Read,ab_seq]) (fun x e' s'=>x= .norm∧s'=st∧E5 s i (sgnI neg) (.slice n 0 l.length cp) ex e') ?_ ?_
 ·have hcn:(c.toNat:Int)=101∨(c.toNat:Int)=69:=by
   by_cases h:c=101
   ·subst h;simp
   ·by_cases h':c=69
    ·subst h';simp
    ·exact absurd ⟨h,h'⟩ hE
  obtain⟨nn,hnn⟩:∃nn:Int,nn=c.toNat:=⟨_,rfl⟩
  rw[←hnn]at hcn
  simp only[rb,B.chaseref01_Read,ab_seq]
  rcases hcn with rfl | rfl
  ·simp[go_sem,g0,g6,g7,g8,g9,hc,←hnn,E5]
  ·simp[go_sem,g0,g6,g7,g8,g9,hc,←hnn,E5]
 rintro _ e4 s4 ⟨rfl,hst,h54⟩
 rw[kSeq_norm,hst]
 clear hst g0 g6 g7 g8 g9
 obtain⟨g0,g6,g7,g8,g9⟩:=id h54
 show Res (run T (.seq (.keep [0,6,7,8,9]) (rb 13)) e4 st) _
 rw[run_keep]
 have h55:E5 s i (sgnI neg) (.slice n 0 l.length cp) ex (keepE [0,6,7,8,9] e4):=by simp[E5,keepE,eget,g0,g6,g7,g8,g9]
 generalize keepE [0,6,7,8,9] e4=e5 at h55
 clear g0 g6 g7 g8 g9
 obtain⟨g0,g6,g7,g8,g9⟩:=id h55
 have e6:IntKind.i64.wrap ((i:Int)+1)=((i+1:Nat):Int):=wrap64' (by omega) (by omega)
 refine cut (c:=rb 13) rfl (by intro l;simp[rb,B.chaseref01_Read,ab_seq]) (fun x e' s'=>x= .norm∧s'=st∧E5 s (i+1) (sgnI neg) (.slice n 0 l.length cp) ex e') ?_ ?_
 ·simp only[rb,B.chaseref01_Read,ab_seq]
  simp[go_sem,g0,g6,g7,g8,g9,E5,e6]
 rintro _ e6' s6 ⟨rfl,hst,h56⟩
 rw[kSeq_norm,hst]
 clear hst g0 g6 g7 g8 g9 e6
 obtain⟨g0,g6,g7,g8,g9⟩:=id h56
 refine cut (c:=rb 14) rfl (by intro l;simp[rb,B.chaseref01_Read,ab_seq]) (fun x e' s'=>x= .norm∧s'=st∧E5 s (i+1) (sgnI neg) (.slice n 0 l.length cp) ex e'∧eget e' 11= .bool false) ?_ ?_
 ·simp only[rb,B.chaseref01_Read,ab_seq]
  simp[go_sem,g0,g6,g7,g8,g9,E5]
 rintro _ e7 s7 ⟨rfl,hst,h57,g11⟩
 rw[kSeq_norm,hst]
 clear hst g0 g6 g7 g8 g9
 obtain⟨g0,g6,g7,g8,g9⟩:=id h57
 refine cut (c:=rb 15) rfl (by intro l;simp[rb,B.chaseref01_Read,ab_seq]) _ (read_sign2 (t:=s.drop (i+1)) hs (by omega) rfl g0 g6 g7 g8 g9 g11) ?_
 rintro _ e8 s8 ⟨rfl,hst,k0,k6,k7,k8,k9,k11⟩
 rw[kSeq_norm,hst]
 obtain⟨z1,z2,z3⟩:=sgn_drop (s.drop (i+1))
 rw[List.length_drop]at z2 z3
 have hdr:s.drop (s.length - (sgn (s.drop (i+1))).2.length)=(sgn (s.drop (i+1))).2:=by
  conv=>rhs;rw[z1]
  rw[List.drop_drop,List.length_drop]
  congr 1
  omega
 exact read_end H hs (by omega) hdr hx hv hex k0 k6 k7 k8 k9 k11
theorem mant_suffix:∀(pt:Bool) (r:List UInt8),∃k,(mant pt r).2.2=r.drop k∧k≤r.length
 | _,[]=>⟨0,by simp[mant]⟩
 | pt,c::r=>by
   simp only[mant]
   split
   ·obtain⟨k,h1,h2⟩:=mant_suffix pt r
    exact⟨k+1,by simp[h1],by simp;omega⟩
   ·split
    ·obtain⟨k,h1,h2⟩:=mant_suffix true r
     exact⟨k+1,by simp[h1],by simp;omega⟩
    ·exact⟨0,by simp⟩
theorem Sl.cases {s:St} {v:AV} {ty es k:Nat} {cs:List AV} (a:Sl s v ty es k cs):(v= .nilslice∧cs=[]∧k=0)∨∃n cp,v= .slice n 0 k cp:=by
 obtain⟨n,a⟩:=a
 rcases a with ⟨h1,h2,h3⟩ | ⟨h1,h2,h3⟩ | ⟨ty',h1,h2,h3⟩
 ·exact .inl ⟨h1,h2,h3⟩
 ·exact .inr ⟨n,_,h1⟩
 ·exact .inr ⟨n,_,h1⟩
theorem readR_mid (s:List UInt8):readR s=if(mant false (sgn s).2).1=[]then none else midS (sgn s).1 (mant false (sgn s).2).1 (0 - ((mant false (sgn s).2).2.1:Int)) (mant false (sgn s).2).2.2:=by
 unfold readR
 simp only
 split
 ·rfl
 ·cases (mant false (sgn s).2).2.2 with
  | nil=>simp[midS]
  | cons c t=>
    simp only[midS,Int.zero_sub]
theorem read_tells (H:B.H_chaseref01_Read T) (hwf:st.Wf) {s:List UInt8} (hs:s.length<1000000000000):
  CRes (call T (.fn 80 [] []) [.str s] st) fun v s'=>Ext st s'∧match readR s with
   | none=>v= .tuple [.int .i64 0,.nilslice,.int .i64 0,.bool false]
   | some (neg,l,ex)=>∃sv,v= .tuple [.int .i64 (sgnI neg),sv,.int .i64 ex,.bool true]∧Sl s' sv 3 1 l.length (i64s l):=by
 refine call_res H.e H.f rfl ?_
 have main:Res (run T (rb 0) (argEnv 0 ([]++[.str s]++[])) st) (ReadQ st (readR s)):=by
  refine cut (c:=rb 0) rfl (by intro l;simp[rb,B.chaseref01_Read,ab_seq]) (fun x e' s'=>x= .norm∧s'=st∧eget e' 0= .str s) ?_ ?_
  ·simp only[rb,B.chaseref01_Read,ab_seq]
   simp[go_sem]
  rintro _ e1 s1 ⟨rfl,hst,g0⟩
  rw[kSeq_norm,hst]
  clear hst
  refine cut (c:=rb 1) rfl (by intro l;simp[rb,B.chaseref01_Read,ab_seq]) (fun x e' s'=>x= .norm∧s'=st∧eget e' 0= .str s∧eget e' 6= .int .i64 0∧eget e' 7= .int .i64 1) ?_ ?_
  ·simp only[rb,B.chaseref01_Read,ab_seq]
   simp[go_sem,g0]
  rintro _ e2 s2 ⟨rfl,hst,g0,g6,g7⟩
  rw[kSeq_norm,hst]
  clear hst
  refine cut (c:=rb 2) rfl (by intro l;simp[rb,B.chaseref01_Read,ab_seq]) _ (read_sign hs g0 g6 g7) ?_
  rintro _ e3 s3 ⟨rfl,hst,g0,g6,g7⟩
  rw[kSeq_norm,hst]
  clear hst
  show Res (run T (.seq (.keep [0,6,7]) (rb 4)) e3 st) _
  rw[run_keep]
  have h4:eget (keepE [0,6,7] e3) 0= .str s∧eget (keepE [0,6,7] e3) 6= .int .i64 ((s.length - (sgn s).2.length:Nat):Int)∧eget (keepE [0,6,7] e3) 7= .int .i64 (sgnI (sgn s).1):=by simp[keepE,eget,g0,g6,g7]
  generalize keepE [0,6,7] e3=e4 at h4
  obtain⟨k0,k6,k7⟩:=h4
  refine cut (c:=rb 4) rfl (by intro l;simp[rb,B.chaseref01_Read,ab_seq]) (fun x e' s'=>x= .norm∧s'=st∧eget e' 0= .str s∧eget e' 6= .int .i64 ((s.length - (sgn s).2.length:Nat):Int)∧eget e' 7= .int .i64 (sgnI (sgn s).1)∧eget e' 8= .nilslice) ?_ ?_
  ·simp only[rb,B.chaseref01_Read,ab_seq]
   simp[go_sem,k0,k6,k7]
  rintro _ e5 s5 ⟨rfl,hst,j0,j6,j7,j8⟩
  rw[kSeq_norm,hst]
  clear hst
  refine cut (c:=rb 5) rfl (by intro l;simp[rb,B.chaseref01_Read,ab_seq]) (fun x e' s'=>x= .norm∧s'=st∧eget e' 0= .str s∧eget e' 6= .int .i64 ((s.length - (sgn s).2.length:Nat):Int)∧eget e' 7= .int .i64 (sgnI (sgn s).1)∧eget e' 8= .nilslice∧eget e' 9= .int .i64 0∧eget e' 10= .bool false) ?_ ?_
  ·simp only[rb,B.chaseref01_Read,ab_seq]
   simp[go_sem,j0,j6,j7,j8]
  rintro _ e6 s6 ⟨rfl,hst,i0,i6,i7,i8,i9,i10⟩
  rw[kSeq_norm,hst]
  clear hst
  obtain⟨z1,z2,z3⟩:=sgn_drop s
  obtain⟨k,y1,y2⟩:=mant_suffix false (sgn s).2
  have hml:=mant_len false (sgn s).2
  refine cut (c:=rb 6) rfl (by intro l;simp[rb,B.chaseref01_Read,ab_seq]) (fun x e' s'=>x= .norm∧Ext st s'∧eget e' 0= .str s∧eget e' 6= .int .i64 ((s.length - (mant false (sgn s).2).2.2.length:Nat):Int)∧eget e' 7= .int .i64 (sgnI (sgn s).1)∧Sl s' (eget e' 8) 3 1 (mant false (sgn s).2).1.length (i64s (mant false (sgn s).2).1)∧eget e' 9= .int .i64 (0 - ((mant false (sgn s).2).2.1:Int))) ?_ ?_
  ·show Res (run T (.block 0 (.loop B.chaseref01_Read_l0)) e6 st) _
   simp only[run_block,Res_blockE]
   refine(read_l0 H hs (sgnI (sgn s).1) st (s.length - (s.length - (sgn s).2.length)) (s.length - (sgn s).2.length) [] 0 false e6 st .nilslice (by omega) (by simp) (by omega) (by omega) (.refl hwf) (.nil _ _ _) (Mine.nil _ _) i0 i6 i7 i8 i9 i10).mono ?_
   rw[←z1]
   rintro x e s' ⟨rfl,a1,a2,a3,a4,a5,a6,a7⟩
   simp only[List.nil_append]at a5
   simp[go_sem,a1,a2,a3,a4,a5,a7]
  rintro _ e7 s7 ⟨rfl,x7,j0,j6,j7,j8,j9⟩
  rw[kSeq_norm]
  show Res (run T (.seq (.keep [0,6,7,8,9]) (rb 8)) e7 s7) _
  rw[run_keep]
  rw[readR_mid]
  have hdr:s.drop (s.length - (mant false (sgn s).2).2.2.length)=(mant false (sgn s).2).2.2:=by
   rw[y1,z1,List.drop_drop,List.length_drop]
   congr 1
   omega
  have hil:s.length - (mant false (sgn s).2).2.2.length≤s.length:=by omega
  have hex: -1000000000000≤(0 - ((mant false (sgn s).2).2.1:Int))∧(0 - ((mant false (sgn s).2).2.1:Int))≤0:=by omega
  generalize (mant false (sgn s).2).2.2=rest at*
  generalize 0 - ((mant false (sgn s).2).2.1:Int)=ex at*
  generalize (mant false (sgn s).2).1=l at*
  generalize s.length - rest.length=i1 at*
  rcases j8.cases with ⟨h1,h2,h3⟩ | ⟨n,cp,h1⟩
  ·have:l=[]:=List.length_eq_zero_iff.1 h3
   subst this
   simp only[rb,B.chaseref01_Read,ab_seq]
   simp[go_sem,j0,j6,j7,h1,j9,ReadQ,x7]
  ·rw[h1]at j8
   have h55:E5 s i1 (sgnI (sgn s).1) (.slice n 0 l.length cp) ex (keepE [0,6,7,8,9] e7):=by simp[E5,keepE,eget,j0,j6,j7,h1,j9]
   have:=read_mid H hs hil x7 j8 hex h55
   rw[hdr]at this
   exact this
 refine main.mono ?_
 rintro x e s' ⟨hx,x1,hU⟩
 refine⟨hx,_,rfl,?_⟩
 cases hr:readR s with
 | none=>
   rw[hr]at hU
   obtain⟨k2,k3,k4,k5⟩:=hU
   exact⟨x1.dropLoc,by simp[B.chaseref01_Read,resVal,k2,k3,k4,k5]⟩
 | some p=>
   obtain⟨neg,l,ex⟩:=p
   rw[hr]at hU
   obtain⟨k2,k3,k4,k5⟩:=hU
   exact⟨x1.dropLoc,_,by simp[B.chaseref01_Read,resVal,k2,k4,k5],k3.dropLoc x1.wf⟩
end Go.Ev

/- Digits multiplied. -/
namespace Go.Ev
open Go
set_option linter.unusedSimpArgs false
set_option linter.unusedSectionVars false
set_option linter.unusedVariables false
variable {T : Tab} {st : St}
def mul1:List Nat→List Nat×Nat
 | []=>([],0)
 | d::l=>((131072*d+(mul1 l).2) % 10::(mul1 l).1,(131072*d+(mul1 l).2) / 10)
def pad:Nat→Nat→List Nat
 | 0,_=>[]
 | k+1,c=>pad k (c / 10)++[c % 10]
def timesS (l:List Nat):List Nat:=pad 6 (mul1 l).2++(mul1 l).1
theorem mul1_len:∀l,(mul1 l).1.length=l.length
 | []=>rfl
 | d::l=>by simp[mul1,mul1_len l]
theorem pad_len:∀k c,(pad k c).length=k
 | 0,_=>rfl
 | k+1,c=>by simp[pad,pad_len k]
theorem mul1_lt:∀l,(∀d∈l,d<10)→(mul1 l).2<131072
 | [],_=>by simp[mul1]
 | d::l,h=>by
   have h1:=mul1_lt l fun x hx=>h x (List.mem_cons_of_mem _ hx)
   have h2:=h d List.mem_cons_self
   simp only[mul1];omega
theorem mul1_dig:∀l,∀d∈(mul1 l).1,d<10
 | [],d,h=>by cases h
 | x::l,d,h=>by
   simp only[mul1]at h
   rcases List.mem_cons.1 h with rfl | h
   ·omega
   ·exact mul1_dig l d h
theorem pad_dig:∀k c,∀d∈pad k c,d<10
 | 0,_,d,h=>by cases h
 | k+1,c,d,h=>by
   simp only[pad]at h
   rcases List.mem_append.1 h with h | h
   ·exact pad_dig k _ d h
   ·simp at h;omega
theorem set_zero (p q:Nat) (X:List Nat):(i64s (List.replicate (p+1) 0++X)).set p (.int .i64 (q:Int))=i64s (List.replicate p 0++(q::X)):=by
 have h:(i64s (List.replicate p 0)).length=p:=by simp[i64s]
 rw[List.replicate_succ',List.append_assoc]
 simp only[i64s,List.map_append]at h⊢
 rw[List.set_append_right _ _ (by omega),h]
 simp
theorem mulw {d c N:Nat} (hd10:d<10) (hc:c<131072) (hN:N=131072*d+c):N<1310720∧IntKind.i64.wrap ((d:Int)*131072)=d*131072∧IntKind.i64.wrap ((d:Int)*131072+c)=(N:Int)∧IntKind.i64.wrap ((N / 10:Nat):Int)=((N / 10:Nat):Int):=by
 have h:N<1310720:=by omega
 refine⟨h,wrap64' (by omega) (by omega),?_,wrap64' (by omega) (by omega)⟩
 rw[wrap64' (by omega) (by omega)];omega
theorem div10 (N:Nat):(N:Int).tmod 10=((N % 10:Nat):Int)∧(N:Int).tdiv 10=((N / 10:Nat):Int):=by
 refine⟨?_,?_⟩
 ·rw[Int.tmod_eq_emod_of_nonneg (by omega)];omega
 ·rw[Int.tdiv_eq_ediv_of_nonneg (by omega)];omega
theorem idx6 {m k:Nat} (h:m<k) (hk:k≤1000000):IntKind.i64.wrap ((m:Int)+6)=((m+6:Nat):Int)∧IntKind.i64.wrap ((m:Int) - 1)=(m:Int) - 1:=by
 refine⟨?_,wrap64' (by omega) (by omega)⟩
 rw[wrap64' (by omega) (by omega)];omega
theorem times_l0 {sv:AV} {l:List Nat} {n:Nat} (hk:l.length≤1000000) (hd:∀d∈l,d<10) (st0:St) (hn:st0.nx≤n) (hsv:∀m∈sv.nms,m≠n):∀(m:Nat) (e:Env) (st1:St),m≤l.length→Ext st0 st1→Rd st1.h sv 1 l.length (i64s l)→hget st1.h n=some (.cells 3 false (i64s (List.replicate (6+m) 0++(mul1 (l.drop m)).1)))→eget e 0=sv→eget e 3= .slice n 0 (l.length+6) (.known (l.length+6))→eget e 4= .int .i64 ((mul1 (l.drop m)).2:Nat)→eget e 5= .int .i64 ((m:Int) - 1)→
  Res (run T (.loop B.chaseref01_times_l0) e st1) fun x e' s'=>x= .exit 0∧Ext st0 s'∧hget s'.h n=some (.cells 3 false (i64s (List.replicate 6 0++(mul1 l).1)))∧eget e' 3= .slice n 0 (l.length+6) (.known (l.length+6))∧eget e' 4= .int .i64 ((mul1 l).2:Nat):=by
 intro m
 induction m with
 | zero=>
   intro e st1 hm hx hr hg g0 g3 g4 g5
   rw[run_loop]
   simp at hg
   simp[B.chaseref01_times_l0,go_sem,g0,g3,g4,g5,hx]
   exact hg
 | succ m ih=>
   intro e st1 hm hx hr hg g0 g3 g4 g5
   have hml:m<l.length:=by omega
   obtain⟨d,hdm,hdr⟩:∃d,l[m]? =some d∧l.drop m=d::l.drop (m+1):=⟨l[m],List.getElem?_eq_getElem hml,List.drop_eq_getElem_cons hml⟩
   have hd10:d<10:=hd d (List.mem_of_getElem? hdm)
   have hc:=mul1_lt (l.drop (m+1)) fun x hx=>hd x (List.mem_of_mem_drop hx)
   have hmu:mul1 (l.drop m)=((131072*d+(mul1 (l.drop (m+1))).2) % 10::(mul1 (l.drop (m+1))).1,(131072*d+(mul1 (l.drop (m+1))).2) / 10):=by rw[hdr];simp only[mul1]
   have hlen1:=mul1_len (l.drop (m+1))
   generalize mul1 (l.drop (m+1))=M at hg g4 hc hmu hlen1
   obtain⟨M1,M2⟩:=M
   simp only at hg g4 hc hmu hlen1
   have e5:((m+1:Nat):Int) - 1=(m:Int):=by omega
   rw[e5]at g5
   obtain⟨N,hN⟩:∃N,N=131072*d+M2:=⟨_,rfl⟩
   obtain⟨hNb,w1,w2,w6⟩:=mulw hd10 hc hN
   obtain⟨w4,w5⟩:=div10 N
   obtain⟨w3,w7⟩:=idx6 hml hk
   obtain⟨nn,off,cp,hsvs,hrr⟩:∃nn off cp,sv= .slice nn off l.length cp∧rdCell st1.h nn (off+m)=some (.int .i64 (d:Int)):=by
    rcases hr with ⟨h1,h2,h3⟩ | ⟨nn,off,cp,h1,h2⟩
    ·omega
    ·refine⟨nn,off,cp,h1,?_⟩
     rw[rdCells_get h2 (by omega)]
     simp[i64s,hdm]
   have hw:wrCells st1.h n (m+6) [.int .i64 ((N % 10:Nat):Int)]=some (hset st1.h n (.cells 3 false (i64s (List.replicate (6+m) 0++(N % 10::M1))))):=by
    rw[wr_cells hg rfl (by rw[i64s_len];simp;omega),show m+6=6+m by omega,show 6+(m+1)=(6+m)+1 by omega,set_zero]
   have f1:=Frm.set hx.wf hg (o:= .cells 3 false (i64s (List.replicate (6+m) 0++(N % 10::M1))))
   have x1:Ext st0 ⟨hset st1.h n (.cells 3 false (i64s (List.replicate (6+m) 0++(N % 10::M1)))),st1.nx⟩:=hx.frm f1 (by simpa using hn)
   have r1:Rd (hset st1.h n (.cells 3 false (i64s (List.replicate (6+m) 0++(N % 10::M1))))) sv 1 l.length (i64s l):=hr.frm f1 hx.wf (fun k hk hk'=>by simp at hk';exact hsv k hk hk')
   have g1:hget (hset st1.h n (.cells 3 false (i64s (List.replicate (6+m) 0++(N % 10::M1))))) n=some (.cells 3 false (i64s (List.replicate (6+m) 0++(N % 10::M1)))):=hget_hset_self hg
   rw[←hN]at hmu
   rw[show (N % 10::M1)=(mul1 (l.drop m)).1 by rw[hmu]]at hw x1 r1 g1
   rw[show N / 10=(mul1 (l.drop m)).2 by rw[hmu]]at w5 w6
   clear f1
   generalize mul1 (l.drop m)=MM at hw x1 r1 g1 w5 w6 ih
   generalize N % 10=R at w4 hw
   have hml':(m:Int)<l.length:=by omega
   have hm6:((m+6:Nat):Int)<(l.length+6:Nat):=by omega
   obtain⟨q,hq⟩:∃q,q=m+6:=⟨_,rfl⟩
   have hq6:(q:Int)<(l.length:Int)+6:=by omega
   rw[←hq]at w3 hw hm6
   rw[run_loop]
   simp[B.chaseref01_times_l0,go_sem,g0,g3,g4,g5,hsvs,RO.run,WO.run,hml',hrr,w1,w2,w3,w4,w5,w6,hq6,hw]
   refine ih _ _ (by omega) x1 r1 g1 ?_ ?_ ?_ ?_
   ·simp[go_sem,hsvs]
   ·simp[go_sem]
   ·simp[go_sem,w5,w6]
   ·simp[go_sem,w7]
theorem times_l1 {n k:Nat} {X:List Nat} (st0:St) (hn:st0.nx≤n):∀(m c:Nat) (e:Env) (st1:St),m≤6→c<1000000→Ext st0 st1→k=6+X.length - 6→∀Y:List Nat,Y.length=6 - m+X.length→hget st1.h n=some (.cells 3 false (i64s (List.replicate m 0++Y)))→eget e 3= .slice n 0 (k+6) (.known (k+6))→eget e 4= .int .i64 (c:Nat)→eget e 7= .int .i64 ((m:Int) - 1)→
  Res (run T (.loop B.chaseref01_times_l1) e st1) fun x e' s'=>x= .exit 2∧Ext st0 s'∧hget s'.h n=some (.cells 3 false (i64s (pad m c++Y)))∧eget e' 3= .slice n 0 (k+6) (.known (k+6)):=by
 intro m
 induction m with
 | zero=>
   intro c e st1 hm hcb hx hk Y hY hg g3 g4 g7
   rw[run_loop]
   simp at hg
   simp[B.chaseref01_times_l1,go_sem,g3,g4,g7,hx,pad]
   exact hg
 | succ m ih=>
   intro c e st1 hm hcb hx hk Y hY hg g3 g4 g7
   have e5:((m+1:Nat):Int) - 1=(m:Int):=by omega
   rw[e5]at g7
   obtain⟨w4,w5⟩:=div10 c
   have w7:IntKind.i64.wrap ((m:Int) - 1)=(m:Int) - 1:=wrap64' (by omega) (by omega)
   have w6:IntKind.i64.wrap ((c / 10:Nat):Int)=((c / 10:Nat):Int):=wrap64' (by omega) (by omega)
   have hw:wrCells st1.h n m [.int .i64 ((c % 10:Nat):Int)]=some (hset st1.h n (.cells 3 false (i64s (List.replicate m 0++(c % 10::Y))))):=by
    rw[wr_cells hg rfl (by rw[i64s_len];simp;omega),set_zero]
   have hpad:pad (m+1) c++Y=pad m (c / 10)++(c % 10::Y):=by simp[pad]
   rw[hpad]
   have hc10:c / 10<1000000:=by omega
   generalize c % 10=R at w4 hw⊢
   generalize c / 10=C at w5 w6 hc10⊢
   have f1:=Frm.set hx.wf hg (o:= .cells 3 false (i64s (List.replicate m 0++(R::Y))))
   have x1:Ext st0 ⟨hset st1.h n (.cells 3 false (i64s (List.replicate m 0++(R::Y)))),st1.nx⟩:=hx.frm f1 (by simpa using hn)
   have g1:hget (hset st1.h n (.cells 3 false (i64s (List.replicate m 0++(R::Y))))) n=some (.cells 3 false (i64s (List.replicate m 0++(R::Y)))):=hget_hset_self hg
   have hm6:(m:Int)<(k:Int)+6:=by omega
   rw[run_loop]
   simp[B.chaseref01_times_l1,go_sem,g3,g4,g7,RO.run,WO.run,hm6,w4,w5,w6,hw]
   refine ih C _ _ (by omega) hc10 x1 hk (R::Y) (by simp;omega) g1 ?_ ?_ ?_
   ·simp[go_sem]
   ·simp[go_sem,w5,w6]
   ·simp[go_sem,w7]
theorem reps_zero:∀k,reps [AV.int .i64 0] k=i64s (List.replicate k 0)
 | 0=>rfl
 | k+1=>by
   rw[List.replicate_succ]
   simp[reps,reps_zero k,i64s]
theorem times_tells (H:B.H_chaseref01_times T) (hwf:st.Wf) {nn off:Nat} {cp:Cap} {l:List Nat} (hk:l.length≤1000000) (hd:∀d∈l,d<10) (hr:Rd st.h (.slice nn off l.length cp) 1 l.length (i64s l)):
  CRes (call T (.fn 103 [] []) [.slice nn off l.length cp] st) fun v s'=>Ext st s'∧∃n c,v= .slice n 0 (l.length+6) c∧Rd s'.h v 1 (l.length+6) (i64s (timesS l)):=by
 refine call_res H.e H.f rfl ?_
 have w1:IntKind.i64.wrap ((l.length:Int)+6)=((l.length+6:Nat):Int):=by rw[wrap64' (by omega) (by omega)];omega
 have w2:IntKind.i64.wrap ((l.length:Int) - 1)=(l.length:Int) - 1:=wrap64' (by omega) (by omega)
 have xn:=Ext.new hwf (.cells 3 false (i64s (List.replicate (6+l.length) 0)))
 have hg:hget ((st.nx,AObj.cells 3 false (i64s (List.replicate (6+l.length) 0)))::st.h) st.nx=some (.cells 3 false (i64s (List.replicate (6+l.length) 0++(mul1 (l.drop l.length)).1))):=by simp[hget_cons,mul1]
 have hrn:=hr.ext xn hwf
 have hsv:∀m∈(AV.slice nn off l.length cp).nms,m≠st.nx:=fun m hm h=>by have:=hr.lt hwf m hm;omega
 have lp:=fun e a b c d=>times_l0 (T:=T) hk hd st (Nat.le_refl _) hsv l.length e _ (Nat.le_refl _) xn hrn hg a b c d
 have hmz:mul1 (l.drop l.length)=([],0):=by simp[mul1]
 rw[hmz]at lp
 have hml:=mul1_len l
 have hmb:=mul1_lt l hd
 have hq8:((l.length:Int)+6)*8≤140737488355328:=by omega
 have hq9:(l.length:Int)+6≤140737488355328:=by omega
 have hts:timesS l=pad 6 (mul1 l).2++(mul1 l).1:=rfl
 rw[hts]
 generalize mul1 l=M at lp hml hmb⊢
 obtain⟨q,hq⟩:∃q,q=l.length+6:=⟨_,rfl⟩
 have hq':(q:Int)=(l.length:Int)+6:=by omega
 rw[show 6+l.length=q by omega]at lp
 rw[←hq]at w1 lp⊢
 have hq8:(q:Int)*8≤140737488355328:=by omega
 have hq9:(q:Int)≤140737488355328:=by omega
 simp[B.chaseref01_times,go_sem,NO.run,w1,w2,hq8,hq9,reps_zero]
 refine(lp _ (by simp[go_sem]) (by simp[go_sem]) (by simp[go_sem]) (by simp[go_sem])).mono ?_
 rintro x e s1 ⟨rfl,x1,g1,k3,k4⟩
 simp[go_sem,k3,k4]
 refine(times_l1 (T:=T) (X:=M.1) (k:=l.length) st (Nat.le_refl _) 6 M.2 _ s1 (by omega) (by omega) x1 (by omega) M.1 (by omega) g1 (by simp[go_sem,hq]) (by simp[go_sem]) (by simp[go_sem])).mono ?_
 rintro x e2 s2 ⟨rfl,x2,g2,j3⟩
 simp[go_sem,j3]
 have g3:=hget_dropLoc_keep (c:=st.nx) x2.wf g2 rfl
 refine⟨x2.dropLoc,by omega,.inr ⟨_,_,_,by rw[←hq],rd_all g3 ?_⟩⟩
 rw[i64s_len,List.length_append,pad_len]
 omega
theorem tdm2 (a:Int):(0≤a∧a.tdiv 2=a / 2∧a.tmod 2=a % 2)∨(a<0∧a.tdiv 2= -((-a) / 2)∧a.tmod 2= -((-a) % 2)):=by
 by_cases h:0≤a
 ·exact .inl ⟨h,Int.tdiv_eq_ediv_of_nonneg h,Int.tmod_eq_emod_of_nonneg h⟩
 ·refine .inr ⟨by omega,?_,?_⟩
  ·have:=Int.neg_tdiv (-a) 2
   rw[Int.neg_neg]at this
   rw[this,Int.tdiv_eq_ediv_of_nonneg (by omega)]
  ·have:=Int.neg_tmod (-a) 2
   rw[Int.neg_neg]at this
   rw[this,Int.tmod_eq_emod_of_nonneg (by omega)]
theorem floor_tells (H:B.H_chaseref01_Floor T) (hwf:st.Wf) {a:Int} (h0: -1000000000000000≤a) (h1:a≤1000000000000000):Tells T st (.fn 104 [] []) [.int .i64 a,.int .i64 2] (.int .i64 (a / 2)):=by
 refine tells_of H.e H.f rfl ?_
 have ht:=tdm2 a
 have w1:IntKind.i64.wrap (a.tdiv 2)=a.tdiv 2:=wrap64' (by omega) (by omega)
 have w2:IntKind.i64.wrap (a.tdiv 2 - 1)=a.tdiv 2 - 1:=wrap64' (by omega) (by omega)
 by_cases h:a.tmod 2<0
 ·have hq:a / 2=a.tdiv 2 - 1:=by omega
  simp[B.chaseref01_Floor,go_sem,h,w1,w2,hq,Ext.refl hwf]
 ·have hq:a / 2=a.tdiv 2:=by omega
  simp[B.chaseref01_Floor,go_sem,h,w1,hq,Ext.refl hwf]
theorem is105_tells (H:B.H_chaseref01_Is T) (hwf:st.Wf) {n:Int}:Tells T st (.fn 105 [] []) [.int .i64 n] (.bool (decide (-2147483648≤n) && decide (n≤2147483648))):=by
 refine tells_of H.e H.f rfl ?_
 by_cases h: -2147483648≤n
 ·simp[B.chaseref01_Is,go_sem,h,Ext.refl hwf]
 ·simp[B.chaseref01_Is,go_sem,h,Ext.refl hwf]
end Go.Ev

/- The reference's Parse told. -/
namespace Go.Ev
open Go
set_option linter.unusedSimpArgs false
set_option linter.unusedSectionVars false
set_option linter.unusedVariables false
variable {T : Tab} {st : St}
def accD:Nat→List Nat→Nat→Bool→Nat×Bool
 | _,[],N,r=>(N,r)
 | 0,d::l,N,r=>accD 0 l N (r || decide (d≠0))
 | k+1,d::l,N,r=>accD k l (min (10*N+d) 1099511627776) r
theorem accD_step {k:Nat} {l l2:List Nat} {d N:Nat} {r:Bool} (h:l=d::l2):accD k l N r=if 0<k then accD (k - 1) l2 (min (10*N+d) 1099511627776) r else accD 0 l2 N (r || decide (d≠0)):=by
 subst h
 cases k with
 | zero=>simp[accD]
 | succ k=>simp[accD]
theorem minw {N d:Nat} (hN:N≤1099511627776) (hd:d<10):IntKind.i64.wrap (10*(N:Int))=10*N∧IntKind.i64.wrap (10*(N:Int)+d)=10*N+d∧(if(1099511627776:Int)<10*(N:Int)+d then 1099511627776 else 10*(N:Int)+d)=((min (10*N+d) 1099511627776:Nat):Int):=by
 refine⟨wrap64' (by omega) (by omega),wrap64' (by omega) (by omega),?_⟩
 split <;> omega
theorem lenw {L i E:Nat} {ex:Int} (hE:E=ex.toNat) (h1: -100000≤ex) (h2:ex≤100000) (hL:L≤100000) (hi:i≤200000):(if ex<0 then 0 else ex)=(E:Int)∧IntKind.i64.wrap ((L:Int)+(E:Int))=((L+E:Nat):Int)∧IntKind.i64.wrap ((L:Int)+ex)=L+ex∧IntKind.i64.wrap ((i:Int)+1)=((i+1:Nat):Int)∧((i:Int)<(L:Int)+ex↔0<((L:Int)+ex).toNat - i)∧E≤100000:=by
 refine⟨?_,?_,wrap64' (by omega) (by omega),wrap64' (by omega) (by omega),by omega,by omega⟩
 ·split <;> omega
 ·rw[wrap64' (by omega) (by omega)];omega
theorem parseR_l0 {t:List Nat} {nn E:Nat} {cp:Cap} {ex:Int} {L:Nat} (hE:E=ex.toNat) (hL:L=t.length) (hLb:L≤100000) (h1: -100000≤ex) (h2:ex≤100000) (ht:∀d∈t,d<10) (hr:Rd st.h (.slice nn 0 L cp) 1 L (i64s t)) (sg:Int) {C:Nat} (hC:C=((L:Int)+ex).toNat):
  ∀(m i N:Nat) (r:Bool) (e:Env),i+m=L+E→N≤1099511627776→eget e 4= .int .i64 sg→eget e 6= .int .i64 ex→eget e 8= .slice nn 0 L cp→eget e 9= .int .i64 N→eget e 10= .bool r→eget e 11= .int .i64 i→
  Res (run T (.loop B.chaseref01_Parse_l0) e st) fun x e' s'=>x= .exit 0∧s'=st∧eget e' 4= .int .i64 sg∧eget e' 9= .int .i64 ((accD (C - i) ((t++List.replicate E 0).drop i) N r).1:Nat)∧eget e' 10= .bool (accD (C - i) ((t++List.replicate E 0).drop i) N r).2:=by
 intro m
 induction m with
 | zero=>
   intro i N r e hi hN g4 g6 g8 g9 g10 g11
   have hEb:E≤100000:=by omega
   obtain⟨q1,q2,q3,q4,q5,q6⟩:=lenw (i:=i) hE h1 h2 hLb (by omega)
   have hd:(t++List.replicate E 0).drop i=[]:=List.drop_eq_nil_iff.2 (by simp;omega)
   rw[hd]
   obtain⟨W,hW⟩:∃W,W=L+E:=⟨_,rfl⟩
   rw[←hW]at q2
   have hni:¬(i:Int)<(W:Int):=by omega
   have hni':¬i<W:=by omega
   rw[run_loop]
   simp[B.chaseref01_Parse_l0,go_sem,g4,g6,g8,g9,g10,g11,q1,q2,hni,hni',accD]
 | succ m ih=>
   intro i N r e hi hN g4 g6 g8 g9 g10 g11
   have hEb:E≤100000:=by omega
   obtain⟨q1,q2,q3,q4,q5,q6⟩:=lenw (i:=i) hE h1 h2 hLb (by omega)
   rw[←hC]at q5
   have hlt:i<(t++List.replicate E 0).length:=by simp;omega
   obtain⟨d,hdi,hdr⟩:∃d,(t++List.replicate E 0)[i]? =some d∧(t++List.replicate E 0).drop i=d::(t++List.replicate E 0).drop (i+1):=⟨_,List.getElem?_eq_getElem hlt,List.drop_eq_getElem_cons hlt⟩
   have hd10:d<10:=by
    rcases List.mem_append.1 (List.mem_of_getElem? hdi)with h | h
    ·exact ht d h
    ·have:=List.eq_of_mem_replicate h;omega
   obtain⟨p1,p2,p3⟩:=minw hN hd10
   rw[accD_step hdr]
   obtain⟨W,hW⟩:∃W,W=L+E:=⟨_,rfl⟩
   rw[←hW]at q2
   have hni:(i:Int)<(W:Int):=by omega
   have next:∀(N':Nat) (r':Bool) (e':Env),N'≤1099511627776→(if 0<C - i then accD (C - i - 1) ((t++List.replicate E 0).drop (i+1)) (min (10*N+d) 1099511627776) r else accD 0 ((t++List.replicate E 0).drop (i+1)) N (r || decide (d≠0)))=accD (C - (i+1)) ((t++List.replicate E 0).drop (i+1)) N' r'→eget e' 4= .int .i64 sg→eget e' 6= .int .i64 ex→eget e' 8= .slice nn 0 L cp→eget e' 9= .int .i64 N'→eget e' 10= .bool r'→eget e' 11= .int .i64 ((i+1:Nat):Int)→
     Res (run T (.loop B.chaseref01_Parse_l0) e' st) fun x e' s'=>x= .exit 0∧s'=st∧eget e' 4= .int .i64 sg∧eget e' 9= .int .i64 ((if 0<C - i then accD (C - i - 1) ((t++List.replicate E 0).drop (i+1)) (min (10*N+d) 1099511627776) r else accD 0 ((t++List.replicate E 0).drop (i+1)) N (r || decide (d≠0))).1:Nat)∧eget e' 10= .bool (if 0<C - i then accD (C - i - 1) ((t++List.replicate E 0).drop (i+1)) (min (10*N+d) 1099511627776) r else accD 0 ((t++List.replicate E 0).drop (i+1)) N (r || decide (d≠0))).2:=by
    intro N' r' e' hN' he k4 k6 k8 k9 k10 k11
    rw[he]
    exact ih (i+1) N' r' e' (by omega) hN' k4 k6 k8 k9 k10 k11
   generalize hGD:(if 0<C - i then accD (C - i - 1) ((t++List.replicate E 0).drop (i+1)) (min (10*N+d) 1099511627776) r else accD 0 ((t++List.replicate E 0).drop (i+1)) N (r || decide (d≠0)))=G at next⊢
   rw[run_loop]
   by_cases hil:i<L
   ·have hil':(i:Int)<(L:Int):=by omega
    have hrr:rdCell st.h nn i=some (.int .i64 (d:Int)):=by
     rcases hr with ⟨h,_⟩ | ⟨n2,off,cp2,h,h2'⟩
     ·cases h
     ·injection h with a1 a2 a3 a4
      subst a1;subst a2
      have:=rdCells_get (i:=i) h2' (by omega)
      rw[Nat.zero_add]at this
      rw[this]
      rw[List.getElem?_append_left (by omega)]at hdi
      simp[i64s,hdi]
    by_cases hik:(i:Int)<(L:Int)+ex
    ·have hk0:=q5.1 hik
     obtain⟨M,hM⟩:∃M,M=min (10*N+d) 1099511627776:=⟨_,rfl⟩
     rw[←hM]at p3
     have hG:G=accD (C - (i+1)) ((t++List.replicate E 0).drop (i+1)) M r:=by rw[←hGD,if_pos hk0,←hM,Nat.sub_sub]
     simp[B.chaseref01_Parse_l0,go_sem,g4,g6,g8,g9,g10,g11,q1,q2,q3,hni,hil,hil',RO.run,hrr,hik,p1,p2,p3]
     exact next M r _ (by omega) hG (by simp[go_sem]) (by simp[go_sem]) (by simp[go_sem]) (by simp[go_sem]) (by simp[go_sem]) (by simp[go_sem,q4])
    ·have hk0:¬0<C - i:=fun h=>hik (q5.2 h)
     have hG:G=accD (C - (i+1)) ((t++List.replicate E 0).drop (i+1)) N (r || decide (d≠0)):=by rw[←hGD,if_neg hk0,show C - (i+1)=0 by omega]
     have hik':¬(i:Int)<(L:Int)+ex:=hik
     cases r with
     | true=>
       simp[B.chaseref01_Parse_l0,go_sem,g4,g6,g8,g9,g10,g11,q1,q2,q3,hni,hil,hil',RO.run,hrr,hik']
       exact next N true _ hN (by simpa using hG) (by simp[go_sem]) (by simp[go_sem]) (by simp[go_sem]) (by simp[go_sem]) (by simp[go_sem]) (by simp[go_sem,q4])
     | false=>
       simp[B.chaseref01_Parse_l0,go_sem,g4,g6,g8,g9,g10,g11,q1,q2,q3,hni,hil,hil',RO.run,hrr,hik']
       exact next N (decide (d≠0)) _ hN (by simpa using hG) (by simp[go_sem]) (by simp[go_sem]) (by simp[go_sem]) (by simp[go_sem]) (by simp[go_sem]) (by simp[go_sem,q4])
   ·have hil':¬(i:Int)<(L:Int):=by omega
    have hd0:d=0:=by
     rw[List.getElem?_append_right (by omega),List.getElem?_replicate]at hdi
     split at hdi
     ·exact(Option.some.inj hdi).symm
     ·cases hdi
    subst hd0
    by_cases hik:(i:Int)<(L:Int)+ex
    ·have hk0:=q5.1 hik
     obtain⟨M,hM⟩:∃M,M=min (10*N+0) 1099511627776:=⟨_,rfl⟩
     have p3':(if(1099511627776:Int)<10*(N:Int)then 1099511627776 else 10*(N:Int))=(M:Int):=by rw[hM];split <;> omega
     have hG:G=accD (C - (i+1)) ((t++List.replicate E 0).drop (i+1)) M r:=by rw[←hGD,if_pos hk0,←hM,Nat.sub_sub]
     simp[B.chaseref01_Parse_l0,go_sem,g4,g6,g8,g9,g10,g11,q1,q2,q3,hni,hil,hil',hik,p1,p3']
     exact next M r _ (by omega) hG (by simp[go_sem]) (by simp[go_sem]) (by simp[go_sem]) (by simp[go_sem]) (by simp[go_sem]) (by simp[go_sem,q4])
    ·have hk0:¬0<C - i:=fun h=>hik (q5.2 h)
     have hG:G=accD (C - (i+1)) ((t++List.replicate E 0).drop (i+1)) N r:=by rw[←hGD,if_neg hk0,show C - (i+1)=0 by omega];simp
     have hik':¬(i:Int)<(L:Int)+ex:=hik
     cases r with
     | true=>
       simp[B.chaseref01_Parse_l0,go_sem,g4,g6,g8,g9,g10,g11,q1,q2,q3,hni,hil,hil',hik']
       exact next N true _ hN hG (by simp[go_sem]) (by simp[go_sem]) (by simp[go_sem]) (by simp[go_sem]) (by simp[go_sem]) (by simp[go_sem,q4])
     | false=>
       simp[B.chaseref01_Parse_l0,go_sem,g4,g6,g8,g9,g10,g11,q1,q2,q3,hni,hil,hil',hik']
       exact next N false _ hN hG (by simp[go_sem]) (by simp[go_sem]) (by simp[go_sem]) (by simp[go_sem]) (by simp[go_sem]) (by simp[go_sem,q4])
theorem mant_dig:∀(pt:Bool) (r:List UInt8),∀d∈(mant pt r).1,d<10
 | _,[],d,h=>by simp[mant]at h
 | pt,c::r,d,h=>by
   simp only[mant]at h
   split at h
   ·rename_i hc
    have hc2:48≤c.toNat∧c.toNat≤57:=by simpa [isDig] using hc
    rcases List.mem_cons.1 h with rfl | h
    ·omega
    ·exact mant_dig pt r d h
   ·split at h
    ·exact mant_dig true r d h
    ·simp at h
theorem readR_facts {s:List UInt8} {neg:Bool} {l:List Nat} {ex:Int} (h:readR s=some (neg,l,ex)):l≠[]∧(∀d∈l,d<10)∧l.length≤s.length∧-(s.length:Int) - 1000≤ex∧ex≤1000:=by
 have hz:=sgn_drop s
 have hml:=mant_len false (sgn s).2
 have hmd:=mant_dig false (sgn s).2
 unfold readR at h
 simp only at h
 split at h
 ·cases h
 ·rename_i hne
  split at h
  ·simp only[Option.some.injEq,Prod.mk.injEq]at h
   obtain⟨_,rfl,rfl⟩:=h
   exact⟨hne,hmd,by omega,by omega,by omega⟩
  ·rename_i c t _
   split at h
   ·cases h
   ·split at h
    ·cases h
    ·rename_i hlen
     split at h
     ·have hnb:numD (spanD (sgn t).2).1<1000:=by
       have hlu:=spanD_len (sgn t).2
       refine Nat.lt_of_lt_of_le (numD_lt (fun d hd=>spanD_lt _ d hd)) ?_
       exact Nat.le_trans (Nat.pow_le_pow_right (by omega) (show _≤3 by omega)) (by omega)
      simp only[Option.some.injEq,Prod.mk.injEq]at h
      obtain⟨_,rfl,rfl⟩:=h
      refine⟨hne,hmd,by omega,?_,?_⟩ <;> split <;> omega
     ·cases h
def roundR (neg:Bool) (l:List Nat) (ex:Int):Int:=
 let a:=accD (((l.length+6:Nat):Int)+ex).toNat (timesS l++List.replicate ex.toNat 0) 0 false
 let up:Int:=if neg=true then(if a.2=true then -(a.1:Int) - 1 else -(a.1:Int))else(a.1:Int)
 (up+1) / 2
def parseR (s:List UInt8):Int×Int:=
 if 40<s.length then(0,3)
 else match readR s with
  | none=>(0,5)
  | some (neg,l,ex)=>if -2147483648≤roundR neg l ex∧roundR neg l ex≤2147483648 then(roundR neg l ex,0)else(0,6)
theorem accD_le:∀(l:List Nat) (k N:Nat) (r:Bool),N≤1099511627776→(accD k l N r).1≤1099511627776
 | [],_,_,_,h=>by simpa [accD] using h
 | d::l,0,N,r,h=>by simp only[accD];exact accD_le l 0 N _ h
 | d::l,k+1,N,r,h=>by simp only[accD];exact accD_le l k _ r (Nat.min_le_right _ _)
theorem parseR_tells (H:B.H_chaseref01_Parse T) (hwf:st.Wf) {s:List UInt8} (hs:s.length<1000000000000):Tells T st (.fn 81 [] []) [.str s] (.tuple [.int .i64 (parseR s).1,.int .i64 (parseR s).2]):=by
 refine tells_of H.e H.f rfl ?_
 by_cases h40:40<s.length
 ·have h40':(40:Int)<s.length:=by omega
  simp[B.chaseref01_Parse,go_sem,h40,h40',parseR,Ext.refl hwf]
 have h40':¬(40:Int)<s.length:=by omega
 simp[B.chaseref01_Parse,go_sem,h40,h40']
 refine(read_tells H.chaseref01_Read hwf hs).mono ?_
 rintro v1 s1 ⟨x1,hU⟩
 cases hr:readR s with
 | none=>
   rw[hr]at hU
   subst hU
   simp[go_sem,parseR,h40,hr,x1]
 | some p=>
   obtain⟨neg,l,ex⟩:=p
   rw[hr]at hU
   obtain⟨sv,rfl,hsl⟩:=hU
   obtain⟨f1,f2,f3,f4,f5⟩:=readR_facts hr
   have hps:parseR s=if -2147483648≤roundR neg l ex∧roundR neg l ex≤2147483648 then(roundR neg l ex,0)else(0,6):=by simp only[parseR,if_neg h40,hr]
   rw[hps]
   have hlen:l.length≠0:=fun h=>f1 (List.length_eq_zero_iff.1 h)
   rcases hsl.cases with ⟨_,_,h3⟩ | ⟨n,cp,rfl⟩
   ·omega
   have hrd:Rd s1.h (.slice n 0 l.length cp) 1 l.length (i64s l):=hsl.rd
   simp[go_sem]
   refine(times_tells H.chaseref01_times x1.wf (by omega) f2 hrd).mono ?_
   rintro v2 s2 ⟨x2',n2,c2,rfl,hr2⟩
   have x2:=x1.trans x2'
   have htl:(timesS l).length=l.length+6:=by simp[timesS,pad_len,mul1_len];omega
   have htd:∀d∈timesS l,d<10:=fun d hd=>by
    rcases List.mem_append.1 hd with h | h
    ·exact pad_dig _ _ d h
    ·exact mul1_dig _ d h
   have lp:=fun e a b c d f g=>parseR_l0 (T:=T) (st:=s2) (E:=ex.toNat) (L:=l.length+6) rfl htl.symm (by omega) (by omega) (by omega) htd hr2 (sgnI neg) rfl (l.length+6+ex.toNat) 0 0 false e (by omega) (by omega) a b c d f g
   simp only[List.drop_zero,Nat.sub_zero]at lp
   have hal:=accD_le (timesS l++List.replicate ex.toNat 0) (((l.length+6:Nat):Int)+ex).toNat 0 false (by omega)
   have hrr:roundR neg l ex=((if neg=true then(if(accD (((l.length+6:Nat):Int)+ex).toNat (timesS l++List.replicate ex.toNat 0) 0 false).2=true then -((accD (((l.length+6:Nat):Int)+ex).toNat (timesS l++List.replicate ex.toNat 0) 0 false).1:Int) - 1 else -((accD (((l.length+6:Nat):Int)+ex).toNat (timesS l++List.replicate ex.toNat 0) 0 false).1:Int))else((accD (((l.length+6:Nat):Int)+ex).toNat (timesS l++List.replicate ex.toNat 0) 0 false).1:Int))+1) / 2:=rfl
   rw[hrr]
   generalize accD (((l.length+6:Nat):Int)+ex).toNat (timesS l++List.replicate ex.toNat 0) 0 false=A at lp hal hrr⊢
   simp[go_sem]
   refine(lp _ (by simp[go_sem]) (by simp[go_sem]) (by simp[go_sem]) (by simp[go_sem]) (by simp[go_sem]) (by simp[go_sem])).mono ?_
   rintro x e s3 ⟨rfl,hs3,k4,k9,k10⟩
   subst hs3
   clear lp hrr hps hrd hr2
   obtain⟨N,r⟩:=A
   simp only at hal k9 k10⊢
   have w0:IntKind.i64.wrap (-(N:Int))= -(N:Int):=wrap64' (by omega) (by omega)
   have w1:IntKind.i64.wrap (-(N:Int) - 1)= -(N:Int) - 1:=wrap64' (by omega) (by omega)
   have w2:IntKind.i64.wrap ((N:Int)+1)=(N:Int)+1:=wrap64' (by omega) (by omega)
   have w3:IntKind.i64.wrap (-(N:Int)+1)= -(N:Int)+1:=wrap64' (by omega) (by omega)
   cases neg with
   | false=>
     simp[go_sem,sgnI,k4,k9,k10,w2]
     refine(floor_tells H.chaseref01_Floor x2.wf (a:=(N:Int)+1) (by omega) (by omega)).use fun s4 x4'=> ?_
     have x4:=x2.trans x4'
     simp[go_sem]
     refine(is105_tells H.chaseref01_Is x4.wf (n:=((N:Int)+1) / 2)).use fun s5 x5'=> ?_
     have x5:=x4.trans x5'
     by_cases hin: -2147483648≤((N:Int)+1) / 2∧((N:Int)+1) / 2≤2147483648
     ·simp[go_sem,hin,x5]
     ·have hb:(decide (-2147483648≤((N:Int)+1) / 2) && decide (((N:Int)+1) / 2≤2147483648))=false:=by simpa using hin
      simp[go_sem,hb,hin,x5]
   | true=>
     cases r with
     | false=>
       simp[go_sem,sgnI,k4,k9,k10,w0,w3]
       refine(floor_tells H.chaseref01_Floor x2.wf (a:= -(N:Int)+1) (by omega) (by omega)).use fun s4 x4'=> ?_
       have x4:=x2.trans x4'
       simp[go_sem]
       refine(is105_tells H.chaseref01_Is x4.wf (n:=(-(N:Int)+1) / 2)).use fun s5 x5'=> ?_
       have x5:=x4.trans x5'
       by_cases hin: -2147483648≤(-(N:Int)+1) / 2∧(-(N:Int)+1) / 2≤2147483648
       ·simp[go_sem,hin,x5]
       ·have hb:(decide (-2147483648≤(-(N:Int)+1) / 2) && decide ((-(N:Int)+1) / 2≤2147483648))=false:=by simpa using hin
        simp[go_sem,hb,hin,x5]
     | true=>
       simp[go_sem,sgnI,k4,k9,k10,w0,w1]
       refine(floor_tells H.chaseref01_Floor x2.wf (a:= -(N:Int)) (by omega) (by omega)).use fun s4 x4'=> ?_
       have x4:=x2.trans x4'
       simp[go_sem]
       refine(is105_tells H.chaseref01_Is x4.wf (n:=(-(N:Int)) / 2)).use fun s5 x5'=> ?_
       have x5:=x4.trans x5'
       by_cases hin: -2147483648≤(-(N:Int)) / 2∧(-(N:Int)) / 2≤2147483648
       ·simp[go_sem,hin,x5]
       ·have hb:(decide (-2147483648≤(-(N:Int)) / 2) && decide ((-(N:Int)) / 2≤2147483648))=false:=by simpa using hin
        simp[go_sem,hb,hin,x5]
end Go.Ev
