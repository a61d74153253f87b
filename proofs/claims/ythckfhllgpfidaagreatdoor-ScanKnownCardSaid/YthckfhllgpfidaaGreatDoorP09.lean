/- scan.Print told. -/
import Derived.Test.YthckfhllgpfidaaGreatDoorP08
import Derived.Test.YthckfhllgpfidaaGreatDoorP06
import Derived.Test.YthckfhllgpfidaaGreatDoorP07
import Derived.Test.YthckfhllgpfidaaGreatDoorP04
import Derived.Test.YthckfhllgpfidaaGreatDoorP03
import Derived.Test.YthckfhllgpfidaaGreatDoorProg
import Derived.Shelf.Strings.Builder1
import Derived.Shelf.Strings.Builder2
import Derived.Shelf.Strings.OnBuilder
import Derived.Shelf.Small.Utf8
import Derived.Shelf.Small.Strs
import Derived.Shelf.Strings.BuilderF
import Derived.Shelf.Strings.BuilderK
import Derived.Shelf.Strings.Builder2Cap
import Derived.Shelf.Strconv.Itoa0
import Derived.Shelf.Strconv.Itoa1
import Derived.Shelf.LaysM
import Derived.Shelf.Strconv.Itoa2
import Derived.Shelf.Strconv.Itoa3
import Derived.Shelf.Strings.Search1
import Derived.Shelf.Strings.Search2
import Derived.Shelf.Strings.Cut
import Derived.Shelf.Strings.Shaped
import Derived.Shelf.Strings.Prefix
import Derived.Shelf.Strings.Runes
import Derived.Shelf.Strings.IndexAny
import Derived.Shelf.Strings.AsciiSet
import Derived.Shelf.Strings.IndexAnyAll
import Derived.Shelf.Bits.Mul64
import Derived.Shelf.Strings.Repeat
import Derived.Shelf.Strings.BuilderCap
set_option linter.unusedSimpArgs false
set_option linter.unusedVariables false
set_option linter.unusedSectionVars false
namespace Go.Ev
open Go
variable {T : Tab} {st : St}
def strsX (l:List (List UInt8)):List AV:=l.map AV.str
theorem strsX_len (l:List (List UInt8)):(strsX l).length=l.length:=by simp[strsX]
theorem strsOf_x:∀l:List (List UInt8),B.strsOf (strsX l)=some l
 | []=>rfl
 | x::r=>by
   have:=strsOf_x r
   simp only[strsX,List.map_cons,B.strsOf]at this⊢
   rw[this]
def GrowX (st0 s:St) (v:AV) (l:List (List UInt8)):Prop:=Sl s v 9 1 l.length (strsX l)∧Mine [] st0 v∧NK v∧(l=[]→v= .nilslice)
theorem GrowX.nil (st0 s:St):GrowX st0 s .nilslice []:=⟨.nil _ _ _,.nil _ _,(fun _ _ _ _ h=>by cases h),fun _=>rfl⟩
theorem GrowX.ge {st0 s:St} {v:AV} {l:List (List UInt8)} (a:GrowX st0 s v l):∀n∈v.nms,st0.nx≤n:=fun n hn=>by
 rcases a.2.1 n hn with h | h
 ·cases h
 ·exact h
theorem GrowX.ext {st0 s s':St} {v:AV} {l:List (List UInt8)} (a:GrowX st0 s v l) (f:Ext s s') (hw:s.Wf):GrowX st0 s' v l:=⟨a.1.ext f hw,a.2.1,a.2.2.1,a.2.2.2⟩
theorem GrowX.push {st0 s1:St} (hF:st0.nx≤s1.nx) (hw:s1.Wf) {v:AV} {l:List (List UInt8)} (c:List UInt8) {k:Nat} (hk:0<k) (g:GrowX st0 s1 v l) (hl:l.length<1000000000000):
  CRes (aappend 9 1 16 ⟨(s1.nx,.cells 9 false [.str c])::s1.h,s1.nx+k⟩ v (.slice s1.nx 0 1 (.known 1))) fun v' s=>GrowX st0 s v' (l++[c])∧Frm v.nms s1 s:=by
 obtain⟨a1,a2,a3,_⟩:=g
 have xa:=Ext.newA hw (.cells 9 false [.str c]) hk
 have hap:=Sl.append (x:= .slice s1.nx 0 1 (.known 1)) (j:=1) (new:=[.str c]) (b:=16) (Frm.refl xa.wf v.nms) (fun n h=> .inl h) (a1.ext xa hw)
  (.inr ⟨_,_,_,rfl,rd_all (ty:=9) (l:=false) (by simp[hget_cons]) rfl⟩) (by simp[AV.sc]) (by omega) (by omega) (.inl (by omega))
 refine(hap.also (fun _ _ h=>aappend_nk h a3)).mono ?_
 rintro v2 s2 ⟨⟨k1,k2,k3,_⟩,hnk2⟩
 have hsn:strsX (l++[c])=strsX l++[.str c]:=by simp[strsX]
 refine⟨⟨by rw[hsn];simpa using k1,fun n hn=> ?_,hnk2,fun h=>by simp at h⟩,(xa.fr v.nms).trans k2 (fun n h=> .inl h)⟩
 rcases k3 n hn with h | h
 ·exact a2 n h
 ·simp at h;exact .inr (by omega)
theorem GrowX.form {st0 s:St} {v:AV} {l:List (List UInt8)} (a:GrowX st0 s v l):(v= .nilslice∧l=[])∨∃n,v= .slice n 0 l.length .full∧0<l.length∧rdCells s.h n 0 l.length=some (strsX l):=by
 obtain⟨⟨m,hsl⟩,b6,b7,b8⟩:=a
 rcases hsl with ⟨k1,k2,k3⟩ | ⟨k1,k2,k3⟩ | ⟨ty',k1,k2,k3⟩
 ·exact .inl ⟨k1,List.length_eq_zero_iff.1 k3⟩
 ·refine .inr ⟨m,k1,?_,?_⟩
  ·rcases Nat.eq_zero_or_pos l.length with h | h
   ·rw[b8 (List.length_eq_zero_iff.1 h)]at k1;cases k1
   ·exact h
  ·simp[rdCells,k2,strsX_len]
   exact List.take_of_length_le (by rw[strsX_len];exact Nat.le_refl _)
 ·exact absurd k1 (b7 _ _ _ _)
theorem scanPrint_l0 (H:B.H_scan_Print T) {st0:St} (hw0:st0.Wf) (hp:Pow st0) {v:AV} {l:List Tok} (hl:OkT l) (hv:Rd st0.h v 3 l.length (toksA l)):∀(m i:Nat) (w:AV) (e:Env) (st1:St),i+m=l.length→Ext st0 st1→GrowX st0 st1 w ((l.take i).map txT)→eget e 4=w→eget e 9=v→eget e 10= .int .i64 (l.length:Int)→eget e 11= .int .i64 (i:Int)→
  Res (run T (.loop B.scan_Print_l0) e st1) fun x e' s'=>x= .exit 0∧Ext st0 s'∧GrowX st0 s' (eget e' 4) (l.map txT):=by
 intro m
 induction m with
 | zero=>
   intro i w e st1 hi hx hg g4 g9 g10 g11
   have hie:i=l.length:=by omega
   subst hie
   rw[List.take_length]at hg
   rw[run_loop]
   simp[B.scan_Print_l0,go_sem,g4,g9,g10,g11,hx,hg]
 | succ m ih=>
   intro i w e st1 hi hx hg g4 g9 g10 g11
   have hil:i<l.length:=by omega
   obtain⟨t,ht⟩:∃t,l[i]? =some t:=⟨_,List.getElem?_eq_getElem hil⟩
   obtain⟨n,off,cp,hvn,hrd⟩:=(hv.ext hx hw0).tok ht
   have h1:(i:Int)<l.length:=by omega
   have h40:=hl.1
   have ek:IntKind.i64.wrap ((i:Int)+1)=((i+1:Nat):Int):=wrap64' (by omega) (by omega)
   have hrt:=hl.2 t (List.mem_of_getElem? ht)
   have hsn:(l.take (i+1)).map txT=(l.take i).map txT++[txT t]:=by
    rw[List.take_add_one,ht,List.map_append];rfl
   have hln:((l.take i).map txT).length<1000000000000:=by simp;omega
   have hcall:=fun(st':St) (hw:st'.Wf) (hp:Pow st')=>lexText_tells (st:=st') H.lex_Text hw hp (k:=t.1) (n:=t.2.1) (t:=t.2.2) (by omega)
   rw[if_pos hrt.1,if_pos hrt.1]at hcall
   rw[show textS t.1 t.2.1 t.2.2=txT t from rfl]at hcall
   have ih2:=fun w' e' s'=>ih (i+1) w' e' s' (by omega)
   rw[hsn]at ih2
   clear ih hsn
   generalize txT t=X at*
   rw[run_loop]
   rw[hvn]at g9 ih2
   have x2:=Ext.new hx.wf (.cells 134 true [.int .i64 t.1,.int .i64 t.2.1,.str t.2.2])
   have y2:=hx.trans x2
   simp[B.scan_Print_l0,go_sem,g4,g9,g10,g11,h1,RO.run,hrd,NO.run,WO.run,wr_tok,rd_tok]
   refine(hcall _ y2.wf (hp.ext y2 hw0)).use fun s3 x3=> ?_
   have y3:=y2.trans x3
   simp[go_sem,g4,NO.run]
   refine(((hg.ext x2 hx.wf).ext x3 y2.wf).push y3.nx y3.wf X (k:=1) (by omega) hln).mono ?_
   rintro v4 s4 ⟨o4,f4⟩
   have y4:=y3.frm f4 hg.ge
   simp[go_sem,g4,g9,g10,g11]
   exact ih2 v4 _ s4 y4 o4 (by simp[go_sem]) (by simp[go_sem,g9]) (by simp[go_sem,g10]) (by simp[go_sem,g11,ek])
theorem scanPrint_tells (H:B.H_scan_Print T) (hwf:st.Wf) (hp:Pow st) {v:AV} {l:List Tok} (hl:OkT l) (hv:Rd st.h v 3 l.length (toksA l)):Tells T st (.fn 165 [] []) [v] (.tuple [.str (printL l),.int .i64 0]):=by
 refine tells_of H.e H.f rfl ?_
 have hlo:=hv.lenOf (ev:=fun _=>v) (x:= .t 0) rfl
 have hpl:=printL_len hl
 have h40:=hl.1
 have loop:=fun(e:Env) g4 g9 g10 g11=>scanPrint_l0 H hwf hp hl hv l.length 0 .nilslice e st (by simp) (.refl hwf) (GrowX.nil _ _) g4 g9 g10 g11
 have fin:∀(w:AV) (s:St) (K:AV→St→Prop),GrowX st s w (l.map txT)→K (.str (printL l)) s→CRes (call T (.fn 179 [] []) [w,.str [32]] s) K:=by
  intro w s K hg hK
  rw[call_entry H.strings_Join.en]
  simp only[List.nil_append,List.append_nil]
  rcases hg.form with ⟨rfl,h0⟩ | ⟨n,rfl,hn,hrd⟩
  ·have:printL l=[]:=by unfold printL;rw[h0];rfl
   rw[this]at hK
   exact hK
  ·simp only[B.E_strings_Join,hrd,strsOf_x]
   have e1:(l.map txT).length=l.length:=by simp
   have e2:(Lib.join (l.map txT) [32]).length≤140737488355328:=by show (printL l).length≤_;omega
   rw[if_pos ⟨by omega,by omega,e2⟩]
   exact hK
 rcases hv with ⟨rfl,h2,h3⟩ | ⟨n,off,cp,rfl,h2⟩
 ·simp[B.scan_Print,go_sem]
  refine(loop _ (by simp[go_sem]) (by simp[go_sem]) (by simp[go_sem,h2]) (by simp[go_sem])).mono ?_
  rintro x e' s' ⟨rfl,hx,hg⟩
  simp[go_sem]
  refine fin _ _ _ hg ?_
  simp[go_sem,hx]
 ·simp[B.scan_Print,go_sem]
  refine(loop _ (by simp[go_sem]) (by simp[go_sem]) (by simp[go_sem]) (by simp[go_sem])).mono ?_
  rintro x e' s' ⟨rfl,hx,hg⟩
  simp[go_sem]
  refine fin _ _ _ hg ?_
  simp[go_sem,hx]
end Go.Ev

/- All tokens: the reference's All. -/
namespace Go.Ev
open Go
variable {T : Tab} {st : St}
def finA (r:List Tok×Nat×Int):List Tok×Nat×Int:=if r.2.2=4 then(r.1,r.2.1,0)else([],r.2.1,r.2.2)
theorem allS_fin (s:List UInt8):allS s=finA (runA s (s.length+1) 0 []):=rfl
def AllR (st s:St) (r:List Tok×Nat×Int) (v:AV):Prop:=∃w,v= .tuple [w,.int .i64 (r.2.1:Int),.int .i64 r.2.2]∧Ext st s∧GrowT st s w r.1
end Go.Ev

/- The plain law of reading back: a token's text, and what stands between tokens. -/
namespace Go.Ev
open Go
end Go.Ev

/- A string is appended to octets; a Builder takes a string; the binary form. -/
namespace Go.Ev
open Go
variable {T : Tab} {st : St}
theorem Sl.append2 {st0:St} {S:List Nat} (hF:Frm S st0 st) {v x:AV} {ty es k j b:Nat} {cs new:List AV} (hv:Mine S st0 v) (a:Sl st v ty es k cs) (hxs:srcCells st.h es x=some (j,new)) (hxl:new.length=j*es) (hsc:new.all AV.sc=true)
  (hb:(k+j)*b≤35184372088832) (hb':k+j≤35184372088832) (hm:0<j∨∀n c,v≠.slice n 0 k (.known c)):
  CRes (aappend ty es b st v x) fun v' s=>Sl s v' ty es (k+j) (cs++new)∧Frm S st0 s∧Mine S st0 v'∧Frm v.nms st s:=by
 obtain⟨n,a⟩:=a
 cases hv0:v with
 | slice m o l c=>
   have hmn:n=m:=by
    rcases a with ⟨h1,h2,h3⟩ | ⟨h1,h2,h3⟩ | ⟨ty',h1,h2,h3⟩ <;> rw[hv0]at h1 <;> simp at h1 <;> first | exact h1.1.symm | exact h1.symm
   subst hmn
   rw[←hv0]
   refine(a.append hF.wf hxs hxl hsc hb hb' ?_).mono ?_
   ·rcases hm with h | h
    ·exact .inl h
    ·exact .inr (fun⟨c,hc⟩=>h _ _ hc)
   ·rintro v' s ⟨n',hs,hf,hn,_⟩
    have hfs:Frm v.nms st s:=by rw[hv0];exact hf
    refine⟨⟨n',hs⟩,hF.trans hfs hv,?_,hfs⟩
    intro k hk
    have hk':k=n':=by
     rcases hs with ⟨h1,h2,h3⟩ | ⟨h1,h2,h3⟩ | ⟨ty',h1,h2,h3⟩ <;> rw[h1]at hk <;> simp[AV.nms]at hk <;> exact hk
    subst hk'
    rcases hn with h | h
    ·subst h;exact hv _ (by simp[hv0,AV.nms])
    ·exact .inr (Nat.le_trans hF.nx h)
 | nilslice=>
   have hk0:k=0∧cs=[]:=by
    rcases a with ⟨h1,h2,h3⟩ | ⟨h1,h2,h3⟩ | ⟨ty',h1,h2,h3⟩
    ·exact⟨h3,h2⟩
    ·rw[hv0]at h1;cases h1
    ·rw[hv0]at h1;cases h1
   obtain⟨rfl,rfl⟩:=hk0
   unfold aappend
   rw[hxs]
   simp only[Nat.zero_add]at hb hb'⊢
   by_cases hj0:j=0
   ·rw[if_pos hj0]
    refine⟨?_,hF,Mine.nil _ _,Frm.refl hF.wf _⟩
    have:new=[]:=List.length_eq_zero_iff.1 (by rw[hxl,hj0];simp)
    subst this;subst hj0
    exact .nil _ _ _
   ·rw[if_neg hj0,if_pos ⟨hb,hb'⟩]
    refine⟨⟨st.nx,.buf rfl (by simp[hget]) (by simpa using hxl)⟩,hF.trans ((Ext.new hF.wf _).fr []) (by simp),?_,(Ext.new hF.wf _).fr _⟩
    intro n hn
    simp[AV.nms]at hn
    subst hn
    exact .inr hF.nx
 | _=>
   rcases a with ⟨h1,h2,h3⟩ | ⟨h1,h2,h3⟩ | ⟨ty',h1,h2,h3⟩ <;> rw[hv0]at h1 <;> cases h1
theorem Grow.appS {st0 s1:St} (hF:st0.nx≤s1.nx) (hw:s1.Wf) {v:AV} {l m:List UInt8} (a:Grow st0 s1 v l) (hl:l.length+m.length<35184372088831):
  CRes (aappend 5 1 1 s1 v (.str m)) fun v' s=>Grow st0 s v' (l++m)∧Frm v.nms s1 s:=by
 obtain⟨a1,a2,a3⟩:=a
 have hap:=Sl.append2 (x:= .str m) (j:=m.length) (new:=u8s m) (b:=1) (Frm.refl hw v.nms) (fun n h=> .inl h) a1 (by simp[srcCells,u8s]) (by rw[u8s_len];omega) (by simp[u8s,AV.sc]) (by omega) (by omega) (.inr fun n c h=>a3 _ _ _ _ h)
 refine(hap.also (fun _ _ h=>aappend_nk h a3)).mono ?_
 rintro v2 s2 ⟨⟨k1,k2,k3,_⟩,hnk2⟩
 refine⟨⟨by rw[u8s_append,List.length_append];exact k1,fun n hn=> ?_,hnk2⟩,k2⟩
 rcases k3 n hn with h | h
 ·exact a2 n h
 ·exact .inr (by omega)
theorem writeString_res (H:B.H_strings_Builder_WriteString T) {st0:St} (hx:Ext st0 st) {q:Nat} {l:List UInt8} (m:List UInt8) (b:Bd st0 st q l) (hl:l.length+m.length<35184372088831):
  CRes (call T (.fn 169 [] []) [.ptr q 0,.str m] st) fun _ s'=>Ext st0 s'∧Bd st0 s' q (l++m):=by
 obtain⟨h1,a,v,h2,h3,h4,h5⟩:=b
 refine call_res H.e H.f rfl ?_
 simp[B.strings_Builder_WriteString,go_sem]
 refine(copyCheck_res H.strings_Builder_copyCheck hx.wf h2 h3).mono ?_
 rintro _ s1 ⟨f1,g1⟩
 have x1:Ext st0 s1:=hx.frm f1 (by simpa using h1)
 have g4:=h4.frm f1 hx.wf (by intro n hn h;simp at h;subst h;exact h5 hn)
 have hr:rdCell s1.h q 1=some v:=by simp[rdCell,g1]
 simp[go_sem,RO.run,NO.run,hr,reps]
 refine(g4.appS x1.nx x1.wf (m:=m) hl).mono ?_
 rintro v2 s2 ⟨o2,f2⟩
 have x2:=x1.frm f2 h4.ge
 have g2:hget s2.h q=some (.cells 84 false [.ptr q 0,v]):=f2.get x1.wf g1 h5
 have hw2:wrCells s2.h q 1 [v2]=some (hset s2.h q (.cells 84 false [.ptr q 0,v2])):=wr_cells g2 o2.sc (by simp)
 have f3:=Frm.set x2.wf g2 (o:= .cells 84 false [.ptr q 0,v2])
 have hap:=o2.apart g2 (x:= .ptr q 0) (by simp) (by simp)
 have g3:=hget_hset_self (o:= .cells 84 false [.ptr q 0,v2]) g2
 simp[go_sem,WO.run,o2.acells,hw2]
 have x3:Ext st0 ⟨hset s2.h q (.cells 84 false [.ptr q 0,v2]),s2.nx⟩:=x2.frm f3 (by simpa using h1)
 have o3:Grow st0 ⟨hset s2.h q (.cells 84 false [.ptr q 0,v2]),s2.nx⟩ v2 (l++m):=o2.frm f3 x2.wf (by intro n hn h;simp at h;subst h;exact hap hn)
 refine⟨?_,h1,_,v2,hget_dropLoc_keep x3.wf g3 rfl,.inr rfl,o3.dropLoc x3.wf,hap⟩
 exact x3.dropGe hx.nx
def beN (n:Int):Nat→List UInt8
 | 0=>[]
 | m+1=>UInt8.ofNat ((n / 256 ^ m) % 256).toNat::beN n m
theorem beN_len (n:Int):∀m,(beN n m).length=m
 | 0=>rfl
 | m+1=>by simp[beN,beN_len n m]
def formS (first:UInt8) (n:Int) (m:Nat) (s:List UInt8):List UInt8:=first::(beN n m++s)
theorem shr_oct {n:Int} (hn0: -4294967296≤n) (hn1:n≤4294967296) {m:Nat} (hm:m<4):IntKind.u8.wrap (ishr .i64 n (8*(m:Int)))=((UInt8.ofNat ((n / 256 ^ m) % 256).toNat).toNat:Int):=by
 have key:∀q:Int, -4294967296≤q→q≤4294967296→IntKind.u8.wrap q=((UInt8.ofNat (q % 256).toNat).toNat:Int):=by
  intro q h0 h1
  rw[UInt8.toNat_ofNat',Nat.mod_eq_of_lt (by omega)]
  simp[IntKind.wrap,IntKind.signed,IntKind.bits]
  omega
 have hd:ishr .i64 n (8*(m:Int))=n / 256 ^ m:=by
  have:m=0∨m=1∨m=2∨m=3:=by omega
  rcases this with rfl | rfl | rfl | rfl
  ·simp[ishr,IntKind.bits]
  ·simp[ishr,IntKind.bits]
   exact Int.fdiv_eq_ediv_of_nonneg _ (by omega)
  ·simp[ishr,IntKind.bits]
   exact Int.fdiv_eq_ediv_of_nonneg _ (by omega)
  ·simp[ishr,IntKind.bits]
   exact Int.fdiv_eq_ediv_of_nonneg _ (by omega)
 rw[hd,key]
 ·have:m=0∨m=1∨m=2∨m=3:=by omega
  rcases this with rfl | rfl | rfl | rfl <;> simp <;> omega
 ·have:m=0∨m=1∨m=2∨m=3:=by omega
  rcases this with rfl | rfl | rfl | rfl <;> simp <;> omega
theorem form_l0 (H:B.H_scan_form T) {st0:St} {q:Nat} {n:Int} (hn0: -4294967296≤n) (hn1:n≤4294967296) {a3:AV}:∀(m:Nat) (o:List UInt8) (e:Env) (st1:St),m≤4→o.length+m≤10→Ext st0 st1→Bd st0 st1 q o→eget e 1= .int .i64 n→eget e 3=a3→eget e 9= .ptr q 0→eget e 10= .int .i64 ((m:Int) - 1)→
  Res (run T (.loop B.scan_form_l0) e st1) fun x e' s'=>x= .exit 0∧Ext st0 s'∧Bd st0 s' q (o++beN n m)∧eget e' 3=a3∧eget e' 9= .ptr q 0:=by
 intro m
 induction m with
 | zero=>
   intro o e st1 hm ho hx hb g1 g3 g9 g10
   rw[run_loop]
   simp[B.scan_form_l0,go_sem,g1,g3,g9,g10,beN,hx,hb]
 | succ m ih=>
   intro o e st1 hm ho hx hb g1 g3 g9 g10
   have g10':eget e 10= .int .i64 (m:Int):=by rw[g10];congr 1;omega
   have hm4:m<4:=by omega
   have h0:(0:Int)≤(m:Int):=by omega
   obtain⟨M,hM⟩:∃M:Int,M=8*(m:Int):=⟨_,rfl⟩
   obtain⟨M1,hM1⟩:∃M:Int,M=(m:Int) - 1:=⟨_,rfl⟩
   have w8:IntKind.i64.wrap (8*(m:Int))=M:=by rw[wrap64' (by omega) (by omega)];omega
   have w1:IntKind.i64.wrap ((m:Int) - 1)=M1:=by rw[wrap64' (by omega) (by omega)];omega
   have hM0:¬M<0:=by omega
   have hsh:=shr_oct hn0 hn1 hm4
   rw[←hM]at hsh
   have ih2:=fun o' e' s'=>ih o' e' s' (by omega)
   rw[←hM1]at ih2
   obtain⟨c,hc⟩:∃c,c=UInt8.ofNat ((n / 256 ^ m) % 256).toNat:=⟨_,rfl⟩
   rw[←hc]at hsh
   rw[beN,←hc]
   clear hc hM hM1 ih
   rw[run_loop]
   simp[B.scan_form_l0,go_sem,g1,g3,g9,g10',h0,w8,hM0,hsh]
   refine(writeByte_at H.strings_Builder_WriteByte hx c rfl hb (by omega)).mono ?_
   rintro _ s2 ⟨x2,b2⟩
   simp[go_sem,g1,g3,g9,g10',w1]
   refine(ih2 (o++[c]) _ s2 (by simp;omega) x2 b2 (by simp[go_sem,g1]) (by simp[go_sem,g3]) (by simp[go_sem,g9]) (by simp[go_sem])).mono ?_
   rintro x e' s3 ⟨h1,h2,h3,h4,h5⟩
   exact⟨h1,h2,by simpa using h3,h4,h5⟩
theorem form_tells (H:B.H_scan_form T) (hwf:st.Wf) {first:UInt8} {n:Int} (hn0: -4294967296≤n) (hn1:n≤4294967296) {m:Nat} (hm:m≤4) (hm1:1≤m) {s:List UInt8} (hs:s.length<1000000000) {F M:Int} (hF:F=(first.toNat:Int)) (hM:M=(m:Int)):
  Tells T st (.fn 180 [] []) [.int .u8 F,.int .i64 n,.int .i64 M,.str s] (.str (formS first n m s)):=by
 subst hF hM
 refine tells_of H.e H.f rfl ?_
 have hx:=Ext.new hwf (.cells 84 false [.nilptr,.nilslice])
 have hb0:Bd st ⟨(st.nx,.cells 84 false [.nilptr,.nilslice])::st.h,st.nx+1⟩ st.nx []:=⟨Nat.le_refl _,.nilptr,.nilslice,by simp[hget_cons],.inl rfl,Grow.nil _ _,by simp[AV.nms]⟩
 obtain⟨M1,hM1⟩:∃M:Int,M=(m:Int) - 1:=⟨_,rfl⟩
 have w1:IntKind.i64.wrap ((m:Int) - 1)=M1:=by rw[wrap64' (by omega) (by omega)];omega
 have hf:=beN_len n m
 have loop:=fun(o:List UInt8) (e:Env) (s1:St)=>form_l0 H (st0:=st) (q:=st.nx) hn0 hn1 (a3:= .str s) m o e s1 hm
 rw[←hM1]at loop
 simp[B.scan_form,go_sem,NO.run]
 refine(writeByte_at H.strings_Builder_WriteByte hx first rfl hb0 (by simp)).mono ?_
 rintro _ s2 ⟨x2,b2⟩
 simp[go_sem,w1]
 refine(loop _ _ s2 (by simp;omega) x2 b2 (by simp[go_sem]) (by simp[go_sem]) (by simp[go_sem]) (by simp[go_sem])).mono ?_
 rintro x e' s3 ⟨rfl,x3,b3,g3,g9⟩
 simp[go_sem,g3,g9]
 refine(writeString_res H.strings_Builder_WriteString x3 s b3 (by simp;omega)).mono ?_
 rintro _ s4 ⟨x4,b4⟩
 simp[go_sem]
 refine(string_res H.strings_Builder_String x4 b4 (by simp) (by simp;omega)).mono ?_
 rintro _ s5 ⟨rfl,x5⟩
 simp[go_sem,formS,x5]
def packS (t:Tok):List UInt8:=
 if t.1=1 then(if -128≤t.2.1∧t.2.1<128 then formS 129 t.2.1 1 []else if -32768≤t.2.1∧t.2.1<32768 then formS 130 t.2.1 2 []else formS 128 t.2.1 4 [])
 else if t.1=2 then formS 131 t.2.1 4 []
 else if t.1=6 then(if t.2.2.length<256 then formS 132 t.2.2.length 1 t.2.2 else formS 133 t.2.2.length 2 t.2.2)
 else if t.1=4 then formS 134 t.2.2.length 1 t.2.2
 else if t.1=3 then formS 135 t.2.2.length 1 t.2.2
 else if t.1=5 then formS 136 t.2.2.length 1 t.2.2
 else textS t.1 t.2.1 t.2.2
end Go.Ev

/- scan.Pack told. -/
namespace Go.Ev
open Go
variable {T : Tab} {st : St}
set_option maxHeartbeats 2000000 in
set_option maxRecDepth 20000 in
theorem pack_tells (H:B.H_scan_Pack T) (hwf:st.Wf) (hp:Pow st) {k n:Int} {t:List UInt8} (hr:rightT k n t=true) (hs:t.length<65536) (hbig:k=2→n≤2147483647):
  Tells T st (.fn 166 [] []) [.agg [.int .i64 k,.int .i64 n,.str t]] (.tuple [.str (packS (k,n,t)),.int .i64 0]):=by
 refine tells_of H.e H.f rfl ?_
 have hx:=Ext.new hwf (.cells 134 true [.int .i64 k,.int .i64 n,.str t])
 have g:hget ((st.nx,AObj.cells 134 true [.int .i64 k,.int .i64 n,.str t])::st.h) st.nx=some (.cells 134 true [.int .i64 k,.int .i64 n,.str t]):=by simp[hget_cons]
 simp[B.scan_Pack,go_sem,NO.run,WO.run,RO.run,rd_tok]
 refine(check_tells H.lex_Check hx.wf (by omega)).use fun s1 hs1=> ?_
 have e1:=hx.trans hs1
 have g1:=hs1.get hx.wf g
 have p1:=hp.ext e1 hwf
 have hb:=right_bound hr
 have fm:=fun(first:UInt8) (n:Int) (h0: -4294967296≤n) (h1:n≤4294967296) (m:Nat) (hm:m≤4) (hm1:1≤m) (s:List UInt8) (hs:s.length<1000000000) (F M:Int) (hF:F=(first.toNat:Int)) (hM:M=(m:Int))=>form_tells (st:=s1) H.scan_form e1.wf h0 h1 hm hm1 hs hF hM
 have lt:=lexText_tells (st:=s1) H.lex_Text e1.wf p1 (k:=k) (n:=n) (t:=t) (by omega)
 have c0:rdCell s1.h st.nx 0=some (.int .i64 k):=by simp[rdCell,g1]
 have c1:rdCell s1.h st.nx 1=some (.int .i64 n):=by simp[rdCell,g1]
 have c2:rdCell s1.h st.nx 2=some (.str t):=by simp[rdCell,g1]
 have c3:rdCells s1.h st.nx 0 3=some [.int .i64 k,.int .i64 n,.str t]:=tok_rd g1
 rw[if_pos hr,if_pos hr]at lt
 simp[go_sem,RO.run,hr,c0,c1,c2]
 by_cases h1:k=1
 ·subst h1
  obtain⟨b0,b1⟩:=hb (.inl rfl)
  by_cases h128: -128≤n∧n<128
  ·have hP:packS (1,n,t)=formS 129 n 1 []:=by simp[packS,h128]
   rw[hP]
   simp[go_sem,RO.run,c1,h128]
   refine(fm 129 n b0 b1 1 (by omega) (by omega) [] (by simp) 129 1 rfl rfl).use fun s2 x2=> ?_
   simp[go_sem,e1.trans x2]
  ·have hg:(-128≤n→¬n<128):=fun h h'=>h128 ⟨h,h'⟩
   by_cases h32: -32768≤n∧n<32768
   ·have hP:packS (1,n,t)=formS 130 n 2 []:=by simp[packS,h128,h32]
    rw[hP]
    have h32a:=h32.1
    have h32b:=h32.2
    by_cases ha: -128≤n
    ·have hb':=hg ha
     simp[go_sem,RO.run,c1,ha,hb',h32a,h32b]
     refine(fm 130 n b0 b1 2 (by omega) (by omega) [] (by simp) 130 2 rfl rfl).use fun s2 x2=> ?_
     simp[go_sem,e1.trans x2]
    ·simp[go_sem,RO.run,c1,ha,h32a,h32b]
     refine(fm 130 n b0 b1 2 (by omega) (by omega) [] (by simp) 130 2 rfl rfl).use fun s2 x2=> ?_
     simp[go_sem,e1.trans x2]
   ·have hP:packS (1,n,t)=formS 128 n 4 []:=by simp[packS,h128,h32]
    rw[hP]
    have fin:=fm 128 n b0 b1 4 (by omega) (by omega) [] (by simp) 128 4 rfl rfl
    by_cases ha: -128≤n
    ·have hb':=hg ha
     have hc': -32768≤n:=by omega
     have hd':¬n<32768:=by omega
     simp[go_sem,RO.run,c1,ha,hb',hc',hd']
     refine fin.use fun s2 x2=> ?_
     simp[go_sem,e1.trans x2]
    ·by_cases hc': -32768≤n
     ·exfalso;omega
     ·simp[go_sem,RO.run,c1,ha,hc']
      refine fin.use fun s2 x2=> ?_
      simp[go_sem,e1.trans x2]
 by_cases h2:k=2
 ·subst h2
  obtain⟨b0,b1⟩:=hb (.inr rfl)
  have hP:packS (2,n,t)=formS 131 n 4 []:=by simp[packS]
  rw[hP]
  have hn:=hbig rfl
  simp[go_sem,RO.run,c1,hn,show¬(2147483647<n)by omega]
  refine(fm 131 n b0 b1 4 (by omega) (by omega) [] (by simp) 131 4 rfl rfl).use fun s2 x2=> ?_
  simp[go_sem,e1.trans x2]
 by_cases h6:k=6
 ·subst h6
  rcases Nat.lt_or_ge t.length 256 with hl | hl
  ·have hP:packS (6,n,t)=formS 132 t.length 1 t:=by simp[packS,hl]
   rw[hP]
   have hl':(t.length:Int)<256:=by omega
   simp[go_sem,RO.run,c2,hl']
   refine(fm 132 t.length (by omega) (by omega) 1 (by omega) (by omega) t (by omega) 132 1 rfl rfl).use fun s2 x2=> ?_
   simp[go_sem,e1.trans x2]
  ·have hP:packS (6,n,t)=formS 133 t.length 2 t:=by simp only[packS];rw[if_neg (by decide),if_neg (by decide),if_pos trivial,if_neg (by omega)]
   rw[hP]
   have hl':¬(t.length:Int)<256:=by omega
   simp[go_sem,RO.run,c2,hl']
   refine(fm 133 t.length (by omega) (by omega) 2 (by omega) (by omega) t (by omega) 133 2 rfl rfl).use fun s2 x2=> ?_
   simp[go_sem,e1.trans x2]
 by_cases h4:k=4
 ·subst h4
  have hP:packS (4,n,t)=formS 134 t.length 1 t:=by simp[packS]
  rw[hP]
  simp[go_sem,RO.run,c2]
  refine(fm 134 t.length (by omega) (by omega) 1 (by omega) (by omega) t (by omega) 134 1 rfl rfl).use fun s2 x2=> ?_
  simp[go_sem,e1.trans x2]
 by_cases h3:k=3
 ·subst h3
  have hP:packS (3,n,t)=formS 135 t.length 1 t:=by simp[packS]
  rw[hP]
  simp[go_sem,RO.run,c2]
  refine(fm 135 t.length (by omega) (by omega) 1 (by omega) (by omega) t (by omega) 135 1 rfl rfl).use fun s2 x2=> ?_
  simp[go_sem,e1.trans x2]
 by_cases h5:k=5
 ·subst h5
  have hP:packS (5,n,t)=formS 136 t.length 1 t:=by simp[packS]
  rw[hP]
  simp[go_sem,RO.run,c2]
  refine(fm 136 t.length (by omega) (by omega) 1 (by omega) (by omega) t (by omega) 136 1 rfl rfl).use fun s2 x2=> ?_
  simp[go_sem,e1.trans x2]
 ·have hP:packS (k,n,t)=textS k n t:=by simp[packS,h1,h2,h3,h4,h5,h6]
  rw[hP]
  simp[go_sem,RO.run,h1,h2,h3,h4,h5,h6,c3]
  refine lt.use fun s2 x2=> ?_
  simp[go_sem,e1.trans x2]
end Go.Ev

/- The plain law of reading back: binary forms. -/
namespace Go.Ev
open Go
end Go.Ev

/- All tokens: scan.All. -/
namespace Go.Ev
open Go
variable {T : Tab} {st : St}
def AI (st0 s1:St) (s:List UInt8) (O:AObj) (l:List Tok) (a:Nat) (b:Int):Prop:=
 Ext st0 s1∧(∃v,hget s1.h st0.nx=some (.cells 146 true [v])∧GrowT st0 s1 v l)∧hget s1.h (st0.nx+1)=some (cO a)∧hget s1.h (st0.nx+2)=some (.cells 30 true [.int .i64 b])∧hget s1.h (st0.nx+3)=some (.cells 9 false [.str s])∧hget s1.h (st0.nx+4)=some O
theorem GrowT.apart {st0 s:St} {v:AV} {l:List Tok} (a:GrowT st0 s v l) {m:Nat} {o:AObj} (hg:hget s.h m=some o) (ho:∀ty es cs,o≠.buf ty es cs):∀n∈v.nms,n≠m:=by
 intro n hn e
 subst e
 rcases a.form with ⟨rfl,_⟩ | ⟨k,rfl,hk,_⟩
 ·cases hn
 ·simp[AV.nms]at hn
  subst hn
  rw[hg]at hk
  injection hk with hk
  exact ho _ _ _ hk
theorem GrowT.acells {st0 s:St} {v:AV} {l:List Tok} (a:GrowT st0 s v l):acells v=[v]:=by
 rcases a.form with ⟨h,_⟩ | ⟨n,h,_⟩ <;> rw[h] <;> rfl
theorem AI.ext {st0 s1 s2:St} {s:List UInt8} {O:AObj} {l:List Tok} {a:Nat} {b:Int} (h:AI st0 s1 s O l a b) (x:Ext s1 s2):AI st0 s2 s O l a b:=by
 obtain⟨h1,⟨v,h2,h3⟩,h4,h5,h6,h7⟩:=h
 exact⟨h1.trans x,⟨v,x.get h1.wf h2,h3.ext x h1.wf⟩,x.get h1.wf h4,x.get h1.wf h5,x.get h1.wf h6,x.get h1.wf h7⟩
theorem AI.set {st0 s1:St} {s:List UInt8} {O O':AObj} {l:List Tok} {a:Nat} {b:Int} (h:AI st0 s1 s O l a b) (ho:∀ty es cs,O≠.buf ty es cs):AI st0 ⟨hset s1.h (st0.nx+4) O',s1.nx⟩ s O' l a b:=by
 obtain⟨h1,⟨v,h2,h3⟩,h4,h5,h6,h7⟩:=h
 refine⟨h1.setNew h7 (by omega),⟨v,(hget_hset_ne h7 (by omega)).trans h2,h3.frm (Frm.set h1.wf h7) h1.wf ?_⟩,(hget_hset_ne h7 (by omega)).trans h4,(hget_hset_ne h7 (by omega)).trans h5,(hget_hset_ne h7 (by omega)).trans h6,hget_hset_self h7⟩
 intro n hn h
 simp at h
 exact h3.apart h7 ho n hn h
theorem AI.dropLoc {st0 s1:St} {s:List UInt8} {O:AObj} {l:List Tok} {a:Nat} {b:Int} {c:Nat} (h:AI st0 s1 s O l a b) (hc:st0.nx+5≤c):AI st0 ⟨Go.Ev.dropLoc c s1.h,s1.nx⟩ s O l a b:=by
 obtain⟨h1,⟨v,h2,h3⟩,h4,h5,h6,h7⟩:=h
 have hlt:∀m,m<st0.nx+5→hget (Go.Ev.dropLoc c s1.h) m=hget s1.h m:=fun m hm=>hget_dropLoc_lt (by omega)
 exact⟨h1.dropGe (by omega),⟨v,(hlt _ (by omega)).trans h2,h3.dropLoc h1.wf⟩,(hlt _ (by omega)).trans h4,(hlt _ (by omega)).trans h5,(hlt _ (by omega)).trans h6,(hlt _ (by omega)).trans h7⟩
theorem all_round {st0 s1:St} {s:List UInt8} {O:AObj} {l:List Tok} {a:Nat} {b:Int} (h:AI st0 s1 s O l a b) (hO:∀ty es cs,O≠.buf ty es cs) (hl:l.length<1000000000) {q:Nat} (hq:st0.nx+5≤q) {k n:Int} {t:List UInt8} {N:Nat} {er:Int} (hgq:hget s1.h q=some (.cells 284 true [.int .i64 k,.int .i64 n,.str t,.int .i64 (N:Int),.int .i64 er]))
  {e:Env} (g5:eget e 5= .ptr st0.nx 0) (g6:eget e 6= .ptr (st0.nx+1) 0) (g7:eget e 7= .ptr (st0.nx+2) 0) (g8:eget e 8= .ptr q 0):
  Res (run T B.scan_All_l0 e s1) fun x _ s'=>(er=0∧x= .norm∧AI st0 s' s O (l++[(k,n,t)]) N 0)∨(er≠0∧x= .exit 0∧AI st0 s' s O l N er):=by
 obtain⟨h1,⟨v,h2,h3⟩,h4,h5,h6,h7⟩:=h
 have r3:rdCell s1.h q 3=some (.int .i64 (N:Int)):=by simp[rdCell,hgq]
 have r4:rdCell s1.h q 4=some (.int .i64 er):=by simp[rdCell,hgq]
 have w6:=wr_one (v:= .int .i64 (N:Int)) h4 rfl
 have y6:=h1.setNew h4 (o:= .cells 3 true [.int .i64 (N:Int)]) (by omega)
 have q7:=(hget_hset_ne (o:= .cells 3 true [.int .i64 (N:Int)]) h4 (show st0.nx+1≠q by omega)).trans hgq
 have r4':rdCell (hset s1.h (st0.nx+1) (.cells 3 true [.int .i64 (N:Int)])) q 4=some (.int .i64 er):=by simp[rdCell,q7]
 have p7:=(hget_hset_ne (o:= .cells 3 true [.int .i64 (N:Int)]) h4 (show st0.nx+1≠st0.nx+2 by omega)).trans h5
 have w7:=wr_one (v:= .int .i64 er) p7 rfl
 have y7:=y6.setNew p7 (o:= .cells 30 true [.int .i64 er]) (by omega)
 have other:∀m,m≠st0.nx+1→m≠st0.nx+2→hget (hset (hset s1.h (st0.nx+1) (.cells 3 true [.int .i64 (N:Int)])) (st0.nx+2) (.cells 30 true [.int .i64 er])) m=hget s1.h m:=fun m m1 m2=>by
  rw[hget_hset_ne p7 (by omega),hget_hset_ne h4 (by omega)]
 have z7:=hget_hset_self (o:= .cells 30 true [.int .i64 er]) p7
 have z6:=(hget_hset_ne (o:= .cells 30 true [.int .i64 er]) p7 (show st0.nx+2≠st0.nx+1 by omega)).trans (hget_hset_self (o:= .cells 3 true [.int .i64 (N:Int)]) h4)
 have z5:=(other st0.nx (by omega) (by omega)).trans h2
 have zb:=(other (st0.nx+3) (by omega) (by omega)).trans h6
 have zl:=(other (st0.nx+4) (by omega) (by omega)).trans h7
 have zq:=(other q (by omega) (by omega)).trans hgq
 have g1:GrowT st0 ⟨hset s1.h (st0.nx+1) (.cells 3 true [.int .i64 (N:Int)]),s1.nx⟩ v l:=h3.frm (Frm.set h1.wf h4) h1.wf (by
  intro n hn h
  simp at h
  exact h3.apart h4 (by intro ty es cs h;cases h) n hn h)
 have g2:GrowT st0 ⟨hset (hset s1.h (st0.nx+1) (.cells 3 true [.int .i64 (N:Int)])) (st0.nx+2) (.cells 30 true [.int .i64 er]),s1.nx⟩ v l:=g1.frm (Frm.set y6.wf p7) y6.wf (by
  intro n hn h
  simp at h
  exact g1.apart p7 (by intro ty es cs h;cases h) n hn h)
 have x8:=Ext.aside y7.wf 7
 have y8:=y7.trans x8
 have g3:=g2.ext x8 y7.wf
 have rv:=rd_one z5
 have re7:=rd_one z7
 clear g1 g2 other p7 q7
 generalize hset (hset s1.h (st0.nx+1) (.cells 3 true [.int .i64 (N:Int)])) (st0.nx+2) (.cells 30 true [.int .i64 er])=h9 at*
 have rq:rdCells h9 q 0 3=some [.int .i64 k,.int .i64 n,.str t]:=by
  simp only[rdCells,zq]
  simp
 simp[B.scan_All_l0,go_sem,RO.run,WO.run,reI,g5,g6,g7,g8,r3,r4,r4',w6,w7,re7]
 by_cases h0:er=0
 ·subst h0
  simp[go_sem,RO.run,NO.run,g5,g8,rv,rq]
  refine⟨rfl,?_⟩
  refine(g3.push y8.nx y8.wf k n t (k:=1) (by omega) (by omega)).mono ?_
  rintro v2 s2 ⟨o2,f2⟩
  have y9:=y8.frm f2 g3.ge
  have keep:∀m o,hget h9 m=some o→(∀ty es cs,o≠.buf ty es cs)→hget s2.h m=some o:=fun m o hm ho=>f2.get (st:=⟨h9,s1.nx+7⟩) y8.wf hm (by
   intro hmv
   exact g3.apart (m:=m) hm ho m hmv rfl)
  have k5:=keep _ _ z5 (by intro ty es cs h;cases h)
  have w5:=wr_one (v:=v2) k5 o2.sc
  have hap:=o2.apart k5 (by intro ty es cs h;cases h)
  simp[go_sem,WO.run,g5,o2.acells,w5]
  refine⟨y9.setNew k5 (Nat.le_refl _),⟨v2,hget_hset_self k5,o2.frm (Frm.set y9.wf k5) y9.wf (by intro n hn h;simp at h;exact hap n hn h)⟩,?_,?_,?_,?_⟩
  ·exact(hget_hset_ne k5 (by omega)).trans (keep _ _ z6 (by intro ty es cs h;cases h))
  ·exact(hget_hset_ne k5 (by omega)).trans (keep _ _ z7 (by intro ty es cs h;cases h))
  ·exact(hget_hset_ne k5 (by omega)).trans (keep _ _ zb (by intro ty es cs h;cases h))
  ·exact(hget_hset_ne k5 (by omega)).trans (keep _ _ zl hO)
 ·simp[go_sem,h0]
  refine⟨rfl,?_⟩
  exact⟨y8,⟨v,z5,g3⟩,z6,z7,zb,zl⟩
theorem wr_tok5 (h:Heap) (m ty:Nat) (l:Bool) (a b c d e:AV) {k n N er:Int} {t:List UInt8}:wrCells ((m,.cells ty l [a,b,c,d,e])::h) m 0 [.int .i64 k,.int .i64 n,.str t,.int .i64 N,.int .i64 er]=some ((m,.cells ty l [.int .i64 k,.int .i64 n,.str t,.int .i64 N,.int .i64 er])::h):=by
 rw[wr_all (ty:=ty) (l:=l) (cs:=[a,b,c,d,e]) (vs:=[.int .i64 k,.int .i64 n,.str t,.int .i64 N,.int .i64 er]) (by simp[hget_cons]) rfl rfl];simp[hset_cons]
theorem tokens_loop (H:B.H_scan_tokens_1 T) {st0:St} {s:List UInt8} (hs:s.length<1000000000) {E:Env} {assign body:MCode} (hb:body=B.scan_All_l0) (has:assign= .reg [⟨some 8,none,.n (.alloc 284 true [.int .i64 0,.int .i64 0,.str [],.int .i64 0,.int .i64 0])⟩,⟨none,none,.w (.store 5 (.t 8) (.t 11))⟩])
  (g5:eget E 5= .ptr st0.nx 0) (g6:eget E 6= .ptr (st0.nx+1) 0) (g7:eget E 7= .ptr (st0.nx+2) 0) {R:List Tok×Nat×Int}:∀(f i:Nat) (l:List Tok) (a:Nat) (b:Int) (e:Env) (st1:St),s.length<f+i→i≤s.length→l.length≤i→R=runA s f i l→AI st0 st1 s (.loop .ready E [11] assign body) l a b→eget e 0= .yield (st0.nx+4)→eget e 1= .ptr (st0.nx+3) 0→eget e 3= .int .i64 (i:Int)→
  Res (run T (.loop B.scan_tokens_1_l0) e st1) fun x _ s'=>x= .ret∧AI st0 s' s (.loop (.done (.exit 0)) E [11] assign body) R.1 R.2.1 R.2.2:=by
 intro f
 induction f with
 | zero=>intro i l a b e st1 hf hi;omega
 | succ f ih=>
   intro i l a b e st1 hf hi hl hR hI g0 g1 g3
   have hx:=hI.1
   have hn:=next_tells158 (st:=st1) H.scan_Next hx.wf (s:=s) (i:=(i:Int)) (by omega) (by omega) hs
   have hpos:=fun(t:Tok) (n:Nat)=>nextS_pos (s:=s) (i:=i) (t:=t) (n:=n)
   rw[runA]at hR
   generalize nextS s (i:Int)=O at*
   obtain⟨⟨k,n,t⟩,N,er⟩:=O
   simp only at hR
   have rb:=rd_one hI.2.2.2.2.1
   rw[run_loop]
   simp[B.scan_tokens_1_l0,go_sem,g0,g1,g3,RO.run,rb]
   refine hn.use fun s1 x1=> ?_
   have hI1:=hI.ext x1
   have x2:=Ext.new hI1.1.wf (.cells 134 true [.int .i64 k,.int .i64 n,.str t])
   have hI2:=hI1.ext x2
   simp[go_sem,tk3,NO.run,WO.run,RO.run,wr_tok,rd_tok]
   refine(cres_yield hI2.2.2.2.2.2 rfl ?_ (Q:=fun v s'=>(er=0∧v= .bool true∧AI st0 s' s (.loop .ready E [11] assign body) (l++[(k,n,t)]) N 0)∨(er≠0∧v= .bool false∧AI st0 s' s (.loop (.done (.exit 0)) E [11] assign body) l N er))).mono ?_
   ·have x3:=Ext.new hI2.1.wf (.cells 284 true [.int .i64 k,.int .i64 n,.str t,.int .i64 (N:Int),.int .i64 er])
    have hI3:=hI2.ext x3
    have hnx:st0.nx+5≤s1.nx+1:=by
     have:=hI1.1.wf.lt _ _ hI1.2.2.2.2.2
     omega
    have hq:hget ((s1.nx+1,AObj.cells 284 true [.int .i64 k,.int .i64 n,.str t,.int .i64 (N:Int),.int .i64 er])::(s1.nx,.cells 134 true [.int .i64 k,.int .i64 n,.str t])::s1.h) (s1.nx+1)=some (.cells 284 true [.int .i64 k,.int .i64 n,.str t,.int .i64 (N:Int),.int .i64 er]):=by simp[hget_cons]
    generalize hS:(⟨(s1.nx+1,AObj.cells 284 true [.int .i64 k,.int .i64 n,.str t,.int .i64 (N:Int),.int .i64 er])::(s1.nx,.cells 134 true [.int .i64 k,.int .i64 n,.str t])::s1.h,s1.nx+1+1⟩:St)=s3 at hI3
    rw[show ((s1.nx+1,AObj.cells 284 true [.int .i64 k,.int .i64 n,.str t,.int .i64 (N:Int),.int .i64 er])::(s1.nx,.cells 134 true [.int .i64 k,.int .i64 n,.str t])::s1.h)=s3.h by rw[←hS]]at hq
    have hrd:=fun(e:Env) k5 k6 k7 k8=>all_round (T:=T) (hI3.set (O':= .loop .busy E [11] assign body) (by intro ty es cs h;cases h)) (by intro ty es cs h;cases h) (by omega) hnx ((hget_hset_ne hI3.2.2.2.2.2 (by omega)).trans hq) (e:=e) k5 k6 k7 k8
    have hl4:=hI3.2.2.2.2.2
    subst has hb
    simp[go_sem,NO.run,WO.run,wr_tok5,hS]
    refine⟨hl4,?_⟩
    refine(hrd _ (by simp[go_sem,g5]) (by simp[go_sem,g6]) (by simp[go_sem,g7]) (by simp[go_sem])).mono ?_
    rintro x e' s4 (⟨rfl,rfl,hI4⟩ | ⟨h0,rfl,hI4⟩)
    ·exact⟨hI4.2.2.2.2.2,.inl ⟨rfl,rfl,hI4.set (by intro ty es cs h;cases h)⟩⟩
    ·exact⟨hI4.2.2.2.2.2,.inr ⟨h0,rfl,hI4.set (by intro ty es cs h;cases h)⟩⟩
   ·rintro v s2 (⟨rfl,rfl,hI3⟩ | ⟨h0,rfl,hI3⟩)
    ·obtain⟨p1,p2,p3⟩:=hpos (k,n,t) N rfl
     rw[if_pos rfl]at hR
     simp[go_sem,g0,g1]
     exact ih N _ N 0 _ s2 (by omega) p2 (by simp;omega) hR hI3 (by simp[go_sem,g0]) (by simp[go_sem,g1]) (by simp[go_sem])
    ·rw[if_neg h0]at hR
     subst hR
     simp[go_sem,hI3]
end Go.Ev

/- scan.All told. -/
namespace Go.Ev
open Go
variable {T : Tab} {st : St}
theorem tokens_call (H:B.H_scan_tokens T) (hwf:st.Wf) {s:List UInt8} {Q:AV→St→Prop} (h:Q (.fn 192 [] [.ptr st.nx 0]) ⟨(st.nx,.cells 9 false [.str s])::st.h,st.nx+1⟩):CRes (call T (.fn 178 [] []) [.str s] st) Q:=by
 refine call_res H.e H.f rfl ?_
 have hd:dropLoc st.nx ((st.nx,AObj.cells 9 false [.str s])::st.h)=(st.nx,AObj.cells 9 false [.str s])::st.h:=by
  have:locNames st.nx ((st.nx,AObj.cells 9 false [.str s])::st.h)=[]:=by
   simp only[locNames]
   exact locNames_nil fun n o ho=>hwf.lt n o ho
  rw[dropLoc_eq,this,hdrop_nil]
 simp[B.scan_tokens,go_sem,NO.run,AV.nb,hd]
 exact h
theorem tokens_yields (H:B.H_scan_tokens_1 T) {st0 sA:St} {s:List UInt8} (hs:s.length<1000000000) {E:Env} {assign body:MCode} (hb:body=B.scan_All_l0) (has:assign= .reg [⟨some 8,none,.n (.alloc 284 true [.int .i64 0,.int .i64 0,.str [],.int .i64 0,.int .i64 0])⟩,⟨none,none,.w (.store 5 (.t 8) (.t 11))⟩])
  (g5:eget E 5= .ptr st0.nx 0) (g6:eget E 6= .ptr (st0.nx+1) 0) (g7:eget E 7= .ptr (st0.nx+2) 0) (hA:st0.nx+5≤sA.nx) (hI:AI st0 sA s (.loop .ready E [11] assign body) [] 0 0) {Q:St→Prop}
  (hQ:∀s',AI st0 s' s (.loop (.done (.exit 0)) E [11] assign body) (runA s (s.length+1) 0 []).1 (runA s (s.length+1) 0 []).2.1 (runA s (s.length+1) 0 []).2.2→Q s'):
  CRes (call T (.fn 192 [] [.ptr (st0.nx+3) 0]) [.yield (st0.nx+4)] sA) fun _ s'=>Q s':=by
 refine call_any H.e H.f rfl rfl ?_
 simp[B.scan_tokens_1,go_sem]
 refine(tokens_loop H hs hb has g5 g6 g7 (R:=runA s (s.length+1) 0 []) (s.length+1) 0 [] 0 0 _ sA (by omega) (by omega) (by simp) rfl hI (by simp[go_sem]) (by simp[go_sem]) (by simp[go_sem])).mono ?_
 rintro x e' s' ⟨rfl,h⟩
 simp[go_sem]
 exact hQ _ (h.dropLoc hA)
theorem all_res (H:B.H_scan_All T) (hwf:st.Wf) {s:List UInt8} (hs:s.length<1000000000):CRes (call T (.fn 162 [] []) [.str s] st) fun v s'=>AllR st s' (allS s) v:=by
 refine call_res H.e H.f rfl ?_
 have a2:Ext st ⟨(st.nx+2,AObj.cells 30 true [.int .i64 0])::(st.nx+1,.cells 3 true [.int .i64 0])::(st.nx,.cells 146 true [.nilslice])::st.h,st.nx+3⟩:=by
  have a0:=Ext.new hwf (.cells 146 true [.nilslice])
  have a1:=a0.trans (Ext.new a0.wf (.cells 3 true [.int .i64 0]))
  have a2:=a1.trans (Ext.new a1.wf (.cells 30 true [.int .i64 0]))
  simpa only[Nat.add_assoc,Nat.reduceAdd] using a2
 simp[B.scan_All,go_sem,NO.run,WO.run,RO.run,Nat.add_assoc,wrCells,hget_cons,hset_cons,splice,rdCell]
 refine tokens_call H.scan_tokens a2.wf ?_
 simp[go_sem]
 refine res_rangeFunc ?_
 have a3:=a2.trans (Ext.new a2.wf (.cells 9 false [.str s]))
 simp only[Nat.add_assoc,Nat.reduceAdd]at a3
 simp only[Nat.add_assoc,Nat.reduceAdd]
 generalize hE:([(10,AV.fn 192 [] [AV.ptr (st.nx+3) 0]),(9,AV.str s),(7,AV.ptr (st.nx+2) 0),(6,AV.ptr (st.nx+1) 0),(5,AV.ptr st.nx 0),(4,AV.int IntKind.i64 0),(3,AV.int IntKind.i64 0),(2,AV.nilslice),(0,AV.str s)]:Env)=E
 have g10:AO.ev E (.t 10)= .fn 192 [] [.ptr (st.nx+3) 0]:=by rw[←hE];simp[go_sem]
 have g5:eget E 5= .ptr st.nx 0:=by rw[←hE];simp[go_sem]
 have g6:eget E 6= .ptr (st.nx+1) 0:=by rw[←hE];simp[go_sem]
 have g7:eget E 7= .ptr (st.nx+2) 0:=by rw[←hE];simp[go_sem]
 clear hE
 rw[g10]
 generalize has:(MCode.reg [{dst:=some 8,guard:=none,op:=MO.n (NO.alloc 284 true [AV.int IntKind.i64 0,AV.int IntKind.i64 0,AV.str [],AV.int IntKind.i64 0,AV.int IntKind.i64 0])},{dst:=none,guard:=none,op:=MO.w (WO.store 5 (AO.t 8) (AO.t 11))}])=assign
 generalize hbo:B.scan_All_l0=body
 have a4:=a3.trans (Ext.new a3.wf (.loop .ready E [11] assign body))
 simp only[Nat.add_assoc,Nat.reduceAdd]at a4
 refine(tokens_yields H.scan_tokens.scan_tokens_1 hs hbo.symm has.symm g5 g6 g7 (Nat.le_refl _) (st0:=st) ⟨a4,⟨.nilslice,by simp[hget_cons],GrowT.nil _ _⟩,by simp[hget_cons,cO],by simp[hget_cons],by simp[hget_cons],by simp[hget_cons]⟩ (Q:=fun s1=>AI st s1 s (.loop (.done (.exit 0)) E [11] assign body) (runA s (s.length+1) 0 []).1 (runA s (s.length+1) 0 []).2.1 (runA s (s.length+1) 0 []).2.2) (fun s' h=>h)).mono ?_
 rintro _ s1 ⟨h1,⟨v,h2,h3⟩,h4,h5,h6,h7⟩
 rw[allS_fin]
 generalize runA s (s.length+1) 0 []=R at*
 obtain⟨l,n,er⟩:=R
 simp only at h3 h4 h5
 have hdl:∀m,m≠st.nx+4→hget (hdel s1.h (st.nx+4)) m=hget s1.h m:=fun m hm=>by rw[hget_hdel,if_neg (by omega)]
 have yd:Ext st ⟨hdel s1.h (st.nx+4),s1.nx⟩:=h1.frm (Frm.hdel h1.wf _) (by intro m hm;simp at hm;omega)
 have gd:GrowT st ⟨hdel s1.h (st.nx+4),s1.nx⟩ v l:=h3.frm (Frm.hdel h1.wf _) h1.wf (by
  intro k hk h
  simp at h
  exact h3.apart h7 (by intro ty es cs h;cases h) k hk h)
 have r5:=rd_one ((hdl _ (by omega)).trans h2)
 have r6:=rd_one ((hdl _ (by omega)).trans h4)
 have r7:=rd_one ((hdl _ (by omega)).trans h5)
 refine .inr ⟨_,h7,?_⟩
 have yz:=yd.trans (Ext.aside yd.wf 5)
 have gz:=gd.ext (Ext.aside yd.wf 5) yd.wf
 by_cases h:er=4
 ·subst h
  simp[go_sem,RO.run,g5,g6,g7,r5,r6,r7,finA]
  simp[go_sem,fresults,resVals,resVal,B.scan_All,AllR]
  exact⟨yz.dropGe (Nat.le_refl _),gz.dropLoc yz.wf⟩
 ·simp[go_sem,RO.run,g5,g6,g7,r5,r6,r7,finA,h]
  simp[go_sem,fresults,resVals,resVal,B.scan_All,AllR]
  exact⟨yz.dropGe (Nat.le_refl _),GrowT.nil _ _⟩
end Go.Ev

/- ScanAlls told, where works holds. -/
namespace Go.Ev
open Go
variable {T : Tab} {st : St}
theorem allS_len (s:List UInt8):(allS s).1.length≤s.length∧(allS s).2.1≤s.length:=by
 have aux:∀(f i:Nat) (l:List Tok),i≤s.length→l.length≤i→(runA s f i l).1.length≤s.length∧(runA s f i l).2.1≤s.length:=by
  intro f
  induction f with
  | zero=>intro i l hi hl;exact⟨by simp[runA];omega,hi⟩
  | succ f ih=>
    intro i l hi hl
    have hpos:=fun(t:Tok) (n:Nat)=>nextS_pos (s:=s) (i:=i) (t:=t) (n:=n)
    have hle:=nextS_le s (i:Int)
    rw[runA]
    generalize nextS s (i:Int)=O at*
    obtain⟨t,n,er⟩:=O
    simp only at hle⊢
    split
    ·rename_i h0
     subst h0
     obtain⟨p1,p2,p3⟩:=hpos t n rfl
     exact ih n _ p2 (by simp;omega)
    ·exact⟨by simp only;omega,hle⟩
 have:=aux (s.length+1) 0 [] (by omega) (by simp)
 rw[allS_fin]
 unfold finA
 split
 ·exact this
 ·exact⟨by simp,this.2⟩
end Go.Ev

/- reads and fails, where they hold; one token of a list; a Builder's string. -/
namespace Go.Ev
open Go
variable {T : Tab} {st : St}
theorem reads_tells (H:B.H_chaselaw04_reads T) (hwf:st.Wf) {s:List UInt8} (hs:s.length<1000000000) {w:AV} {l:List Tok} (hw:Rd st.h w 3 l.length (toksA l)) (hall:allS s=(l,s.length,0)):Tells T st (.fn 168 [] []) [.str s,w] (.bool true):=by
 refine tells_of H.e H.f rfl ?_
 have hl:=(allS_len s).1
 have c1:=all_res (st:=st) H.scan_All hwf (s:=s) hs
 rw[hall]at c1 hl
 simp only at hl
 simp[B.chaselaw04_reads,go_sem]
 refine c1.mono ?_
 rintro _ s1 ⟨w1,rfl,x1,o1⟩
 simp[go_sem]
 refine(same_tells H.chaseref04_Same x1.wf (l:=l) (by omega) o1.rd (hw.ext x1 hwf)).use fun s3 x3=> ?_
 simp[go_sem,x1.trans x3]
theorem fails_tells (H:B.H_chaselaw04_fails T) (hwf:st.Wf) {s:List UInt8} (hs:s.length<1000000000) {n:Nat} {e:Int} (hall:allS s=([],n,e)):Tells T st (.fn 170 [] []) [.str s,.int .i64 (n:Int),.int .i64 e] (.bool true):=by
 refine tells_of H.e H.f rfl ?_
 have c1:=all_res (st:=st) H.scan_All hwf (s:=s) hs
 rw[hall]at c1
 simp[B.chaselaw04_fails,go_sem]
 refine c1.mono ?_
 rintro _ s1 ⟨w1,rfl,x1,o1⟩
 rcases o1.form with ⟨rfl,_⟩ | ⟨m,rfl,_⟩
 ·simp[go_sem,x1]
 ·simp[go_sem,x1]
end Go.Ev

/- works told. -/
namespace Go.Ev
open Go
variable {T : Tab} {st : St}
theorem number04_tells (H:B.H_chaselaw04_number T) (hwf:st.Wf) (n:Int):Tells T st (.fn 173 [] []) [.int .i64 n] (.agg [.int .i64 1,.int .i64 n,.str []]):=by
 refine tells_of H.e H.f rfl ?_
 have hx:=Ext.new hwf (.cells 134 true [.int .i64 1,.int .i64 n,.str []])
 simp[B.chaselaw04_number,go_sem,NO.run,WO.run,wr_tok,fresults,resVals,resVal,RO.run,rd_tok,hx]
theorem text04_tells (H:B.H_chaselaw04_text T) (hwf:st.Wf) (s:List UInt8):Tells T st (.fn 171 [] []) [.str s] (.agg [.int .i64 6,.int .i64 0,.str s]):=by
 refine tells_of H.e H.f rfl ?_
 have hx:=Ext.new hwf (.cells 134 true [.int .i64 6,.int .i64 0,.str s])
 simp[B.chaselaw04_text,go_sem,NO.run,WO.run,wr_tok,fresults,resVals,resVal,RO.run,rd_tok,hx]
theorem name04_tells (H:B.H_chaselaw04_name T) (hwf:st.Wf) (s:List UInt8):Tells T st (.fn 172 [] []) [.str s] (.agg [.int .i64 3,.int .i64 0,.str s]):=by
 refine tells_of H.e H.f rfl ?_
 have hx:=Ext.new hwf (.cells 134 true [.int .i64 3,.int .i64 0,.str s])
 simp[B.chaselaw04_name,go_sem,NO.run,WO.run,wr_tok,fresults,resVals,resVal,RO.run,rd_tok,hx]
theorem toks_built (l:List Tok) (h:Heap) (n k:Nat) (hk:k=l.length):Rd ((n,AObj.cells 134 false (toksA l))::h) (.slice n 0 k (.known k)) 3 l.length (toksA l):=by
 subst hk
 exact .inr ⟨n,0,_,rfl,rd_all (ty:=134) (l:=false) (by simp[hget_cons]) (toksA_len l)⟩
theorem reads_lit (H:B.H_chaselaw04_reads T) {h:Heap} {n nx k:Nat} {cs:List AV} (hwf:St.Wf ⟨(n,.cells 134 false cs)::h,nx⟩) {s:List UInt8} (hs:s.length<1000000000) (l:List Tok) (hcs:cs=toksA l) (hk:k=l.length) {N:Nat} (hall:allS s=(l,N,0)) (hN:N=s.length:=by rfl):
  Tells T ⟨(n,.cells 134 false cs)::h,nx⟩ (.fn 168 [] []) [.str s,.slice n 0 k (.known k)] (.bool true):=by
 subst hcs hN
 exact reads_tells H hwf hs (toks_built l h n k hk) hall
theorem reads_nil (H:B.H_chaselaw04_reads T) (hwf:st.Wf) {s:List UInt8} (hs:s.length<1000000000) {N:Nat} (hall:allS s=([],N,0)) (hN:N=s.length:=by rfl):Tells T st (.fn 168 [] []) [.str s,.nilslice] (.bool true):=by
 subst hN
 exact reads_tells H hwf hs (.inl ⟨rfl,rfl,rfl⟩) hall
theorem next_lit (H:B.H_scan_Next T) (hwf:st.Wf) {s:List UInt8} {i:Int} (hi0: -9223372036854775808≤i) (hi1:i≤9223372036854775807) (hs:s.length<1000000000) {O:T3} (h:nextS s i=O):Tells T st (.fn 158 [] []) [.str s,.int .i64 i] (tk3 O):=by
 subst h
 exact next_tells158 H hwf hi0 hi1 hs
theorem print_lit (H:B.H_scan_Print T) {h:Heap} {n nx k:Nat} {cs:List AV} (hwf:St.Wf ⟨(n,.cells 134 false cs)::h,nx⟩) (hp:Pow ⟨(n,.cells 134 false cs)::h,nx⟩) (l:List Tok) (hcs:cs=toksA l) (hk:k=l.length) (hl:OkT l) {s:List UInt8} (hs:printL l=s):
  Tells T ⟨(n,.cells 134 false cs)::h,nx⟩ (.fn 165 [] []) [.slice n 0 k (.known k)] (.tuple [.str s,.int .i64 0]):=by
 subst hcs hs
 exact scanPrint_tells H hwf hp hl (toks_built l h n k hk)
theorem pack_lit (H:B.H_scan_Pack T) (hwf:st.Wf) (hp:Pow st) {k n:Int} {t:List UInt8} (hr:rightT k n t=true) (hs:t.length<65536) (hbig:k=2→n≤2147483647) {s:List UInt8} (h:packS (k,n,t)=s):
  Tells T st (.fn 166 [] []) [.agg [.int .i64 k,.int .i64 n,.str t]] (.tuple [.str s,.int .i64 0]):=by
 subst h
 exact pack_tells H hwf hp hr hs hbig
theorem wk1:allS [47,97,123,49,32,46,53,125,47,47,98]=([(4,0,[97]),(7,0,[]),(1,1,[]),(2,32768,[]),(8,0,[]),(5,0,[98])],11,0):=by kernel_rfl
theorem wk2:allS [91,60,60,32,62,62,93,37,120,10,40,121,41,60,52,49,62]=([(3,0,[91]),(3,0,[60,60]),(3,0,[62,62]),(3,0,[93]),(6,0,[121]),(6,0,[65])],17,0):=by kernel_rfl
theorem wk3:allS [129,255,130,1,0,132,2,97,98,135,1,113]=([(1, -1,[]),(1,256,[]),(6,0,[97,98]),(3,0,[113])],12,0):=by kernel_rfl
theorem wk4:nextS [32,32,41] 0=((0,0,[]),2,37):=by kernel_rfl
theorem wk5:nextS [97] 2=((0,0,[]),0,2):=by kernel_rfl
theorem wk6:nextS [32,37,32,120] 0=((0,0,[]),4,4):=by kernel_rfl
theorem wk7:packS (1,128,[])=[130,0,128]:=by kernel_rfl
theorem wk8:packS (1, -128,[])=[129,128]:=by kernel_rfl
theorem wk9:allS [49,32,62,32,50]=([],2,37):=by kernel_rfl
theorem wk10:allS [60,52,103,62]=([],0,37):=by kernel_rfl
theorem wk11:allS [137]=([],0,37):=by kernel_rfl
theorem wk12:allS [132,5,97]=([],0,37):=by kernel_rfl
theorem wkOk:OkT [(1,1,[]),(3,0,[97]),(6,0,[40])]:=⟨by decide,by
 intro t ht
 simp only[List.mem_cons,List.not_mem_nil,or_false]at ht
 rcases ht with rfl | rfl | rfl <;> exact⟨by kernel_rfl,by decide⟩⟩
theorem wkPr:printL [(1,1,[]),(3,0,[97]),(6,0,[40])]=[49,32,97,32,40,92,40,41]:=by
 have h1:Lib.decDigits 1=[49]:=by rw[decDigits_small (by decide)];rfl
 simp[printL,txT,textS,Lib.itoa,h1,Lib.join,List.intercalate,quoteS,quoteC]
theorem works04_tells (H:B.H_chaselaw04_works T) (hwf:st.Wf) (hp:Pow st):Tells T st (.fn 157 [] []) [] (.bool true):=by
 refine tells_of H.e H.f rfl ?_
 have y0:=Ext.refl hwf
 simp[B.chaselaw04_works,go_sem]
 refine(number04_tells H.chaselaw04_number y0.wf (1)).use fun s1 x1=> ?_
 have y1:=y0.trans x1
 simp[go_sem,tk3,NO.run,RO.run,WO.run,wr_tok,rd_tok,reps,seq8_eq]
 have z2:=y1.trans (Ext.new y1.wf (.cells 134 false [.int .i64 4,.int .i64 0,.str [97],.int .i64 7,.int .i64 0,.str [],.int .i64 1,.int .i64 1,.str [],.int .i64 2,.int .i64 32768,.str [],.int .i64 8,.int .i64 0,.str [],.int .i64 5,.int .i64 0,.str [98]]))
 refine(reads_lit H.chaselaw04_reads z2.wf (s:=[47,97,123,49,32,46,53,125,47,47,98]) (by decide) [(4,0,[97]),(7,0,[]),(1,1,[]),(2,32768,[]),(8,0,[]),(5,0,[98])] rfl rfl wk1).use fun s3 x3=> ?_
 have y3:=z2.trans x3
 simp[go_sem,tk3,NO.run,RO.run,WO.run,wr_tok,rd_tok,reps,seq8_eq]
 refine(name04_tells H.chaselaw04_name y3.wf [91]).use fun s4 x4=> ?_
 have y4:=y3.trans x4
 simp[go_sem,tk3,NO.run,RO.run,WO.run,wr_tok,rd_tok,reps,seq8_eq]
 refine(name04_tells H.chaselaw04_name y4.wf [60,60]).use fun s5 x5=> ?_
 have y5:=y4.trans x5
 simp[go_sem,tk3,NO.run,RO.run,WO.run,wr_tok,rd_tok,reps,seq8_eq]
 refine(name04_tells H.chaselaw04_name y5.wf [62,62]).use fun s6 x6=> ?_
 have y6:=y5.trans x6
 simp[go_sem,tk3,NO.run,RO.run,WO.run,wr_tok,rd_tok,reps,seq8_eq]
 refine(name04_tells H.chaselaw04_name y6.wf [93]).use fun s7 x7=> ?_
 have y7:=y6.trans x7
 simp[go_sem,tk3,NO.run,RO.run,WO.run,wr_tok,rd_tok,reps,seq8_eq]
 refine(text04_tells H.chaselaw04_text y7.wf [121]).use fun s8 x8=> ?_
 have y8:=y7.trans x8
 simp[go_sem,tk3,NO.run,RO.run,WO.run,wr_tok,rd_tok,reps,seq8_eq]
 refine(text04_tells H.chaselaw04_text y8.wf [65]).use fun s9 x9=> ?_
 have y9:=y8.trans x9
 simp[go_sem,tk3,NO.run,RO.run,WO.run,wr_tok,rd_tok,reps,seq8_eq]
 have z10:=y9.trans (Ext.new y9.wf (.cells 134 false [.int .i64 3,.int .i64 0,.str [91],.int .i64 3,.int .i64 0,.str [60,60],.int .i64 3,.int .i64 0,.str [62,62],.int .i64 3,.int .i64 0,.str [93],.int .i64 6,.int .i64 0,.str [121],.int .i64 6,.int .i64 0,.str [65]]))
 refine(reads_lit H.chaselaw04_reads z10.wf (s:=[91,60,60,32,62,62,93,37,120,10,40,121,41,60,52,49,62]) (by decide) [(3,0,[91]),(3,0,[60,60]),(3,0,[62,62]),(3,0,[93]),(6,0,[121]),(6,0,[65])] rfl rfl wk2).use fun s11 x11=> ?_
 have y11:=z10.trans x11
 simp[go_sem,tk3,NO.run,RO.run,WO.run,wr_tok,rd_tok,reps,seq8_eq]
 refine(number04_tells H.chaselaw04_number y11.wf (-1)).use fun s12 x12=> ?_
 have y12:=y11.trans x12
 simp[go_sem,tk3,NO.run,RO.run,WO.run,wr_tok,rd_tok,reps,seq8_eq]
 refine(number04_tells H.chaselaw04_number y12.wf (256)).use fun s13 x13=> ?_
 have y13:=y12.trans x13
 simp[go_sem,tk3,NO.run,RO.run,WO.run,wr_tok,rd_tok,reps,seq8_eq]
 refine(text04_tells H.chaselaw04_text y13.wf [97,98]).use fun s14 x14=> ?_
 have y14:=y13.trans x14
 simp[go_sem,tk3,NO.run,RO.run,WO.run,wr_tok,rd_tok,reps,seq8_eq]
 refine(name04_tells H.chaselaw04_name y14.wf [113]).use fun s15 x15=> ?_
 have y15:=y14.trans x15
 simp[go_sem,tk3,NO.run,RO.run,WO.run,wr_tok,rd_tok,reps,seq8_eq]
 have z16:=y15.trans (Ext.new y15.wf (.cells 134 false [.int .i64 1,.int .i64 (-1),.str [],.int .i64 1,.int .i64 256,.str [],.int .i64 6,.int .i64 0,.str [97,98],.int .i64 3,.int .i64 0,.str [113]]))
 refine(reads_lit H.chaselaw04_reads z16.wf (s:=[129,255,130,1,0,132,2,97,98,135,1,113]) (by decide) [(1, -1,[]),(1,256,[]),(6,0,[97,98]),(3,0,[113])] rfl rfl wk3).use fun s17 x17=> ?_
 have y17:=z16.trans x17
 simp[go_sem,tk3,NO.run,RO.run,WO.run,wr_tok,rd_tok,reps,seq8_eq]
 refine(next_lit H.scan_Next y17.wf (s:=[32,32,41]) (i:=0) (by decide) (by decide) (by decide) wk4).use fun s18 x18=> ?_
 have y18:=y17.trans x18
 simp[go_sem,tk3,NO.run,RO.run,WO.run,wr_tok,rd_tok,reps,seq8_eq]
 have z19:=y18.trans (Ext.new y18.wf (.cells 134 true [.int .i64 0,.int .i64 0,.str []]))
 refine(next_lit H.scan_Next z19.wf (s:=[97]) (i:=2) (by decide) (by decide) (by decide) wk5).use fun s20 x20=> ?_
 have y20:=z19.trans x20
 simp[go_sem,tk3,NO.run,RO.run,WO.run,wr_tok,rd_tok,reps,seq8_eq]
 have z21:=y20.trans (Ext.new y20.wf (.cells 134 true [.int .i64 0,.int .i64 0,.str []]))
 refine(next_lit H.scan_Next z21.wf (s:=[32,37,32,120]) (i:=0) (by decide) (by decide) (by decide) wk6).use fun s22 x22=> ?_
 have y22:=z21.trans x22
 simp[go_sem,tk3,NO.run,RO.run,WO.run,wr_tok,rd_tok,reps,seq8_eq]
 have z23:=y22.trans (Ext.new y22.wf (.cells 134 true [.int .i64 0,.int .i64 0,.str []]))
 refine(number04_tells H.chaselaw04_number z23.wf (1)).use fun s24 x24=> ?_
 have y24:=z23.trans x24
 simp[go_sem,tk3,NO.run,RO.run,WO.run,wr_tok,rd_tok,reps,seq8_eq]
 refine(name04_tells H.chaselaw04_name y24.wf [97]).use fun s25 x25=> ?_
 have y25:=y24.trans x25
 simp[go_sem,tk3,NO.run,RO.run,WO.run,wr_tok,rd_tok,reps,seq8_eq]
 refine(text04_tells H.chaselaw04_text y25.wf [40]).use fun s26 x26=> ?_
 have y26:=y25.trans x26
 simp[go_sem,tk3,NO.run,RO.run,WO.run,wr_tok,rd_tok,reps,seq8_eq]
 have z27:=y26.trans (Ext.new y26.wf (.cells 134 false [.int .i64 1,.int .i64 1,.str [],.int .i64 3,.int .i64 0,.str [97],.int .i64 6,.int .i64 0,.str [40]]))
 refine(print_lit H.scan_Print z27.wf (hp.ext z27 hwf) [(1,1,[]),(3,0,[97]),(6,0,[40])] rfl rfl wkOk wkPr).use fun s28 x28=> ?_
 have y28:=z27.trans x28
 simp[go_sem,tk3,NO.run,RO.run,WO.run,wr_tok,rd_tok,reps,seq8_eq]
 refine(number04_tells H.chaselaw04_number y28.wf (128)).use fun s29 x29=> ?_
 have y29:=y28.trans x29
 simp[go_sem,tk3,NO.run,RO.run,WO.run,wr_tok,rd_tok,reps,seq8_eq]
 refine(pack_lit H.scan_Pack y29.wf (hp.ext y29 hwf) (k:=1) (n:=128) (t:=[]) (by decide) (by decide) (by decide) wk7).use fun s30 x30=> ?_
 have y30:=y29.trans x30
 simp[go_sem,tk3,NO.run,RO.run,WO.run,wr_tok,rd_tok,reps,seq8_eq]
 refine(number04_tells H.chaselaw04_number y30.wf (-128)).use fun s31 x31=> ?_
 have y31:=y30.trans x31
 simp[go_sem,tk3,NO.run,RO.run,WO.run,wr_tok,rd_tok,reps,seq8_eq]
 refine(pack_lit H.scan_Pack y31.wf (hp.ext y31 hwf) (k:=1) (n:= -128) (t:=[]) (by decide) (by decide) (by decide) wk8).use fun s32 x32=> ?_
 have y32:=y31.trans x32
 simp[go_sem,tk3,NO.run,RO.run,WO.run,wr_tok,rd_tok,reps,seq8_eq]
 refine(fails_tells H.chaselaw04_fails y32.wf (s:=[49,32,62,32,50]) (n:=2) (e:=37) (by decide) wk9).use fun s33 x33=> ?_
 have y33:=y32.trans x33
 simp[go_sem,tk3,NO.run,RO.run,WO.run,wr_tok,rd_tok,reps,seq8_eq]
 refine(fails_tells H.chaselaw04_fails y33.wf (s:=[60,52,103,62]) (n:=0) (e:=37) (by decide) wk10).use fun s34 x34=> ?_
 have y34:=y33.trans x34
 simp[go_sem,tk3,NO.run,RO.run,WO.run,wr_tok,rd_tok,reps,seq8_eq]
 refine(fails_tells H.chaselaw04_fails y34.wf (s:=[137]) (n:=0) (e:=37) (by decide) wk11).use fun s35 x35=> ?_
 have y35:=y34.trans x35
 simp[go_sem,tk3,NO.run,RO.run,WO.run,wr_tok,rd_tok,reps,seq8_eq]
 refine(fails_tells H.chaselaw04_fails y35.wf (s:=[132,5,97]) (n:=0) (e:=37) (by decide) wk12).use fun s36 x36=> ?_
 have y36:=y35.trans x36
 simp[go_sem,tk3,NO.run,RO.run,WO.run,wr_tok,rd_tok,reps,seq8_eq]
 exact y36
end Go.Ev

/- ScanSteps told, where works holds. -/
namespace Go.Ev
open Go
variable {T : Tab} {st : St}
theorem nextS_long {s:List UInt8} {i:Int} (hs:65536<s.length):nextS s i=err3 3:=by
 unfold nextS
 rw[if_pos hs]
end Go.Ev

/- ScanKnown told. -/
namespace Go.Ev
open Go
variable {T : Tab} {st : St}
theorem rep_use (H:B.H_strings_Repeat T) {s X:List UInt8} {n:Int} (h0:0≤n) (h1:n≤9223372036854775807) (h2:s.length*n.toNat≤140737488355328) (hX:Lib.repeatL s n.toNat=X) {K:AV→St→Prop} (hK:K (.str X) st):CRes (call T (.fn 13 [] []) [.str s,.int .i64 n] st) K:=by
 rw[call_entry H.en]
 simp only[B.E_strings_Repeat,repeatE,List.nil_append,List.append_nil]
 rw[if_pos ⟨h0,h1,h2⟩,hX]
 exact hK
theorem pack_big (H:B.H_scan_Pack T) (hwf:st.Wf) {n:Int} {t:List UInt8} (hr:rightT 2 n t=true) (hs:t.length<65536) (hbig:2147483647<n):Tells T st (.fn 166 [] []) [.agg [.int .i64 2,.int .i64 n,.str t]] (.tuple [.str [],.int .i64 6]):=by
 refine tells_of H.e H.f rfl ?_
 have hx:=Ext.new hwf (.cells 134 true [.int .i64 2,.int .i64 n,.str t])
 have g:hget ((st.nx,AObj.cells 134 true [.int .i64 2,.int .i64 n,.str t])::st.h) st.nx=some (.cells 134 true [.int .i64 2,.int .i64 n,.str t]):=by simp[hget_cons]
 simp[B.scan_Pack,go_sem,NO.run,WO.run,RO.run,rd_tok]
 refine(check_tells H.lex_Check hx.wf (by omega)).use fun s1 hs1=> ?_
 have e1:=hx.trans hs1
 have g1:=hs1.get hx.wf g
 have c0:rdCell s1.h st.nx 0=some (.int .i64 2):=by simp[rdCell,g1]
 have c1:rdCell s1.h st.nx 1=some (.int .i64 n):=by simp[rdCell,g1]
 have c2:rdCell s1.h st.nx 2=some (.str t):=by simp[rdCell,g1]
 simp[go_sem,RO.run,hr,c0,c1,c2]
 simp[go_sem,RO.run,c0,c1,c2,hbig,e1]
theorem print_bad (H:B.H_scan_Print T) {h:Heap} {n nx:Nat} {k m:Int} {t:List UInt8} (hwf:St.Wf ⟨(n,.cells 134 false [.int .i64 k,.int .i64 m,.str t])::h,nx⟩) (hp:Pow ⟨(n,.cells 134 false [.int .i64 k,.int .i64 m,.str t])::h,nx⟩) (hr:rightT k m t=false) (hs:t.length<1000000000000):
  Tells T ⟨(n,.cells 134 false [.int .i64 k,.int .i64 m,.str t])::h,nx⟩ (.fn 165 [] []) [.slice n 0 1 (.known 1)] (.tuple [.str [],.int .i64 130]):=by
 refine tells_of H.e H.f rfl ?_
 have x2:=Ext.new hwf (.cells 134 true [.int .i64 k,.int .i64 m,.str t])
 have hcall:=lexText_tells (st:=⟨(nx,.cells 134 true [.int .i64 k,.int .i64 m,.str t])::(n,.cells 134 false [.int .i64 k,.int .i64 m,.str t])::h,nx+1⟩) H.lex_Text x2.wf (hp.ext x2 hwf) (k:=k) (n:=m) (t:=t) hs
 rw[hr]at hcall
 have hrd:rdCells ((n,AObj.cells 134 false [.int .i64 k,.int .i64 m,.str t])::h) n 0 3=some [.int .i64 k,.int .i64 m,.str t]:=rd_tok _ _ _ _ _ _ _
 simp[B.scan_Print,go_sem]
 rw[run_loop]
 simp[B.scan_Print_l0,go_sem,RO.run,NO.run,WO.run,hrd,wr_tok,rd_tok]
 refine hcall.use fun s3 x3=> ?_
 simp[go_sem]
 exact x2.trans x3
theorem repeatL_rep (c:UInt8):∀n,Lib.repeatL [c] n=List.replicate n c
 | 0=>rfl
 | n+1=>by rw[Lib.repeatL,repeatL_rep c n];rfl
theorem repeatL_rep2 (c:UInt8):∀n,Lib.repeatL [c,c] n=List.replicate (2*n) c
 | 0=>rfl
 | n+1=>by rw[Lib.repeatL,repeatL_rep2 c n,show 2*(n+1)=2*n+1+1 by omega];rfl
theorem hexG_zeros:∀(n i:Nat) (l:List Nat),hexG (List.replicate n 48++[62]) i l=some (l++List.replicate n 0,i+n+1)
 | 0,i,l=>by simp[hexG]
 | n+1,i,l=>by
   rw[List.replicate_succ,List.cons_append,hexG,if_neg (by decide),if_neg (by decide),if_neg (by decide),hexG_zeros n (i+1)]
   simp only[show (nibV 48).toNat=0 by decide,List.append_assoc,List.singleton_append,←List.replicate_succ]
   congr 2
   omega
theorem prs_zeros:∀n:Nat,(prs (List.replicate (2*n) 0)).length=n
 | 0=>rfl
 | n+1=>by rw[show 2*(n+1)=2*n+1+1 by omega,List.replicate_succ,List.replicate_succ,prs,List.length_cons,prs_zeros n]
theorem fZn {q:Nat} (h1:1000<q) (h2:q<30000):allS (60::(List.replicate (2*q) 48++[62]))=([],0,26):=by
 have hx:hexT (List.replicate (2*q) 48++[62])=(prs (List.replicate (2*q) 0),2*q+1,0):=by
  unfold hexT
  rw[if_neg (by rw[List.length_append,List.length_replicate];simp;omega),hexG_zeros]
  simp
 have hl:(List.replicate (2*q) (48:UInt8)++[62]).length=2*q+1:=by simp
 obtain⟨R,hR⟩:∃R,List.replicate (2*q) (48:UInt8)++[62]=48::R:=by
  obtain⟨p,hp⟩:∃p,2*q=p+1:=⟨2*q - 1,by omega⟩
  exact⟨_,by rw[hp,List.replicate_succ];rfl⟩
 have hp:=prs_zeros q
 rw[hR]at hx hl⊢
 have ht:tokS (60::48::R)=err3 26:=by
  simp only[tokS]
  rw[if_neg (by decide),if_neg (by decide),if_neg (by decide),if_neg (by decide),if_neg (by decide),if_pos trivial]
  unfold lessR
  rw[if_neg (by simp),if_neg (by simp),hx]
  unfold decoR
  rw[if_pos rfl]
  unfold textK
  rw[if_pos (.inl ⟨rfl,by simp only;rw[hp];exact h1⟩)]
 have hn:nextS (60::48::R) ((0:Nat):Int)=err3 26:=by
  unfold nextS
  simp only[List.length_cons]at hl⊢
  rw[if_neg (by omega),if_neg (by omega)]
  have hk:skp false (60::48::R)=0:=by rw[skp];rfl
  simp only[Int.toNat_natCast,List.drop_zero,hk,ht,Nat.zero_add]
  rw[if_neg (by omega)]
 rw[allS_fin,runA,hn]
 rfl
theorem sk1:allS [40]=([],0,37):=by kernel_rfl
theorem sk2:allS [97,32,41]=([],2,37):=by kernel_rfl
theorem sk3:allS [60,126,33,126,62]=([],0,37):=by kernel_rfl
theorem sk4:allS [60,52]=([],0,37):=by kernel_rfl
theorem sk5:allS [57,57,57,57,57,57,57,57,57,57,57]=([],0,26):=by kernel_rfl
theorem sk6:allS [135,2,49,50]=([],0,37):=by kernel_rfl
theorem sk7:allS [134,1,91]=([],0,37):=by kernel_rfl
theorem sk8:allS [128,0,0,0]=([],0,37):=by kernel_rfl
theorem sk9:allS []=([],0,0):=by kernel_rfl
theorem sk10:allS [37]=([],1,0):=by kernel_rfl
theorem sk11:allS [32,0,12,37,97,13,37,98,10]=([],9,0):=by kernel_rfl
theorem sk12:allS [47]=([(4,0,[])],1,0):=by kernel_rfl
theorem sk13:allS [47,47]=([(5,0,[])],2,0):=by kernel_rfl
theorem sk14:allS [60,126,126,62,60,62]=([(6,0,[]),(6,0,[])],6,0):=by kernel_rfl
theorem sk15:allS [97,40,98,41,99]=([(3,0,[97]),(6,0,[98]),(3,0,[99])],5,0):=by kernel_rfl
theorem sk16:allS [128,127,255,255,255,128,128,0,0,0,131,255,255,0,0]=([(1,2147483647,[]),(1, -2147483648,[]),(2, -65536,[])],15,0):=by kernel_rfl
theorem sk17:allS [160,255]=([(3,0,[160,255])],2,0):=by kernel_rfl
theorem sk18:allS [49,135,2,60,60,50]=([(1,1,[]),(3,0,[60,60]),(1,2,[])],6,0):=by kernel_rfl
theorem fX1_:allS (49::32::Lib.repeatL [120] 101)=([],2,26):=by kernel_rfl
theorem fX2_:allS (47::Lib.repeatL [120] 101)=([],0,26):=by kernel_rfl
theorem fX3_:allS (47::47::Lib.repeatL [120] 101)=([],0,26):=by kernel_rfl
theorem fY_:allS (133::3::233::Lib.repeatL [120] 1001)=([],0,26):=by kernel_rfl
theorem known04_res (H:B.H_chaselaw04_ScanKnown T) (hwf:st.Wf) (hp:Pow st):CRes (call T (.fn 156 [] []) [] st) fun v _=>v= .bool true:=by
 refine call_res H.e H.f rfl ?_
 have y0:=Ext.refl hwf
 obtain⟨X,hX⟩:∃X,Lib.repeatL [120] (101:Int).toNat=X:=⟨_,rfl⟩
 obtain⟨Y,hY⟩:∃X,Lib.repeatL [120] (1001:Int).toNat=X:=⟨_,rfl⟩
 obtain⟨Z,hZ⟩:∃X,Lib.repeatL [48,48] (1001:Int).toNat=X:=⟨_,rfl⟩
 obtain⟨V,hV⟩:∃X,Lib.repeatL [32] (65537:Int).toNat=X:=⟨_,rfl⟩
 obtain⟨U,hU⟩:∃X,Lib.repeatL [120] (256:Int).toNat=X:=⟨_,rfl⟩
 have hXl:X.length=101:=by rw[←hX,repeatL_rep,List.length_replicate];rfl
 have hYl:Y.length=1001:=by rw[←hY,repeatL_rep,List.length_replicate];rfl
 have hZl:Z.length=2002:=by rw[←hZ,repeatL_rep2,List.length_replicate];rfl
 have hVl:V.length=65537:=by rw[←hV,repeatL_rep,List.length_replicate];rfl
 have hUl:U.length=256:=by rw[←hU,repeatL_rep,List.length_replicate];rfl
 have fX1:allS (49::32::X)=([],2,26):=by rw[←hX];exact fX1_
 have fX2:allS (47::X)=([],0,26):=by rw[←hX];exact fX2_
 have fX3:allS (47::47::X)=([],0,26):=by rw[←hX];exact fX3_
 have fY:allS (133::3::233::Y)=([],0,26):=by rw[←hY];exact fY_
 have fZ:allS (60::(Z++[62]))=([],0,26):=by rw[←hZ,repeatL_rep2];exact fZn (by decide) (by decide)
 have fV:nextS V 0=((0,0,[]),0,3):=nextS_long (by rw[hVl];decide)
 have fUr:rightT 6 0 U=true:=by simp[rightT,hUl]
 have fU:packS (6,0,U)=133::1::0::U:=by simp[packS,hUl,formS,beN]
 have hsub:asubS (133::1::0::U) none (some (.int .i64 3))=some (.str [133,1,0]):=by rw[asubS_to (by decide) (by simp;omega)];rfl
 simp[B.chaselaw04_ScanKnown,go_sem]
 refine(works04_tells H.chaselaw04_works y0.wf (hp.ext y0 hwf)).use fun s1 x1=> ?_
 have y1:=y0.trans x1
 simp[go_sem,tk3,NO.run,RO.run,WO.run,wr_tok,rd_tok,reps,seq8_eq]
 refine rep_use H.strings_Repeat (X:=X) (by decide) (by decide) (by decide) hX ?_
 simp[go_sem,tk3,NO.run,RO.run,WO.run,wr_tok,rd_tok,reps,seq8_eq,hXl]
 refine(fails_tells H.chaselaw04_fails y1.wf (s:=[40]) (n:=0) (e:=37) (by decide) sk1).use fun s2 x2=> ?_
 have y2:=y1.trans x2
 simp[go_sem,tk3,NO.run,RO.run,WO.run,wr_tok,rd_tok,reps,seq8_eq]
 refine(fails_tells H.chaselaw04_fails y2.wf (s:=[97,32,41]) (n:=2) (e:=37) (by decide) sk2).use fun s3 x3=> ?_
 have y3:=y2.trans x3
 simp[go_sem,tk3,NO.run,RO.run,WO.run,wr_tok,rd_tok,reps,seq8_eq]
 refine(fails_tells H.chaselaw04_fails y3.wf (s:=[60,126,33,126,62]) (n:=0) (e:=37) (by decide) sk3).use fun s4 x4=> ?_
 have y4:=y3.trans x4
 simp[go_sem,tk3,NO.run,RO.run,WO.run,wr_tok,rd_tok,reps,seq8_eq]
 refine(fails_tells H.chaselaw04_fails y4.wf (s:=[60,52]) (n:=0) (e:=37) (by decide) sk4).use fun s5 x5=> ?_
 have y5:=y4.trans x5
 simp[go_sem,tk3,NO.run,RO.run,WO.run,wr_tok,rd_tok,reps,seq8_eq,hXl]
 refine(fails_tells H.chaselaw04_fails y5.wf (s:=49::32::X) (n:=2) (e:=26) (by simp[hXl]) fX1).use fun s6 x6=> ?_
 have y6:=y5.trans x6
 simp[go_sem,tk3,NO.run,RO.run,WO.run,wr_tok,rd_tok,reps,seq8_eq,hXl]
 refine(fails_tells H.chaselaw04_fails y6.wf (s:=47::X) (n:=0) (e:=26) (by simp[hXl]) fX2).use fun s7 x7=> ?_
 have y7:=y6.trans x7
 simp[go_sem,tk3,NO.run,RO.run,WO.run,wr_tok,rd_tok,reps,seq8_eq,hXl]
 refine(fails_tells H.chaselaw04_fails y7.wf (s:=47::47::X) (n:=0) (e:=26) (by simp[hXl]) fX3).use fun s8 x8=> ?_
 have y8:=y7.trans x8
 simp[go_sem,tk3,NO.run,RO.run,WO.run,wr_tok,rd_tok,reps,seq8_eq,hXl]
 refine(fails_tells H.chaselaw04_fails y8.wf (s:=[57,57,57,57,57,57,57,57,57,57,57]) (n:=0) (e:=26) (by decide) sk5).use fun s9 x9=> ?_
 have y9:=y8.trans x9
 simp[go_sem,tk3,NO.run,RO.run,WO.run,wr_tok,rd_tok,reps,seq8_eq]
 refine rep_use H.strings_Repeat (X:=Z) (by decide) (by decide) (by decide) hZ ?_
 simp[go_sem,tk3,NO.run,RO.run,WO.run,wr_tok,rd_tok,reps,seq8_eq,hZl]
 refine(fails_tells H.chaselaw04_fails y9.wf (s:=60::(Z++[62])) (n:=0) (e:=26) (by simp[hZl]) fZ).use fun s10 x10=> ?_
 have y10:=y9.trans x10
 simp[go_sem,tk3,NO.run,RO.run,WO.run,wr_tok,rd_tok,reps,seq8_eq,hZl]
 refine rep_use H.strings_Repeat (X:=Y) (by decide) (by decide) (by decide) hY ?_
 simp[go_sem,tk3,NO.run,RO.run,WO.run,wr_tok,rd_tok,reps,seq8_eq,hYl]
 refine(fails_tells H.chaselaw04_fails y10.wf (s:=133::3::233::Y) (n:=0) (e:=26) (by simp[hYl]) fY).use fun s11 x11=> ?_
 have y11:=y10.trans x11
 simp[go_sem,tk3,NO.run,RO.run,WO.run,wr_tok,rd_tok,reps,seq8_eq,hYl]
 refine(fails_tells H.chaselaw04_fails y11.wf (s:=[135,2,49,50]) (n:=0) (e:=37) (by decide) sk6).use fun s12 x12=> ?_
 have y12:=y11.trans x12
 simp[go_sem,tk3,NO.run,RO.run,WO.run,wr_tok,rd_tok,reps,seq8_eq]
 refine(fails_tells H.chaselaw04_fails y12.wf (s:=[134,1,91]) (n:=0) (e:=37) (by decide) sk7).use fun s13 x13=> ?_
 have y13:=y12.trans x13
 simp[go_sem,tk3,NO.run,RO.run,WO.run,wr_tok,rd_tok,reps,seq8_eq]
 refine(fails_tells H.chaselaw04_fails y13.wf (s:=[128,0,0,0]) (n:=0) (e:=37) (by decide) sk8).use fun s14 x14=> ?_
 have y14:=y13.trans x14
 simp[go_sem,tk3,NO.run,RO.run,WO.run,wr_tok,rd_tok,reps,seq8_eq]
 refine(reads_nil H.chaselaw04_reads y14.wf (s:=[]) (by decide) sk9).use fun s15 x15=> ?_
 have y15:=y14.trans x15
 simp[go_sem,tk3,NO.run,RO.run,WO.run,wr_tok,rd_tok,reps,seq8_eq]
 refine(reads_nil H.chaselaw04_reads y15.wf (s:=[37]) (by decide) sk10).use fun s16 x16=> ?_
 have y16:=y15.trans x16
 simp[go_sem,tk3,NO.run,RO.run,WO.run,wr_tok,rd_tok,reps,seq8_eq]
 refine(reads_nil H.chaselaw04_reads y16.wf (s:=[32,0,12,37,97,13,37,98,10]) (by decide) sk11).use fun s17 x17=> ?_
 have y17:=y16.trans x17
 simp[go_sem,tk3,NO.run,RO.run,WO.run,wr_tok,rd_tok,reps,seq8_eq]
 have z18:=y17.trans (Ext.new y17.wf (.cells 134 false [.int .i64 4,.int .i64 0,.str []]))
 refine(reads_lit H.chaselaw04_reads z18.wf (s:=[47]) (by decide) [(4,0,[])] rfl rfl sk12).use fun s19 x19=> ?_
 have y19:=z18.trans x19
 simp[go_sem,tk3,NO.run,RO.run,WO.run,wr_tok,rd_tok,reps,seq8_eq]
 have z20:=y19.trans (Ext.new y19.wf (.cells 134 false [.int .i64 5,.int .i64 0,.str []]))
 refine(reads_lit H.chaselaw04_reads z20.wf (s:=[47,47]) (by decide) [(5,0,[])] rfl rfl sk13).use fun s21 x21=> ?_
 have y21:=z20.trans x21
 simp[go_sem,tk3,NO.run,RO.run,WO.run,wr_tok,rd_tok,reps,seq8_eq]
 refine(text04_tells H.chaselaw04_text y21.wf []).use fun s22 x22=> ?_
 have y22:=y21.trans x22
 simp[go_sem,tk3,NO.run,RO.run,WO.run,wr_tok,rd_tok,reps,seq8_eq]
 refine(text04_tells H.chaselaw04_text y22.wf []).use fun s23 x23=> ?_
 have y23:=y22.trans x23
 simp[go_sem,tk3,NO.run,RO.run,WO.run,wr_tok,rd_tok,reps,seq8_eq]
 have z24:=y23.trans (Ext.new y23.wf (.cells 134 false [.int .i64 6,.int .i64 0,.str [],.int .i64 6,.int .i64 0,.str []]))
 refine(reads_lit H.chaselaw04_reads z24.wf (s:=[60,126,126,62,60,62]) (by decide) [(6,0,[]),(6,0,[])] rfl rfl sk14).use fun s25 x25=> ?_
 have y25:=z24.trans x25
 simp[go_sem,tk3,NO.run,RO.run,WO.run,wr_tok,rd_tok,reps,seq8_eq]
 refine(name04_tells H.chaselaw04_name y25.wf [97]).use fun s26 x26=> ?_
 have y26:=y25.trans x26
 simp[go_sem,tk3,NO.run,RO.run,WO.run,wr_tok,rd_tok,reps,seq8_eq]
 refine(text04_tells H.chaselaw04_text y26.wf [98]).use fun s27 x27=> ?_
 have y27:=y26.trans x27
 simp[go_sem,tk3,NO.run,RO.run,WO.run,wr_tok,rd_tok,reps,seq8_eq]
 refine(name04_tells H.chaselaw04_name y27.wf [99]).use fun s28 x28=> ?_
 have y28:=y27.trans x28
 simp[go_sem,tk3,NO.run,RO.run,WO.run,wr_tok,rd_tok,reps,seq8_eq]
 have z29:=y28.trans (Ext.new y28.wf (.cells 134 false [.int .i64 3,.int .i64 0,.str [97],.int .i64 6,.int .i64 0,.str [98],.int .i64 3,.int .i64 0,.str [99]]))
 refine(reads_lit H.chaselaw04_reads z29.wf (s:=[97,40,98,41,99]) (by decide) [(3,0,[97]),(6,0,[98]),(3,0,[99])] rfl rfl sk15).use fun s30 x30=> ?_
 have y30:=z29.trans x30
 simp[go_sem,tk3,NO.run,RO.run,WO.run,wr_tok,rd_tok,reps,seq8_eq]
 refine(number04_tells H.chaselaw04_number y30.wf (2147483647)).use fun s31 x31=> ?_
 have y31:=y30.trans x31
 simp[go_sem,tk3,NO.run,RO.run,WO.run,wr_tok,rd_tok,reps,seq8_eq]
 refine(number04_tells H.chaselaw04_number y31.wf (-2147483648)).use fun s32 x32=> ?_
 have y32:=y31.trans x32
 simp[go_sem,tk3,NO.run,RO.run,WO.run,wr_tok,rd_tok,reps,seq8_eq]
 have z33:=y32.trans (Ext.new y32.wf (.cells 134 false [.int .i64 1,.int .i64 2147483647,.str [],.int .i64 1,.int .i64 (-2147483648),.str [],.int .i64 2,.int .i64 (-65536),.str []]))
 refine(reads_lit H.chaselaw04_reads z33.wf (s:=[128,127,255,255,255,128,128,0,0,0,131,255,255,0,0]) (by decide) [(1,2147483647,[]),(1, -2147483648,[]),(2, -65536,[])] rfl rfl sk16).use fun s34 x34=> ?_
 have y34:=z33.trans x34
 simp[go_sem,tk3,NO.run,RO.run,WO.run,wr_tok,rd_tok,reps,seq8_eq]
 refine(name04_tells H.chaselaw04_name y34.wf [160,255]).use fun s35 x35=> ?_
 have y35:=y34.trans x35
 simp[go_sem,tk3,NO.run,RO.run,WO.run,wr_tok,rd_tok,reps,seq8_eq]
 have z36:=y35.trans (Ext.new y35.wf (.cells 134 false [.int .i64 3,.int .i64 0,.str [160,255]]))
 refine(reads_lit H.chaselaw04_reads z36.wf (s:=[160,255]) (by decide) [(3,0,[160,255])] rfl rfl sk17).use fun s37 x37=> ?_
 have y37:=z36.trans x37
 simp[go_sem,tk3,NO.run,RO.run,WO.run,wr_tok,rd_tok,reps,seq8_eq]
 refine(number04_tells H.chaselaw04_number y37.wf (1)).use fun s38 x38=> ?_
 have y38:=y37.trans x38
 simp[go_sem,tk3,NO.run,RO.run,WO.run,wr_tok,rd_tok,reps,seq8_eq]
 refine(name04_tells H.chaselaw04_name y38.wf [60,60]).use fun s39 x39=> ?_
 have y39:=y38.trans x39
 simp[go_sem,tk3,NO.run,RO.run,WO.run,wr_tok,rd_tok,reps,seq8_eq]
 refine(number04_tells H.chaselaw04_number y39.wf (2)).use fun s40 x40=> ?_
 have y40:=y39.trans x40
 simp[go_sem,tk3,NO.run,RO.run,WO.run,wr_tok,rd_tok,reps,seq8_eq]
 have z41:=y40.trans (Ext.new y40.wf (.cells 134 false [.int .i64 1,.int .i64 1,.str [],.int .i64 3,.int .i64 0,.str [60,60],.int .i64 1,.int .i64 2,.str []]))
 refine(reads_lit H.chaselaw04_reads z41.wf (s:=[49,135,2,60,60,50]) (by decide) [(1,1,[]),(3,0,[60,60]),(1,2,[])] rfl rfl sk18).use fun s42 x42=> ?_
 have y42:=z41.trans x42
 simp[go_sem,tk3,NO.run,RO.run,WO.run,wr_tok,rd_tok,reps,seq8_eq]
 refine rep_use H.strings_Repeat (X:=V) (by decide) (by decide) (by decide) hV ?_
 simp[go_sem,tk3,NO.run,RO.run,WO.run,wr_tok,rd_tok,reps,seq8_eq,hVl]
 refine(next_lit H.scan_Next y42.wf (s:=V) (i:=0) (by decide) (by decide) (by rw[hVl];decide) fV).use fun s43 x43=> ?_
 have y43:=y42.trans x43
 simp[go_sem,tk3,NO.run,RO.run,WO.run,wr_tok,rd_tok,reps,seq8_eq]
 have z44:=y43.trans (Ext.new y43.wf (.cells 134 true [.int .i64 0,.int .i64 0,.str []]))
 refine(pack_big H.scan_Pack z44.wf (n:=2147483648) (t:=[]) (by decide) (by decide) (by decide)).use fun s45 x45=> ?_
 have y45:=z44.trans x45
 simp[go_sem,tk3,NO.run,RO.run,WO.run,wr_tok,rd_tok,reps,seq8_eq]
 have z46:=y45.trans (Ext.new y45.wf (.cells 134 false [.int .i64 0,.int .i64 0,.str []]))
 refine(print_bad H.scan_Print z46.wf (hp.ext z46 hwf) (k:=0) (m:=0) (t:=[]) (by decide) (by decide)).use fun s47 x47=> ?_
 have y47:=z46.trans x47
 simp[go_sem,tk3,NO.run,RO.run,WO.run,wr_tok,rd_tok,reps,seq8_eq]
 refine rep_use H.strings_Repeat (X:=U) (by decide) (by decide) (by decide) hU ?_
 simp[go_sem,tk3,NO.run,RO.run,WO.run,wr_tok,rd_tok,reps,seq8_eq,hUl]
 refine(text04_tells H.chaselaw04_text y47.wf U).use fun s48 x48=> ?_
 have y48:=y47.trans x48
 simp[go_sem,tk3,NO.run,RO.run,WO.run,wr_tok,rd_tok,reps,seq8_eq]
 refine(pack_lit H.scan_Pack y48.wf (hp.ext y48 hwf) (k:=6) (n:=0) (t:=U) fUr (by rw[hUl];decide) (by decide) fU).use fun s49 x49=> ?_
 have y49:=y48.trans x49
 simp[go_sem,tk3,NO.run,RO.run,WO.run,wr_tok,rd_tok,reps,seq8_eq]
 refine(works04_tells H.chaselaw04_works y49.wf (hp.ext y49 hwf)).use fun s50 x50=> ?_
 have y50:=y49.trans x50
 simp[go_sem,hUl,hsub,seq8_eq]
end Go.Ev

/- A table of the library beside what the arguments named. -/
namespace Go.Ev
open Go Go.RowKit Go.ChangeShapes Go.WideShapes Go.Deep Go.Joins
theorem sr_add {X:Cx} {w:World} {N:Nu} {st:St} {o:AObj} {a:Addr} (h:SR chkD X N st w) (how:∀b,¬Own N st.h b) (ho:o.own=false) (hobj:ObjR chkD X (N.add st.nx a 0) w st.nx o):
  SR chkD X (N.add st.nx a 0) ⟨(st.nx,o)::st.h,st.nx+1⟩ w∧(∀b,¬Own (N.add st.nx a 0) ((st.nx,o)::st.h) b)∧N.Le (N.add st.nx a 0):=by
 have hle:N.Le (N.add st.nx a 0):=Nu.le_add (h.fresh _ (Nat.le_refl _))
 have hold:∀m,m≠st.nx→(N.add st.nx a 0).ρ m=N.ρ m:=fun m hm=>by simp[Nu.add,hm]
 have hown:∀b,¬Own (N.add st.nx a 0) ((st.nx,o)::st.h) b:=by
  rintro b ⟨n,p,x,h1,h2,h3,h4⟩
  by_cases e:n=st.nx
  ·subst e
   rw[hget_cons,if_pos rfl]at h1
   injection h1 with h1
   subst h1
   rw[ho]at h2
   cases h2
  ·rw[hget_cons,if_neg (fun x=>e x.symm)]at h1
   exact how b ⟨n,p,x,h1,h2,by rw[←hold n e];exact h3,h4⟩
 refine⟨⟨⟨?_,?_⟩,?_⟩,hown,hle⟩
 ·intro n p h1
  by_cases e:n=st.nx
  ·subst e
   rw[hget_cons,if_pos rfl]at h1
   injection h1 with h1
   subst h1
   exact hobj
  ·rw[hget_cons,if_neg (fun x=>e x.symm)]at h1
   exact ObjR.keep hle (Nat.le_refl _) (fun _ _=>rfl) (h.hr.objs n p h1)
 ·intro n m o1 p1 x y h1 h2 h3 h4 h5 h6
  exact absurd ⟨n,o1,x,h1,h3,h4,rfl⟩ (hown x.block)
 ·intro n hn
  rw[hold n (by simp only at hn;omega)]
  exact h.fresh n (by simp only at hn;omega)
theorem objR_pow {X:Cx} {w:World} {N:Nu} {n k:Nat} {name:String} (hname:X.P.globalNamed name=some (X.γ k)) (h:Lib.TabIs X.P w name .u64 Lib.pow10Tab):ObjR chkD X (N.add n ⟨X.γ k,0,none⟩ 0) w n (.glob k powAV):=by
 unfold Lib.TabIs World.var? at h
 rw[hname]at h
 simp only[Option.bind_some]at h
 split at h
 ·rename_i cs t fz hc
  refine⟨cs,t,fz,by simp[Nu.add],hc,?_⟩
  injection h with h
  rw[h]
  exact vrs_ints _
 ·cases h
theorem pow_glob (n m:Nat) (h:Heap):Pow ⟨(n,.glob B.gPow10 powAV)::h,m⟩:=⟨n,powAV,by simp[hget],by simp[powAV,B.av64]⟩
theorem sr_pow {X:Cx} {w:World} {N:Nu} {st:St} {k:Nat} {name:String} (hname:X.P.globalNamed name=some (X.γ k)) (h:Lib.TabIs X.P w name .u64 Lib.pow10Tab) (hr:SR chkD X N st w) (how:∀b,¬Own N st.h b):
  ∃N':Nu,SR chkD X N' ⟨(st.nx,.glob k powAV)::st.h,st.nx+1⟩ w∧(∀b,¬Own N' ((st.nx,.glob k powAV)::st.h) b)∧N.Le N':=
 ⟨_,sr_add hr how rfl (objR_pow hname h)⟩
theorem wf_add {st:St} {o:AObj} (h:st.Wf) (hp:0<st.nx):St.Wf ⟨(st.nx,o)::st.h,st.nx+1⟩:=(Ext.new h o).wf
end Go.Ev

/- A slice of drafts among the arguments. -/
namespace Go.Ev
open Go Go.RowKit Go.ChangeShapes Go.WideShapes Go.Deep Go.Joins
section
variable {H : Type} {enc : TypeId × Value → H} {P : Program} {w : World} {base : Nat} {spare : Nat → Bool} {held : Bool}
end
end Go.Ev

/- A closed call run by the kernel: what it answers, and that what was there stays. -/
namespace Go.Ev
open Go
variable {T : Tab}
end Go.Ev

/- The functions that the law ScanKnown reaches: their numbers, and the check of each body, printed by a program of this work. -/
namespace Go.Ev.ScanKnown
open Go Go.Proofs Go.Ev
def phiT:NT:=(.node (.node (.node (.node (.node (.node (.node .nil 13 26 .nil) 63 95 (.node .nil 65 57 .nil)) 67 56 (.node (.node .nil 69 118 .nil) 71 73 .nil)) 74 40 (.node (.node
 (.node .nil 75 124 .nil) 76 125 (.node .nil 77 126 .nil)) 82 94 (.node (.node .nil 84 84 .nil) 86 131 .nil))) 87 132 (.node (.node (.node (.node .nil 91 25 .nil) 92 24 (.node .nil 93
 74 .nil)) 94 48 (.node (.node .nil 95 137 .nil) 96 138 .nil)) 97 139 (.node (.node (.node .nil 98 140 .nil) 99 141 (.node .nil 100 142 .nil)) 106 147 (.node (.node .nil 107 148 .nil)
 109 46 .nil)))) 110 110 (.node (.node (.node (.node (.node .nil 111 111 .nil) 112 156 (.node .nil 113 159 .nil)) 114 160 (.node (.node .nil 115 161 .nil) 116 162 .nil)) 117 168 (.node
 (.node (.node .nil 118 79 .nil) 119 171 (.node .nil 120 178 .nil)) 121 179 (.node (.node .nil 122 172 .nil) 123 82 .nil))) 128 38 (.node (.node (.node (.node .nil 132 71 .nil) 133 72
 (.node .nil 136 108 .nil)) 137 107 (.node (.node .nil 138 109 .nil) 139 129 .nil)) 140 157 (.node (.node (.node .nil 141 158 .nil) 142 173 .nil) 143 174 (.node (.node .nil 144 175 .nil)
 145 176 .nil))))) 146 177 (.node (.node (.node (.node (.node (.node .nil 147 185 .nil) 148 183 (.node .nil 149 182 .nil)) 156 9 (.node (.node .nil 157 10 .nil) 158 11 .nil)) 162 15
 (.node (.node (.node .nil 164 17 .nil) 165 18 (.node .nil 166 19 .nil)) 168 22 (.node (.node .nil 169 23 .nil) 170 27 .nil))) 171 28 (.node (.node (.node (.node .nil 172 29 .nil) 173
 30 (.node .nil 174 31 .nil)) 175 32 (.node (.node .nil 178 37 .nil) 179 39 .nil)) 180 41 (.node (.node (.node .nil 182 51 .nil) 183 52 (.node .nil 184 53 .nil)) 185 54 (.node (.node
 .nil 186 55 .nil) 192 70 .nil)))) 193 85 (.node (.node (.node (.node (.node .nil 194 86 .nil) 195 87 (.node .nil 196 88 .nil)) 197 89 (.node (.node .nil 198 90 .nil) 199 91 .nil)) 200
 92 (.node (.node (.node .nil 201 93 .nil) 209 119 (.node .nil 210 120 .nil)) 211 121 (.node (.node .nil 212 122 .nil) 213 123 .nil))) 214 133 (.node (.node (.node (.node .nil 215 134
 .nil) 216 135 (.node .nil 217 136 .nil)) 218 149 (.node (.node .nil 219 150 .nil) 220 151 .nil)) 221 152 (.node (.node (.node .nil 222 153 .nil) 223 154 .nil) 224 155 (.node (.node
 .nil 225 169 .nil) 226 170 .nil))))))
def tauT:NT:=(.node (.node (.node (.node (.node (.node (.node (.node .nil 0 0 .nil) 1 1 (.node .nil 2 2 .nil)) 3 3 (.node (.node .nil 4 4 .nil) 5 5 (.node .nil 6 6 .nil))) 7 7 (.node
 (.node (.node .nil 8 8 .nil) 9 9 (.node .nil 10 10 .nil)) 11 11 (.node (.node .nil 12 12 .nil) 13 13 .nil))) 14 14 (.node (.node (.node (.node .nil 15 15 .nil) 16 16 (.node .nil 17
 17 .nil)) 18 18 (.node (.node .nil 19 19 .nil) 20 20 .nil)) 21 21 (.node (.node (.node .nil 25 23 .nil) 27 95 (.node .nil 28 56 .nil)) 30 28 (.node (.node .nil 31 41 .nil) 34 33 .nil))))
 35 22 (.node (.node (.node (.node (.node .nil 37 102 .nil) 42 62 (.node .nil 43 93 .nil)) 45 110 (.node (.node .nil 48 199 .nil) 79 90 (.node .nil 80 91 .nil))) 81 92 (.node (.node
 (.node .nil 82 49 .nil) 83 50 (.node .nil 84 51 .nil)) 85 94 (.node (.node .nil 86 52 .nil) 87 53 .nil))) 88 54 (.node (.node (.node (.node .nil 89 55 .nil) 102 117 (.node .nil 103
 118 .nil)) 104 119 (.node (.node .nil 105 120 .nil) 106 121 .nil)) 107 122 (.node (.node (.node .nil 108 89 .nil) 110 84 (.node .nil 112 203 .nil)) 114 115 (.node (.node .nil 115 116
 .nil) 116 129 .nil))))) 117 213 (.node (.node (.node (.node (.node (.node .nil 118 170 .nil) 120 141 (.node .nil 121 219 .nil)) 122 220 (.node (.node .nil 123 221 .nil) 124 222 (.node
 .nil 125 223 .nil))) 126 224 (.node (.node (.node .nil 127 225 .nil) 128 226 (.node .nil 129 227 .nil)) 130 228 (.node (.node .nil 131 229 .nil) 132 230 .nil))) 133 26 (.node (.node
 (.node (.node .nil 134 27 .nil) 135 85 (.node .nil 136 86 .nil)) 137 97 (.node (.node .nil 139 139 .nil) 140 103 .nil)) 141 106 (.node (.node (.node .nil 146 34 .nil) 147 82 (.node
 .nil 149 142 .nil)) 150 143 (.node (.node .nil 151 144 .nil) 152 72 .nil)))) 153 109 (.node (.node (.node (.node (.node .nil 154 111 .nil) 155 112 (.node .nil 156 113 .nil)) 157 114
 (.node (.node .nil 158 87 .nil) 159 123 (.node .nil 160 146 .nil))) 161 67 (.node (.node (.node .nil 162 148 .nil) 163 149 (.node .nil 164 150 .nil)) 165 151 (.node (.node .nil 166
 152 .nil) 167 125 .nil))) 168 126 (.node (.node (.node (.node .nil 169 127 .nil) 170 59 (.node .nil 171 44 .nil)) 172 164 (.node (.node .nil 173 165 .nil) 174 166 .nil)) 175 167 (.node
 (.node (.node .nil 176 168 .nil) 177 131 (.node .nil 178 140 .nil)) 179 174 (.node (.node .nil 180 186 .nil) 181 187 .nil)))))) 182 188 (.node (.node (.node (.node (.node (.node (.node
 .nil 183 189 .nil) 184 190 (.node .nil 185 192 .nil)) 186 193 (.node (.node .nil 187 194 .nil) 188 195 (.node .nil 189 196 .nil))) 190 197 (.node (.node (.node .nil 191 198 .nil) 192
 128 (.node .nil 193 204 .nil)) 194 205 (.node (.node .nil 195 207 .nil) 196 208 .nil))) 197 209 (.node (.node (.node (.node .nil 198 210 .nil) 199 211 (.node .nil 200 212 .nil)) 201
 214 (.node (.node .nil 202 215 .nil) 203 218 .nil)) 204 73 (.node (.node (.node .nil 205 74 .nil) 206 75 (.node .nil 208 43 .nil)) 209 45 (.node (.node .nil 213 58 .nil) 214 105 .nil))))
 215 108 (.node (.node (.node (.node (.node .nil 218 134 .nil) 219 135 (.node .nil 220 136 .nil)) 221 137 (.node (.node .nil 222 138 .nil) 228 145 (.node .nil 233 169 .nil))) 234 171
 (.node (.node (.node .nil 235 172 .nil) 236 173 (.node .nil 244 200 .nil)) 245 201 (.node (.node .nil 246 202 .nil) 251 216 .nil))) 252 217 (.node (.node (.node (.node .nil 253 24 .nil)
 254 25 (.node .nil 255 29 .nil)) 256 30 (.node (.node .nil 257 31 .nil) 258 32 .nil)) 259 35 (.node (.node (.node .nil 260 36 .nil) 261 37 (.node .nil 262 38 .nil)) 263 39 (.node (.node
 .nil 264 40 .nil) 265 42 .nil))))) 266 46 (.node (.node (.node (.node (.node (.node .nil 267 47 .nil) 268 48 (.node .nil 269 57 .nil)) 270 60 (.node (.node .nil 271 61 .nil) 272 63
 (.node .nil 273 64 .nil))) 274 65 (.node (.node (.node .nil 275 66 .nil) 276 68 (.node .nil 277 69 .nil)) 278 70 (.node (.node .nil 279 71 .nil) 280 76 .nil))) 281 77 (.node (.node
 (.node (.node .nil 282 78 .nil) 283 79 (.node .nil 284 80 .nil)) 285 81 (.node (.node .nil 286 83 .nil) 287 88 .nil)) 288 96 (.node (.node (.node .nil 289 98 .nil) 290 99 (.node .nil
 291 100 .nil)) 292 101 (.node (.node .nil 293 104 .nil) 294 107 .nil)))) 295 124 (.node (.node (.node (.node (.node .nil 296 130 .nil) 297 132 (.node .nil 298 133 .nil)) 299 153 (.node
 (.node .nil 300 154 .nil) 301 155 (.node .nil 302 156 .nil))) 303 157 (.node (.node (.node .nil 304 158 .nil) 305 159 (.node .nil 306 160 .nil)) 307 161 (.node (.node .nil 308 162 .nil)
 309 163 .nil))) 310 175 (.node (.node (.node (.node .nil 311 176 .nil) 312 177 (.node .nil 313 178 .nil)) 314 179 (.node (.node .nil 315 180 .nil) 316 181 .nil)) 317 182 (.node (.node
 (.node .nil 318 183 .nil) 319 184 (.node .nil 320 185 .nil)) 321 206 (.node (.node .nil 322 231 .nil) 323 232 .nil)))))))
def gamT:NT:=(.node (.node (.node .nil 0 0 .nil) 4 1 .nil) 5 2 (.node .nil 6 3 .nil))
noncomputable def cx:Cx:=⟨Tryz.prog,phiT.get,tauT.get,gamT.get⟩
theorem k_lex_Number:FnOK cx 63 B.lex_Number:=fnOK_of (by kernel_rfl) Tryz.func95 (by kernel_rfl)
theorem k_lex_Word:FnOK cx 65 B.lex_Word:=fnOK_of (by kernel_rfl) Tryz.func57 (by kernel_rfl)
theorem k_lex_Regular:FnOK cx 67 B.lex_Regular:=fnOK_of (by kernel_rfl) Tryz.func56 (by kernel_rfl)
theorem k_lex_Unquote:FnOK cx 69 B.lex_Unquote:=fnOK_of (by kernel_rfl) Tryz.func118 (by kernel_rfl)
theorem k_lex_Quote:FnOK cx 71 B.lex_Quote:=fnOK_of (by kernel_rfl) Tryz.func73 (by kernel_rfl)
theorem k_lex_Check:FnOK cx 74 B.lex_Check:=fnOK_of (by kernel_rfl) Tryz.func40 (by kernel_rfl)
theorem k_lex_numeral_whole:FnOK cx 75 B.lex_numeral_whole:=fnOK_of (by kernel_rfl) Tryz.func124 (by kernel_rfl)
theorem k_lex_numeral_radix:FnOK cx 76 B.lex_numeral_radix:=fnOK_of (by kernel_rfl) Tryz.func125 (by kernel_rfl)
theorem k_lex_numeral_decimal:FnOK cx 77 B.lex_numeral_decimal:=fnOK_of (by kernel_rfl) Tryz.func126 (by kernel_rfl)
theorem k_lex_regular:FnOK cx 82 B.lex_regular:=fnOK_of (by kernel_rfl) Tryz.func94 (by kernel_rfl)
theorem k_lex_quoted_next:FnOK cx 86 B.lex_quoted_next:=fnOK_of (by kernel_rfl) Tryz.func131 (by kernel_rfl)
theorem k_lex_quoted_run:FnOK cx 87 B.lex_quoted_run:=fnOK_of (by kernel_rfl) Tryz.func132 (by kernel_rfl)
theorem k_strings_Builder_WriteByte:FnOK cx 91 B.strings_Builder_WriteByte:=fnOK_of (by kernel_rfl) Tryz.func25 (by kernel_rfl)
theorem k_strings_Builder_String:FnOK cx 92 B.strings_Builder_String:=fnOK_of (by kernel_rfl) Tryz.func24 (by kernel_rfl)
theorem k_lex_right:FnOK cx 93 B.lex_right:=fnOK_of (by kernel_rfl) Tryz.func74 (by kernel_rfl)
theorem k_strings_HasPrefix:FnOK cx 94 B.strings_HasPrefix:=fnOK_of (by kernel_rfl) Tryz.func48 (by kernel_rfl)
theorem k_lex_count:FnOK cx 95 B.lex_count:=fnOK_of (by kernel_rfl) Tryz.func137 (by kernel_rfl)
theorem k_lex_numeral_answer:FnOK cx 96 B.lex_numeral_answer:=fnOK_of (by kernel_rfl) Tryz.func138 (by kernel_rfl)
theorem k_strings_Cut:FnOK cx 97 B.strings_Cut:=fnOK_of (by kernel_rfl) Tryz.func139 (by kernel_rfl)
theorem k_strings_ContainsAny:FnOK cx 98 B.strings_ContainsAny:=fnOK_of (by kernel_rfl) Tryz.func140 (by kernel_rfl)
theorem k_lex_pattern:FnOK cx 99 B.lex_pattern:=fnOK_of (by kernel_rfl) Tryz.func141 (by kernel_rfl)
theorem k_real_Parse:FnOK cx 100 B.real_Parse:=fnOK_of (by kernel_rfl) Tryz.func142 (by kernel_rfl)
theorem k_lex_quoted_escape:FnOK cx 106 B.lex_quoted_escape:=fnOK_of (by kernel_rfl) Tryz.func147 (by kernel_rfl)
theorem k_lex_quoted_line:FnOK cx 107 B.lex_quoted_line:=fnOK_of (by kernel_rfl) Tryz.func148 (by kernel_rfl)
theorem k_strings_Builder_copyCheck:FnOK cx 109 B.strings_Builder_copyCheck:=fnOK_of (by kernel_rfl) Tryz.func46 (by kernel_rfl)
theorem k_real_Is:FnOK cx 110 B.real_Is:=fnOK_of (by kernel_rfl) Tryz.func110 (by kernel_rfl)
theorem k_lex_named:FnOK cx 111 B.lex_named:=fnOK_of (by kernel_rfl) Tryz.func111 (by kernel_rfl)
theorem k_lex_digits:FnOK cx 112 B.lex_digits:=fnOK_of (by kernel_rfl) Tryz.func156 (by kernel_rfl)
theorem k_real_scanner_decimal:FnOK cx 113 B.real_scanner_decimal:=fnOK_of (by kernel_rfl) Tryz.func159 (by kernel_rfl)
theorem k_real_front:FnOK cx 114 B.real_front:=fnOK_of (by kernel_rfl) Tryz.func160 (by kernel_rfl)
theorem k_real_fraction:FnOK cx 115 B.real_fraction:=fnOK_of (by kernel_rfl) Tryz.func161 (by kernel_rfl)
theorem k_real_double:FnOK cx 116 B.real_double:=fnOK_of (by kernel_rfl) Tryz.func162 (by kernel_rfl)
theorem k_lex_letters:FnOK cx 117 B.lex_letters:=fnOK_of (by kernel_rfl) Tryz.func168 (by kernel_rfl)
theorem k_lex_digits_1:FnOK cx 119 B.lex_digits_1:=fnOK_of (by kernel_rfl) Tryz.func171 (by kernel_rfl)
theorem k_real_scanner_one:FnOK cx 120 B.real_scanner_one:=fnOK_of (by kernel_rfl) Tryz.func178 (by kernel_rfl)
theorem k_real_scanner_digits:FnOK cx 121 B.real_scanner_digits:=fnOK_of (by kernel_rfl) Tryz.func179 (by kernel_rfl)
theorem k_lex_value:FnOK cx 122 B.lex_value:=fnOK_of (by kernel_rfl) Tryz.func172 (by kernel_rfl)
theorem k_stringslite_HasPrefix:FnOK cx 123 B.stringslite_HasPrefix:=fnOK_of (by kernel_rfl) Tryz.func82 (by kernel_rfl)
theorem k_lex_Text:FnOK cx 128 B.lex_Text:=fnOK_of (by kernel_rfl) Tryz.func38 (by kernel_rfl)
theorem k_real_Print:FnOK cx 133 B.real_Print:=fnOK_of (by kernel_rfl) Tryz.func72 (by kernel_rfl)
theorem k_real_Print_1:FnOK cx 136 B.real_Print_1:=fnOK_of (by kernel_rfl) Tryz.func108 (by kernel_rfl)
theorem k_real_result_string:FnOK cx 137 B.real_result_string:=fnOK_of (by kernel_rfl) Tryz.func107 (by kernel_rfl)
theorem k_real_whole:FnOK cx 138 B.real_whole:=fnOK_of (by kernel_rfl) Tryz.func109 (by kernel_rfl)
theorem k_real_whole_1:FnOK cx 139 B.real_whole_1:=fnOK_of (by kernel_rfl) Tryz.func129 (by kernel_rfl)
theorem k_stringslite_Cut:FnOK cx 140 B.stringslite_Cut:=fnOK_of (by kernel_rfl) Tryz.func157 (by kernel_rfl)
theorem k_strings_IndexAny:FnOK cx 141 B.strings_IndexAny:=fnOK_of (by kernel_rfl) Tryz.func158 (by kernel_rfl)
theorem k_strings_IndexRune:FnOK cx 143 B.strings_IndexRune:=fnOK_of (by kernel_rfl) Tryz.func174 (by kernel_rfl)
theorem k_strings_shouldUseASCIISet:FnOK cx 144 B.strings_shouldUseASCIISet:=fnOK_of (by kernel_rfl) Tryz.func175 (by kernel_rfl)
theorem k_strings_makeASCIISet:FnOK cx 145 B.strings_makeASCIISet:=fnOK_of (by kernel_rfl) Tryz.func176 (by kernel_rfl)
theorem k_strings_asciiSet_contains:FnOK cx 146 B.strings_asciiSet_contains:=fnOK_of (by kernel_rfl) Tryz.func177 (by kernel_rfl)
theorem k_unicode_utf8_ValidRune:FnOK cx 147 B.unicode_utf8_ValidRune:=fnOK_of (by kernel_rfl) Tryz.func185 (by kernel_rfl)
theorem k_bytealg_Cutover:FnOK cx 148 B.bytealg_Cutover:=fnOK_of (by kernel_rfl) Tryz.func183 (by kernel_rfl)
theorem k_chaselaw04_ScanKnown:FnOK cx 156 B.chaselaw04_ScanKnown:=fnOK_of (by kernel_rfl) Tryz.func9 (by kernel_rfl)
theorem k_chaselaw04_works:FnOK cx 157 B.chaselaw04_works:=fnOK_of (by kernel_rfl) Tryz.func10 (by kernel_rfl)
theorem k_scan_Next:FnOK cx 158 B.scan_Next:=fnOK_of (by kernel_rfl) Tryz.func11 (by kernel_rfl)
theorem k_scan_All:FnOK cx 162 B.scan_All:=fnOK_of (by kernel_rfl) Tryz.func15 (by kernel_rfl)
theorem k_chaseref04_Same:FnOK cx 164 B.chaseref04_Same:=fnOK_of (by kernel_rfl) Tryz.func17 (by kernel_rfl)
theorem k_scan_Print:FnOK cx 165 B.scan_Print:=fnOK_of (by kernel_rfl) Tryz.func18 (by kernel_rfl)
theorem k_scan_Pack:FnOK cx 166 B.scan_Pack:=fnOK_of (by kernel_rfl) Tryz.func19 (by kernel_rfl)
theorem k_chaselaw04_reads:FnOK cx 168 B.chaselaw04_reads:=fnOK_of (by kernel_rfl) Tryz.func22 (by kernel_rfl)
theorem k_strings_Builder_WriteString:FnOK cx 169 B.strings_Builder_WriteString:=fnOK_of (by kernel_rfl) Tryz.func23 (by kernel_rfl)
theorem k_chaselaw04_fails:FnOK cx 170 B.chaselaw04_fails:=fnOK_of (by kernel_rfl) Tryz.func27 (by kernel_rfl)
theorem k_chaselaw04_text:FnOK cx 171 B.chaselaw04_text:=fnOK_of (by kernel_rfl) Tryz.func28 (by kernel_rfl)
theorem k_chaselaw04_name:FnOK cx 172 B.chaselaw04_name:=fnOK_of (by kernel_rfl) Tryz.func29 (by kernel_rfl)
theorem k_chaselaw04_number:FnOK cx 173 B.chaselaw04_number:=fnOK_of (by kernel_rfl) Tryz.func30 (by kernel_rfl)
theorem k_scan_reader_skip:FnOK cx 174 B.scan_reader_skip:=fnOK_of (by kernel_rfl) Tryz.func31 (by kernel_rfl)
theorem k_scan_reader_token:FnOK cx 175 B.scan_reader_token:=fnOK_of (by kernel_rfl) Tryz.func32 (by kernel_rfl)
theorem k_scan_tokens:FnOK cx 178 B.scan_tokens:=fnOK_of (by kernel_rfl) Tryz.func37 (by kernel_rfl)
theorem k_scan_form:FnOK cx 180 B.scan_form:=fnOK_of (by kernel_rfl) Tryz.func41 (by kernel_rfl)
theorem k_scan_run_string:FnOK cx 182 B.scan_run_string:=fnOK_of (by kernel_rfl) Tryz.func51 (by kernel_rfl)
theorem k_scan_blank:FnOK cx 183 B.scan_blank:=fnOK_of (by kernel_rfl) Tryz.func52 (by kernel_rfl)
theorem k_scan_reader_skip_1:FnOK cx 184 B.scan_reader_skip_1:=fnOK_of (by kernel_rfl) Tryz.func53 (by kernel_rfl)
theorem k_scan_readers:FnOK cx 185 B.scan_readers:=fnOK_of (by kernel_rfl) Tryz.func54 (by kernel_rfl)
theorem k_scan_reader_binary:FnOK cx 186 B.scan_reader_binary:=fnOK_of (by kernel_rfl) Tryz.func55 (by kernel_rfl)
theorem k_scan_tokens_1:FnOK cx 192 B.scan_tokens_1:=fnOK_of (by kernel_rfl) Tryz.func70 (by kernel_rfl)
theorem k_scan_reader_quoted:FnOK cx 193 B.scan_reader_quoted:=fnOK_of (by kernel_rfl) Tryz.func85 (by kernel_rfl)
theorem k_scan_reader_stray:FnOK cx 194 B.scan_reader_stray:=fnOK_of (by kernel_rfl) Tryz.func86 (by kernel_rfl)
theorem k_scan_reader_brace:FnOK cx 195 B.scan_reader_brace:=fnOK_of (by kernel_rfl) Tryz.func87 (by kernel_rfl)
theorem k_scan_reader_bracket:FnOK cx 196 B.scan_reader_bracket:=fnOK_of (by kernel_rfl) Tryz.func88 (by kernel_rfl)
theorem k_scan_reader_less:FnOK cx 197 B.scan_reader_less:=fnOK_of (by kernel_rfl) Tryz.func89 (by kernel_rfl)
theorem k_scan_reader_greater:FnOK cx 198 B.scan_reader_greater:=fnOK_of (by kernel_rfl) Tryz.func90 (by kernel_rfl)
theorem k_scan_reader_slash:FnOK cx 199 B.scan_reader_slash:=fnOK_of (by kernel_rfl) Tryz.func91 (by kernel_rfl)
theorem k_scan_reader_fixed:FnOK cx 200 B.scan_reader_fixed:=fnOK_of (by kernel_rfl) Tryz.func92 (by kernel_rfl)
theorem k_scan_reader_counted:FnOK cx 201 B.scan_reader_counted:=fnOK_of (by kernel_rfl) Tryz.func93 (by kernel_rfl)
theorem k_scan_text:FnOK cx 209 B.scan_text:=fnOK_of (by kernel_rfl) Tryz.func119 (by kernel_rfl)
theorem k_scan_reader_follows:FnOK cx 210 B.scan_reader_follows:=fnOK_of (by kernel_rfl) Tryz.func120 (by kernel_rfl)
theorem k_ascii_Unhex:FnOK cx 211 B.ascii_Unhex:=fnOK_of (by kernel_rfl) Tryz.func121 (by kernel_rfl)
theorem k_ascii_Unbase85:FnOK cx 212 B.ascii_Unbase85:=fnOK_of (by kernel_rfl) Tryz.func122 (by kernel_rfl)
theorem k_scan_number:FnOK cx 213 B.scan_number:=fnOK_of (by kernel_rfl) Tryz.func123 (by kernel_rfl)
theorem k_ascii_read_ascii_half:FnOK cx 214 B.ascii_read_ascii_half:=fnOK_of (by kernel_rfl) Tryz.func133 (by kernel_rfl)
theorem k_ascii_half_take:FnOK cx 215 B.ascii_half_take:=fnOK_of (by kernel_rfl) Tryz.func134 (by kernel_rfl)
theorem k_ascii_read_ascii_tens:FnOK cx 216 B.ascii_read_ascii_tens:=fnOK_of (by kernel_rfl) Tryz.func135 (by kernel_rfl)
theorem k_ascii_tens_take:FnOK cx 217 B.ascii_tens_take:=fnOK_of (by kernel_rfl) Tryz.func136 (by kernel_rfl)
theorem k_ascii_read_ascii_half_1:FnOK cx 218 B.ascii_read_ascii_half_1:=fnOK_of (by kernel_rfl) Tryz.func149 (by kernel_rfl)
theorem k_ascii_solid:FnOK cx 219 B.ascii_solid:=fnOK_of (by kernel_rfl) Tryz.func150 (by kernel_rfl)
theorem k_ascii_bounded:FnOK cx 220 B.ascii_bounded:=fnOK_of (by kernel_rfl) Tryz.func151 (by kernel_rfl)
theorem k_ascii_nibble:FnOK cx 221 B.ascii_nibble:=fnOK_of (by kernel_rfl) Tryz.func152 (by kernel_rfl)
theorem k_ascii_read_ascii_tens_1:FnOK cx 222 B.ascii_read_ascii_tens_1:=fnOK_of (by kernel_rfl) Tryz.func153 (by kernel_rfl)
theorem k_ascii_tens_close:FnOK cx 223 B.ascii_tens_close:=fnOK_of (by kernel_rfl) Tryz.func154 (by kernel_rfl)
theorem k_ascii_fold:FnOK cx 224 B.ascii_fold:=fnOK_of (by kernel_rfl) Tryz.func155 (by kernel_rfl)
theorem k_ascii_solid_1:FnOK cx 225 B.ascii_solid_1:=fnOK_of (by kernel_rfl) Tryz.func169 (by kernel_rfl)
theorem k_ascii_blank:FnOK cx 226 B.ascii_blank:=fnOK_of (by kernel_rfl) Tryz.func170 (by kernel_rfl)
def fnT:FT:=(.node (.node (.node (.node (.node (.node (.node .nil 63 B.lex_Number .nil) 65 B.lex_Word (.node .nil 67 B.lex_Regular .nil)) 69 B.lex_Unquote (.node (.node .nil 71
 B.lex_Quote .nil) 74 B.lex_Check .nil)) 75 B.lex_numeral_whole (.node (.node (.node .nil 76 B.lex_numeral_radix .nil) 77 B.lex_numeral_decimal .nil) 82 B.lex_regular (.node (.node .nil
 86 B.lex_quoted_next .nil) 87 B.lex_quoted_run .nil))) 91 B.strings_Builder_WriteByte (.node (.node (.node (.node .nil 92 B.strings_Builder_String .nil) 93 B.lex_right (.node .nil 94
 B.strings_HasPrefix .nil)) 95 B.lex_count (.node (.node .nil 96 B.lex_numeral_answer .nil) 97 B.strings_Cut .nil)) 98 B.strings_ContainsAny (.node (.node (.node .nil 99 B.lex_pattern
 .nil) 100 B.real_Parse .nil) 106 B.lex_quoted_escape (.node (.node .nil 107 B.lex_quoted_line .nil) 109 B.strings_Builder_copyCheck .nil)))) 110 B.real_Is (.node (.node (.node (.node
 (.node .nil 111 B.lex_named .nil) 112 B.lex_digits (.node .nil 113 B.real_scanner_decimal .nil)) 114 B.real_front (.node (.node .nil 115 B.real_fraction .nil) 116 B.real_double .nil))
 117 B.lex_letters (.node (.node (.node .nil 119 B.lex_digits_1 .nil) 120 B.real_scanner_one .nil) 121 B.real_scanner_digits (.node (.node .nil 122 B.lex_value .nil) 123 B.stringslite_HasPrefix
 .nil))) 128 B.lex_Text (.node (.node (.node (.node .nil 133 B.real_Print .nil) 136 B.real_Print_1 (.node .nil 137 B.real_result_string .nil)) 138 B.real_whole (.node (.node .nil 139
 B.real_whole_1 .nil) 140 B.stringslite_Cut .nil)) 141 B.strings_IndexAny (.node (.node (.node .nil 143 B.strings_IndexRune .nil) 144 B.strings_shouldUseASCIISet .nil) 145 B.strings_makeASCIISet
 (.node (.node .nil 146 B.strings_asciiSet_contains .nil) 147 B.unicode_utf8_ValidRune .nil))))) 148 B.bytealg_Cutover (.node (.node (.node (.node (.node (.node .nil 156 B.chaselaw04_ScanKnown
 .nil) 157 B.chaselaw04_works (.node .nil 158 B.scan_Next .nil)) 162 B.scan_All (.node (.node .nil 164 B.chaseref04_Same .nil) 165 B.scan_Print .nil)) 166 B.scan_Pack (.node (.node (.node
 .nil 168 B.chaselaw04_reads .nil) 169 B.strings_Builder_WriteString .nil) 170 B.chaselaw04_fails (.node (.node .nil 171 B.chaselaw04_text .nil) 172 B.chaselaw04_name .nil))) 173 B.chaselaw04_number
 (.node (.node (.node (.node .nil 174 B.scan_reader_skip .nil) 175 B.scan_reader_token (.node .nil 178 B.scan_tokens .nil)) 180 B.scan_form (.node (.node .nil 182 B.scan_run_string .nil)
 183 B.scan_blank .nil)) 184 B.scan_reader_skip_1 (.node (.node (.node .nil 185 B.scan_readers .nil) 186 B.scan_reader_binary .nil) 192 B.scan_tokens_1 (.node (.node .nil 193 B.scan_reader_quoted
 .nil) 194 B.scan_reader_stray .nil)))) 195 B.scan_reader_brace (.node (.node (.node (.node (.node .nil 196 B.scan_reader_bracket .nil) 197 B.scan_reader_less (.node .nil 198 B.scan_reader_greater
 .nil)) 199 B.scan_reader_slash (.node (.node .nil 200 B.scan_reader_fixed .nil) 201 B.scan_reader_counted .nil)) 209 B.scan_text (.node (.node (.node .nil 210 B.scan_reader_follows
 .nil) 211 B.ascii_Unhex .nil) 212 B.ascii_Unbase85 (.node (.node .nil 213 B.scan_number .nil) 214 B.ascii_read_ascii_half .nil))) 215 B.ascii_half_take (.node (.node (.node (.node .nil
 216 B.ascii_read_ascii_tens .nil) 217 B.ascii_tens_take .nil) 218 B.ascii_read_ascii_half_1 (.node (.node .nil 219 B.ascii_solid .nil) 220 B.ascii_bounded .nil)) 221 B.ascii_nibble
 (.node (.node (.node .nil 222 B.ascii_read_ascii_tens_1 .nil) 223 B.ascii_tens_close .nil) 224 B.ascii_fold (.node (.node .nil 225 B.ascii_solid_1 .nil) 226 B.ascii_blank .nil))))))
theorem fnT_all:fnT.All (FnOK cx):=⟨⟨⟨⟨⟨⟨⟨trivial,k_lex_Number,trivial⟩,k_lex_Word,⟨trivial,k_lex_Regular,trivial⟩⟩,k_lex_Unquote,⟨⟨trivial,k_lex_Quote,trivial⟩,k_lex_Check,
 trivial⟩⟩,k_lex_numeral_whole,⟨⟨⟨trivial,k_lex_numeral_radix,trivial⟩,k_lex_numeral_decimal,trivial⟩,k_lex_regular,⟨⟨trivial,k_lex_quoted_next,trivial⟩,k_lex_quoted_run,
 trivial⟩⟩⟩,k_strings_Builder_WriteByte,⟨⟨⟨⟨trivial,k_strings_Builder_String,trivial⟩,k_lex_right,⟨trivial,k_strings_HasPrefix,trivial⟩⟩,k_lex_count,⟨⟨trivial,k_lex_numeral_answer,
 trivial⟩,k_strings_Cut,trivial⟩⟩,k_strings_ContainsAny,⟨⟨⟨trivial,k_lex_pattern,trivial⟩,k_real_Parse,trivial⟩,k_lex_quoted_escape,⟨⟨trivial,k_lex_quoted_line,trivial⟩,
 k_strings_Builder_copyCheck,trivial⟩⟩⟩⟩,k_real_Is,⟨⟨⟨⟨⟨trivial,k_lex_named,trivial⟩,k_lex_digits,⟨trivial,k_real_scanner_decimal,trivial⟩⟩,k_real_front,⟨⟨trivial,k_real_fraction,
 trivial⟩,k_real_double,trivial⟩⟩,k_lex_letters,⟨⟨⟨trivial,k_lex_digits_1,trivial⟩,k_real_scanner_one,trivial⟩,k_real_scanner_digits,⟨⟨trivial,k_lex_value,trivial⟩,k_stringslite_HasPrefix,
 trivial⟩⟩⟩,k_lex_Text,⟨⟨⟨⟨trivial,k_real_Print,trivial⟩,k_real_Print_1,⟨trivial,k_real_result_string,trivial⟩⟩,k_real_whole,⟨⟨trivial,k_real_whole_1,trivial⟩,k_stringslite_Cut,
 trivial⟩⟩,k_strings_IndexAny,⟨⟨⟨trivial,k_strings_IndexRune,trivial⟩,k_strings_shouldUseASCIISet,trivial⟩,k_strings_makeASCIISet,⟨⟨trivial,k_strings_asciiSet_contains,trivial⟩,
 k_unicode_utf8_ValidRune,trivial⟩⟩⟩⟩⟩,k_bytealg_Cutover,⟨⟨⟨⟨⟨⟨trivial,k_chaselaw04_ScanKnown,trivial⟩,k_chaselaw04_works,⟨trivial,k_scan_Next,trivial⟩⟩,k_scan_All,⟨⟨trivial,
 k_chaseref04_Same,trivial⟩,k_scan_Print,trivial⟩⟩,k_scan_Pack,⟨⟨⟨trivial,k_chaselaw04_reads,trivial⟩,k_strings_Builder_WriteString,trivial⟩,k_chaselaw04_fails,⟨⟨trivial,
 k_chaselaw04_text,trivial⟩,k_chaselaw04_name,trivial⟩⟩⟩,k_chaselaw04_number,⟨⟨⟨⟨trivial,k_scan_reader_skip,trivial⟩,k_scan_reader_token,⟨trivial,k_scan_tokens,trivial⟩⟩,
 k_scan_form,⟨⟨trivial,k_scan_run_string,trivial⟩,k_scan_blank,trivial⟩⟩,k_scan_reader_skip_1,⟨⟨⟨trivial,k_scan_readers,trivial⟩,k_scan_reader_binary,trivial⟩,k_scan_tokens_1,
 ⟨⟨trivial,k_scan_reader_quoted,trivial⟩,k_scan_reader_stray,trivial⟩⟩⟩⟩,k_scan_reader_brace,⟨⟨⟨⟨⟨trivial,k_scan_reader_bracket,trivial⟩,k_scan_reader_less,⟨trivial,k_scan_reader_greater,
 trivial⟩⟩,k_scan_reader_slash,⟨⟨trivial,k_scan_reader_fixed,trivial⟩,k_scan_reader_counted,trivial⟩⟩,k_scan_text,⟨⟨⟨trivial,k_scan_reader_follows,trivial⟩,k_ascii_Unhex,
 trivial⟩,k_ascii_Unbase85,⟨⟨trivial,k_scan_number,trivial⟩,k_ascii_read_ascii_half,trivial⟩⟩⟩,k_ascii_half_take,⟨⟨⟨⟨trivial,k_ascii_read_ascii_tens,trivial⟩,k_ascii_tens_take,
 trivial⟩,k_ascii_read_ascii_half_1,⟨⟨trivial,k_ascii_solid,trivial⟩,k_ascii_bounded,trivial⟩⟩,k_ascii_nibble,⟨⟨⟨trivial,k_ascii_read_ascii_tens_1,trivial⟩,k_ascii_tens_close,
 trivial⟩,k_ascii_fold,⟨⟨trivial,k_ascii_solid_1,trivial⟩,k_ascii_blank,trivial⟩⟩⟩⟩⟩⟩
def enT:Nat→Option Entry:=fun k=>if k=13 then some B.E_strings_Repeat else if k=179 then some B.E_strings_Join else if k=132 then some B.E_strconv_Itoa else if k=84 then some B.E_strings_IndexByte else if k=118 then some B.E_abi_NoEscape else if k=142 then some B.E_stringslite_Index else none
def tab:Tab:=⟨fnT.get,enT⟩
theorem has_strings_Repeat:B.H_strings_Repeat tab:=⟨rfl⟩
theorem has_strings_Join:B.H_strings_Join tab:=⟨rfl⟩
theorem has_strconv_Itoa:B.H_strconv_Itoa tab:=⟨rfl⟩
theorem has_strings_IndexByte:B.H_strings_IndexByte tab:=⟨rfl⟩
theorem has_abi_NoEscape:B.H_abi_NoEscape tab:=⟨rfl⟩
theorem has_stringslite_Index:B.H_stringslite_Index tab:=⟨rfl⟩
theorem has_chaselaw04_text:B.H_chaselaw04_text tab:=⟨rfl,rfl⟩
theorem has_chaselaw04_name:B.H_chaselaw04_name tab:=⟨rfl,rfl⟩
theorem has_chaselaw04_number:B.H_chaselaw04_number tab:=⟨rfl,rfl⟩
theorem has_chaseref04_Same:B.H_chaseref04_Same tab:=⟨rfl,rfl⟩
theorem has_scan_run_string:B.H_scan_run_string tab:=⟨rfl,rfl⟩
theorem has_scan_blank:B.H_scan_blank tab:=⟨rfl,rfl,has_strings_IndexByte⟩
theorem has_scan_reader_skip_1:B.H_scan_reader_skip_1 tab:=⟨rfl,rfl⟩
theorem has_lex_Regular:B.H_lex_Regular tab:=⟨rfl,rfl,has_strings_IndexByte⟩
theorem has_strings_Builder_String:B.H_strings_Builder_String tab:=⟨rfl,rfl⟩
theorem has_scan_reader_stray:B.H_scan_reader_stray tab:=⟨rfl,rfl⟩
theorem has_scan_reader_brace:B.H_scan_reader_brace tab:=⟨rfl,rfl⟩
theorem has_lex_regular:B.H_lex_regular tab:=⟨rfl,rfl,has_lex_Regular⟩
theorem has_real_Is:B.H_real_Is tab:=⟨rfl,rfl⟩
theorem has_strings_Builder_copyCheck:B.H_strings_Builder_copyCheck tab:=⟨rfl,rfl,has_abi_NoEscape⟩
theorem has_real_result_string:B.H_real_result_string tab:=⟨rfl,rfl,has_real_Is⟩
theorem has_scan_reader_follows:B.H_scan_reader_follows tab:=⟨rfl,rfl⟩
theorem has_scan_number:B.H_scan_number tab:=⟨rfl,rfl⟩
theorem has_lex_quoted_next:B.H_lex_quoted_next tab:=⟨rfl,rfl⟩
theorem has_lex_numeral_answer:B.H_lex_numeral_answer tab:=⟨rfl,rfl⟩
theorem has_real_whole_1:B.H_real_whole_1 tab:=⟨rfl,rfl⟩
theorem has_lex_quoted_line:B.H_lex_quoted_line tab:=⟨rfl,rfl⟩
theorem has_ascii_read_ascii_half_1:B.H_ascii_read_ascii_half_1 tab:=⟨rfl,rfl⟩
theorem has_ascii_bounded:B.H_ascii_bounded tab:=⟨rfl,rfl⟩
theorem has_ascii_nibble:B.H_ascii_nibble tab:=⟨rfl,rfl,has_strings_IndexByte⟩
theorem has_ascii_read_ascii_tens_1:B.H_ascii_read_ascii_tens_1 tab:=⟨rfl,rfl⟩
theorem has_ascii_fold:B.H_ascii_fold tab:=⟨rfl,rfl⟩
theorem has_stringslite_HasPrefix:B.H_stringslite_HasPrefix tab:=⟨rfl,rfl⟩
theorem has_stringslite_Cut:B.H_stringslite_Cut tab:=⟨rfl,rfl,has_stringslite_Index⟩
theorem has_real_front:B.H_real_front tab:=⟨rfl,rfl⟩
theorem has_real_fraction:B.H_real_fraction tab:=⟨rfl,rfl⟩
theorem has_real_double:B.H_real_double tab:=⟨rfl,rfl⟩
theorem has_lex_letters:B.H_lex_letters tab:=⟨rfl,rfl⟩
theorem has_strings_shouldUseASCIISet:B.H_strings_shouldUseASCIISet tab:=⟨rfl,rfl⟩
theorem has_strings_makeASCIISet:B.H_strings_makeASCIISet tab:=⟨rfl,rfl⟩
theorem has_strings_asciiSet_contains:B.H_strings_asciiSet_contains tab:=⟨rfl,rfl⟩
theorem has_real_scanner_one:B.H_real_scanner_one tab:=⟨rfl,rfl⟩
theorem has_real_scanner_digits:B.H_real_scanner_digits tab:=⟨rfl,rfl,has_real_scanner_one⟩
theorem has_ascii_blank:B.H_ascii_blank tab:=⟨rfl,rfl⟩
theorem has_lex_value:B.H_lex_value tab:=⟨rfl,rfl⟩
theorem has_unicode_utf8_ValidRune:B.H_unicode_utf8_ValidRune tab:=⟨rfl,rfl⟩
theorem has_bytealg_Cutover:B.H_bytealg_Cutover tab:=⟨rfl,rfl⟩
theorem has_scan_reader_skip:B.H_scan_reader_skip tab:=⟨rfl,rfl,has_scan_run_string,has_scan_blank,has_scan_reader_skip_1⟩
theorem has_strings_Builder_WriteByte:B.H_strings_Builder_WriteByte tab:=⟨rfl,rfl,has_strings_Builder_copyCheck⟩
theorem has_strings_Builder_WriteString:B.H_strings_Builder_WriteString tab:=⟨rfl,rfl,has_strings_Builder_copyCheck⟩
theorem has_lex_Quote:B.H_lex_Quote tab:=⟨rfl,rfl,has_strings_Builder_WriteByte,has_strings_Builder_String⟩
theorem has_scan_reader_fixed:B.H_scan_reader_fixed tab:=⟨rfl,rfl,has_scan_reader_stray,has_scan_number⟩
theorem has_real_whole:B.H_real_whole tab:=⟨rfl,rfl,has_real_whole_1⟩
theorem has_ascii_half_take:B.H_ascii_half_take tab:=⟨rfl,rfl,has_ascii_nibble⟩
theorem has_strings_HasPrefix:B.H_strings_HasPrefix tab:=⟨rfl,rfl,has_stringslite_HasPrefix⟩
theorem has_strings_Cut:B.H_strings_Cut tab:=⟨rfl,rfl,has_stringslite_Cut⟩
theorem has_lex_quoted_escape:B.H_lex_quoted_escape tab:=⟨rfl,rfl,has_lex_quoted_next,has_lex_letters,has_lex_quoted_line⟩
theorem has_ascii_tens_close:B.H_ascii_tens_close tab:=⟨rfl,rfl,has_ascii_fold⟩
theorem has_real_scanner_decimal:B.H_real_scanner_decimal tab:=⟨rfl,rfl,has_real_scanner_one,has_real_scanner_digits⟩
theorem has_ascii_solid_1:B.H_ascii_solid_1 tab:=⟨rfl,rfl,has_ascii_blank⟩
theorem has_lex_digits_1:B.H_lex_digits_1 tab:=⟨rfl,rfl,has_lex_value⟩
theorem has_strings_IndexRune:B.H_strings_IndexRune tab:=⟨rfl,rfl,has_strings_IndexByte,has_unicode_utf8_ValidRune,has_bytealg_Cutover⟩
theorem has_scan_form:B.H_scan_form tab:=⟨rfl,rfl,has_strings_Builder_WriteByte,has_strings_Builder_WriteString,has_strings_Builder_String⟩
theorem has_real_Print_1:B.H_real_Print_1 tab:=⟨rfl,rfl,has_strings_Builder_WriteByte,has_real_whole,has_strings_Builder_String⟩
theorem has_lex_quoted_run:B.H_lex_quoted_run tab:=⟨rfl,rfl,has_lex_quoted_next,has_lex_quoted_escape,has_lex_quoted_line⟩
theorem has_ascii_tens_take:B.H_ascii_tens_take tab:=⟨rfl,rfl,has_ascii_tens_close,has_ascii_fold⟩
theorem has_real_Parse:B.H_real_Parse tab:=⟨rfl,rfl,has_real_scanner_decimal,has_real_front,has_real_fraction,has_real_double,has_real_Is⟩
theorem has_ascii_solid:B.H_ascii_solid tab:=⟨rfl,rfl,has_ascii_solid_1⟩
theorem has_lex_digits:B.H_lex_digits tab:=⟨rfl,rfl,has_lex_digits_1⟩
theorem has_strings_IndexAny:B.H_strings_IndexAny tab:=⟨rfl,rfl,has_strings_IndexRune,has_strings_shouldUseASCIISet,has_strings_makeASCIISet,has_strings_asciiSet_contains⟩
theorem has_real_Print:B.H_real_Print tab:=⟨rfl,rfl,has_real_Print_1,has_real_result_string⟩
theorem has_lex_Unquote:B.H_lex_Unquote tab:=⟨rfl,rfl,has_lex_quoted_next,has_lex_quoted_run⟩
theorem has_ascii_read_ascii_half:B.H_ascii_read_ascii_half tab:=⟨rfl,rfl,has_ascii_read_ascii_half_1,has_ascii_solid,has_ascii_bounded⟩
theorem has_ascii_read_ascii_tens:B.H_ascii_read_ascii_tens tab:=⟨rfl,rfl,has_ascii_read_ascii_tens_1,has_ascii_solid,has_ascii_bounded⟩
theorem has_lex_count:B.H_lex_count tab:=⟨rfl,rfl,has_lex_digits⟩
theorem has_strings_ContainsAny:B.H_strings_ContainsAny tab:=⟨rfl,rfl,has_strings_IndexAny⟩
theorem has_lex_pattern:B.H_lex_pattern tab:=⟨rfl,rfl,has_real_Parse⟩
theorem has_ascii_Unhex:B.H_ascii_Unhex tab:=⟨rfl,rfl,has_ascii_read_ascii_half,has_ascii_half_take⟩
theorem has_ascii_Unbase85:B.H_ascii_Unbase85 tab:=⟨rfl,rfl,has_ascii_read_ascii_tens,has_ascii_tens_take⟩
theorem has_lex_numeral_whole:B.H_lex_numeral_whole tab:=⟨rfl,rfl,has_strings_HasPrefix,has_lex_count,has_lex_numeral_answer⟩
theorem has_lex_numeral_radix:B.H_lex_numeral_radix tab:=⟨rfl,rfl,has_strings_Cut,has_lex_count,has_lex_numeral_answer⟩
theorem has_lex_numeral_decimal:B.H_lex_numeral_decimal tab:=⟨rfl,rfl,has_strings_ContainsAny,has_lex_pattern,has_real_Parse⟩
theorem has_lex_Number:B.H_lex_Number tab:=⟨rfl,rfl,has_lex_numeral_whole,has_lex_numeral_radix,has_lex_numeral_decimal⟩
theorem has_lex_named:B.H_lex_named tab:=⟨rfl,rfl,has_lex_regular,has_lex_Number⟩
theorem has_lex_Word:B.H_lex_Word tab:=⟨rfl,rfl,has_lex_regular,has_lex_Number⟩
theorem has_lex_right:B.H_lex_right tab:=⟨rfl,rfl,has_real_Is,has_lex_named⟩
theorem has_lex_Check:B.H_lex_Check tab:=⟨rfl,rfl,has_lex_right⟩
theorem has_lex_Text:B.H_lex_Text tab:=⟨rfl,rfl,has_lex_Check,has_strconv_Itoa,has_real_Print,has_lex_Quote⟩
theorem has_scan_text:B.H_scan_text tab:=⟨rfl,rfl,has_lex_Check⟩
theorem has_scan_Pack:B.H_scan_Pack tab:=⟨rfl,rfl,has_lex_Check,has_scan_form,has_lex_Text⟩
theorem has_scan_Print:B.H_scan_Print tab:=⟨rfl,rfl,has_lex_Text,has_strings_Join⟩
theorem has_scan_reader_quoted:B.H_scan_reader_quoted tab:=⟨rfl,rfl,has_lex_Unquote,has_scan_text⟩
theorem has_scan_reader_bracket:B.H_scan_reader_bracket tab:=⟨rfl,rfl,has_scan_text⟩
theorem has_scan_reader_less:B.H_scan_reader_less tab:=⟨rfl,rfl,has_scan_reader_follows,has_scan_text,has_ascii_Unhex,has_ascii_Unbase85⟩
theorem has_scan_reader_greater:B.H_scan_reader_greater tab:=⟨rfl,rfl,has_scan_reader_follows,has_scan_text⟩
theorem has_scan_reader_slash:B.H_scan_reader_slash tab:=⟨rfl,rfl,has_scan_reader_follows,has_scan_run_string,has_lex_Regular,has_scan_text⟩
theorem has_scan_reader_counted:B.H_scan_reader_counted tab:=⟨rfl,rfl,has_scan_reader_stray,has_scan_text⟩
theorem has_scan_readers:B.H_scan_readers tab:=⟨rfl,rfl,has_scan_reader_quoted,has_scan_reader_stray,has_scan_reader_brace,has_scan_reader_bracket,has_scan_reader_less,has_scan_reader_greater,has_scan_reader_slash⟩
theorem has_scan_reader_binary:B.H_scan_reader_binary tab:=⟨rfl,rfl,has_scan_reader_fixed,has_scan_reader_counted,has_scan_reader_stray⟩
theorem has_scan_reader_token:B.H_scan_reader_token tab:=⟨rfl,rfl,has_scan_readers,has_scan_reader_binary,has_scan_run_string,has_lex_Regular,has_lex_Word⟩
theorem has_scan_Next:B.H_scan_Next tab:=⟨rfl,rfl,has_scan_reader_skip,has_scan_reader_token⟩
theorem has_scan_tokens_1:B.H_scan_tokens_1 tab:=⟨rfl,rfl,has_scan_Next⟩
theorem has_scan_tokens:B.H_scan_tokens tab:=⟨rfl,rfl,has_scan_tokens_1⟩
theorem has_scan_All:B.H_scan_All tab:=⟨rfl,rfl,has_scan_tokens⟩
theorem has_chaselaw04_fails:B.H_chaselaw04_fails tab:=⟨rfl,rfl,has_scan_All⟩
theorem has_chaselaw04_reads:B.H_chaselaw04_reads tab:=⟨rfl,rfl,has_scan_All,has_chaseref04_Same⟩
theorem has_chaselaw04_works:B.H_chaselaw04_works tab:=⟨rfl,rfl,has_chaselaw04_number,has_chaselaw04_reads,has_chaselaw04_name,has_chaselaw04_text,has_scan_Next,has_scan_Print,has_scan_Pack,has_chaselaw04_fails⟩
theorem has_chaselaw04_ScanKnown:B.H_chaselaw04_ScanKnown tab:=⟨rfl,rfl,has_chaselaw04_works,has_strings_Repeat,has_chaselaw04_fails,has_chaselaw04_reads,has_chaselaw04_text,has_chaselaw04_name,has_chaselaw04_number,has_scan_Next,has_scan_Pack,has_scan_Print⟩
theorem tabOK_all (ok13:EntryOK chkD cx 13 B.E_strings_Repeat) (ok179:EntryOK chkD cx 179 B.E_strings_Join) (ok132:EntryOK chkD cx 132 B.E_strconv_Itoa) (ok84:EntryOK chkD cx 84 B.E_strings_IndexByte) (ok118:EntryOK chkD cx 118 B.E_abi_NoEscape) (ok142:EntryOK chkD cx 142 B.E_stringslite_Index):TabOK chkD cx tab:=tabOK_of fnT_all (fun f F h=>by
 simp only[enT]at h
 by_cases e13:f=13
 ·subst e13;simp only[if_true,Option.some.injEq]at h;subst h;exact ok13
 rw[if_neg e13]at h
 by_cases e179:f=179
 ·subst e179;simp only[if_true,Option.some.injEq]at h;subst h;exact ok179
 rw[if_neg e179]at h
 by_cases e132:f=132
 ·subst e132;simp only[if_true,Option.some.injEq]at h;subst h;exact ok132
 rw[if_neg e132]at h
 by_cases e84:f=84
 ·subst e84;simp only[if_true,Option.some.injEq]at h;subst h;exact ok84
 rw[if_neg e84]at h
 by_cases e118:f=118
 ·subst e118;simp only[if_true,Option.some.injEq]at h;subst h;exact ok118
 rw[if_neg e118]at h
 by_cases e142:f=142
 ·subst e142;simp only[if_true,Option.some.injEq]at h;subst h;exact ok142
 rw[if_neg e142]at h
 cases h)
end Go.Ev.ScanKnown

/- DERIVED: THE SHELF's CONTRACTS AT THIS DUMP, IN PLAIN WORDS (tools/lay-plain.mjs out of 'EvScanShelf.lean', which tools/lay-shelf.mjs wrote): THE SAME DECLARATIONS UNDER THE SAME NAMES: 'import', 'namespace', 'open', 'def', 'theorem' AND NOTHING ELSE: no command of the shelf's: FOR A HAND-IN. Each laying: the table of numbers ('.._ren') and one theorem, a field a fact of the dump's own or the kernel's comparison; each contract: ONE APPLICATION. -/
namespace Go.Proofs
open Go.Shelf
def Tryz.lays156_ren:Go.Shelf.Ren:=⟨fun | 156=>39 | 165=>49 | 166=>23 | 169=>24 | 240=>46 | 241=>83 | 276=>79 | 277=>116 | n=>n,fun | 31=>58 | 9=>9 | 3=>3 | 4=>4 | 0=>0 | 20=>20 | 72=>51 | 76=>54 | 70=>49 | 37=>22 | 75=>53 | 127=>89 | 164=>115 | 5=>5 | 80=>56 | n=>n,fun | n=>n⟩
theorem Tryz.lays156:Go.Proofs.Lays.n156 Tryz.prog Tryz.lays156_ren:={
 mixed:=by kernel_rfl
 f156:=Tryz.func39.trans (congrArg some (by kernel_rfl))
 f165:=Tryz.func49.trans (congrArg some (by kernel_rfl))
 f166:=Tryz.func23.trans (congrArg some (by kernel_rfl))
 f169:=Tryz.func24.trans (congrArg some (by kernel_rfl))
 f240:=Tryz.func46.trans (congrArg some (by kernel_rfl))
 f241:=Tryz.func83.trans (congrArg some (by kernel_rfl))
 f276:=Tryz.func79.trans (congrArg some (by kernel_rfl))
 f277:=Tryz.func116.trans (congrArg some (by kernel_rfl))
 t0:=Tryz.underlying0
 a0:=Tryz.isAgg0
 z0:=Tryz.sizeOf0
 v0:=Tryz.zeroValue0
 t3:=Tryz.underlying3
 a3:=Tryz.isAgg3
 z3:=Tryz.sizeOf3
 v3:=Tryz.zeroValue3
 t4:=Tryz.underlying4
 a4:=Tryz.isAgg4
 z4:=Tryz.sizeOf4
 v4:=Tryz.zeroValue4
 t9:=Tryz.underlying9
 a9:=Tryz.isAgg9
 z9:=Tryz.sizeOf9
 v9:=Tryz.zeroValue9
 t20:=Tryz.underlying20
 a20:=Tryz.isAgg20
 z20:=Tryz.sizeOf20
 v20:=Tryz.zeroValue20
 t31:=Tryz.underlying58
 a31:=Tryz.isAgg58
 z31:=Tryz.sizeOf58
 v31:=Tryz.zeroValue58
 t37:=Tryz.underlying22
 a37:=Tryz.isAgg22
 z37:=Tryz.sizeOf22
 v37:=Tryz.zeroValue22
 t70:=Tryz.underlying49
 a70:=Tryz.isAgg49
 z70:=Tryz.sizeOf49
 v70:=Tryz.zeroValue49
 t72:=Tryz.underlying51
 a72:=Tryz.isAgg51
 z72:=Tryz.sizeOf51
 v72:=Tryz.zeroValue51
 t75:=Tryz.underlying53
 a75:=Tryz.isAgg53
 z75:=Tryz.sizeOf53
 v75:=Tryz.zeroValue53
 t76:=Tryz.underlying54
 a76:=Tryz.isAgg54
 z76:=Tryz.sizeOf54
 v76:=Tryz.zeroValue54
 t127:=Tryz.underlying89
 a127:=Tryz.isAgg89
 z127:=Tryz.sizeOf89
 v127:=Tryz.zeroValue89
 t164:=Tryz.underlying115
 a164:=Tryz.isAgg115
 z164:=Tryz.sizeOf115
 v164:=Tryz.zeroValue115}
theorem Tryz.Builder_Extra_156:Builder.Extra Tryz.prog Tryz.lays156_ren:={
 sizeBuilder:=by kernel_rfl
 liesBuilder:=by kernel_rfl
 t5:=Tryz.underlying5
 a5:=Tryz.isAgg5
 z5:=Tryz.sizeOf5
 v5:=Tryz.zeroValue5
 infoByte:=by kernel_rfl
 cellsByte:=by kernel_rfl
 sizeByte:=by kernel_rfl
 neB5:=by decide}
open Go.RowKit in
theorem Tryz.strings_Join_none (a:Option Addr) (c:Nat) (sep:ByteArray) (w:World):
  Calls Tryz.prog 39 #[.slice a 0 c,.string sep] w fun e w'=>e= .returned (.string ⟨#[]⟩)∧w'=w:=Any.strings_Join_none Tryz.lays156 Tryz.Builder_Extra_156 a c sep w
open Go.RowKit in
theorem Tryz.strings_Join (bk o c:Nat) (xs:List ByteArray) (sep:ByteArray) (w:World) (hcells:∀(j:Nat) x,xs[j]? =some x→w.cell? ⟨bk,o+j,none⟩=some (.string x)) (hbk:bk<w.heap.size) (hN:xs.length≤140737488355328) (hcap:xs.length≤c) (hlen:(Lib.join (xs.map (·.data.toList)) sep.data.toList).length≤140737488355328):
  Calls Tryz.prog 39 #[.slice (some ⟨bk,o,none⟩) xs.length c,.string sep] w fun e w'=>e= .returned (.string ⟨(Lib.join (xs.map (·.data.toList)) sep.data.toList).toArray⟩)∧Below w.heap.size w w':=Any.strings_Join Tryz.lays156 Tryz.Builder_Extra_156 bk o c xs sep w hcells hbk hN hcap hlen
def Tryz.lays137_ren:Go.Shelf.Ren:=⟨fun | 137=>84 | 217=>117 | 266=>130 | n=>n,fun | 9=>9 | 5=>5 | 3=>3 | n=>n,fun | n=>n⟩
theorem Tryz.lays137:Go.Proofs.Lays.n137 Tryz.prog Tryz.lays137_ren:={
 mixed:=by kernel_rfl
 f137:=Tryz.func84.trans (congrArg some (by kernel_rfl))
 f217:=Tryz.func117.trans (congrArg some (by kernel_rfl))
 f266:=Tryz.func130.trans (congrArg some (by kernel_rfl))
 t3:=Tryz.underlying3
 a3:=Tryz.isAgg3
 z3:=Tryz.sizeOf3
 v3:=Tryz.zeroValue3
 t5:=Tryz.underlying5
 a5:=Tryz.isAgg5
 z5:=Tryz.sizeOf5
 v5:=Tryz.zeroValue5
 t9:=Tryz.underlying9
 a9:=Tryz.isAgg9
 z9:=Tryz.sizeOf9
 v9:=Tryz.zeroValue9}
open Go.RowKit in
theorem Tryz.strings_IndexByte (s:ByteArray) (c:Int) (w:World):
  Calls Tryz.prog 84 #[.string s,.int .u8 c] w fun e w'=>e= .returned (.int .i64 (Lib.indexByte s.data.toList c.toNat.toUInt8))∧w'=w:=Any.strings_IndexByte Tryz.lays137 s c w
def Tryz.laysM171_ren:Go.Shelf.Ren:=⟨fun | 171=>71 | 243=>106 | 246=>128 | 283=>143 | 284=>144 | 285=>145 | 286=>146 | 129=>164 | 317=>163 | 318=>165 | 319=>166 | 320=>167 | 337=>180 | 338=>181 | n=>n,fun | 3=>3 | 9=>9 | 2=>2 | 4=>4 | 171=>169 | 0=>0 | 53=>120 | 37=>22 | 5=>5 | 173=>172 | 212=>201 | 51=>117 | 20=>20 | 213=>202 | 46=>90 | 232=>216 | 233=>217 | n=>n,fun | 17=>1 | 18=>2 | 19=>3 | n=>n⟩
theorem Tryz.laysM171:Go.Proofs.LaysM.n171 Tryz.prog Tryz.laysM171_ren:={
 mixed:=by kernel_rfl
 f129:=Tryz.func164.trans (congrArg some (by kernel_rfl))
 f171:=Tryz.func71.trans (congrArg some (by kernel_rfl))
 f243:=Tryz.func106.trans (congrArg some (by kernel_rfl))
 f246:=Tryz.func128.trans (congrArg some (by kernel_rfl))
 f283:=Tryz.func143.trans (congrArg some (by kernel_rfl))
 f284:=Tryz.func144.trans (congrArg some (by kernel_rfl))
 f285:=Tryz.func145.trans (congrArg some (by kernel_rfl))
 f286:=Tryz.func146.trans (congrArg some (by kernel_rfl))
 f317:=Tryz.func163.trans (congrArg some (by kernel_rfl))
 f318:=Tryz.func165.trans (congrArg some (by kernel_rfl))
 f319:=Tryz.func166.trans (congrArg some (by kernel_rfl))
 f320:=Tryz.func167.trans (congrArg some (by kernel_rfl))
 f337:=Tryz.func180.trans (congrArg some (by kernel_rfl))
 f338:=Tryz.func181.trans (congrArg some (by kernel_rfl))
 t0:=Tryz.underlying0
 a0:=Tryz.isAgg0
 z0:=Tryz.sizeOf0
 v0:=Tryz.zeroValue0
 t2:=Tryz.underlying2
 a2:=Tryz.isAgg2
 z2:=Tryz.sizeOf2
 v2:=Tryz.zeroValue2
 t3:=Tryz.underlying3
 a3:=Tryz.isAgg3
 z3:=Tryz.sizeOf3
 v3:=Tryz.zeroValue3
 t4:=Tryz.underlying4
 a4:=Tryz.isAgg4
 z4:=Tryz.sizeOf4
 v4:=Tryz.zeroValue4
 t5:=Tryz.underlying5
 a5:=Tryz.isAgg5
 z5:=Tryz.sizeOf5
 v5:=Tryz.zeroValue5
 t9:=Tryz.underlying9
 a9:=Tryz.isAgg9
 z9:=Tryz.sizeOf9
 v9:=Tryz.zeroValue9
 t20:=Tryz.underlying20
 a20:=Tryz.isAgg20
 z20:=Tryz.sizeOf20
 v20:=Tryz.zeroValue20
 t37:=Tryz.underlying22
 a37:=Tryz.isAgg22
 z37:=Tryz.sizeOf22
 v37:=Tryz.zeroValue22
 t46:=Tryz.underlying90
 a46:=Tryz.isAgg90
 z46:=Tryz.sizeOf90
 v46:=Tryz.zeroValue90
 t51:=Tryz.underlying117
 a51:=Tryz.isAgg117
 z51:=Tryz.sizeOf117
 v51:=Tryz.zeroValue117
 t53:=Tryz.underlying120
 a53:=Tryz.isAgg120
 z53:=Tryz.sizeOf120
 v53:=Tryz.zeroValue120
 t171:=Tryz.underlying169
 a171:=Tryz.isAgg169
 z171:=Tryz.sizeOf169
 v171:=Tryz.zeroValue169
 t173:=Tryz.underlying172
 a173:=Tryz.isAgg172
 z173:=Tryz.sizeOf172
 v173:=Tryz.zeroValue172
 t212:=Tryz.underlying201
 a212:=Tryz.isAgg201
 z212:=Tryz.sizeOf201
 v212:=Tryz.zeroValue201
 t213:=Tryz.underlying202
 a213:=Tryz.isAgg202
 z213:=Tryz.sizeOf202
 t232:=Tryz.underlying216
 a232:=Tryz.isAgg216
 z232:=Tryz.sizeOf216
 v232:=Tryz.zeroValue216
 t233:=Tryz.underlying217
 a233:=Tryz.isAgg217
 z233:=Tryz.sizeOf217
 v233:=Tryz.zeroValue217
 g17:=by kernel_rfl
 g18:=by kernel_rfl
 g19:=by kernel_rfl
 i0:=by kernel_rfl
 i2:=by kernel_rfl
 i3:=by kernel_rfl
 i4:=by kernel_rfl
 i5:=by kernel_rfl
 i9:=by kernel_rfl
 i20:=by kernel_rfl
 i37:=by kernel_rfl
 i46:=by kernel_rfl
 i51:=by kernel_rfl
 i53:=by kernel_rfl
 i171:=by kernel_rfl
 i173:=by kernel_rfl
 i212:=by kernel_rfl
 i232:=by kernel_rfl
 i233:=by kernel_rfl
 m17:=by kernel_rfl
 m18:=by kernel_rfl
 m19:=by kernel_rfl}
open Go.RowKit Go.Sort Go.Lib in
theorem Tryz.strconv_Itoa (n:Int) (h0: -9223372036854775808≤n) (h1:n≤9223372036854775807) (w:World) (htab:Lib.TabIs Tryz.prog w "internal/strconv.uint64pow10" .u64 Lib.pow10Tab):
  Calls Tryz.prog 71 #[.int .i64 n] w fun e w'=>e= .returned (.string ⟨(Lib.itoa n).toArray⟩)∧∃k os,w'=grow (w.drewN k) os:=Any.strconv_Itoa Tryz.laysM171 n h0 h1 w htab
def Tryz.lays219_ren:Go.Shelf.Ren:=⟨fun | 219=>173 | 217=>117 | 225=>182 | 224=>183 | 267=>184 | 266=>130 | 314=>186 | n=>n,fun | 9=>9 | 3=>3 | 4=>4 | 5=>5 | 46=>90 | 146=>118 | 51=>117 | n=>n,fun | 1=>0 | n=>n⟩
theorem Tryz.lays219:Go.Proofs.Lays.n219 Tryz.prog Tryz.lays219_ren:={
 mixed:=by kernel_rfl
 f217:=Tryz.func117.trans (congrArg some (by kernel_rfl))
 f219:=Tryz.func173.trans (congrArg some (by kernel_rfl))
 f224:=Tryz.func183.trans (congrArg some (by kernel_rfl))
 f225:=Tryz.func182.trans (congrArg some (by kernel_rfl))
 f266:=Tryz.func130.trans (congrArg some (by kernel_rfl))
 f267:=Tryz.func184.trans (congrArg some (by kernel_rfl))
 f314:=Tryz.func186.trans (congrArg some (by kernel_rfl))
 t3:=Tryz.underlying3
 a3:=Tryz.isAgg3
 z3:=Tryz.sizeOf3
 v3:=Tryz.zeroValue3
 t4:=Tryz.underlying4
 a4:=Tryz.isAgg4
 z4:=Tryz.sizeOf4
 v4:=Tryz.zeroValue4
 t5:=Tryz.underlying5
 a5:=Tryz.isAgg5
 z5:=Tryz.sizeOf5
 v5:=Tryz.zeroValue5
 t9:=Tryz.underlying9
 a9:=Tryz.isAgg9
 z9:=Tryz.sizeOf9
 v9:=Tryz.zeroValue9
 t46:=Tryz.underlying90
 a46:=Tryz.isAgg90
 z46:=Tryz.sizeOf90
 v46:=Tryz.zeroValue90
 t51:=Tryz.underlying117
 a51:=Tryz.isAgg117
 z51:=Tryz.sizeOf117
 v51:=Tryz.zeroValue117
 t146:=Tryz.underlying118
 a146:=Tryz.isAgg118
 z146:=Tryz.sizeOf118
 v146:=Tryz.zeroValue118
 g1:=by kernel_rfl}
open Go.RowKit Go.Lib in
theorem Tryz.stringslite_Index_one (s:ByteArray) (c:UInt8) (w:World):
  Calls Tryz.prog 173 #[.string s,.string ⟨#[c]⟩] w fun e w'=>e= .returned (.int .i64 (Lib.indexByte s.data.toList c))∧w'=w:=Any.stringslite_Index_one Tryz.lays219 s c w
end Go.Proofs

/- DERIVED: THE SHELF's CONTRACTS AT THIS DUMP, IN PLAIN WORDS (tools/lay-plain.mjs out of 'TryzShelf.lean', which tools/lay-shelf.mjs wrote): THE SAME DECLARATIONS UNDER THE SAME NAMES: 'import', 'namespace', 'open', 'def', 'theorem' AND NOTHING ELSE: no command of the shelf's: FOR A HAND-IN. Each laying: the table of numbers ('.._ren') and one theorem, a field a fact of the dump's own or the kernel's comparison; each contract: ONE APPLICATION. -/
namespace Go.Proofs
open Go.Shelf
def Tryz.lays105_ren:Go.Shelf.Ren:=⟨fun | 105=>26 | 212=>47 | 99=>48 | 165=>49 | 166=>23 | 170=>50 | 169=>24 | 263=>80 | 264=>81 | 206=>82 | 240=>46 | 241=>83 | 276=>79 | 277=>116 | n=>n,fun | 9=>9 | 3=>3 | 4=>4 | 20=>20 | 0=>0 | 46=>90 | 109=>91 | 5=>5 | 72=>51 | 76=>54 | 51=>117 | 146=>118 | 53=>120 | 148=>121 | 70=>49 | 37=>22 | 75=>53 | 127=>89 | 164=>115 | 80=>56 | n=>n,fun | n=>n⟩
theorem Tryz.lays105:Go.Proofs.Lays.n105 Tryz.prog Tryz.lays105_ren:={
 mixed:=by kernel_rfl
 f99:=Tryz.func48.trans (congrArg some (by kernel_rfl))
 f105:=Tryz.func26.trans (congrArg some (by kernel_rfl))
 f165:=Tryz.func49.trans (congrArg some (by kernel_rfl))
 f166:=Tryz.func23.trans (congrArg some (by kernel_rfl))
 f169:=Tryz.func24.trans (congrArg some (by kernel_rfl))
 f170:=Tryz.func50.trans (congrArg some (by kernel_rfl))
 f206:=Tryz.func82.trans (congrArg some (by kernel_rfl))
 f212:=Tryz.func47.trans (congrArg some (by kernel_rfl))
 f240:=Tryz.func46.trans (congrArg some (by kernel_rfl))
 f241:=Tryz.func83.trans (congrArg some (by kernel_rfl))
 f263:=Tryz.func80.trans (congrArg some (by kernel_rfl))
 f264:=Tryz.func81.trans (congrArg some (by kernel_rfl))
 f276:=Tryz.func79.trans (congrArg some (by kernel_rfl))
 f277:=Tryz.func116.trans (congrArg some (by kernel_rfl))
 t0:=Tryz.underlying0
 a0:=Tryz.isAgg0
 z0:=Tryz.sizeOf0
 v0:=Tryz.zeroValue0
 t3:=Tryz.underlying3
 a3:=Tryz.isAgg3
 z3:=Tryz.sizeOf3
 v3:=Tryz.zeroValue3
 t4:=Tryz.underlying4
 a4:=Tryz.isAgg4
 z4:=Tryz.sizeOf4
 v4:=Tryz.zeroValue4
 t5:=Tryz.underlying5
 a5:=Tryz.isAgg5
 z5:=Tryz.sizeOf5
 v5:=Tryz.zeroValue5
 t9:=Tryz.underlying9
 a9:=Tryz.isAgg9
 z9:=Tryz.sizeOf9
 v9:=Tryz.zeroValue9
 t20:=Tryz.underlying20
 a20:=Tryz.isAgg20
 z20:=Tryz.sizeOf20
 v20:=Tryz.zeroValue20
 t37:=Tryz.underlying22
 a37:=Tryz.isAgg22
 z37:=Tryz.sizeOf22
 v37:=Tryz.zeroValue22
 t46:=Tryz.underlying90
 a46:=Tryz.isAgg90
 z46:=Tryz.sizeOf90
 v46:=Tryz.zeroValue90
 t51:=Tryz.underlying117
 a51:=Tryz.isAgg117
 z51:=Tryz.sizeOf117
 v51:=Tryz.zeroValue117
 t53:=Tryz.underlying120
 a53:=Tryz.isAgg120
 z53:=Tryz.sizeOf120
 v53:=Tryz.zeroValue120
 t70:=Tryz.underlying49
 a70:=Tryz.isAgg49
 z70:=Tryz.sizeOf49
 v70:=Tryz.zeroValue49
 t72:=Tryz.underlying51
 a72:=Tryz.isAgg51
 z72:=Tryz.sizeOf51
 v72:=Tryz.zeroValue51
 t75:=Tryz.underlying53
 a75:=Tryz.isAgg53
 z75:=Tryz.sizeOf53
 v75:=Tryz.zeroValue53
 t76:=Tryz.underlying54
 a76:=Tryz.isAgg54
 z76:=Tryz.sizeOf54
 v76:=Tryz.zeroValue54
 t109:=Tryz.underlying91
 a109:=Tryz.isAgg91
 z109:=Tryz.sizeOf91
 v109:=Tryz.zeroValue91
 t127:=Tryz.underlying89
 a127:=Tryz.isAgg89
 z127:=Tryz.sizeOf89
 v127:=Tryz.zeroValue89
 t146:=Tryz.underlying118
 a146:=Tryz.isAgg118
 z146:=Tryz.sizeOf118
 v146:=Tryz.zeroValue118
 t148:=Tryz.underlying121
 a148:=Tryz.isAgg121
 z148:=Tryz.sizeOf121
 v148:=Tryz.zeroValue121
 t164:=Tryz.underlying115
 a164:=Tryz.isAgg115
 z164:=Tryz.sizeOf115
 v164:=Tryz.zeroValue115}
theorem Tryz.Builder_Extra_105:Builder.Extra Tryz.prog Tryz.lays105_ren:={
 sizeBuilder:=by kernel_rfl
 liesBuilder:=by kernel_rfl
 t5:=Tryz.underlying5
 a5:=Tryz.isAgg5
 z5:=Tryz.sizeOf5
 v5:=Tryz.zeroValue5
 infoByte:=by kernel_rfl
 cellsByte:=by kernel_rfl
 sizeByte:=by kernel_rfl
 neB5:=by decide}
open Go.RowKit Go.Lib in
theorem Tryz.strings_Repeat (s:ByteArray) (c:Nat) (w:World) (hc:c≤9223372036854775807) (hlen:s.size*c≤140737488355328):
  Calls Tryz.prog 26 #[.string s,.int .i64 c] w fun e w'=>e= .returned (.string ⟨(Lib.repeatL s.data.toList c).toArray⟩)∧Below w.heap.size w w':=Any.strings_Repeat Tryz.lays105 Tryz.Builder_Extra_105 s c w hc hlen
end Go.Proofs
