/- Lists of tokens. -/
import Derived.Test.YthckfhllgpfidaaGreatDoorP09
import Derived.Test.YthckfhllgpfidaaGreatDoorP08
import Derived.Lib.Join
import Derived.Test.YthckfhllgpfidaaGreatDoorP07
import Derived.Test.YthckfhllgpfidaaGreatDoorP03
import Derived.Test.YthckfhllgpfidaaGreatDoorProg
import Derived.Shelf.Strings.Builder1
import Derived.Shelf.Strings.Builder2
import Derived.Shelf.Strings.OnBuilder
import Derived.Shelf.Small.Utf8
import Derived.Shelf.Small.Strs
import Derived.Shelf.Strings.BuilderF
import Derived.Shelf.Strings.BuilderK
import Derived.Shelf.Strings.Builder2Cap
import Derived.Shelf.Strconv.Itoa0
import Derived.Shelf.Strconv.Itoa1
import Derived.Shelf.LaysM
import Derived.Shelf.Strconv.Itoa2
import Derived.Shelf.Strconv.Itoa3
import Derived.Shelf.Strings.Search1
import Derived.Shelf.Strings.Search2
import Derived.Shelf.Strings.Cut
import Derived.Shelf.Strings.Shaped
import Derived.Shelf.Strings.Prefix
import Derived.Shelf.Strings.Runes
import Derived.Shelf.Strings.IndexAny
import Derived.Shelf.Strings.AsciiSet
import Derived.Shelf.Strings.IndexAnyAll
import Derived.Shelf.Bits.Mul64
import Derived.Shelf.Strings.Repeat
import Derived.Shelf.Strings.BuilderCap
set_option linter.unusedSimpArgs false
set_option linter.unusedVariables false
set_option linter.unusedSectionVars false
namespace Go.Ev
open Go
variable {T : Tab} {st : St}
abbrev Tok:=Int×Int×List UInt8
def tkA (t:Tok):List AV:=[.int .i64 t.1,.int .i64 t.2.1,.str t.2.2]
def toksA (l:List Tok):List AV:=l.flatMap tkA
theorem toksA_snoc (l:List Tok) (t:Tok):toksA (l++[t])=toksA l++tkA t:=by simp[toksA]
theorem toksA_at:∀{l:List Tok} {i:Nat} {t:Tok},l[i]? =some t→((toksA l).drop (i*3)).take 3=tkA t
 | [],i,t,h=>by simp at h
 | x::r,0,t,h=>by
   simp at h
   subst h
   simp[toksA,tkA]
 | x::r,i+1,t,h=>by
   have:=toksA_at (l:=r) (i:=i) (t:=t) (by simpa using h)
   rw[←this]
   have e:(i+1)*3=(tkA x).length+i*3:=by simp[tkA];omega
   rw[e]
   simp only[toksA,List.flatMap_cons]
   rw[←List.drop_drop,List.drop_left]
theorem rdCells_part {h:Heap} {n off c o k:Nat} {cs:List AV} (a:rdCells h n off c=some cs) (hk:o+k≤c):rdCells h n (off+o) k=some ((cs.drop o).take k):=by
 unfold rdCells at a⊢
 split at a
 all_goals
  first
  | (split at a
     ·rename_i hle
      injection a with a
      rw[if_pos (by omega),←a,List.drop_take,List.drop_drop,List.take_take,Nat.min_eq_left (by omega)]
     ·cases a)
  | cases a
theorem Rd.tok {h:Heap} {v:AV} {l:List Tok} {i:Nat} {t:Tok} (a:Rd h v 3 l.length (toksA l)) (ht:l[i]? =some t):∃n off cp,v= .slice n off l.length cp∧rdCells h n (off+i*3) 3=some [.int .i64 t.1,.int .i64 t.2.1,.str t.2.2]:=by
 have hil:i<l.length:=by
  rcases Nat.lt_or_ge i l.length with h | h
  ·exact h
  ·rw[List.getElem?_eq_none h]at ht;cases ht
 rcases a with ⟨h1,h2,h3⟩ | ⟨n,off,cp,h1,h2⟩
 ·omega
 ·refine⟨n,off,cp,h1,?_⟩
  have:=rdCells_part h2 (o:=i*3) (k:=3) (by omega)
  rw[toksA_at ht]at this
  exact this
def GrowT (st0 s:St) (v:AV) (l:List Tok):Prop:=Sl s v 134 3 l.length (toksA l)∧Mine [] st0 v∧NK v
theorem GrowT.nil (st0 s:St):GrowT st0 s .nilslice []:=⟨.nil _ _ _,.nil _ _,fun _ _ _ _ h=>by cases h⟩
theorem GrowT.ge {st0 s:St} {v:AV} {l:List Tok} (a:GrowT st0 s v l):∀n∈v.nms,st0.nx≤n:=fun n hn=>by
 rcases a.2.1 n hn with h | h
 ·cases h
 ·exact h
theorem GrowT.ext {st0 s s':St} {v:AV} {l:List Tok} (a:GrowT st0 s v l) (f:Ext s s') (hw:s.Wf):GrowT st0 s' v l:=⟨a.1.ext f hw,a.2.1,a.2.2⟩
theorem GrowT.frm {st0 s s':St} {v:AV} {l:List Tok} {S:List Nat} (a:GrowT st0 s v l) (f:Frm S s s') (hw:s.Wf) (hn:∀n∈v.nms,n∉S):GrowT st0 s' v l:=⟨a.1.frm f hw hn,a.2.1,a.2.2⟩
theorem GrowT.dropLoc {st0 s:St} {v:AV} {l:List Tok} {c:Nat} (a:GrowT st0 s v l) (hw:s.Wf):GrowT st0 ⟨Go.Ev.dropLoc c s.h,s.nx⟩ v l:=⟨a.1.dropLoc hw,a.2.1,a.2.2⟩
theorem GrowT.rd {st0 s:St} {v:AV} {l:List Tok} (a:GrowT st0 s v l):Rd s.h v 3 l.length (toksA l):=a.1.rd
theorem GrowT.form {st0 s:St} {v:AV} {l:List Tok} (a:GrowT st0 s v l):(v= .nilslice∧l=[])∨∃n,v= .slice n 0 l.length .full∧hget s.h n=some (.buf 134 3 (toksA l))∧st0.nx≤n:=by
 have hge:=a.ge
 obtain⟨⟨m,hsl⟩,b6,b7⟩:=a
 rcases hsl with ⟨k1,k2,k3⟩ | ⟨k1,k2,k3⟩ | ⟨ty',k1,k2,k3⟩
 ·exact .inl ⟨k1,List.length_eq_zero_iff.1 k3⟩
 ·exact .inr ⟨m,k1,k2,hge m (by rw[k1];simp[AV.nms])⟩
 ·exact absurd k1 (b7 _ _ _ _)
theorem GrowT.sc {st0 s:St} {v:AV} {l:List Tok} (a:GrowT st0 s v l):v.sc=true:=by
 rcases a.form with ⟨h,_⟩ | ⟨n,h,_⟩ <;> rw[h] <;> rfl
theorem GrowT.push {st0 s1:St} (hF:st0.nx≤s1.nx) (hw:s1.Wf) {v:AV} {l:List Tok} (a b:Int) (c:List UInt8) {k:Nat} (hk:0<k) (g:GrowT st0 s1 v l) (hl:l.length<1000000000000):
  CRes (aappend 134 3 32 ⟨(s1.nx,.cells 134 false [.int .i64 a,.int .i64 b,.str c])::s1.h,s1.nx+k⟩ v (.slice s1.nx 0 1 (.known 1))) fun v' s=>GrowT st0 s v' (l++[(a,b,c)])∧Frm v.nms s1 s:=by
 obtain⟨a1,a2,a3⟩:=g
 have xa:=Ext.newA hw (.cells 134 false [.int .i64 a,.int .i64 b,.str c]) hk
 have hap:=Sl.append (x:= .slice s1.nx 0 1 (.known 1)) (j:=1) (new:=[.int .i64 a,.int .i64 b,.str c]) (b:=32) (Frm.refl xa.wf v.nms) (fun n h=> .inl h) (a1.ext xa hw)
  (.inr ⟨_,_,_,rfl,rd_all (ty:=134) (l:=false) (by simp[hget_cons]) rfl⟩) (by simp[AV.sc]) (by omega) (by omega) (.inl (by omega))
 refine(hap.also (fun _ _ h=>aappend_nk h a3)).mono ?_
 rintro v2 s2 ⟨⟨k1,k2,k3,_⟩,hnk2⟩
 refine⟨⟨by rw[toksA_snoc];simpa [tkA] using k1,fun n hn=> ?_,hnk2⟩,(xa.fr v.nms).trans k2 (fun n h=> .inl h)⟩
 rcases k3 n hn with h | h
 ·exact a2 n h
 ·simp at h;exact .inr (by omega)
structure Dra where
 k:Nat
 n:Int
 t:List UInt8
instance:Inhabited Dra:=⟨⟨0,0,[]⟩⟩
def Dra.ok (d:Dra):Prop:=d.k<256∧-2147483648≤d.n∧d.n≤2147483647∧d.t.length<9223372036854775808
def draA (d:Dra):List AV:=[.int .u8 (d.k:Int),.int .i32 d.n,.str d.t]
def drasA (l:List Dra):List AV:=l.flatMap draA
def Dra.tok (d:Dra):Tok:=draftT d.k d.n d.t
theorem drasA_len:∀l:List Dra,(drasA l).length=l.length*3
 | []=>rfl
 | t::r=>by
   have:=drasA_len r
   simp only[drasA,List.flatMap_cons,List.length_append,List.length_cons]at this⊢
   simp only[draA,List.length_cons,List.length_nil]
   omega
theorem drasA_at:∀{l:List Dra} {i:Nat} {t:Dra},l[i]? =some t→((drasA l).drop (i*3)).take 3=draA t
 | [],i,t,h=>by simp at h
 | x::r,0,t,h=>by
   simp at h
   subst h
   simp[drasA,draA]
 | x::r,i+1,t,h=>by
   have:=drasA_at (l:=r) (i:=i) (t:=t) (by simpa using h)
   rw[←this]
   have e:(i+1)*3=(draA x).length+i*3:=by simp[draA];omega
   rw[e]
   simp only[drasA,List.flatMap_cons]
   rw[←List.drop_drop,List.drop_left]
def InD (h:Heap) (v:AV) (l:List Dra):Prop:=Rd h v 3 l.length (drasA l)∧∀d∈l,d.ok
theorem InD.ext {st':St} {v:AV} {l:List Dra} (a:InD st.h v l) (x:Ext st st') (hw:st.Wf):InD st'.h v l:=⟨a.1.ext x hw,a.2⟩
theorem InD.at {h:Heap} {v:AV} {l:List Dra} {i:Nat} {d:Dra} (a:InD h v l) (ht:l[i]? =some d):∃n off cp,v= .slice n off l.length cp∧rdCells h n (off+i*3) 3=some [.int .u8 (d.k:Int),.int .i32 d.n,.str d.t]:=by
 have hil:i<l.length:=by
  rcases Nat.lt_or_ge i l.length with h | h
  ·exact h
  ·rw[List.getElem?_eq_none h]at ht;cases ht
 rcases a.1 with ⟨h1,h2,h3⟩ | ⟨n,off,cp,h1,h2⟩
 ·omega
 ·refine⟨n,off,cp,h1,?_⟩
  have:=rdCells_part h2 (o:=i*3) (k:=3) (by omega)
  rw[drasA_at ht]at this
  exact this
def toksD (d:List Dra):List Tok:=(d.take 40).map Dra.tok
theorem toksD_len (d:List Dra):(toksD d).length≤40:=by simp[toksD];omega
theorem toksD_right {d:List Dra} (h:∀x∈d,x.ok):∀t∈toksD d,rightT t.1 t.2.1 t.2.2=true∧t.2.2.length≤60:=by
 intro t ht
 simp only[toksD,List.mem_map]at ht
 obtain⟨x,hx,rfl⟩:=ht
 obtain⟨h1,h2,h3,h4⟩:=h x (List.mem_of_mem_take hx)
 exact⟨draft_right x.k h2 h3 x.t,draft_len _ _ _⟩
theorem tokens_l0 (H:B.H_chaseref04_Tokens T) {st0:St} (hw0:st0.Wf) {v0:AV} {d:List Dra} (hd0:InD st0.h v0 d):∀(m i:Nat) (v:AV) (e:Env) (st1:St),i+m=min d.length 40→Ext st0 st1→GrowT st0 st1 v (toksD (d.take i))→eget e 0=v0→eget e 3=v→eget e 4= .int .i64 (i:Int)→
  Res (run T (.loop B.chaseref04_Tokens_l0) e st1) fun x e' s'=>x= .exit 0∧Ext st0 s'∧GrowT st0 s' (eget e' 3) (toksD d):=by
 intro m
 induction m with
 | zero=>
   intro i v e st1 hi hx hg g0 g3 g4
   have hd:=hd0.ext hx hw0
   have htk:toksD (d.take i)=toksD d:=by
    unfold toksD
    rw[List.take_take]
    congr 1
    rw[List.take_eq_take_iff]
    omega
   rw[htk]at hg
   clear htk
   rw[run_loop]
   rcases hd.1 with ⟨rfl,h2,h3⟩ | ⟨n,off,cp,rfl,h2⟩
   ·have:i=0:=by omega
    subst this
    simp[B.chaseref04_Tokens_l0,go_sem,g0,g3,g4,hx,hg]
   ·by_cases h40:(i:Int)<d.length
    ·have:¬(i:Int)<40:=by omega
     simp[B.chaseref04_Tokens_l0,go_sem,g0,g3,g4,h40,this,hx,hg]
    ·simp[B.chaseref04_Tokens_l0,go_sem,g0,g3,g4,h40,hx,hg]
 | succ m ih=>
   intro i v e st1 hi hx hg g0 g3 g4
   have hd:=hd0.ext hx hw0
   have hil:i<d.length:=by omega
   obtain⟨c,hc⟩:∃c,d[i]? =some c:=⟨_,List.getElem?_eq_getElem hil⟩
   obtain⟨n,off,cp,hv0,hrd⟩:=hd.at hc
   obtain⟨hk,hn0,hn1,ht⟩:=hd.2 c (List.mem_of_getElem? hc)
   have h1:(i:Int)<d.length:=by omega
   have h2:(i:Int)<40:=by omega
   have ek:IntKind.i64.wrap ((i:Int)+1)=((i+1:Nat):Int):=wrap64' (by omega) (by omega)
   have hsn:toksD (d.take (i+1))=toksD (d.take i)++[(c.tok.1,c.tok.2.1,c.tok.2.2)]:=by
    unfold toksD
    rw[List.take_take,List.take_take,Nat.min_eq_right (by omega),Nat.min_eq_right (by omega),List.take_add_one,hc]
    simp
   have hl:(toksD (d.take i)).length<1000000000000:=by have:=toksD_len (d.take i);omega
   have ih2:=fun v' e' s'=>ih (i+1) v' e' s' (by omega)
   rw[hsn]at ih2
   clear hsn
   rw[run_loop]
   rw[hv0]at g0 ih2
   simp[B.chaseref04_Tokens_l0,go_sem,g0,g3,g4,h1,h2,RO.run,hrd]
   refine(token_tells H.chaseref03_Draft_Token hx.wf (K:=c.k) (N:=c.n) (t:=c.t) hk hn0 hn1 (by omega)).use fun s1 x1=> ?_
   have y1:=hx.trans x1
   simp[go_sem,NO.run]
   refine((hg.ext x1 hx.wf).push y1.nx y1.wf c.tok.1 c.tok.2.1 c.tok.2.2 (k:=1) (by omega) hl).mono ?_
   rintro v2 s2 ⟨o2,f2⟩
   have y2:=y1.frm f2 (hg.ge)
   simp[go_sem,g0,g3,g4]
   exact ih2 v2 _ s2 y2 o2 (by simp[go_sem,g0]) (by simp[go_sem]) (by simp[go_sem,g4,ek])
theorem tokens_res (H:B.H_chaseref04_Tokens T) (hwf:st.Wf) {v0:AV} {d:List Dra} (hd:InD st.h v0 d):CRes (call T (.fn 160 [] []) [v0] st) fun v s=>Ext st s∧GrowT st s v (toksD d):=by
 refine call_res H.e H.f rfl ?_
 simp[B.chaseref04_Tokens,go_sem]
 refine(tokens_l0 H hwf hd (min d.length 40) 0 .nilslice _ st (by omega) (.refl hwf) (by simpa [toksD] using GrowT.nil st st) (by simp[go_sem]) (by simp[go_sem]) (by simp[go_sem])).mono ?_
 rintro x e' s' ⟨rfl,hx,hg⟩
 simp[go_sem,fresults,resVals,resVal]
 exact⟨hx.dropGe (Nat.le_refl _),hg.dropLoc hx.wf⟩
end Go.Ev

/- The reference's Print and Same; a token takes octets; all tokens. -/
namespace Go.Ev
open Go
variable {T : Tab} {st : St}
def txT (t:Tok):List UInt8:=textS t.1 t.2.1 t.2.2
def printL (l:List Tok):List UInt8:=Lib.join (l.map txT) [32]
theorem join_snoc (xs:List (List UInt8)) (x sep:List UInt8):Lib.join (xs++[x]) sep=if xs=[]then x else Lib.join xs sep++(sep++x):=by
 cases xs with
 | nil=>simp[Lib.join_one]
 | cons y r=>
   rw[if_neg (by simp),List.cons_append,Lib.join_cons,Lib.join_cons]
   simp[Lib.joinTail]
theorem printL_snoc (l:List Tok) (t:Tok):printL (l++[t])=if l=[]then txT t else printL l++(32::txT t):=by
 unfold printL
 rw[List.map_append,List.map_singleton,join_snoc]
 simp
def OkT (l:List Tok):Prop:=l.length≤40∧∀t∈l,rightT t.1 t.2.1 t.2.2=true∧t.2.2.length≤60
theorem dec_len (n:Nat) (h:n<10000000000):(Lib.decDigits n).length≤10:=by
 have aux:∀(k n:Nat),n<10 ^ (k+1)→(Lib.decDigits n).length≤k+1:=by
  intro k
  induction k with
  | zero=>intro n hn;rw[decDigits_small (by simpa using hn)];simp
  | succ k ih=>
    intro n hn
    by_cases h10:n<10
    ·rw[decDigits_small h10];simp
    ·rw[decDigits_big (by omega),List.length_append,List.length_singleton]
     have:=ih (n / 10) (by rw[Nat.pow_succ]at hn;omega)
     omega
 exact aux 9 n (by simpa using h)
theorem flatC_len:∀x:List UInt8,(x.flatMap quoteC).length≤4*x.length
 | []=>Nat.le_refl _
 | c::r=>by
   have:=flatC_len r
   have:=(quoteC_len c).2
   simp only[List.flatMap_cons,List.length_append,List.length_cons]
   omega
theorem quoteS_len (x:List UInt8):(quoteS x).length≤4*x.length+2:=by
 have:=flatC_len x
 unfold quoteS
 simp only[List.length_cons,List.length_append,List.length_nil]
 omega
theorem txT_len {t:Tok} (h:rightT t.1 t.2.1 t.2.2=true∧t.2.2.length≤60):(txT t).length≤300:=by
 obtain⟨k,n,x⟩:=t
 obtain⟨hr,hl⟩:=h
 simp only at hr hl
 have hb:=right_bound hr
 have hq:=quoteS_len x
 unfold txT textS
 simp only
 split
 ·rename_i h1
  have:=hb (.inl h1)
  unfold Lib.itoa
  split
  ·have:=dec_len n.natAbs (by omega)
   simp only[List.length_cons];omega
  ·have:=dec_len n.toNat (by omega)
   omega
 split
 ·rename_i h2
  have:=hb (.inr h2)
  have h3:=dec_len (n.natAbs / 65536) (by omega)
  have h4:=fracS_len 17 (n.natAbs % 65536)
  unfold printS
  simp only[List.length_append,List.length_cons]
  split <;> simp only[List.length_cons,List.length_nil] <;> omega
 split
 ·simp;omega
 split
 ·simp;omega
 split
 ·omega
 split
 ·simp
 split
 ·simp
 ·omega
theorem printL_len {l:List Tok} (h:OkT l):(printL l).length≤301*l.length:=by
 obtain⟨_,h⟩:=h
 have aux:∀i,i≤l.length→(printL (l.take i)).length≤301*i:=by
  intro i
  induction i with
  | zero=>intro _;simp[printL,Lib.join_nil]
  | succ i ih=>
    intro hi
    obtain⟨t,ht⟩:∃t,l[i]? =some t:=⟨_,List.getElem?_eq_getElem (by omega)⟩
    have h1:=ih (by omega)
    have h2:=txT_len (h t (List.mem_of_getElem? ht))
    rw[List.take_add_one,ht,show (some t).toList=[t]from rfl,printL_snoc]
    split
    ·omega
    ·simp only[List.length_append,List.length_cons];omega
 have:=aux l.length (Nat.le_refl _)
 rwa[List.take_length]at this
theorem same_l0 (H:B.H_chaseref04_Same T) {st0:St} (hw0:st0.Wf) {v w:AV} {l:List Tok} (hl:l.length<1000000000000) (hv:Rd st0.h v 3 l.length (toksA l)) (hw:Rd st0.h w 3 l.length (toksA l)):∀(m i:Nat) (e:Env) (st1:St),i+m=l.length→Ext st0 st1→eget e 0=v→eget e 1=w→eget e 5= .int .i64 (i:Int)→
  Res (run T (.loop B.chaseref04_Same_l0) e st1) fun x e' s'=>x= .exit 0∧Ext st0 s':=by
 intro m
 induction m with
 | zero=>
   intro i e st1 hi hx g0 g1 g5
   have hie:i=l.length:=by omega
   subst hie
   rw[run_loop]
   rcases hv with ⟨rfl,h2,h3⟩ | ⟨n,off,cp,rfl,h2⟩
   ·simp[B.chaseref04_Same_l0,go_sem,g0,g5,hx,h2]
   ·simp[B.chaseref04_Same_l0,go_sem,g0,g5,hx]
 | succ m ih=>
   intro i e st1 hi hx g0 g1 g5
   have hil:i<l.length:=by omega
   obtain⟨t,ht⟩:∃t,l[i]? =some t:=⟨_,List.getElem?_eq_getElem hil⟩
   obtain⟨n,off,cp,hvn,hrd⟩:=(hv.ext hx hw0).tok ht
   obtain⟨n2,off2,cp2,hwn,hrd2⟩:=(hw.ext hx hw0).tok ht
   have h1:(i:Int)<l.length:=by omega
   have ek:IntKind.i64.wrap ((i:Int)+1)=((i+1:Nat):Int):=wrap64' (by omega) (by omega)
   have heq:cellsEqK [.i .i64,.i .i64,.s] [.int .i64 t.1,.int .i64 t.2.1,.str t.2.2] [.int .i64 t.1,.int .i64 t.2.1,.str t.2.2]=some true:=by
    rw[tok_eq];simp
   have ih2:=fun e' s'=>ih (i+1) e' s' (by omega)
   rw[run_loop]
   rw[hvn]at g0 ih2
   rw[hwn]at g1 ih2
   obtain⟨I,hI⟩:∃I:Int,I=(i:Int):=⟨_,rfl⟩
   rw[←hI]at g5 h1 ek
   have h0:0≤I:=by omega
   have ht:I.toNat=i:=by omega
   simp[B.chaseref04_Same_l0,go_sem,g0,g1,g5,h0,ht,h1,RO.run,hrd,hrd2,heq]
   exact ih2 _ _ (hx.trans (Ext.aside hx.wf 9)) (by simp[go_sem,g0]) (by simp[go_sem,g1]) (by simp[go_sem,g5,ek])
theorem same_tells (H:B.H_chaseref04_Same T) (hwf:st.Wf) {v w:AV} {l:List Tok} (hl:l.length<1000000000000) (hv:Rd st.h v 3 l.length (toksA l)) (hw:Rd st.h w 3 l.length (toksA l)):Tells T st (.fn 164 [] []) [v,w] (.bool true):=by
 refine tells_of H.e H.f rfl ?_
 have hlv:=hv.lenOf (ev:=fun _=>v) (x:= .t 0) rfl
 have hlw:=hw.lenOf (ev:=fun _=>w) (x:= .t 0) rfl
 have loop:=fun(e:Env) g0 g1 g5=>same_l0 H hwf hl hv hw l.length 0 e st (by simp) (.refl hwf) g0 g1 g5
 rcases hv with ⟨rfl,h2,h3⟩ | ⟨n,off,cp,rfl,h2⟩ <;> rcases hw with ⟨rfl,k2,k3⟩ | ⟨n2,off2,cp2,rfl,k2⟩
 ·simp[B.chaseref04_Same,go_sem]
  refine(loop _ (by simp[go_sem]) (by simp[go_sem]) (by simp[go_sem])).mono ?_
  rintro x e' s' ⟨rfl,hx⟩
  simp[go_sem,hx]
 ·simp[B.chaseref04_Same,go_sem,h2]
  refine(loop _ (by simp[go_sem,h2]) (by simp[go_sem,h2]) (by simp[go_sem])).mono ?_
  rintro x e' s' ⟨rfl,hx⟩
  simp[go_sem,hx]
 ·simp[B.chaseref04_Same,go_sem,k2]
  refine(loop _ (by simp[go_sem,k2]) (by simp[go_sem,k2]) (by simp[go_sem])).mono ?_
  rintro x e' s' ⟨rfl,hx⟩
  simp[go_sem,hx]
 ·simp[B.chaseref04_Same,go_sem]
  refine(loop _ (by simp[go_sem]) (by simp[go_sem]) (by simp[go_sem])).mono ?_
  rintro x e' s' ⟨rfl,hx⟩
  simp[go_sem,hx]
def okP (t:T3):Prop:=t.2.2=0→0<t.2.1
theorem okP_err {e:Int} (h:e≠0):okP (err3 e):=fun h2=>absurd h2 h
theorem okP_text (k:Int) (x:List UInt8) {n:Nat} (h:0<n):okP (textK k x n):=by
 unfold textK
 split
 ·exact okP_err (by decide)
 ·split
  ·exact fun _=>h
  ·exact okP_err (by decide)
theorem tokS_pos (s:List UInt8):okP (tokS s):=by
 cases s with
 | nil=>exact okP_err (by decide)
 | cons c R=>
   have hf:∀k l,okP (fixR k l R):=fun k l=>by
    unfold fixR
    split
    ·exact okP_err (by decide)
    ·exact fun _=>by simp only;omega
   have hcn:∀k l,okP (cntR4 k l R):=fun k l=>by
    unfold cntR4
    split
    ·exact okP_err (by decide)
    ·split
     ·exact okP_err (by decide)
     ·exact okP_text _ _ (by omega)
   have hde:∀(f:Nat) (u:List UInt8×Nat×Int),0<f→okP (decoR f u):=fun f u h=>by
    unfold decoR
    split
    ·exact okP_text _ _ (by omega)
    ·split <;> exact okP_err (by decide)
   simp only[tokS]
   split
   ·rename_i hc
    subst hc
    unfold quotedR
    split
    ·rename_i hu
     refine okP_text _ _ ?_
     unfold unquoteT at hu⊢
     simp only[if_true]at hu⊢
     split at hu
     ·simp at hu
     ·rename_i o l he
      have:=unq_left he
      split at hu
      ·simp at hu
      ·rename_i h2
       rw[if_neg h2]
       simp only[List.length_cons]
       omega
    ·split <;> exact okP_err (by decide)
   split
   ·exact okP_err (by decide)
   split
   ·exact fun _=>Nat.one_pos
   split
   ·exact fun _=>Nat.one_pos
   split
   ·exact okP_text _ _ (by omega)
   split
   ·unfold lessR
    split
    ·exact okP_text _ _ (by omega)
    ·split <;> exact hde _ _ (by omega)
   split
   ·unfold greaterR
    split
    ·exact okP_text _ _ (by omega)
    ·exact okP_err (by decide)
   split
   ·unfold slashR
    split <;> exact okP_text _ _ (by omega)
   split
   ·unfold binR
    (repeat' split) <;> first | exact hf _ _ | exact hcn _ _ | exact okP_err (by decide)
   ·unfold wordK
    split
    ·rename_i h
     exact okP_err h
    ·rename_i h
     intro _
     simp only
     rcases Nat.eq_zero_or_pos (runN isReg (c::R))with h0 | h0
     ·rw[h0]at h
      exact absurd (by simp[wordT]) h
     ·exact h0
theorem nextS_pos {s:List UInt8} {i:Nat} {t:Tok} {n:Nat} (h:nextS s (i:Int)=(t,n,0)):i<n∧n≤s.length∧i<s.length:=by
 unfold nextS at h
 split at h
 ·simp[err3]at h
 split at h
 ·simp[err3]at h
 rename_i h1 h2
 simp only[Int.toNat_natCast]at h
 have hsk:=skp_le false (s.drop i)
 rw[List.length_drop]at hsk
 split at h
 ·simp at h
 ·rename_i h3
  have hp:=tokS_pos (s.drop (i+skp false (s.drop i)))
  have hle:=tokS_le (s.drop (i+skp false (s.drop i)))
  rw[List.length_drop]at hle
  injection h with _ h
  injection h with h4 h5
  have:=hp h5
  omega
theorem nextS_le (s:List UInt8) (i:Int):(nextS s i).2.1≤s.length:=by
 unfold nextS
 split
 ·exact Nat.zero_le _
 split
 ·exact Nat.zero_le _
 rename_i h1 h2
 have hsk:=skp_le false (s.drop i.toNat)
 rw[List.length_drop]at hsk
 simp only
 split
 ·simp only;omega
 ·have hle:=tokS_le (s.drop (i.toNat+skp false (s.drop i.toNat)))
  rw[List.length_drop]at hle
  simp only
  omega
def runA (s:List UInt8):Nat→Nat→List Tok→List Tok×Nat×Int
 | 0,i,l=>(l,i,4)
 | f+1,i,l=>if(nextS s (i:Int)).2.2=0 then runA s f (nextS s (i:Int)).2.1 (l++[(nextS s (i:Int)).1])else(l,(nextS s (i:Int)).2.1,(nextS s (i:Int)).2.2)
def allS (s:List UInt8):List Tok×Nat×Int:=
 if(runA s (s.length+1) 0 []).2.2=4 then((runA s (s.length+1) 0 []).1,(runA s (s.length+1) 0 []).2.1,0)else([],(runA s (s.length+1) 0 []).2.1,(runA s (s.length+1) 0 []).2.2)
end Go.Ev

/- scan.Print told. -/
namespace Go.Ev
open Go
variable {T : Tab} {st : St}
def strsX (l:List (List UInt8)):List AV:=l.map AV.str
theorem strsX_len (l:List (List UInt8)):(strsX l).length=l.length:=by simp[strsX]
theorem strsOf_x:∀l:List (List UInt8),B.strsOf (strsX l)=some l
 | []=>rfl
 | x::r=>by
   have:=strsOf_x r
   simp only[strsX,List.map_cons,B.strsOf]at this⊢
   rw[this]
def GrowX (st0 s:St) (v:AV) (l:List (List UInt8)):Prop:=Sl s v 9 1 l.length (strsX l)∧Mine [] st0 v∧NK v∧(l=[]→v= .nilslice)
theorem GrowX.nil (st0 s:St):GrowX st0 s .nilslice []:=⟨.nil _ _ _,.nil _ _,(fun _ _ _ _ h=>by cases h),fun _=>rfl⟩
theorem GrowX.ge {st0 s:St} {v:AV} {l:List (List UInt8)} (a:GrowX st0 s v l):∀n∈v.nms,st0.nx≤n:=fun n hn=>by
 rcases a.2.1 n hn with h | h
 ·cases h
 ·exact h
theorem GrowX.ext {st0 s s':St} {v:AV} {l:List (List UInt8)} (a:GrowX st0 s v l) (f:Ext s s') (hw:s.Wf):GrowX st0 s' v l:=⟨a.1.ext f hw,a.2.1,a.2.2.1,a.2.2.2⟩
theorem GrowX.push {st0 s1:St} (hF:st0.nx≤s1.nx) (hw:s1.Wf) {v:AV} {l:List (List UInt8)} (c:List UInt8) {k:Nat} (hk:0<k) (g:GrowX st0 s1 v l) (hl:l.length<1000000000000):
  CRes (aappend 9 1 16 ⟨(s1.nx,.cells 9 false [.str c])::s1.h,s1.nx+k⟩ v (.slice s1.nx 0 1 (.known 1))) fun v' s=>GrowX st0 s v' (l++[c])∧Frm v.nms s1 s:=by
 obtain⟨a1,a2,a3,_⟩:=g
 have xa:=Ext.newA hw (.cells 9 false [.str c]) hk
 have hap:=Sl.append (x:= .slice s1.nx 0 1 (.known 1)) (j:=1) (new:=[.str c]) (b:=16) (Frm.refl xa.wf v.nms) (fun n h=> .inl h) (a1.ext xa hw)
  (.inr ⟨_,_,_,rfl,rd_all (ty:=9) (l:=false) (by simp[hget_cons]) rfl⟩) (by simp[AV.sc]) (by omega) (by omega) (.inl (by omega))
 refine(hap.also (fun _ _ h=>aappend_nk h a3)).mono ?_
 rintro v2 s2 ⟨⟨k1,k2,k3,_⟩,hnk2⟩
 have hsn:strsX (l++[c])=strsX l++[.str c]:=by simp[strsX]
 refine⟨⟨by rw[hsn];simpa using k1,fun n hn=> ?_,hnk2,fun h=>by simp at h⟩,(xa.fr v.nms).trans k2 (fun n h=> .inl h)⟩
 rcases k3 n hn with h | h
 ·exact a2 n h
 ·simp at h;exact .inr (by omega)
theorem GrowX.form {st0 s:St} {v:AV} {l:List (List UInt8)} (a:GrowX st0 s v l):(v= .nilslice∧l=[])∨∃n,v= .slice n 0 l.length .full∧0<l.length∧rdCells s.h n 0 l.length=some (strsX l):=by
 obtain⟨⟨m,hsl⟩,b6,b7,b8⟩:=a
 rcases hsl with ⟨k1,k2,k3⟩ | ⟨k1,k2,k3⟩ | ⟨ty',k1,k2,k3⟩
 ·exact .inl ⟨k1,List.length_eq_zero_iff.1 k3⟩
 ·refine .inr ⟨m,k1,?_,?_⟩
  ·rcases Nat.eq_zero_or_pos l.length with h | h
   ·rw[b8 (List.length_eq_zero_iff.1 h)]at k1;cases k1
   ·exact h
  ·simp[rdCells,k2,strsX_len]
   exact List.take_of_length_le (by rw[strsX_len];exact Nat.le_refl _)
 ·exact absurd k1 (b7 _ _ _ _)
theorem scanPrint_l0 (H:B.H_scan_Print T) {st0:St} (hw0:st0.Wf) (hp:Pow st0) {v:AV} {l:List Tok} (hl:OkT l) (hv:Rd st0.h v 3 l.length (toksA l)):∀(m i:Nat) (w:AV) (e:Env) (st1:St),i+m=l.length→Ext st0 st1→GrowX st0 st1 w ((l.take i).map txT)→eget e 4=w→eget e 9=v→eget e 10= .int .i64 (l.length:Int)→eget e 11= .int .i64 (i:Int)→
  Res (run T (.loop B.scan_Print_l0) e st1) fun x e' s'=>x= .exit 0∧Ext st0 s'∧GrowX st0 s' (eget e' 4) (l.map txT):=by
 intro m
 induction m with
 | zero=>
   intro i w e st1 hi hx hg g4 g9 g10 g11
   have hie:i=l.length:=by omega
   subst hie
   rw[List.take_length]at hg
   rw[run_loop]
   simp[B.scan_Print_l0,go_sem,g4,g9,g10,g11,hx,hg]
 | succ m ih=>
   intro i w e st1 hi hx hg g4 g9 g10 g11
   have hil:i<l.length:=by omega
   obtain⟨t,ht⟩:∃t,l[i]? =some t:=⟨_,List.getElem?_eq_getElem hil⟩
   obtain⟨n,off,cp,hvn,hrd⟩:=(hv.ext hx hw0).tok ht
   have h1:(i:Int)<l.length:=by omega
   have h40:=hl.1
   have ek:IntKind.i64.wrap ((i:Int)+1)=((i+1:Nat):Int):=wrap64' (by omega) (by omega)
   have hrt:=hl.2 t (List.mem_of_getElem? ht)
   have hsn:(l.take (i+1)).map txT=(l.take i).map txT++[txT t]:=by
    rw[List.take_add_one,ht,List.map_append];rfl
   have hln:((l.take i).map txT).length<1000000000000:=by simp;omega
   have hcall:=fun(st':St) (hw:st'.Wf) (hp:Pow st')=>lexText_tells (st:=st') H.lex_Text hw hp (k:=t.1) (n:=t.2.1) (t:=t.2.2) (by omega)
   rw[if_pos hrt.1,if_pos hrt.1]at hcall
   rw[show textS t.1 t.2.1 t.2.2=txT t from rfl]at hcall
   have ih2:=fun w' e' s'=>ih (i+1) w' e' s' (by omega)
   rw[hsn]at ih2
   clear ih hsn
   generalize txT t=X at*
   rw[run_loop]
   rw[hvn]at g9 ih2
   have x2:=Ext.new hx.wf (.cells 134 true [.int .i64 t.1,.int .i64 t.2.1,.str t.2.2])
   have y2:=hx.trans x2
   simp[B.scan_Print_l0,go_sem,g4,g9,g10,g11,h1,RO.run,hrd,NO.run,WO.run,wr_tok,rd_tok]
   refine(hcall _ y2.wf (hp.ext y2 hw0)).use fun s3 x3=> ?_
   have y3:=y2.trans x3
   simp[go_sem,g4,NO.run]
   refine(((hg.ext x2 hx.wf).ext x3 y2.wf).push y3.nx y3.wf X (k:=1) (by omega) hln).mono ?_
   rintro v4 s4 ⟨o4,f4⟩
   have y4:=y3.frm f4 hg.ge
   simp[go_sem,g4,g9,g10,g11]
   exact ih2 v4 _ s4 y4 o4 (by simp[go_sem]) (by simp[go_sem,g9]) (by simp[go_sem,g10]) (by simp[go_sem,g11,ek])
theorem scanPrint_tells (H:B.H_scan_Print T) (hwf:st.Wf) (hp:Pow st) {v:AV} {l:List Tok} (hl:OkT l) (hv:Rd st.h v 3 l.length (toksA l)):Tells T st (.fn 165 [] []) [v] (.tuple [.str (printL l),.int .i64 0]):=by
 refine tells_of H.e H.f rfl ?_
 have hlo:=hv.lenOf (ev:=fun _=>v) (x:= .t 0) rfl
 have hpl:=printL_len hl
 have h40:=hl.1
 have loop:=fun(e:Env) g4 g9 g10 g11=>scanPrint_l0 H hwf hp hl hv l.length 0 .nilslice e st (by simp) (.refl hwf) (GrowX.nil _ _) g4 g9 g10 g11
 have fin:∀(w:AV) (s:St) (K:AV→St→Prop),GrowX st s w (l.map txT)→K (.str (printL l)) s→CRes (call T (.fn 179 [] []) [w,.str [32]] s) K:=by
  intro w s K hg hK
  rw[call_entry H.strings_Join.en]
  simp only[List.nil_append,List.append_nil]
  rcases hg.form with ⟨rfl,h0⟩ | ⟨n,rfl,hn,hrd⟩
  ·have:printL l=[]:=by unfold printL;rw[h0];rfl
   rw[this]at hK
   exact hK
  ·simp only[B.E_strings_Join,hrd,strsOf_x]
   have e1:(l.map txT).length=l.length:=by simp
   have e2:(Lib.join (l.map txT) [32]).length≤140737488355328:=by show (printL l).length≤_;omega
   rw[if_pos ⟨by omega,by omega,e2⟩]
   exact hK
 rcases hv with ⟨rfl,h2,h3⟩ | ⟨n,off,cp,rfl,h2⟩
 ·simp[B.scan_Print,go_sem]
  refine(loop _ (by simp[go_sem]) (by simp[go_sem]) (by simp[go_sem,h2]) (by simp[go_sem])).mono ?_
  rintro x e' s' ⟨rfl,hx,hg⟩
  simp[go_sem]
  refine fin _ _ _ hg ?_
  simp[go_sem,hx]
 ·simp[B.scan_Print,go_sem]
  refine(loop _ (by simp[go_sem]) (by simp[go_sem]) (by simp[go_sem]) (by simp[go_sem])).mono ?_
  rintro x e' s' ⟨rfl,hx,hg⟩
  simp[go_sem]
  refine fin _ _ _ hg ?_
  simp[go_sem,hx]
end Go.Ev

/- All tokens: the reference's All. -/
namespace Go.Ev
open Go
variable {T : Tab} {st : St}
def finA (r:List Tok×Nat×Int):List Tok×Nat×Int:=if r.2.2=4 then(r.1,r.2.1,0)else([],r.2.1,r.2.2)
theorem allS_fin (s:List UInt8):allS s=finA (runA s (s.length+1) 0 []):=rfl
def AllR (st s:St) (r:List Tok×Nat×Int) (v:AV):Prop:=∃w,v= .tuple [w,.int .i64 (r.2.1:Int),.int .i64 r.2.2]∧Ext st s∧GrowT st s w r.1
end Go.Ev

/- The plain law of reading back: a token's text, and what stands between tokens. -/
namespace Go.Ev
open Go
def Sep (r:List UInt8):Prop:=∀c u,r=c::u→blankC c=true∨c=37
theorem Sep.reg {r:List UInt8} (h:Sep r):∀c u,r=c::u→isReg c=false∧c≠47∧c≠60:=by
 intro c u hc
 have aux:=all_octets (P:=fun n=> !(blankC (UInt8.ofNat n) || decide (UInt8.ofNat n=37)) || (!isReg (UInt8.ofNat n) && (decide (UInt8.ofNat n≠47) && decide (UInt8.ofNat n≠60)))) (by decide+kernel) c
 simp only[UInt8.ofNat_toNat]at aux
 have hd:(blankC c || decide (c=37))=true:=by
  rcases h c u hc with h | h
  ·simp[h]
  ·simp[h]
 rw[hd]at aux
 simpa using aux
theorem runN_reg {rest:List UInt8} (h:∀c u,rest=c::u→isReg c=false):∀x:List UInt8,regAll x=true→runN isReg (x++rest)=x.length
 | [],_=>by
   cases rest with
   | nil=>rfl
   | cons c u=>simp[runN,h c u rfl]
 | c::x,hx=>by
   simp only[regAll,Bool.and_eq_true]at hx
   simp only[List.cons_append,runN,hx.1,if_true,runN_reg h x hx.2,List.length_cons]
theorem reg_plain {c:UInt8} (h:isReg c=true):c≠40∧c≠41∧c≠123∧c≠125∧c≠91∧c≠93∧c≠60∧c≠62∧c≠47∧¬(128≤c.toNat∧c.toNat<160)∧blankC c=false∧c≠37:=by
 have aux:=all_octets (P:=fun n=> !isReg (UInt8.ofNat n) || decide (UInt8.ofNat n≠40∧UInt8.ofNat n≠41∧UInt8.ofNat n≠123∧UInt8.ofNat n≠125∧UInt8.ofNat n≠91∧UInt8.ofNat n≠93∧UInt8.ofNat n≠60∧UInt8.ofNat n≠62∧UInt8.ofNat n≠47∧¬(128≤(UInt8.ofNat n).toNat∧(UInt8.ofNat n).toNat<160)∧blankC (UInt8.ofNat n)=false∧UInt8.ofNat n≠37)) (by decide+kernel) c
 simp only[UInt8.ofNat_toNat]at aux
 rw[h]at aux
 simpa only[Bool.not_true,Bool.false_or,decide_eq_true_eq] using aux
def Front (u:List UInt8):Prop:=∃c r,u=c::r∧blankC c=false∧c≠37
theorem Front.app {u:List UInt8} (h:Front u) (r:List UInt8):Front (u++r):=by
 obtain⟨c,v,rfl,h1,h2⟩:=h
 exact⟨c,v++r,rfl,h1,h2⟩
theorem tokS_text {k n:Int} {x:List UInt8} (hr:rightT k n x=true) {rest:List UInt8} (hs:Sep rest):tokS (textS k n x++rest)=((k,n,x),(textS k n x).length,0)∧Front (textS k n x):=by
 have hreg:=fun c u h=>(hs.reg c u h).1
 rcases kind_cases hr with ⟨hk,hw,hre,h12,h3,hl⟩ | ⟨_,rfl,hc⟩
 ·generalize hT:textS k n x=X at*
  cases X with
  | nil=>simp[wordT]at hw
  | cons c X=>
    simp only[regAll,Bool.and_eq_true]at hre
    obtain⟨a1,a2,a3,a4,a5,a6,a7,a8,a9,a10,a11,a12⟩:=reg_plain hre.1
    have hrun:=runN_reg hreg (c::X) (by simp[regAll,hre])
    refine⟨?_,c,X,rfl,a11,a12⟩
    have htk:(c::X++rest).take (c::X).length=c::X:=by rw[List.take_left]
    show tokS (c::(X++rest))=_
    rw[tokS,if_neg a1,if_neg a2,if_neg a3,if_neg a4,if_neg (by simp[a5,a6]),if_neg a7,if_neg a8,if_neg a9,if_neg a10]
    unfold wordK
    rw[show c::(X++rest)=c::X++rest from rfl,hrun,htk,hw]
    simp
 ·rcases hc with ⟨rfl,hre,ht,hl⟩ | ⟨rfl,hre,ht,hl⟩ | ⟨rfl,hl,ht⟩ | ⟨rfl,rfl,ht⟩ | ⟨rfl,rfl,ht⟩ | ⟨rfl,ht,hm⟩
  ·rw[ht]
   have hrun:=runN_reg hreg x hre
   refine⟨?_,47,x,rfl,by decide,by decide⟩
   have h47:¬(x++rest).head? =some 47:=by
    cases x with
    | nil=>
      cases rest with
      | nil=>simp
      | cons c u=>simp;exact(hs.reg c u rfl).2.1
    | cons c x=>
      simp only[regAll,Bool.and_eq_true]at hre
      simp
      exact(reg_plain hre.1).2.2.2.2.2.2.2.2.1
   show tokS (47::(x++rest))=_
   simp only[tokS]
   rw[if_neg (by decide),if_neg (by decide),if_neg (by decide),if_neg (by decide),if_neg (by decide),if_neg (by decide),if_neg (by decide),if_pos trivial]
   unfold slashR
   rw[if_neg h47,hrun,List.take_left]
   unfold textK
   rw[if_neg (by omega),if_pos hr]
   simp;omega
  ·rw[ht]
   have hrun:=runN_reg hreg x hre
   refine⟨?_,47,47::x,rfl,by decide,by decide⟩
   show tokS (47::(47::(x++rest)))=_
   simp only[tokS]
   rw[if_neg (by decide),if_neg (by decide),if_neg (by decide),if_neg (by decide),if_neg (by decide),if_neg (by decide),if_neg (by decide),if_pos trivial]
   unfold slashR
   rw[if_pos (show (47::(x++rest)).head? =some 47 from rfl),List.drop_succ_cons,List.drop_zero,hrun,List.take_left]
   unfold textK
   rw[if_neg (by omega),if_pos hr]
   simp;omega
  ·rw[ht]
   have hu:=unquote_back (more:=rest) hl
   refine⟨?_,40,_,rfl,by decide,by decide⟩
   have e:quoteS x++rest=40::(x.flatMap quoteC++[41]++rest):=by simp[quoteS]
   rw[e]at hu⊢
   simp only[tokS]
   rw[if_pos trivial]
   unfold quotedR
   rw[hu]
   simp only
   rw[if_pos trivial]
   unfold textK
   rw[if_neg (by omega),if_pos hr]
  ·rw[ht]
   exact⟨rfl,123,[],rfl,by decide,by decide⟩
  ·rw[ht]
   exact⟨rfl,125,[],rfl,by decide,by decide⟩
  ·rw[ht]
   rcases hm with rfl | rfl | rfl | rfl
   ·exact⟨rfl,91,[],rfl,by decide,by decide⟩
   ·exact⟨rfl,93,[],rfl,by decide,by decide⟩
   ·exact⟨rfl,60,[60],rfl,by decide,by decide⟩
   ·exact⟨rfl,62,[62],rfl,by decide,by decide⟩
def Gap (g:List UInt8):Prop:=∀p,skp false (g++p)=g.length+skp false p
theorem Gap.nil:Gap []:=fun p=>by simp
theorem Gap.app {a b:List UInt8} (ha:Gap a) (hb:Gap b):Gap (a++b):=fun p=>by rw[List.append_assoc,ha,hb,List.length_append];omega
theorem Gap.blank {c:UInt8} (h:blankC c=true):Gap [c]:=fun p=>by simp[skp,h];omega
theorem skp_front {u:List UInt8} (h:Front u):skp false u=0:=by
 obtain⟨c,r,rfl,h1,h2⟩:=h
 simp[skp,h1,h2]
def nextU (u:List UInt8):T3:=if skp false u=u.length then((0,0,[]),u.length,4)else((tokS (u.drop (skp false u))).1,skp false u+(tokS (u.drop (skp false u))).2.1,(tokS (u.drop (skp false u))).2.2)
theorem nextS_U {s:List UInt8} (hs:s.length≤65536) {i:Nat} (hi:i≤s.length):nextS s (i:Int)=((nextU (s.drop i)).1,i+(nextU (s.drop i)).2.1,(nextU (s.drop i)).2.2):=by
 unfold nextS nextU
 rw[if_neg (by omega),if_neg (by omega)]
 simp only[Int.toNat_natCast,List.length_drop]
 by_cases h:i+skp false (s.drop i)=s.length
 ·rw[if_pos h,if_pos (by omega)]
  simp only[Prod.mk.injEq,and_true,true_and]
  omega
 ·rw[if_neg h,if_neg (by omega),List.drop_drop]
  simp only[Prod.mk.injEq,and_true,true_and]
  omega
inductive Chain:List UInt8→List Tok→Prop where
 | nil (u:List UInt8):skp false u=u.length→Chain u []
 | cons (u:List UInt8) (t:Tok) (n:Nat) (l:List Tok):nextU u=(t,n,0)→Chain (u.drop n) l→Chain u (t::l)
theorem Chain.run {s:List UInt8} (hs:s.length≤65536):∀{l:List Tok} {u:List UInt8},Chain u l→∀(f i:Nat) (acc:List Tok),i≤s.length→u=s.drop i→s.length<f+i→runA s f i acc=(acc++l,s.length,4):=by
 intro l u hc
 induction hc with
 | nil u h=>
   intro f i acc hi hu hf
   cases f with
   | zero=>omega
   | succ f=>
     rw[runA,nextS_U hs hi,←hu]
     unfold nextU
     rw[if_pos h,hu,List.length_drop]
     simp
     omega
 | cons u t n l h _ ih=>
   intro f i acc hi hu hf
   cases f with
   | zero=>omega
   | succ f=>
     have hp:=nextS_pos (s:=s) (i:=i) (t:=t) (n:=i+n) (by rw[nextS_U hs hi,←hu,h])
     rw[runA,nextS_U hs hi,←hu,h]
     simp only[if_true]
     rw[ih f (i+n) (acc++[t]) (by omega) (by rw[hu,List.drop_drop]) (by omega)]
     simp
theorem Chain.all {s:List UInt8} {l:List Tok} (hs:s.length≤65536) (h:Chain s l):allS s=(l,s.length,0):=by
 rw[allS_fin,h.run hs (s.length+1) 0 [] (by omega) (by simp) (by omega)]
 rfl
theorem nextU_piece {g p rest:List UInt8} {t:Tok} (hg:Gap g) (hf:Front p) (ht:tokS (p++rest)=(t,p.length,0)):nextU (g++(p++rest))=(t,(g++p).length,0):=by
 have hk:skp false (g++(p++rest))=g.length:=by rw[hg,skp_front (hf.app rest)];omega
 have hp:p≠[]:=by obtain⟨c,r,rfl,_⟩:=hf;simp
 have hpl:0<p.length:=List.length_pos_iff.2 hp
 unfold nextU
 rw[hk,if_neg (by simp only[List.length_append];omega),List.drop_left,ht]
 simp
theorem Chain.piece {g p rest:List UInt8} {t:Tok} {l:List Tok} (hg:Gap g) (hf:Front p) (ht:tokS (p++rest)=(t,p.length,0)) (hl:Chain rest l):Chain (g++(p++rest)) (t::l):=by
 refine .cons _ t (g++p).length l (nextU_piece hg hf ht) ?_
 rw[←List.append_assoc,List.drop_left]
 exact hl
theorem Chain.gap {g:List UInt8} (hg:Gap g):Chain g []:= .nil _ (by have:=hg [];simp[skp]at this;exact this)
end Go.Ev

/- A string is appended to octets; a Builder takes a string; the binary form. -/
namespace Go.Ev
open Go
variable {T : Tab} {st : St}
theorem Sl.append2 {st0:St} {S:List Nat} (hF:Frm S st0 st) {v x:AV} {ty es k j b:Nat} {cs new:List AV} (hv:Mine S st0 v) (a:Sl st v ty es k cs) (hxs:srcCells st.h es x=some (j,new)) (hxl:new.length=j*es) (hsc:new.all AV.sc=true)
  (hb:(k+j)*b≤35184372088832) (hb':k+j≤35184372088832) (hm:0<j∨∀n c,v≠.slice n 0 k (.known c)):
  CRes (aappend ty es b st v x) fun v' s=>Sl s v' ty es (k+j) (cs++new)∧Frm S st0 s∧Mine S st0 v'∧Frm v.nms st s:=by
 obtain⟨n,a⟩:=a
 cases hv0:v with
 | slice m o l c=>
   have hmn:n=m:=by
    rcases a with ⟨h1,h2,h3⟩ | ⟨h1,h2,h3⟩ | ⟨ty',h1,h2,h3⟩ <;> rw[hv0]at h1 <;> simp at h1 <;> first | exact h1.1.symm | exact h1.symm
   subst hmn
   rw[←hv0]
   refine(a.append hF.wf hxs hxl hsc hb hb' ?_).mono ?_
   ·rcases hm with h | h
    ·exact .inl h
    ·exact .inr (fun⟨c,hc⟩=>h _ _ hc)
   ·rintro v' s ⟨n',hs,hf,hn,_⟩
    have hfs:Frm v.nms st s:=by rw[hv0];exact hf
    refine⟨⟨n',hs⟩,hF.trans hfs hv,?_,hfs⟩
    intro k hk
    have hk':k=n':=by
     rcases hs with ⟨h1,h2,h3⟩ | ⟨h1,h2,h3⟩ | ⟨ty',h1,h2,h3⟩ <;> rw[h1]at hk <;> simp[AV.nms]at hk <;> exact hk
    subst hk'
    rcases hn with h | h
    ·subst h;exact hv _ (by simp[hv0,AV.nms])
    ·exact .inr (Nat.le_trans hF.nx h)
 | nilslice=>
   have hk0:k=0∧cs=[]:=by
    rcases a with ⟨h1,h2,h3⟩ | ⟨h1,h2,h3⟩ | ⟨ty',h1,h2,h3⟩
    ·exact⟨h3,h2⟩
    ·rw[hv0]at h1;cases h1
    ·rw[hv0]at h1;cases h1
   obtain⟨rfl,rfl⟩:=hk0
   unfold aappend
   rw[hxs]
   simp only[Nat.zero_add]at hb hb'⊢
   by_cases hj0:j=0
   ·rw[if_pos hj0]
    refine⟨?_,hF,Mine.nil _ _,Frm.refl hF.wf _⟩
    have:new=[]:=List.length_eq_zero_iff.1 (by rw[hxl,hj0];simp)
    subst this;subst hj0
    exact .nil _ _ _
   ·rw[if_neg hj0,if_pos ⟨hb,hb'⟩]
    refine⟨⟨st.nx,.buf rfl (by simp[hget]) (by simpa using hxl)⟩,hF.trans ((Ext.new hF.wf _).fr []) (by simp),?_,(Ext.new hF.wf _).fr _⟩
    intro n hn
    simp[AV.nms]at hn
    subst hn
    exact .inr hF.nx
 | _=>
   rcases a with ⟨h1,h2,h3⟩ | ⟨h1,h2,h3⟩ | ⟨ty',h1,h2,h3⟩ <;> rw[hv0]at h1 <;> cases h1
theorem Grow.appS {st0 s1:St} (hF:st0.nx≤s1.nx) (hw:s1.Wf) {v:AV} {l m:List UInt8} (a:Grow st0 s1 v l) (hl:l.length+m.length<35184372088831):
  CRes (aappend 5 1 1 s1 v (.str m)) fun v' s=>Grow st0 s v' (l++m)∧Frm v.nms s1 s:=by
 obtain⟨a1,a2,a3⟩:=a
 have hap:=Sl.append2 (x:= .str m) (j:=m.length) (new:=u8s m) (b:=1) (Frm.refl hw v.nms) (fun n h=> .inl h) a1 (by simp[srcCells,u8s]) (by rw[u8s_len];omega) (by simp[u8s,AV.sc]) (by omega) (by omega) (.inr fun n c h=>a3 _ _ _ _ h)
 refine(hap.also (fun _ _ h=>aappend_nk h a3)).mono ?_
 rintro v2 s2 ⟨⟨k1,k2,k3,_⟩,hnk2⟩
 refine⟨⟨by rw[u8s_append,List.length_append];exact k1,fun n hn=> ?_,hnk2⟩,k2⟩
 rcases k3 n hn with h | h
 ·exact a2 n h
 ·exact .inr (by omega)
theorem writeString_res (H:B.H_strings_Builder_WriteString T) {st0:St} (hx:Ext st0 st) {q:Nat} {l:List UInt8} (m:List UInt8) (b:Bd st0 st q l) (hl:l.length+m.length<35184372088831):
  CRes (call T (.fn 169 [] []) [.ptr q 0,.str m] st) fun _ s'=>Ext st0 s'∧Bd st0 s' q (l++m):=by
 obtain⟨h1,a,v,h2,h3,h4,h5⟩:=b
 refine call_res H.e H.f rfl ?_
 simp[B.strings_Builder_WriteString,go_sem]
 refine(copyCheck_res H.strings_Builder_copyCheck hx.wf h2 h3).mono ?_
 rintro _ s1 ⟨f1,g1⟩
 have x1:Ext st0 s1:=hx.frm f1 (by simpa using h1)
 have g4:=h4.frm f1 hx.wf (by intro n hn h;simp at h;subst h;exact h5 hn)
 have hr:rdCell s1.h q 1=some v:=by simp[rdCell,g1]
 simp[go_sem,RO.run,NO.run,hr,reps]
 refine(g4.appS x1.nx x1.wf (m:=m) hl).mono ?_
 rintro v2 s2 ⟨o2,f2⟩
 have x2:=x1.frm f2 h4.ge
 have g2:hget s2.h q=some (.cells 84 false [.ptr q 0,v]):=f2.get x1.wf g1 h5
 have hw2:wrCells s2.h q 1 [v2]=some (hset s2.h q (.cells 84 false [.ptr q 0,v2])):=wr_cells g2 o2.sc (by simp)
 have f3:=Frm.set x2.wf g2 (o:= .cells 84 false [.ptr q 0,v2])
 have hap:=o2.apart g2 (x:= .ptr q 0) (by simp) (by simp)
 have g3:=hget_hset_self (o:= .cells 84 false [.ptr q 0,v2]) g2
 simp[go_sem,WO.run,o2.acells,hw2]
 have x3:Ext st0 ⟨hset s2.h q (.cells 84 false [.ptr q 0,v2]),s2.nx⟩:=x2.frm f3 (by simpa using h1)
 have o3:Grow st0 ⟨hset s2.h q (.cells 84 false [.ptr q 0,v2]),s2.nx⟩ v2 (l++m):=o2.frm f3 x2.wf (by intro n hn h;simp at h;subst h;exact hap hn)
 refine⟨?_,h1,_,v2,hget_dropLoc_keep x3.wf g3 rfl,.inr rfl,o3.dropLoc x3.wf,hap⟩
 exact x3.dropGe hx.nx
end Go.Ev

/- scan.Pack told. -/
namespace Go.Ev
open Go
variable {T : Tab} {st : St}
end Go.Ev

/- The plain law of reading back: binary forms. -/
namespace Go.Ev
open Go
end Go.Ev

/- All tokens: scan.All. -/
namespace Go.Ev
open Go
variable {T : Tab} {st : St}
def AI (st0 s1:St) (s:List UInt8) (O:AObj) (l:List Tok) (a:Nat) (b:Int):Prop:=
 Ext st0 s1∧(∃v,hget s1.h st0.nx=some (.cells 146 true [v])∧GrowT st0 s1 v l)∧hget s1.h (st0.nx+1)=some (cO a)∧hget s1.h (st0.nx+2)=some (.cells 30 true [.int .i64 b])∧hget s1.h (st0.nx+3)=some (.cells 9 false [.str s])∧hget s1.h (st0.nx+4)=some O
theorem GrowT.apart {st0 s:St} {v:AV} {l:List Tok} (a:GrowT st0 s v l) {m:Nat} {o:AObj} (hg:hget s.h m=some o) (ho:∀ty es cs,o≠.buf ty es cs):∀n∈v.nms,n≠m:=by
 intro n hn e
 subst e
 rcases a.form with ⟨rfl,_⟩ | ⟨k,rfl,hk,_⟩
 ·cases hn
 ·simp[AV.nms]at hn
  subst hn
  rw[hg]at hk
  injection hk with hk
  exact ho _ _ _ hk
theorem GrowT.acells {st0 s:St} {v:AV} {l:List Tok} (a:GrowT st0 s v l):acells v=[v]:=by
 rcases a.form with ⟨h,_⟩ | ⟨n,h,_⟩ <;> rw[h] <;> rfl
theorem AI.ext {st0 s1 s2:St} {s:List UInt8} {O:AObj} {l:List Tok} {a:Nat} {b:Int} (h:AI st0 s1 s O l a b) (x:Ext s1 s2):AI st0 s2 s O l a b:=by
 obtain⟨h1,⟨v,h2,h3⟩,h4,h5,h6,h7⟩:=h
 exact⟨h1.trans x,⟨v,x.get h1.wf h2,h3.ext x h1.wf⟩,x.get h1.wf h4,x.get h1.wf h5,x.get h1.wf h6,x.get h1.wf h7⟩
theorem AI.set {st0 s1:St} {s:List UInt8} {O O':AObj} {l:List Tok} {a:Nat} {b:Int} (h:AI st0 s1 s O l a b) (ho:∀ty es cs,O≠.buf ty es cs):AI st0 ⟨hset s1.h (st0.nx+4) O',s1.nx⟩ s O' l a b:=by
 obtain⟨h1,⟨v,h2,h3⟩,h4,h5,h6,h7⟩:=h
 refine⟨h1.setNew h7 (by omega),⟨v,(hget_hset_ne h7 (by omega)).trans h2,h3.frm (Frm.set h1.wf h7) h1.wf ?_⟩,(hget_hset_ne h7 (by omega)).trans h4,(hget_hset_ne h7 (by omega)).trans h5,(hget_hset_ne h7 (by omega)).trans h6,hget_hset_self h7⟩
 intro n hn h
 simp at h
 exact h3.apart h7 ho n hn h
theorem AI.dropLoc {st0 s1:St} {s:List UInt8} {O:AObj} {l:List Tok} {a:Nat} {b:Int} {c:Nat} (h:AI st0 s1 s O l a b) (hc:st0.nx+5≤c):AI st0 ⟨Go.Ev.dropLoc c s1.h,s1.nx⟩ s O l a b:=by
 obtain⟨h1,⟨v,h2,h3⟩,h4,h5,h6,h7⟩:=h
 have hlt:∀m,m<st0.nx+5→hget (Go.Ev.dropLoc c s1.h) m=hget s1.h m:=fun m hm=>hget_dropLoc_lt (by omega)
 exact⟨h1.dropGe (by omega),⟨v,(hlt _ (by omega)).trans h2,h3.dropLoc h1.wf⟩,(hlt _ (by omega)).trans h4,(hlt _ (by omega)).trans h5,(hlt _ (by omega)).trans h6,(hlt _ (by omega)).trans h7⟩
theorem all_round {st0 s1:St} {s:List UInt8} {O:AObj} {l:List Tok} {a:Nat} {b:Int} (h:AI st0 s1 s O l a b) (hO:∀ty es cs,O≠.buf ty es cs) (hl:l.length<1000000000) {q:Nat} (hq:st0.nx+5≤q) {k n:Int} {t:List UInt8} {N:Nat} {er:Int} (hgq:hget s1.h q=some (.cells 284 true [.int .i64 k,.int .i64 n,.str t,.int .i64 (N:Int),.int .i64 er]))
  {e:Env} (g5:eget e 5= .ptr st0.nx 0) (g6:eget e 6= .ptr (st0.nx+1) 0) (g7:eget e 7= .ptr (st0.nx+2) 0) (g8:eget e 8= .ptr q 0):
  Res (run T B.scan_All_l0 e s1) fun x _ s'=>(er=0∧x= .norm∧AI st0 s' s O (l++[(k,n,t)]) N 0)∨(er≠0∧x= .exit 0∧AI st0 s' s O l N er):=by
 obtain⟨h1,⟨v,h2,h3⟩,h4,h5,h6,h7⟩:=h
 have r3:rdCell s1.h q 3=some (.int .i64 (N:Int)):=by simp[rdCell,hgq]
 have r4:rdCell s1.h q 4=some (.int .i64 er):=by simp[rdCell,hgq]
 have w6:=wr_one (v:= .int .i64 (N:Int)) h4 rfl
 have y6:=h1.setNew h4 (o:= .cells 3 true [.int .i64 (N:Int)]) (by omega)
 have q7:=(hget_hset_ne (o:= .cells 3 true [.int .i64 (N:Int)]) h4 (show st0.nx+1≠q by omega)).trans hgq
 have r4':rdCell (hset s1.h (st0.nx+1) (.cells 3 true [.int .i64 (N:Int)])) q 4=some (.int .i64 er):=by simp[rdCell,q7]
 have p7:=(hget_hset_ne (o:= .cells 3 true [.int .i64 (N:Int)]) h4 (show st0.nx+1≠st0.nx+2 by omega)).trans h5
 have w7:=wr_one (v:= .int .i64 er) p7 rfl
 have y7:=y6.setNew p7 (o:= .cells 30 true [.int .i64 er]) (by omega)
 have other:∀m,m≠st0.nx+1→m≠st0.nx+2→hget (hset (hset s1.h (st0.nx+1) (.cells 3 true [.int .i64 (N:Int)])) (st0.nx+2) (.cells 30 true [.int .i64 er])) m=hget s1.h m:=fun m m1 m2=>by
  rw[hget_hset_ne p7 (by omega),hget_hset_ne h4 (by omega)]
 have z7:=hget_hset_self (o:= .cells 30 true [.int .i64 er]) p7
 have z6:=(hget_hset_ne (o:= .cells 30 true [.int .i64 er]) p7 (show st0.nx+2≠st0.nx+1 by omega)).trans (hget_hset_self (o:= .cells 3 true [.int .i64 (N:Int)]) h4)
 have z5:=(other st0.nx (by omega) (by omega)).trans h2
 have zb:=(other (st0.nx+3) (by omega) (by omega)).trans h6
 have zl:=(other (st0.nx+4) (by omega) (by omega)).trans h7
 have zq:=(other q (by omega) (by omega)).trans hgq
 have g1:GrowT st0 ⟨hset s1.h (st0.nx+1) (.cells 3 true [.int .i64 (N:Int)]),s1.nx⟩ v l:=h3.frm (Frm.set h1.wf h4) h1.wf (by
  intro n hn h
  simp at h
  exact h3.apart h4 (by intro ty es cs h;cases h) n hn h)
 have g2:GrowT st0 ⟨hset (hset s1.h (st0.nx+1) (.cells 3 true [.int .i64 (N:Int)])) (st0.nx+2) (.cells 30 true [.int .i64 er]),s1.nx⟩ v l:=g1.frm (Frm.set y6.wf p7) y6.wf (by
  intro n hn h
  simp at h
  exact g1.apart p7 (by intro ty es cs h;cases h) n hn h)
 have x8:=Ext.aside y7.wf 7
 have y8:=y7.trans x8
 have g3:=g2.ext x8 y7.wf
 have rv:=rd_one z5
 have re7:=rd_one z7
 clear g1 g2 other p7 q7
 generalize hset (hset s1.h (st0.nx+1) (.cells 3 true [.int .i64 (N:Int)])) (st0.nx+2) (.cells 30 true [.int .i64 er])=h9 at*
 have rq:rdCells h9 q 0 3=some [.int .i64 k,.int .i64 n,.str t]:=by
  simp only[rdCells,zq]
  simp
 simp[B.scan_All_l0,go_sem,RO.run,WO.run,reI,g5,g6,g7,g8,r3,r4,r4',w6,w7,re7]
 by_cases h0:er=0
 ·subst h0
  simp[go_sem,RO.run,NO.run,g5,g8,rv,rq]
  refine⟨rfl,?_⟩
  refine(g3.push y8.nx y8.wf k n t (k:=1) (by omega) (by omega)).mono ?_
  rintro v2 s2 ⟨o2,f2⟩
  have y9:=y8.frm f2 g3.ge
  have keep:∀m o,hget h9 m=some o→(∀ty es cs,o≠.buf ty es cs)→hget s2.h m=some o:=fun m o hm ho=>f2.get (st:=⟨h9,s1.nx+7⟩) y8.wf hm (by
   intro hmv
   exact g3.apart (m:=m) hm ho m hmv rfl)
  have k5:=keep _ _ z5 (by intro ty es cs h;cases h)
  have w5:=wr_one (v:=v2) k5 o2.sc
  have hap:=o2.apart k5 (by intro ty es cs h;cases h)
  simp[go_sem,WO.run,g5,o2.acells,w5]
  refine⟨y9.setNew k5 (Nat.le_refl _),⟨v2,hget_hset_self k5,o2.frm (Frm.set y9.wf k5) y9.wf (by intro n hn h;simp at h;exact hap n hn h)⟩,?_,?_,?_,?_⟩
  ·exact(hget_hset_ne k5 (by omega)).trans (keep _ _ z6 (by intro ty es cs h;cases h))
  ·exact(hget_hset_ne k5 (by omega)).trans (keep _ _ z7 (by intro ty es cs h;cases h))
  ·exact(hget_hset_ne k5 (by omega)).trans (keep _ _ zb (by intro ty es cs h;cases h))
  ·exact(hget_hset_ne k5 (by omega)).trans (keep _ _ zl hO)
 ·simp[go_sem,h0]
  refine⟨rfl,?_⟩
  exact⟨y8,⟨v,z5,g3⟩,z6,z7,zb,zl⟩
theorem wr_tok5 (h:Heap) (m ty:Nat) (l:Bool) (a b c d e:AV) {k n N er:Int} {t:List UInt8}:wrCells ((m,.cells ty l [a,b,c,d,e])::h) m 0 [.int .i64 k,.int .i64 n,.str t,.int .i64 N,.int .i64 er]=some ((m,.cells ty l [.int .i64 k,.int .i64 n,.str t,.int .i64 N,.int .i64 er])::h):=by
 rw[wr_all (ty:=ty) (l:=l) (cs:=[a,b,c,d,e]) (vs:=[.int .i64 k,.int .i64 n,.str t,.int .i64 N,.int .i64 er]) (by simp[hget_cons]) rfl rfl];simp[hset_cons]
theorem tokens_loop (H:B.H_scan_tokens_1 T) {st0:St} {s:List UInt8} (hs:s.length<1000000000) {E:Env} {assign body:MCode} (hb:body=B.scan_All_l0) (has:assign= .reg [⟨some 8,none,.n (.alloc 284 true [.int .i64 0,.int .i64 0,.str [],.int .i64 0,.int .i64 0])⟩,⟨none,none,.w (.store 5 (.t 8) (.t 11))⟩])
  (g5:eget E 5= .ptr st0.nx 0) (g6:eget E 6= .ptr (st0.nx+1) 0) (g7:eget E 7= .ptr (st0.nx+2) 0) {R:List Tok×Nat×Int}:∀(f i:Nat) (l:List Tok) (a:Nat) (b:Int) (e:Env) (st1:St),s.length<f+i→i≤s.length→l.length≤i→R=runA s f i l→AI st0 st1 s (.loop .ready E [11] assign body) l a b→eget e 0= .yield (st0.nx+4)→eget e 1= .ptr (st0.nx+3) 0→eget e 3= .int .i64 (i:Int)→
  Res (run T (.loop B.scan_tokens_1_l0) e st1) fun x _ s'=>x= .ret∧AI st0 s' s (.loop (.done (.exit 0)) E [11] assign body) R.1 R.2.1 R.2.2:=by
 intro f
 induction f with
 | zero=>intro i l a b e st1 hf hi;omega
 | succ f ih=>
   intro i l a b e st1 hf hi hl hR hI g0 g1 g3
   have hx:=hI.1
   have hn:=next_tells158 (st:=st1) H.scan_Next hx.wf (s:=s) (i:=(i:Int)) (by omega) (by omega) hs
   have hpos:=fun(t:Tok) (n:Nat)=>nextS_pos (s:=s) (i:=i) (t:=t) (n:=n)
   rw[runA]at hR
   generalize nextS s (i:Int)=O at*
   obtain⟨⟨k,n,t⟩,N,er⟩:=O
   simp only at hR
   have rb:=rd_one hI.2.2.2.2.1
   rw[run_loop]
   simp[B.scan_tokens_1_l0,go_sem,g0,g1,g3,RO.run,rb]
   refine hn.use fun s1 x1=> ?_
   have hI1:=hI.ext x1
   have x2:=Ext.new hI1.1.wf (.cells 134 true [.int .i64 k,.int .i64 n,.str t])
   have hI2:=hI1.ext x2
   simp[go_sem,tk3,NO.run,WO.run,RO.run,wr_tok,rd_tok]
   refine(cres_yield hI2.2.2.2.2.2 rfl ?_ (Q:=fun v s'=>(er=0∧v= .bool true∧AI st0 s' s (.loop .ready E [11] assign body) (l++[(k,n,t)]) N 0)∨(er≠0∧v= .bool false∧AI st0 s' s (.loop (.done (.exit 0)) E [11] assign body) l N er))).mono ?_
   ·have x3:=Ext.new hI2.1.wf (.cells 284 true [.int .i64 k,.int .i64 n,.str t,.int .i64 (N:Int),.int .i64 er])
    have hI3:=hI2.ext x3
    have hnx:st0.nx+5≤s1.nx+1:=by
     have:=hI1.1.wf.lt _ _ hI1.2.2.2.2.2
     omega
    have hq:hget ((s1.nx+1,AObj.cells 284 true [.int .i64 k,.int .i64 n,.str t,.int .i64 (N:Int),.int .i64 er])::(s1.nx,.cells 134 true [.int .i64 k,.int .i64 n,.str t])::s1.h) (s1.nx+1)=some (.cells 284 true [.int .i64 k,.int .i64 n,.str t,.int .i64 (N:Int),.int .i64 er]):=by simp[hget_cons]
    generalize hS:(⟨(s1.nx+1,AObj.cells 284 true [.int .i64 k,.int .i64 n,.str t,.int .i64 (N:Int),.int .i64 er])::(s1.nx,.cells 134 true [.int .i64 k,.int .i64 n,.str t])::s1.h,s1.nx+1+1⟩:St)=s3 at hI3
    rw[show ((s1.nx+1,AObj.cells 284 true [.int .i64 k,.int .i64 n,.str t,.int .i64 (N:Int),.int .i64 er])::(s1.nx,.cells 134 true [.int .i64 k,.int .i64 n,.str t])::s1.h)=s3.h by rw[←hS]]at hq
    have hrd:=fun(e:Env) k5 k6 k7 k8=>all_round (T:=T) (hI3.set (O':= .loop .busy E [11] assign body) (by intro ty es cs h;cases h)) (by intro ty es cs h;cases h) (by omega) hnx ((hget_hset_ne hI3.2.2.2.2.2 (by omega)).trans hq) (e:=e) k5 k6 k7 k8
    have hl4:=hI3.2.2.2.2.2
    subst has hb
    simp[go_sem,NO.run,WO.run,wr_tok5,hS]
    refine⟨hl4,?_⟩
    refine(hrd _ (by simp[go_sem,g5]) (by simp[go_sem,g6]) (by simp[go_sem,g7]) (by simp[go_sem])).mono ?_
    rintro x e' s4 (⟨rfl,rfl,hI4⟩ | ⟨h0,rfl,hI4⟩)
    ·exact⟨hI4.2.2.2.2.2,.inl ⟨rfl,rfl,hI4.set (by intro ty es cs h;cases h)⟩⟩
    ·exact⟨hI4.2.2.2.2.2,.inr ⟨h0,rfl,hI4.set (by intro ty es cs h;cases h)⟩⟩
   ·rintro v s2 (⟨rfl,rfl,hI3⟩ | ⟨h0,rfl,hI3⟩)
    ·obtain⟨p1,p2,p3⟩:=hpos (k,n,t) N rfl
     rw[if_pos rfl]at hR
     simp[go_sem,g0,g1]
     exact ih N _ N 0 _ s2 (by omega) p2 (by simp;omega) hR hI3 (by simp[go_sem,g0]) (by simp[go_sem,g1]) (by simp[go_sem])
    ·rw[if_neg h0]at hR
     subst hR
     simp[go_sem,hI3]
end Go.Ev

/- scan.All told. -/
namespace Go.Ev
open Go
variable {T : Tab} {st : St}
theorem tokens_call (H:B.H_scan_tokens T) (hwf:st.Wf) {s:List UInt8} {Q:AV→St→Prop} (h:Q (.fn 192 [] [.ptr st.nx 0]) ⟨(st.nx,.cells 9 false [.str s])::st.h,st.nx+1⟩):CRes (call T (.fn 178 [] []) [.str s] st) Q:=by
 refine call_res H.e H.f rfl ?_
 have hd:dropLoc st.nx ((st.nx,AObj.cells 9 false [.str s])::st.h)=(st.nx,AObj.cells 9 false [.str s])::st.h:=by
  have:locNames st.nx ((st.nx,AObj.cells 9 false [.str s])::st.h)=[]:=by
   simp only[locNames]
   exact locNames_nil fun n o ho=>hwf.lt n o ho
  rw[dropLoc_eq,this,hdrop_nil]
 simp[B.scan_tokens,go_sem,NO.run,AV.nb,hd]
 exact h
theorem tokens_yields (H:B.H_scan_tokens_1 T) {st0 sA:St} {s:List UInt8} (hs:s.length<1000000000) {E:Env} {assign body:MCode} (hb:body=B.scan_All_l0) (has:assign= .reg [⟨some 8,none,.n (.alloc 284 true [.int .i64 0,.int .i64 0,.str [],.int .i64 0,.int .i64 0])⟩,⟨none,none,.w (.store 5 (.t 8) (.t 11))⟩])
  (g5:eget E 5= .ptr st0.nx 0) (g6:eget E 6= .ptr (st0.nx+1) 0) (g7:eget E 7= .ptr (st0.nx+2) 0) (hA:st0.nx+5≤sA.nx) (hI:AI st0 sA s (.loop .ready E [11] assign body) [] 0 0) {Q:St→Prop}
  (hQ:∀s',AI st0 s' s (.loop (.done (.exit 0)) E [11] assign body) (runA s (s.length+1) 0 []).1 (runA s (s.length+1) 0 []).2.1 (runA s (s.length+1) 0 []).2.2→Q s'):
  CRes (call T (.fn 192 [] [.ptr (st0.nx+3) 0]) [.yield (st0.nx+4)] sA) fun _ s'=>Q s':=by
 refine call_any H.e H.f rfl rfl ?_
 simp[B.scan_tokens_1,go_sem]
 refine(tokens_loop H hs hb has g5 g6 g7 (R:=runA s (s.length+1) 0 []) (s.length+1) 0 [] 0 0 _ sA (by omega) (by omega) (by simp) rfl hI (by simp[go_sem]) (by simp[go_sem]) (by simp[go_sem])).mono ?_
 rintro x e' s' ⟨rfl,h⟩
 simp[go_sem]
 exact hQ _ (h.dropLoc hA)
theorem all_res (H:B.H_scan_All T) (hwf:st.Wf) {s:List UInt8} (hs:s.length<1000000000):CRes (call T (.fn 162 [] []) [.str s] st) fun v s'=>AllR st s' (allS s) v:=by
 refine call_res H.e H.f rfl ?_
 have a2:Ext st ⟨(st.nx+2,AObj.cells 30 true [.int .i64 0])::(st.nx+1,.cells 3 true [.int .i64 0])::(st.nx,.cells 146 true [.nilslice])::st.h,st.nx+3⟩:=by
  have a0:=Ext.new hwf (.cells 146 true [.nilslice])
  have a1:=a0.trans (Ext.new a0.wf (.cells 3 true [.int .i64 0]))
  have a2:=a1.trans (Ext.new a1.wf (.cells 30 true [.int .i64 0]))
  simpa only[Nat.add_assoc,Nat.reduceAdd] using a2
 simp[B.scan_All,go_sem,NO.run,WO.run,RO.run,Nat.add_assoc,wrCells,hget_cons,hset_cons,splice,rdCell]
 refine tokens_call H.scan_tokens a2.wf ?_
 simp[go_sem]
 refine res_rangeFunc ?_
 have a3:=a2.trans (Ext.new a2.wf (.cells 9 false [.str s]))
 simp only[Nat.add_assoc,Nat.reduceAdd]at a3
 simp only[Nat.add_assoc,Nat.reduceAdd]
 generalize hE:([(10,AV.fn 192 [] [AV.ptr (st.nx+3) 0]),(9,AV.str s),(7,AV.ptr (st.nx+2) 0),(6,AV.ptr (st.nx+1) 0),(5,AV.ptr st.nx 0),(4,AV.int IntKind.i64 0),(3,AV.int IntKind.i64 0),(2,AV.nilslice),(0,AV.str s)]:Env)=E
 have g10:AO.ev E (.t 10)= .fn 192 [] [.ptr (st.nx+3) 0]:=by rw[←hE];simp[go_sem]
 have g5:eget E 5= .ptr st.nx 0:=by rw[←hE];simp[go_sem]
 have g6:eget E 6= .ptr (st.nx+1) 0:=by rw[←hE];simp[go_sem]
 have g7:eget E 7= .ptr (st.nx+2) 0:=by rw[←hE];simp[go_sem]
 clear hE
 rw[g10]
 generalize has:(MCode.reg [{dst:=some 8,guard:=none,op:=MO.n (NO.alloc 284 true [AV.int IntKind.i64 0,AV.int IntKind.i64 0,AV.str [],AV.int IntKind.i64 0,AV.int IntKind.i64 0])},{dst:=none,guard:=none,op:=MO.w (WO.store 5 (AO.t 8) (AO.t 11))}])=assign
 generalize hbo:B.scan_All_l0=body
 have a4:=a3.trans (Ext.new a3.wf (.loop .ready E [11] assign body))
 simp only[Nat.add_assoc,Nat.reduceAdd]at a4
 refine(tokens_yields H.scan_tokens.scan_tokens_1 hs hbo.symm has.symm g5 g6 g7 (Nat.le_refl _) (st0:=st) ⟨a4,⟨.nilslice,by simp[hget_cons],GrowT.nil _ _⟩,by simp[hget_cons,cO],by simp[hget_cons],by simp[hget_cons],by simp[hget_cons]⟩ (Q:=fun s1=>AI st s1 s (.loop (.done (.exit 0)) E [11] assign body) (runA s (s.length+1) 0 []).1 (runA s (s.length+1) 0 []).2.1 (runA s (s.length+1) 0 []).2.2) (fun s' h=>h)).mono ?_
 rintro _ s1 ⟨h1,⟨v,h2,h3⟩,h4,h5,h6,h7⟩
 rw[allS_fin]
 generalize runA s (s.length+1) 0 []=R at*
 obtain⟨l,n,er⟩:=R
 simp only at h3 h4 h5
 have hdl:∀m,m≠st.nx+4→hget (hdel s1.h (st.nx+4)) m=hget s1.h m:=fun m hm=>by rw[hget_hdel,if_neg (by omega)]
 have yd:Ext st ⟨hdel s1.h (st.nx+4),s1.nx⟩:=h1.frm (Frm.hdel h1.wf _) (by intro m hm;simp at hm;omega)
 have gd:GrowT st ⟨hdel s1.h (st.nx+4),s1.nx⟩ v l:=h3.frm (Frm.hdel h1.wf _) h1.wf (by
  intro k hk h
  simp at h
  exact h3.apart h7 (by intro ty es cs h;cases h) k hk h)
 have r5:=rd_one ((hdl _ (by omega)).trans h2)
 have r6:=rd_one ((hdl _ (by omega)).trans h4)
 have r7:=rd_one ((hdl _ (by omega)).trans h5)
 refine .inr ⟨_,h7,?_⟩
 have yz:=yd.trans (Ext.aside yd.wf 5)
 have gz:=gd.ext (Ext.aside yd.wf 5) yd.wf
 by_cases h:er=4
 ·subst h
  simp[go_sem,RO.run,g5,g6,g7,r5,r6,r7,finA]
  simp[go_sem,fresults,resVals,resVal,B.scan_All,AllR]
  exact⟨yz.dropGe (Nat.le_refl _),gz.dropLoc yz.wf⟩
 ·simp[go_sem,RO.run,g5,g6,g7,r5,r6,r7,finA,h]
  simp[go_sem,fresults,resVals,resVal,B.scan_All,AllR]
  exact⟨yz.dropGe (Nat.le_refl _),GrowT.nil _ _⟩
end Go.Ev

/- ScanAlls told, where works holds. -/
namespace Go.Ev
open Go
variable {T : Tab} {st : St}
theorem allS_len (s:List UInt8):(allS s).1.length≤s.length∧(allS s).2.1≤s.length:=by
 have aux:∀(f i:Nat) (l:List Tok),i≤s.length→l.length≤i→(runA s f i l).1.length≤s.length∧(runA s f i l).2.1≤s.length:=by
  intro f
  induction f with
  | zero=>intro i l hi hl;exact⟨by simp[runA];omega,hi⟩
  | succ f ih=>
    intro i l hi hl
    have hpos:=fun(t:Tok) (n:Nat)=>nextS_pos (s:=s) (i:=i) (t:=t) (n:=n)
    have hle:=nextS_le s (i:Int)
    rw[runA]
    generalize nextS s (i:Int)=O at*
    obtain⟨t,n,er⟩:=O
    simp only at hle⊢
    split
    ·rename_i h0
     subst h0
     obtain⟨p1,p2,p3⟩:=hpos t n rfl
     exact ih n _ p2 (by simp;omega)
    ·exact⟨by simp only;omega,hle⟩
 have:=aux (s.length+1) 0 [] (by omega) (by simp)
 rw[allS_fin]
 unfold finA
 split
 ·exact this
 ·exact⟨by simp,this.2⟩
end Go.Ev

/- reads and fails, where they hold; one token of a list; a Builder's string. -/
namespace Go.Ev
open Go
variable {T : Tab} {st : St}
theorem reads_tells (H:B.H_chaselaw04_reads T) (hwf:st.Wf) {s:List UInt8} (hs:s.length<1000000000) {w:AV} {l:List Tok} (hw:Rd st.h w 3 l.length (toksA l)) (hall:allS s=(l,s.length,0)):Tells T st (.fn 168 [] []) [.str s,w] (.bool true):=by
 refine tells_of H.e H.f rfl ?_
 have hl:=(allS_len s).1
 have c1:=all_res (st:=st) H.scan_All hwf (s:=s) hs
 rw[hall]at c1 hl
 simp only at hl
 simp[B.chaselaw04_reads,go_sem]
 refine c1.mono ?_
 rintro _ s1 ⟨w1,rfl,x1,o1⟩
 simp[go_sem]
 refine(same_tells H.chaseref04_Same x1.wf (l:=l) (by omega) o1.rd (hw.ext x1 hwf)).use fun s3 x3=> ?_
 simp[go_sem,x1.trans x3]
theorem string_new (H:B.H_strings_Builder_String T) {st0:St} (hx:Ext st0 st) {q:Nat} (hg:hget st.h q=some (.cells 84 false [.nilptr,.nilslice])):
  CRes (call T (.fn 92 [] []) [.ptr q 0] st) fun v s'=>v= .str []∧Ext st0 s':=by
 refine call_res H.e H.f rfl ?_
 have hr:rdCell st.h q 1=some .nilslice:=by simp[rdCell,hg]
 have xa:=hx.trans (Ext.aside hx.wf 12)
 simp[B.strings_Builder_String,go_sem,RO.run,WO.run,hr]
 exact xa.dropGe hx.nx
end Go.Ev

/- ScanSpaces told, where works holds. -/
namespace Go.Ev
open Go
variable {T : Tab} {st : St}
def InSt (h:Heap) (v:AV) (l:List (List UInt8)):Prop:=Rd h v 1 l.length (strsX l)
theorem InSt.at {h:Heap} {v:AV} {l:List (List UInt8)} {i:Nat} {b:List UInt8} (a:InSt h v l) (hb:l[i]? =some b):∃n off cp,v= .slice n off l.length cp∧rdCell h n (off+i)=some (.str b):=by
 have hil:i<l.length:=by
  rcases Nat.lt_or_ge i l.length with h | h
  ·exact h
  ·rw[List.getElem?_eq_none h]at hb;cases hb
 rcases a with ⟨h1,h2,h3⟩ | ⟨n,off,cp,h1,h2⟩
 ·omega
 ·refine⟨n,off,cp,h1,?_⟩
  rw[rdCells_get h2 (by omega)]
  unfold strsX
  rw[List.getElem?_map,hb]
  rfl
def spX:Nat→List UInt8
 | 0=>[32]
 | 1=>[10]
 | 2=>[0]
 | 3=>[9,12,32]
 | _=>[13,10]
theorem spX_gap:∀k,Gap (spX k)
 | 0=>Gap.blank (by decide)
 | 1=>Gap.blank (by decide)
 | 2=>Gap.blank (by decide)
 | 3=>Gap.app (a:=[9]) (Gap.blank (by decide)) (Gap.app (a:=[12]) (Gap.blank (by decide)) (Gap.blank (by decide)))
 | _+4=>Gap.app (a:=[13]) (Gap.blank (by decide)) (Gap.blank (by decide))
theorem spX_sep (k:Nat) (r:List UInt8):Sep (spX k++r):=by
 intro c u h
 match k with
 | 0=>injection h with h _;subst h;exact .inl (by decide)
 | 1=>injection h with h _;subst h;exact .inl (by decide)
 | 2=>injection h with h _;subst h;exact .inl (by decide)
 | 3=>injection h with h _;subst h;exact .inl (by decide)
 | _+4=>injection h with h _;subst h;exact .inl (by decide)
theorem spX_len (k:Nat):1≤(spX k).length∧(spX k).length≤3:=by
 unfold spX
 split <;> simp
def comF (s:List UInt8):List UInt8:=s.filter neC
def comS:List UInt8→List UInt8
 | []=>[]
 | _::r=>37::comF r
def cmX (bs:List (List UInt8)) (i:Nat):List UInt8:=match bs[i]? with
 | none=>[]
 | some b=>comS (b.take 20)++[13]
theorem skp_com:∀(r p:List UInt8),skp true (comF r++13::p)=(comF r).length+1+skp false p
 | [],p=>by simp[comF,skp];omega
 | c::r,p=>by
   unfold comF at*
   rw[List.filter_cons]
   split
   ·rename_i h
    have h2:¬(c=10∨c=13):=by
     simp only[neC,Bool.and_eq_true,decide_eq_true_eq]at h
     rintro(h' | h')
     ·exact h.1 h'
     ·exact h.2 h'
    simp only[List.cons_append,skp,if_neg h2,List.length_cons,skp_com r p]
    have:=skp_com r p
    unfold comF at this
    rw[this]
    omega
   ·exact skp_com r p
theorem comS_gap (s:List UInt8):Gap (comS s++[13]):=by
 intro p
 cases s with
 | nil=>simp[comS,skp,show blankC 13=true by decide];omega
 | cons c r=>
   have:=skp_com r p
   simp only[comS,List.cons_append,List.append_assoc,List.nil_append,skp,show blankC 37=false by decide,Bool.false_eq_true,if_false,if_true,List.length_cons,List.length_append,List.length_nil]
   rw[this]
   omega
theorem cmX_gap (bs:List (List UInt8)) (i:Nat):Gap (cmX bs i):=by
 unfold cmX
 split
 ·exact Gap.nil
 ·exact comS_gap _
theorem comF_len (s:List UInt8):(comF s).length≤s.length:=List.length_filter_le _ _
theorem comS_len (s:List UInt8):(comS s).length≤s.length:=by
 cases s with
 | nil=>simp[comS]
 | cons c r=>have:=comF_len r;simp[comS];omega
theorem cmX_len (bs:List (List UInt8)) (i:Nat):(cmX bs i).length≤21:=by
 unfold cmX
 split
 ·simp
 ·rename_i b _
  have h1:=comS_len (b.take 20)
  rw[List.length_take]at h1
  simp only[List.length_append,List.length_singleton]
  omega
theorem comS_snoc (s:List UInt8) (c:UInt8):comS (s++[c])=comS s++(if s=[]then [37]else if neC c=true then [c]else []):=by
 cases s with
 | nil=>simp[comS,comF]
 | cons d r=>
   simp only[List.cons_append,comS,comF,List.filter_append,List.filter_cons,List.filter_nil]
   simp
def spL (bs:List (List UInt8)):Nat→List Tok→List UInt8
 | _,[]=>[]
 | i,t::r=>txT t++(spX (i % 5)++cmX bs i)++spL bs (i+1) r
theorem spL_snoc (bs:List (List UInt8)) (t:Tok):∀(l:List Tok) (i:Nat),spL bs i (l++[t])=spL bs i l++(txT t++(spX ((i+l.length) % 5)++cmX bs (i+l.length)))
 | [],i=>by simp[spL]
 | x::r,i=>by
   simp only[List.cons_append,spL,spL_snoc bs t r (i+1),List.append_assoc,List.length_cons]
   rw[show i+1+r.length=i+(r.length+1)by omega]
theorem spL_len {bs:List (List UInt8)}:∀{l:List Tok} {i:Nat},(∀t∈l,rightT t.1 t.2.1 t.2.2=true∧t.2.2.length≤60)→l.length≤(spL bs i l).length∧(spL bs i l).length≤324*l.length
 | [],i,_=>by simp[spL]
 | t::r,i,h=>by
   have h1:=txT_len (h t (by simp))
   have h2:=spL_len (bs:=bs) (l:=r) (i:=i+1) (fun x hx=>h x (by simp[hx]))
   have h3:=spX_len (i % 5)
   have h4:=cmX_len bs i
   simp only[spL,List.length_append,List.length_cons]
   omega
theorem sp_chain (bs:List (List UInt8)):∀(l:List Tok) (i:Nat) (g:List UInt8),Gap g→(∀t∈l,rightT t.1 t.2.1 t.2.2=true)→Chain (g++spL bs i l) l
 | [],i,g,hg,_=>by
   rw[spL,List.append_nil]
   exact Chain.gap hg
 | t::r,i,g,hg,h=>by
   have hG:Gap (spX (i % 5)++cmX bs i):=Gap.app (spX_gap _) (cmX_gap _ _)
   obtain⟨h1,h2⟩:=tokS_text (h t (by simp)) (rest:=(spX (i % 5)++cmX bs i)++spL bs (i+1) r) (by rw[List.append_assoc];exact spX_sep _ _)
   rw[spL,List.append_assoc]
   exact Chain.piece hg h2 h1 (sp_chain bs r (i+1) _ hG fun x hx=>h x (by simp[hx]))
theorem sp_all {bs:List (List UInt8)} {l:List Tok} (h:OkT l):allS (spL bs 0 l)=(l,(spL bs 0 l).length,0):=by
 have:=(spL_len (bs:=bs) (l:=l) (i:=0) h.2).2
 have:=h.1
 exact Chain.all (by omega) (sp_chain bs l 0 [] Gap.nil fun t ht=>(h.2 t ht).1)
theorem spaces_l0 (H:B.H_chaselaw04_ScanSpaces T) {sA:St} (hwA:sA.Wf) {vb:AV} {bs:List (List UInt8)} (hbs:InSt sA.h vb bs) {i:Nat} {b:List UInt8} (hb:bs[i]? =some b) (hi:i<1000) {q:Nat} {o:List UInt8} (ho:o.length≤100000) {a5 a17 a18 a19:AV}:
  ∀(m k:Nat) (e:Env) (s1:St),k+m=(b.take 20).length→Ext sA s1→Bd sA s1 q (o++comS (b.take k))→eget e 1=vb→eget e 5=a5→eget e 6= .ptr q 0→eget e 7= .int .i64 (i:Int)→eget e 17=a17→eget e 18=a18→eget e 19=a19→eget e 55= .int .i64 ((b.take 20).length:Int)→eget e 56= .int .i64 (k:Int)→
  Res (run T (.loop B.chaselaw04_ScanSpaces_l0) e s1) fun x e' s'=>x= .exit 2∧Ext sA s'∧Bd sA s' q (o++comS (b.take 20))∧eget e' 1=vb∧eget e' 5=a5∧eget e' 6= .ptr q 0∧eget e' 17=a17∧eget e' 18=a18∧eget e' 19=a19:=by
 obtain⟨n20,hn20⟩:∃n,n=(b.take 20).length:=⟨_,rfl⟩
 have hn20':n20=min 20 b.length:=by rw[hn20,List.length_take]
 rw[←hn20]
 intro m
 induction m with
 | zero=>
   intro k e s1 hk hx hbd g1 g5 g6 g7 g17 g18 g19 g55 g56
   have hke:k=n20:=by omega
   subst hke
   have htk:b.take k=b.take 20:=by rw[List.take_eq_take_iff];omega
   rw[htk]at hbd
   rw[run_loop]
   simp[B.chaselaw04_ScanSpaces_l0,go_sem,g1,g5,g6,g7,g17,g18,g19,g55,g56,hx,hbd]
 | succ m ih=>
   intro k e s1 hk hx hbd g1 g5 g6 g7 g17 g18 g19 g55 g56
   have hkb:k<b.length:=by omega
   obtain⟨c,hc⟩:∃c,b[k]? =some c:=⟨_,List.getElem?_eq_getElem hkb⟩
   have hsn:comS (b.take (k+1))=comS (b.take k)++(if k=0 then [37]else if neC c=true then [c]else []):=by
    rw[List.take_add_one,hc,show (some c).toList=[c]from rfl,comS_snoc]
    congr 1
    have hne:b≠[]:=by rintro rfl;simp at hkb
    by_cases hk0:k=0
    ·rw[if_pos hk0,if_pos (by rw[hk0];rfl)]
    ·rw[if_neg hk0,if_neg (by rw[List.take_eq_nil_iff];simp[hk0,hne])]
   have hcl:=comS_len (b.take k)
   rw[List.length_take]at hcl
   obtain⟨nb,ob,cb,rfl,hrd⟩:=InSt.at (hbs.ext hx hwA) hb
   have hil:(i:Int)<bs.length:=by
    rcases Nat.lt_or_ge i bs.length with h | h
    ·omega
    ·rw[List.getElem?_eq_none h]at hb;cases hb
   have h1:(k:Int)<(n20:Int):=by omega
   have ek:IntKind.i64.wrap ((k:Int)+1)=((k+1:Nat):Int):=wrap64' (by omega) (by omega)
   have ih2:=fun e' s'=>ih (k+1) e' s' (by omega)
   rw[hsn,←List.append_assoc]at ih2
   have hol:(o++comS (b.take k)).length<35184372088831:=by rw[List.length_append];omega
   clear ih hsn hcl
   generalize o++comS (b.take k)=o1 at*
   rw[run_loop]
   by_cases hk0:k=0
   ·subst hk0
    rw[if_pos rfl]at ih2
    simp[B.chaselaw04_ScanSpaces_l0,go_sem,g1,g5,g6,g7,g17,g18,g19,g55,g56,h1,hil,RO.run,hrd,hc]
    simp at h1
    simp[go_sem,g1,g5,g6,g7,g17,g18,g19,g55,g56,h1,hil,RO.run,hrd,hc]
    refine(writeByte_at H.strings_Builder_WriteByte hx 37 rfl hbd hol).mono ?_
    rintro _ s2 ⟨x2,b2⟩
    simp[go_sem,g1,g5,g6,g7,g17,g18,g19,g55,g56]
    exact ih2 _ s2 x2 b2 (by simp[go_sem,g1]) (by simp[go_sem,g5]) (by simp[go_sem,g6]) (by simp[go_sem,g7]) (by simp[go_sem,g17]) (by simp[go_sem,g18]) (by simp[go_sem,g19]) (by simp[go_sem,g55]) (by simp[go_sem];decide)
   ·have hk0':¬(k:Int)=0:=by omega
    rw[if_neg hk0]at ih2
    have c10:((c.toNat:Int)=10)↔c=10:=by rw[←UInt8.toNat_inj];simp;omega
    have c13:((c.toNat:Int)=13)↔c=13:=by rw[←UInt8.toNat_inj];simp;omega
    simp[B.chaselaw04_ScanSpaces_l0,go_sem,g1,g5,g6,g7,g17,g18,g19,g55,g56,h1,hil,RO.run,hrd,hc,hk0,hk0']
    by_cases e10:c=10
    ·subst e10
     rw[if_neg (by decide),List.append_nil]at ih2
     simp[go_sem,g1,g5,g6,g7,g17,g18,g19,g55,g56]
     exact ih2 _ s1 hx hbd (by simp[go_sem,g1]) (by simp[go_sem,g5]) (by simp[go_sem,g6]) (by simp[go_sem,g7]) (by simp[go_sem,g17]) (by simp[go_sem,g18]) (by simp[go_sem,g19]) (by simp[go_sem,g55]) (by simp[go_sem,ek])
    ·by_cases e13:c=13
     ·subst e13
      rw[if_neg (by decide),List.append_nil]at ih2
      simp[go_sem,g1,g5,g6,g7,g17,g18,g19,g55,g56]
      exact ih2 _ s1 hx hbd (by simp[go_sem,g1]) (by simp[go_sem,g5]) (by simp[go_sem,g6]) (by simp[go_sem,g7]) (by simp[go_sem,g17]) (by simp[go_sem,g18]) (by simp[go_sem,g19]) (by simp[go_sem,g55]) (by simp[go_sem,ek])
     ·rw[if_pos (by simp[neC,e10,e13])]at ih2
      simp[go_sem,g1,g5,g6,g7,g17,g18,g19,g55,g56,c10,c13,e10,e13]
      refine(writeByte_at H.strings_Builder_WriteByte hx c rfl hbd hol).mono ?_
      rintro _ s2 ⟨x2,b2⟩
      simp[go_sem,g1,g5,g6,g7,g17,g18,g19,g55,g56]
      exact ih2 _ s2 x2 b2 (by simp[go_sem,g1]) (by simp[go_sem,g5]) (by simp[go_sem,g6]) (by simp[go_sem,g7]) (by simp[go_sem,g17]) (by simp[go_sem,g18]) (by simp[go_sem,g19]) (by simp[go_sem,g55]) (by simp[go_sem,ek])
end Go.Ev

/- ScanSpaces told, where works holds: the law. -/
namespace Go.Ev
open Go
variable {T : Tab} {st : St}
theorem spX_at {h:Heap} {n r:Nat} (hr:r<5):rdCell ((n,AObj.cells 9 false [.str [32],.str [10],.str [0],.str [9,12,32],.str [13,10]])::h) n r=some (.str (spX r)):=by
 have:r=0∨r=1∨r=2∨r=3∨r=4:=by omega
 rcases this with rfl | rfl | rfl | rfl | rfl <;> simp[rdCell,hget_cons,spX]
theorem toks_one (h:Heap) (n:Nat) (t:Tok):Rd ((n,AObj.cells 134 false [.int .i64 t.1,.int .i64 t.2.1,.str t.2.2])::h) (.slice n 0 1 (.known 1)) 3 [t].length (toksA [t]):=
 .inr ⟨n,0,_,rfl,by simp[rdCells,hget_cons,toksA,tkA]⟩
set_option maxHeartbeats 2000000 in
theorem spaces_l1 (H:B.H_chaselaw04_ScanSpaces T) {sA:St} (hwA:sA.Wf) (hp:Pow sA) {st0:St} {w:AV} {l:List Tok} (hg:GrowT st0 sA w l) (hl:OkT l) {vb:AV} {bs:List (List UInt8)} (hbs:InSt sA.h vb bs) (hbl:bs.length<9223372036854775808) {q:Nat}:
  ∀(m i:Nat) (o:List UInt8) (e:Env) (s1:St),i+m=l.length→o=spL bs 0 (l.take i)→Ext sA s1→(i=0→hget s1.h q=some (.cells 84 false [.nilptr,.nilslice]))→Bd sA s1 q o→
  eget e 1=vb→eget e 5=w→eget e 6= .ptr q 0→eget e 17=w→eget e 18= .int .i64 (l.length:Int)→eget e 19= .int .i64 (i:Int)→
  Res (run T (.loop B.chaselaw04_ScanSpaces_l1) e s1) fun x e' s'=>x= .exit 0∧Ext sA s'∧(l=[]→hget s'.h q=some (.cells 84 false [.nilptr,.nilslice]))∧Bd sA s' q (spL bs 0 l)∧eget e' 5=w∧eget e' 6= .ptr q 0:=by
 intro m
 induction m with
 | zero=>
   intro i o e s1 hi ho hx hnew hb g1 g5 g6 g17 g18 g19
   have hie:i=l.length:=by omega
   subst hie
   rw[List.take_length]at ho
   subst ho
   rw[run_loop]
   simp[B.chaselaw04_ScanSpaces_l1,go_sem,g1,g5,g6,g17,g18,g19,hx,hb]
   intro h
   exact hnew (by simp[h])
 | succ m ih=>
   intro i o e s1 hi ho hx hnew hb g1 g5 g6 g17 g18 g19
   have hil:i<l.length:=by omega
   obtain⟨t,ht⟩:∃t,l[i]? =some t:=⟨_,List.getElem?_eq_getElem hil⟩
   have hmem:=List.mem_of_getElem? ht
   have h40:=hl.1
   obtain⟨o1,o2⟩:=hl.2 t hmem
   have hg1:=hg.ext hx hwA
   obtain⟨I,hI⟩:∃I:Int,I=(i:Int):=⟨_,rfl⟩
   obtain⟨J,hJ⟩:∃J:Int,J=((i+1:Nat):Int):=⟨_,rfl⟩
   obtain⟨n,off,cp,hwn,hrd⟩:=hg1.rd.tok ht
   have h1:I<l.length:=by omega
   have hI0:0≤I:=by omega
   have hIt:I.toNat=i:=by omega
   have ek:IntKind.i64.wrap (I+1)=J:=by rw[wrap64' (by omega) (by omega)];omega
   obtain⟨r,hr⟩:∃r:Nat,r=i % 5:=⟨_,rfl⟩
   have hr5:r<5:=by omega
   have hm:I.tmod 5=(r:Int):=by rw[Int.tmod_eq_emod_of_nonneg (by omega)];omega
   have htx:=txT_len ⟨o1,o2⟩
   have hol:o.length≤324*l.length:=by
    rw[ho]
    have:=(spL_len (bs:=bs) (l:=l.take i) (i:=0) (fun x hx=>hl.2 x (List.mem_of_mem_take hx))).2
    rw[List.length_take]at this
    omega
   have hnext:spL bs 0 (l.take (i+1))=o++(txT t++(spX r++cmX bs i)):=by
    rw[List.take_add_one,ht,show (some t).toList=[t]from rfl,spL_snoc,←ho,List.length_take,show 0+min i l.length=i by omega,hr]
   have ih2:=fun o' e' s'=>ih (i+1) o' e' s' (by omega)
   rw[hnext,←hJ]at ih2
   have hprint:=fun(st':St) (hw:st'.Wf) (hp:Pow st') (v:AV) (h:Rd st'.h v 3 [t].length (toksA [t]))=>scanPrint_tells (st:=st') H.scan_Print hw hp (v:=v) (l:=[t]) ⟨by simp,fun x hx=>by rw[List.mem_singleton]at hx;subst hx;exact⟨o1,o2⟩⟩ h
   rw[show printL [t]=txT t by simp[printL,Lib.join_one]]at hprint
   have hsl:=spX_len r
   clear ih hnext ho
   have l0:=fun(b:List UInt8) (hb:bs[i]? =some b) (o:List UInt8) (ho:o.length≤100000) (e:Env) (s1:St)=>spaces_l0 H hwA hbs hb (by omega) (q:=q) (o:=o) ho (a5:=w) (a17:=w) (a18:= .int .i64 (l.length:Int)) (a19:= .int .i64 I) (b.take 20).length 0 e s1 (by omega)
   rw[←hI]at l0
   generalize txT t=X at*
   subst hwn
   rw[←hI]at g19
   have x2:=Ext.new hx.wf (.cells 134 true [.int .i64 t.1,.int .i64 t.2.1,.str t.2.2])
   have y2:=hx.trans x2
   have x3:=Ext.new y2.wf (.cells 134 false [.int .i64 t.1,.int .i64 t.2.1,.str t.2.2])
   have y3:=y2.trans x3
   have hone:=toks_one ((s1.nx,AObj.cells 134 true [.int .i64 t.1,.int .i64 t.2.1,.str t.2.2])::s1.h) (s1.nx+1) t
   rw[run_loop]
   simp[B.chaselaw04_ScanSpaces_l1,go_sem,g1,g5,g6,g17,g18,g19,h1,hI0,hIt,RO.run,hrd,NO.run,WO.run,wr_tok,rd_tok]
   refine(hprint _ y3.wf (hp.ext y3 hwA) _ hone).use fun s4 x4=> ?_
   have y4:=y3.trans x4
   have xb:=(x2.trans x3).trans x4
   have hb4:Bd sA s4 q o:=hb.ext xb hx.wf
   simp[go_sem,g1,g5,g6]
   refine(writeString_res H.strings_Builder_WriteString y4 X hb4 (by omega)).mono ?_
   rintro _ s5 ⟨y5,b5⟩
   have x6:=Ext.new y5.wf (.cells 9 false [.str [32],.str [10],.str [0],.str [9,12,32],.str [13,10]])
   have y6:=y5.trans x6
   have b6:=b5.ext x6 y5.wf
   have hsp:=spX_at (h:=s5.h) (n:=s5.nx) hr5
   have hr5i:(r:Int)<5:=by omega
   have hbs6:InSt ((s5.nx,AObj.cells 9 false [.str [32],.str [10],.str [0],.str [9,12,32],.str [13,10]])::s5.h) vb bs:=hbs.ext y6 hwA
   simp[go_sem,g1,g5,g6,NO.run,RO.run,hm,hsp,hr5i]
   refine(writeString_res H.strings_Builder_WriteString y6 (spX r) b6 (by simp;omega)).mono ?_
   rintro _ s7 ⟨y7,b7⟩
   have hbs7:InSt s7.h vb bs:=hbs.ext y7 hwA
   have hi1:¬i+1=0:=by omega
   by_cases hib:i<bs.length
   ·obtain⟨b,hbv⟩:∃b,bs[i]? =some b:=⟨_,List.getElem?_eq_getElem hib⟩
    have hcm:cmX bs i=comS (b.take 20)++[13]:=by unfold cmX;rw[hbv]
    rw[hcm]at ih2
    obtain⟨nb,ob,cb,rfl,hrb⟩:=hbs7.at hbv
    have hIb:I<(bs.length:Int):=by omega
    obtain⟨q20,hq20⟩:∃q,q=(b.take 20).length:=⟨_,rfl⟩
    have hq20':q20=min 20 b.length:=by rw[hq20,List.length_take]
    have hqm:(if(20:Int)<(b.length:Int)then 20 else(b.length:Int))=(q20:Int):=by rw[hq20'];split <;> omega
    have hqs:asubS b none (some (.int .i64 (q20:Int)))=some (.str (b.take 20)):=by
     rw[asubS_to (by omega) (by omega)]
     congr 2
     rw[List.take_eq_take_iff];omega
    have y8:=y7.trans (Ext.aside y7.wf 13)
    have b8:=b7.ext (Ext.aside y7.wf 13) y7.wf
    have hcl:=comS_len (b.take 20)
    have l0':=l0 b hbv (o++X++spX r) (by simp;omega)
    rw[←hq20]at l0' hcl
    simp[go_sem,g1,g5,g6,g17,g18,g19,hIb,hI0,hIt,RO.run,hrb,hqm,hqs]
    rw[←hq20']
    refine(l0' _ ⟨s7.h,s7.nx+13⟩ y8 (by simpa [comS] using b8) (by simp[go_sem,g1]) (by simp[go_sem,g5]) (by simp[go_sem,g6]) (by simp[go_sem]) (by simp[go_sem,g17]) (by simp[go_sem,g18]) (by simp[go_sem,g19]) (by simp[go_sem]) (by simp[go_sem])).mono ?_
    rintro x e9 s9 ⟨rfl,y9,b9,k1,k5,k6,k17,k18,k19⟩
    simp[go_sem,k1,k5,k6,k17,k18,k19]
    refine(writeByte_at H.strings_Builder_WriteByte y9 13 rfl b9 (by simp;omega)).mono ?_
    rintro _ s10 ⟨y10,b10⟩
    simp[go_sem,k1,k5,k6,k17,k18,k19,ek]
    exact ih2 _ _ s10 rfl y10 (by simp) (by simpa using b10) (by simp[go_sem,k1]) (by simp[go_sem,k5]) (by simp[go_sem,k6]) (by simp[go_sem,k17]) (by simp[go_sem,k18]) (by simp[go_sem])
   ·have hcm:cmX bs i=[]:=by unfold cmX;rw[List.getElem?_eq_none (by omega)]
    rw[hcm,List.append_nil]at ih2
    have hIb:¬I<(bs.length:Int):=by omega
    have hI00:¬I<0:=by omega
    rcases hbs7 with ⟨rfl,_,_⟩ | ⟨nb,ob,cb,rfl,_⟩
    ·simp[go_sem,g1,g5,g6,g17,g18,g19,hI00,ek]
     exact ih2 _ _ s7 rfl y7 (by simp) (by simpa using b7) (by simp[go_sem,g1]) (by simp[go_sem,g5]) (by simp[go_sem,g6]) (by simp[go_sem,g17]) (by simp[go_sem,g18]) (by simp[go_sem])
    ·simp[go_sem,g1,g5,g6,g17,g18,g19,hIb,ek]
     exact ih2 _ _ s7 rfl y7 (by simp) (by simpa using b7) (by simp[go_sem,g1]) (by simp[go_sem,g5]) (by simp[go_sem,g6]) (by simp[go_sem,g17]) (by simp[go_sem,g18]) (by simp[go_sem])
theorem spaces_res (H:B.H_chaselaw04_ScanSpaces T) (hwf:st.Wf) (hp:Pow st) {v:AV} {d:List Dra} (hv:InD st.h v d) {vb:AV} {bs:List (List UInt8)} (hbs:InSt st.h vb bs) (hbl:bs.length<9223372036854775808)
  (hworks:CRes (call T (.fn 157 [] []) [] st) fun v s=>v= .bool true∧Ext st s):CRes (call T (.fn 154 [] []) [v,vb] st) fun v _=>v= .bool true:=by
 refine call_res H.e H.f rfl ?_
 simp[B.chaselaw04_ScanSpaces,go_sem]
 refine hworks.mono ?_
 rintro _ s1 ⟨rfl,x1⟩
 simp[go_sem]
 refine(tokens_res H.chaseref04_Tokens x1.wf (hv.ext x1 hwf)).mono ?_
 rintro w1 s4 ⟨x2,o4⟩
 have y4:=x1.trans x2
 have hok:OkT (toksD d):=⟨toksD_len d,toksD_right hv.2⟩
 have h40:=hok.1
 have hball:=sp_all (bs:=bs) hok
 have hbl2:=(spL_len (bs:=bs) (l:=toksD d) (i:=0) hok.2).2
 have hbg:=(spL_len (bs:=bs) (l:=toksD d) (i:=0) hok.2).1
 generalize toksD d=l at*
 have xn:=Ext.new y4.wf (.cells 84 false [.nilptr,.nilslice])
 have hg0:hget ((s4.nx,AObj.cells 84 false [.nilptr,.nilslice])::s4.h) s4.nx=some (.cells 84 false [.nilptr,.nilslice]):=by simp[hget_cons]
 have hb0:Bd s4 ⟨(s4.nx,.cells 84 false [.nilptr,.nilslice])::s4.h,s4.nx+1⟩ s4.nx []:=⟨Nat.le_refl _,.nilptr,.nilslice,hg0,.inl rfl,Grow.nil _ _,by simp[AV.nms]⟩
 have loop:=fun(e:Env) g1 g5 g6 g17 g18 g19=>spaces_l1 H y4.wf (hp.ext y4 hwf) o4 hok (hbs.ext y4 hwf) hbl (q:=s4.nx) l.length 0 [] e ⟨(s4.nx,.cells 84 false [.nilptr,.nilslice])::s4.h,s4.nx+1⟩ (by omega) (by simp[spL]) xn (fun _=>hg0) hb0 g1 g5 g6 g17 g18 g19
 have fin:∀(s5:St) (K:AV→St→Prop),Ext s4 s5→(l=[]→hget s5.h s4.nx=some (.cells 84 false [.nilptr,.nilslice]))→Bd s4 s5 s4.nx (spL bs 0 l)→(∀s6,Ext s4 s6→K (.str (spL bs 0 l)) s6)→CRes (call T (.fn 92 [] []) [.ptr s4.nx 0] s5) K:=by
  intro s5 K x5 hn b5 hK
  by_cases hl:l=[]
  ·refine(string_new H.strings_Builder_String x5 (hn hl)).mono ?_
   rintro _ s6 ⟨rfl,x6⟩
   have:=hK s6 x6
   rw[hl]at this
   exact this
  ·have h3:0<l.length:=List.length_pos_iff.2 hl
   refine(string_res H.strings_Builder_String x5 b5 (by omega) (by omega)).mono ?_
   rintro _ s6 ⟨rfl,x6⟩
   exact hK s6 x6
 have last:=fun(s6:St) (x6:Ext s4 s6)=>reads_tells (st:=s6) H.chaselaw04_reads x6.wf (s:=spL bs 0 l) (by omega) ((o4.ext x6 y4.wf).rd) hball
 generalize spL bs 0 l=BL at*
 rcases o4.form with ⟨rfl,rfl⟩ | ⟨n,rfl,_,_⟩
 ·simp[go_sem,NO.run,AV.nb]
  refine(loop _ (by simp[go_sem]) (by simp[go_sem]) (by simp[go_sem]) (by simp[go_sem]) (by simp[go_sem]) (by simp[go_sem])).mono ?_
  rintro x e' s5 ⟨rfl,x5,hn,b5,g5,g8⟩
  simp[go_sem,g5,g8]
  refine fin _ _ x5 hn b5 fun s6 x6=> ?_
  simp[go_sem,g5,g8]
  refine(last s6 x6).use fun s7 x7=> ?_
  simp[go_sem]
 ·simp[go_sem,NO.run,AV.nb]
  refine(loop _ (by simp[go_sem]) (by simp[go_sem]) (by simp[go_sem]) (by simp[go_sem]) (by simp[go_sem]) (by simp[go_sem])).mono ?_
  rintro x e' s5 ⟨rfl,x5,hn,b5,g5,g8⟩
  simp[go_sem,g5,g8]
  refine fin _ _ x5 hn b5 fun s6 x6=> ?_
  simp[go_sem,g5,g8]
  refine(last s6 x6).use fun s7 x7=> ?_
  simp[go_sem]
end Go.Ev

/- A table of the library beside what the arguments named. -/
namespace Go.Ev
open Go Go.RowKit Go.ChangeShapes Go.WideShapes Go.Deep Go.Joins
theorem sr_add {X:Cx} {w:World} {N:Nu} {st:St} {o:AObj} {a:Addr} (h:SR chkD X N st w) (how:∀b,¬Own N st.h b) (ho:o.own=false) (hobj:ObjR chkD X (N.add st.nx a 0) w st.nx o):
  SR chkD X (N.add st.nx a 0) ⟨(st.nx,o)::st.h,st.nx+1⟩ w∧(∀b,¬Own (N.add st.nx a 0) ((st.nx,o)::st.h) b)∧N.Le (N.add st.nx a 0):=by
 have hle:N.Le (N.add st.nx a 0):=Nu.le_add (h.fresh _ (Nat.le_refl _))
 have hold:∀m,m≠st.nx→(N.add st.nx a 0).ρ m=N.ρ m:=fun m hm=>by simp[Nu.add,hm]
 have hown:∀b,¬Own (N.add st.nx a 0) ((st.nx,o)::st.h) b:=by
  rintro b ⟨n,p,x,h1,h2,h3,h4⟩
  by_cases e:n=st.nx
  ·subst e
   rw[hget_cons,if_pos rfl]at h1
   injection h1 with h1
   subst h1
   rw[ho]at h2
   cases h2
  ·rw[hget_cons,if_neg (fun x=>e x.symm)]at h1
   exact how b ⟨n,p,x,h1,h2,by rw[←hold n e];exact h3,h4⟩
 refine⟨⟨⟨?_,?_⟩,?_⟩,hown,hle⟩
 ·intro n p h1
  by_cases e:n=st.nx
  ·subst e
   rw[hget_cons,if_pos rfl]at h1
   injection h1 with h1
   subst h1
   exact hobj
  ·rw[hget_cons,if_neg (fun x=>e x.symm)]at h1
   exact ObjR.keep hle (Nat.le_refl _) (fun _ _=>rfl) (h.hr.objs n p h1)
 ·intro n m o1 p1 x y h1 h2 h3 h4 h5 h6
  exact absurd ⟨n,o1,x,h1,h3,h4,rfl⟩ (hown x.block)
 ·intro n hn
  rw[hold n (by simp only at hn;omega)]
  exact h.fresh n (by simp only at hn;omega)
theorem objR_pow {X:Cx} {w:World} {N:Nu} {n k:Nat} {name:String} (hname:X.P.globalNamed name=some (X.γ k)) (h:Lib.TabIs X.P w name .u64 Lib.pow10Tab):ObjR chkD X (N.add n ⟨X.γ k,0,none⟩ 0) w n (.glob k powAV):=by
 unfold Lib.TabIs World.var? at h
 rw[hname]at h
 simp only[Option.bind_some]at h
 split at h
 ·rename_i cs t fz hc
  refine⟨cs,t,fz,by simp[Nu.add],hc,?_⟩
  injection h with h
  rw[h]
  exact vrs_ints _
 ·cases h
theorem pow_glob (n m:Nat) (h:Heap):Pow ⟨(n,.glob B.gPow10 powAV)::h,m⟩:=⟨n,powAV,by simp[hget],by simp[powAV,B.av64]⟩
theorem tab_block {X:Cx} {w:World} {k:Nat} {name:String} (hname:X.P.globalNamed name=some (X.γ k)) (h:Lib.TabIs X.P w name .u64 Lib.pow10Tab):∃us t fz,w.heap[X.γ k]? =some (.cells us t fz):=by
 unfold Lib.TabIs World.var? at h
 rw[hname]at h
 simp only[Option.bind_some]at h
 split at h
 ·rename_i cs t fz hc
  exact⟨cs,t,fz,hc⟩
 ·cases h
theorem sr_pow {X:Cx} {w:World} {N:Nu} {st:St} {k:Nat} {name:String} (hname:X.P.globalNamed name=some (X.γ k)) (h:Lib.TabIs X.P w name .u64 Lib.pow10Tab) (hr:SR chkD X N st w) (how:∀b,¬Own N st.h b):
  ∃N':Nu,SR chkD X N' ⟨(st.nx,.glob k powAV)::st.h,st.nx+1⟩ w∧(∀b,¬Own N' ((st.nx,.glob k powAV)::st.h) b)∧N.Le N':=
 ⟨_,sr_add hr how rfl (objR_pow hname h)⟩
theorem wf_add {st:St} {o:AObj} (h:st.Wf) (hp:0<st.nx):St.Wf ⟨(st.nx,o)::st.h,st.nx+1⟩:=(Ext.new h o).wf
end Go.Ev

/- A slice of drafts among the arguments. -/
namespace Go.Ev
open Go Go.RowKit Go.ChangeShapes Go.WideShapes Go.Deep Go.Joins
theorem drasA_get {l:List Dra} {i:Nat} {x:AV} (h:(drasA l)[i]? =some x):∃d,l[i / 3]? =some d∧(draA d)[i % 3]? =some x:=by
 have hi:i<(drasA l).length:=(List.getElem?_eq_some_iff.1 h).1
 rw[drasA_len]at hi
 obtain⟨d,hd⟩:∃d,l[i / 3]? =some d:=⟨_,List.getElem?_eq_getElem (by omega)⟩
 refine⟨d,hd,?_⟩
 rw[←drasA_at hd,List.getElem?_take,if_pos (by omega),List.getElem?_drop,show i / 3*3+i % 3=i by omega]
 exact h
section
variable {H : Type} {enc : TypeId × Value → H} {P : Program} {w : World} {base : Nat} {spare : Nat → Bool} {held : Bool}
theorem draft_cells {td:TypeId} {f0 f1 f2:Field} (hs:P.underlying td=some (.struct #[f0,f1,f2])) (o0:f0.offset=0) (o1:f1.offset=1) (o2:f2.offset=2) (c0:P.cellsOf f0.type=1) (c1:P.cellsOf f1.type=1) (c2:P.cellsOf f2.type=1) (hC:P.cellsOf td=3)
  (h0:P.underlying f0.type=some (.int .u8)) (h1:P.underlying f1.type=some (.int .i32)) (h2:P.underlying f2.type=some .string) {fuel:Nat} {cs:List Value} {x:DataW H×List MemPlace} (h:DataW.trod enc P w base spare held fuel td cs=some x):
  ∃(d:Dra) (s:ByteArray),d.ok∧d.t=s.data.toList∧cs=[.int .u8 (d.k:Int),.int .i32 d.n,.string s]:=by
 obtain⟨xs,n,_,_,hl,hxl,hel⟩:=DataW.trod_struct hs h
 rw[hC]at hl
 match cs,hl with
 | [a,b,c],_=>
   have e0:=hel 0 f0 rfl
   have e1:=hel 1 f1 rfl
   have e2:=hel 2 f2 rfl
   rw[o0,c0]at e0
   rw[o1,c1]at e1
   rw[o2,c2]at e2
   obtain⟨y0,hy0⟩:∃y,xs[0]? =some y:=⟨_,List.getElem?_eq_getElem (by rw[hxl];show 0<3;omega)⟩
   obtain⟨y1,hy1⟩:∃y,xs[1]? =some y:=⟨_,List.getElem?_eq_getElem (by rw[hxl];show 1<3;omega)⟩
   obtain⟨y2,hy2⟩:∃y,xs[2]? =some y:=⟨_,List.getElem?_eq_getElem (by rw[hxl];show 2<3;omega)⟩
   rw[hy0]at e0
   rw[hy1]at e1
   rw[hy2]at e2
   simp only[List.drop_zero,List.take_succ_cons,List.take_zero,List.drop_succ_cons]at e0 e1 e2
   obtain⟨k,k0,_,wk⟩:=DataW.trod_int h0 e0
   obtain⟨m,m0,_,wm⟩:=DataW.trod_int h1 e1
   obtain⟨s,s0,_,ws⟩:=DataW.trod_string h2 e2
   simp only[List.cons.injEq,and_true]at k0 m0 s0
   subst k0 m0 s0
   have wk':=wf_u8 wk
   have wm':=wf_i32 wm
   obtain⟨k,rfl⟩:=Int.eq_ofNat_of_zero_le wk'.1
   have hml:maxLen≤9223372036854775807:=by decide
   exact⟨⟨k,m,s.data.toList⟩,s,⟨by show k<256;omega,wm'.1,wm'.2,by show s.data.toList.length<_;rw[Array.length_toList];exact Nat.lt_of_le_of_lt (Nat.le_trans ws hml) (by decide)⟩,rfl,rfl⟩
end
end Go.Ev

/- ScanBack told, where works holds. -/
namespace Go.Ev
open Go
variable {T : Tab} {st : St}
end Go.Ev

/- More than one slice among the arguments. -/
namespace Go.Ev
open Go Go.RowKit Go.ChangeShapes Go.WideShapes Go.Deep Go.Joins
def SliceD (X:Cx) (w:World) (v:Value) (es k:Nat) (cs:List AV):Prop:=cs.length=k*es∧((v= .slice none 0 0∧k=0)∨∃blk off cap,v= .slice (some ⟨blk,off,none⟩) k cap∧k≤cap∧(∃us t fz,w.heap[blk]? =some (.cells us t fz))∧∀(i:Nat) (x:AV),cs[i]? =some x→∃u,w.cell? ⟨blk,off+i,none⟩=some u∧∀N,VR X N x u)
theorem add_slice {X:Cx} {w:World} {N:Nu} {st:St} (h:SR chkD X N st w) (how:∀b,¬Own N st.h b) {b0:Nat} (hb0:∃us t fz,w.heap[b0]? =some (.cells us t fz)) {v:Value} {es k:Nat} {cs:List AV} (hs:SliceD X w v es k cs):
  ∃(N':Nu) (cs':List AV) (sv:AV),SR chkD X N' ⟨(st.nx,.ro cs')::st.h,st.nx+1⟩ w∧(∀b,¬Own N' ((st.nx,.ro cs')::st.h) b)∧N.Le N'∧VR X N' sv v∧Rd ((st.nx,.ro cs')::st.h) sv es k cs:=by
 obtain⟨hl,⟨rfl,rfl⟩ | ⟨blk,off,cap,rfl,hcap,hheap,hcell⟩⟩:=hs
 ·obtain⟨us,t,fz,hh⟩:=hb0
  obtain⟨h1,h2,h3⟩:=sr_add (o:= .ro []) (a:=⟨b0,0,none⟩) h how rfl ⟨⟨b0,0,none⟩,by simp[Nu.add],⟨us,t,fz,hh⟩,fun i x hx=>by simp at hx⟩
  exact⟨_,[],.nilslice,h1,h2,h3,rfl,.inl ⟨rfl,rfl,List.length_eq_zero_iff.1 (by rw[hl];simp)⟩⟩
 ·obtain⟨h1,h2,h3⟩:=sr_add (o:= .ro cs) (a:=⟨blk,off,none⟩) h how rfl ⟨⟨blk,off,none⟩,by simp[Nu.add],hheap,fun i x hx=>by
   obtain⟨u,hu,hv⟩:=hcell i x hx
   exact⟨u,hu,hv _⟩⟩
  refine⟨_,cs,.slice st.nx 0 k .unk,h1,h2,h3,⟨⟨blk,off,none⟩,cap,by simp[Nu.add],rfl,hcap,trivial⟩,.inr ⟨st.nx,0,.unk,rfl,?_⟩⟩
  simp only[rdCells,hget_cons,if_true]
  rw[if_pos (by omega),List.drop_zero,List.take_of_length_le (by omega)]
section
variable {H : Type} {enc : TypeId × Value → H} {P : Program} {w : World} {base : Nat} {spare : Nat → Bool} {held : Bool}
theorem ones_data {X:Cx} {r:Reach} {b0:Nat} {te tsl:TypeId} {v:Value} {d:DataW H} {p:List MemPlace} (hc:P.cellsOf te=1) (hsl:P.underlying tsl=some (.slice te)) {α:Type} [Inhabited α] (val:α→AV)
  (hel:∀{fuel:Nat} {cs:List Value} {x:DataW H×List MemPlace},DataW.trod enc P w base spare held fuel te cs=some x→∃(z:α) (u:Value),cs=[u]∧∀N,VR X N (val z) u)
  (hv:Value.okWide P w r b0 tsl v) (h:DataW.Trod enc P w base spare held tsl v d p):∃l:List α,SliceD X w v 1 l.length (l.map val)∧l.length<9223372036854775808:=by
 obtain⟨a0,len0,cap0,rfl⟩:=okWide_slice hsl hv
 obtain⟨fuel,hf⟩:=h
 rcases open_slice hsl hf with ⟨hcs,_⟩ | ⟨a,len,cap,m,n2,D,Pl,hcs,hba,hl,hm,hmm,_,hels⟩
 ·simp[Value.cells]at hcs
  obtain⟨rfl,rfl,rfl⟩:=hcs
  exact⟨[],⟨rfl,.inl ⟨rfl,rfl⟩⟩,by simp⟩
 ·simp[Value.cells]at hcs
  obtain⟨rfl,rfl,rfl⟩:=hcs
  have hcell:Cell.okWide P w r b0 tsl (.slice (some a) len0 cap0):=by
   simpa only[Value.okWide,hsl] using hv
  have hhas:a.spot=none∧∃us tt fz,w.heap[a.block]? =some (.cells us tt fz):=by
   simp only[Cell.okWide,hsl,Cell.ok,World.has]at hcell
   obtain⟨_,_,_,h3,row,cells,h4,_⟩:=hcell
   refine⟨h3,?_⟩
   unfold World.shape? at h4
   split at h4
   ·exact⟨_,_,_,by assumption⟩
   ·cases h4
  obtain⟨hsp,us,tt,fz,hheap⟩:=hhas
  obtain⟨blk,off,spot⟩:=a
  simp only at hsp
  subst hsp
  have hmlen:len0≤m:=by rw[hmm];split <;> omega
  have hdr:∀j,j<len0→∃z:α,∃u,w.cell? ⟨blk,off+j,none⟩=some u∧∀N,VR X N (val z) u:=by
   intro j hj
   obtain⟨cs',h3,h4⟩:=hels j (by omega)
   rw[hc]at h3
   obtain⟨z,u,rfl,hz⟩:=hel h4
   obtain⟨_,_,h9⟩:=World.cells?_some h3
   have h10:=h9 0 (by omega)
   simp only[List.getElem?_cons_zero,Nat.mul_one]at h10
   rw[Deep.add_add,Nat.add_zero]at h10
   refine⟨z,u,?_,hz⟩
   unfold Addr.add at h10
   split at h10
   ·rename_i hj0;rw[hj0];exact h10
   ·exact h10
  obtain⟨f,hff⟩:=Deep.choose_lt (α:=α) (p:=fun j z=>∃u,w.cell? ⟨blk,off+j,none⟩=some u∧∀N,VR X N (val z) u) hdr
  have hll:((List.range len0).map f).length=len0:=by simp
  have:maxLen≤9223372036854775807:=by decide
  refine⟨(List.range len0).map f,⟨by simp,.inr ⟨blk,off,cap0,by rw[hll],by rw[hll];exact hl,⟨us,tt,fz,hheap⟩,fun i x hx=> ?_⟩⟩,by rw[hll];omega⟩
  have hi:i<len0:=by
   have:=(List.getElem?_eq_some_iff.1 hx).1
   simpa using this
  have hx':x=val (f i):=by
   simp[hi]at hx
   exact hx.symm
  subst hx'
  exact hff i hi
theorem strs_data {X:Cx} {r:Reach} {b0:Nat} {te tsl:TypeId} {v:Value} {d:DataW H} {p:List MemPlace} (he:P.underlying te=some .string) (hc:P.cellsOf te=1) (hsl:P.underlying tsl=some (.slice te))
  (hv:Value.okWide P w r b0 tsl v) (h:DataW.Trod enc P w base spare held tsl v d p):∃l:List (List UInt8),SliceD X w v 1 l.length (strsX l)∧l.length<9223372036854775808:=
 ones_data (X:=X) hc hsl AV.str (fun h=>by
  obtain⟨s,hs,_,_⟩:=DataW.trod_string he h
  exact⟨s.data.toList,_,hs,fun N=>by simp[VR]⟩) hv h
theorem drafts_data {X:Cx} {r:Reach} {b0:Nat} {td tsl:TypeId} {f0 f1 f2:Field} {v:Value} {d:DataW H} {p:List MemPlace} (hs:P.underlying td=some (.struct #[f0,f1,f2])) (o0:f0.offset=0) (o1:f1.offset=1) (o2:f2.offset=2) (c0:P.cellsOf f0.type=1) (c1:P.cellsOf f1.type=1) (c2:P.cellsOf f2.type=1) (hC:P.cellsOf td=3)
  (h0:P.underlying f0.type=some (.int .u8)) (h1:P.underlying f1.type=some (.int .i32)) (h2:P.underlying f2.type=some .string) (hsl:P.underlying tsl=some (.slice td))
  (hv:Value.okWide P w r b0 tsl v) (h:DataW.Trod enc P w base spare held tsl v d p):
  ∃l:List Dra,SliceD X w v 3 l.length (drasA l)∧∀d∈l,d.ok:=by
 obtain⟨a0,len0,cap0,rfl⟩:=okWide_slice hsl hv
 obtain⟨fuel,hf⟩:=h
 rcases open_slice hsl hf with ⟨hcs,_⟩ | ⟨a,len,cap,m,n2,D,Pl,hcs,hba,hl,hm,hmm,_,hel⟩
 ·simp[Value.cells]at hcs
  obtain⟨rfl,rfl,rfl⟩:=hcs
  exact⟨[],⟨rfl,.inl ⟨rfl,rfl⟩⟩,fun d hd=>by cases hd⟩
 ·simp[Value.cells]at hcs
  obtain⟨rfl,rfl,rfl⟩:=hcs
  have hcell:Cell.okWide P w r b0 tsl (.slice (some a) len0 cap0):=by
   simpa only[Value.okWide,hsl] using hv
  have hhas:a.spot=none∧∃us tt fz,w.heap[a.block]? =some (.cells us tt fz):=by
   simp only[Cell.okWide,hsl,Cell.ok,World.has]at hcell
   obtain⟨_,_,_,h3,row,cells,h4,_⟩:=hcell
   refine⟨h3,?_⟩
   unfold World.shape? at h4
   split at h4
   ·exact⟨_,_,_,by assumption⟩
   ·cases h4
  obtain⟨hsp,us,tt,fz,hheap⟩:=hhas
  obtain⟨blk,off,spot⟩:=a
  simp only at hsp
  subst hsp
  have hmlen:len0≤m:=by rw[hmm];split <;> omega
  have hdr:∀j,j<len0→∃d:Dra,d.ok∧∀i x,(draA d)[i]? =some x→∃u,w.cell? ⟨blk,off+(j*3+i),none⟩=some u∧∀N,VR X N x u:=by
   intro j hj
   obtain⟨cs',h3,h4⟩:=hel j (by omega)
   rw[hC]at h3
   obtain⟨d,s,hd,ht,rfl⟩:=draft_cells hs o0 o1 o2 c0 c1 c2 hC h0 h1 h2 h4
   refine⟨d,hd,fun i x hx=> ?_⟩
   obtain⟨_,_,h9⟩:=World.cells?_some h3
   have hi:i<3:=by
    have:=(List.getElem?_eq_some_iff.1 hx).1
    simpa [draA] using this
   have h10:=h9 i hi
   rw[Deep.add_add]at h10
   have hcell2:w.cell? ⟨blk,off+(j*3+i),none⟩=[Value.int .u8 (d.k:Int),.int .i32 d.n,.string s][i]? :=by
    unfold Addr.add at h10
    split at h10
    ·rename_i hj0;rw[hj0];exact h10
    ·exact h10
   have:i=0∨i=1∨i=2:=by omega
   rcases this with rfl | rfl | rfl
   ·simp[draA]at hx
    subst hx
    exact⟨_,hcell2,fun N=>rfl⟩
   ·simp[draA]at hx
    subst hx
    exact⟨_,hcell2,fun N=>rfl⟩
   ·simp[draA]at hx
    subst hx
    exact⟨_,hcell2,fun N=>by rw[ht];simp[VR]⟩
  obtain⟨f,hff⟩:=Deep.choose_lt (α:=Dra) (p:=fun j d=>d.ok∧∀i x,(draA d)[i]? =some x→∃u,w.cell? ⟨blk,off+(j*3+i),none⟩=some u∧∀N,VR X N x u) hdr
  let l:List Dra:=(List.range len0).map f
  have hll:l.length=len0:=by simp[l]
  have hxs:(drasA l).length=len0*3:=by rw[drasA_len,hll]
  refine⟨l,⟨by rw[hxs,hll],.inr ⟨blk,off,cap0,by rw[hll],by rw[hll];exact hl,⟨us,tt,fz,hheap⟩,fun i x hx=> ?_⟩⟩,?_⟩
  ·obtain⟨d,hd,hx⟩:=drasA_get hx
   have hi:i / 3<len0:=by rw[←hll];exact(List.getElem?_eq_some_iff.1 hd).1
   have hd2:d=f (i / 3):=by
    simp[l,hi]at hd
    exact hd.symm
   subst hd2
   have:=(hff (i / 3) hi).2 (i % 3) x hx
   rw[show i / 3*3+i % 3=i by omega]at this
   exact this
  ·intro d hd
   obtain⟨j,hj,rfl⟩:=List.mem_map.1 hd
   exact(hff j (List.mem_range.1 hj)).1
end
end Go.Ev

/- A closed call run by the kernel: what it answers, and that what was there stays. -/
namespace Go.Ev
open Go
variable {T : Tab}
def okNames:List Nat→Bool
 | []=>true
 | n::r=> !hmem n r && okNames r
def allLt (k:Nat):List Nat→Bool
 | []=>true
 | n::r=>decide (n<k) && allLt k r
def okSt (k:Nat) (s:St):Bool:=okNames (s.h.map (·.1)) && (allLt s.nx (s.h.map (·.1)) && decide (k≤s.nx))
theorem hmem_false {n:Nat}:∀{l:List Nat},hmem n l=false→n∉l
 | [],_=>by simp
 | m::l,h=>by
   simp only[hmem]at h
   split at h
   ·cases h
   ·rename_i e
    simp only[List.mem_cons,not_or]
    exact⟨fun h=>e h.symm,hmem_false h⟩
theorem okNames_nodup:∀{l:List Nat},okNames l=true→l.Nodup
 | [],_=>List.nodup_nil
 | n::l,h=>by
   simp only[okNames,Bool.and_eq_true,Bool.not_eq_true']at h
   exact List.nodup_cons.2 ⟨hmem_false h.1,okNames_nodup h.2⟩
theorem allLt_mem {k:Nat}:∀{l:List Nat},allLt k l=true→∀n∈l,n<k
 | [],_,n,hn=>by cases hn
 | m::l,h,n,hn=>by
   simp only[allLt,Bool.and_eq_true,decide_eq_true_eq]at h
   rcases List.mem_cons.1 hn with rfl | hn
   ·exact h.1
   ·exact allLt_mem h.2 n hn
theorem okSt_wf {k:Nat} {s:St} (h:okSt k s=true):s.Wf∧k≤s.nx:=by
 simp only[okSt,Bool.and_eq_true,decide_eq_true_eq]at h
 refine⟨⟨fun n o ho=>allLt_mem h.2.1 n ?_,okNames_nodup h.1⟩,h.2.2⟩
 exact List.mem_map.2 ⟨(n,o),hget_mem ho,rfl⟩
def lookAt (k:Nat) (r:Option (Ex×Env×St)):Option (AV×Bool×List (Option AObj)):=
 match r with
 | some (.ret,e,s)=>some (eget e 0,okSt k s,(List.range k).map (hget s.h))
 | _=>none
theorem closed_res {f n:Nat} {mf:MFun} (hen:T.en f=none) (hf:T.fn f=some mf) (h0:mf.nargs=0) (hr:mf.results=[.t 0]) {st:St} {v:AV}
  (h:lookAt st.nx (exec T n mf.body [] st)=some (v,true,(List.range st.nx).map (hget st.h))):CRes (call T (.fn f [] []) [] st) fun v' s=>v'=v∧Ext st s:=by
 refine call_res hen hf (by simp[h0]) ?_
 cases hx:exec T n mf.body [] st with
 | none=>rw[hx]at h;cases h
 | some p=>
   obtain⟨x,e,s⟩:=p
   rw[hx]at h
   cases x with
   | norm=>cases h
   | exit i=>cases h
   | ret=>
     simp only[lookAt,Option.some.injEq,Prod.mk.injEq]at h
     obtain⟨hv,hs,hk⟩:=h
     obtain⟨hwf,hnx⟩:=okSt_wf hs
     have hrun:run T mf.body (argEnv 0 ([]++[]++[])) st=some (.ret,e,s):=run_iff.2 ⟨n,hx⟩
     rw[hrun]
     refine⟨.inr rfl,v,by rw[hr];simp[fresults,resVals,resVal,hv],rfl,?_⟩
     have x1:Ext st s:=⟨hnx,hwf,fun m hm=>by
      have:=congrArg (fun l=>l[m]?) hk
      simp only[List.getElem?_map,List.getElem?_range hm,Option.map_some,Option.some.injEq]at this
      exact this⟩
     exact x1.dropLoc
end Go.Ev

/- The functions that the law ScanSpaces reaches: their numbers, and the check of each body, printed by a program of this work. -/
namespace Go.Ev.ScanSpaces
open Go Go.Proofs Go.Ev
def phiT:NT:=(.node (.node (.node (.node (.node (.node (.node .nil 63 95 .nil) 64 43 (.node .nil 65 57 .nil)) 67 56 (.node (.node .nil 68 66 .nil) 69 118 (.node .nil 71 73 .nil)))
 74 40 (.node (.node (.node .nil 75 124 .nil) 76 125 (.node .nil 77 126 .nil)) 78 75 (.node (.node .nil 79 76 .nil) 80 77 (.node .nil 81 78 .nil)))) 82 94 (.node (.node (.node (.node
 .nil 83 44 .nil) 84 84 (.node .nil 85 58 .nil)) 86 131 (.node (.node .nil 87 132 .nil) 91 25 (.node .nil 92 24 .nil))) 93 74 (.node (.node (.node .nil 94 48 .nil) 95 137 (.node .nil
 96 138 .nil)) 97 139 (.node (.node .nil 98 140 .nil) 99 141 (.node .nil 100 142 .nil))))) 101 112 (.node (.node (.node (.node (.node .nil 102 113 .nil) 103 114 (.node .nil 104 115 .nil))
 105 42 (.node (.node .nil 106 147 .nil) 107 148 (.node .nil 109 46 .nil))) 110 110 (.node (.node (.node .nil 111 111 .nil) 112 156 (.node .nil 113 159 .nil)) 114 160 (.node (.node .nil
 115 161 .nil) 116 162 (.node .nil 117 168 .nil)))) 118 79 (.node (.node (.node (.node .nil 119 171 .nil) 120 178 (.node .nil 121 179 .nil)) 122 172 (.node (.node .nil 123 82 .nil) 127
 35 (.node .nil 128 38 .nil))) 129 20 (.node (.node (.node .nil 132 71 .nil) 133 72 (.node .nil 136 108 .nil)) 137 107 (.node (.node .nil 138 109 .nil) 139 129 .nil))))) 140 157 (.node
 (.node (.node (.node (.node (.node .nil 141 158 .nil) 142 173 (.node .nil 143 174 .nil)) 144 175 (.node (.node .nil 145 176 .nil) 146 177 (.node .nil 147 185 .nil))) 148 183 (.node
 (.node (.node .nil 149 182 .nil) 154 7 (.node .nil 157 10 .nil)) 158 11 (.node (.node .nil 160 13 .nil) 162 15 (.node .nil 164 17 .nil)))) 165 18 (.node (.node (.node (.node .nil 166
 19 .nil) 168 22 (.node .nil 169 23 .nil)) 170 27 (.node (.node .nil 171 28 .nil) 172 29 (.node .nil 173 30 .nil))) 174 31 (.node (.node (.node .nil 175 32 .nil) 178 37 (.node .nil 179
 39 .nil)) 180 41 (.node (.node .nil 182 51 .nil) 183 52 .nil)))) 184 53 (.node (.node (.node (.node (.node .nil 185 54 .nil) 186 55 (.node .nil 192 70 .nil)) 193 85 (.node (.node .nil
 194 86 .nil) 195 87 (.node .nil 196 88 .nil))) 197 89 (.node (.node (.node .nil 198 90 .nil) 199 91 (.node .nil 200 92 .nil)) 201 93 (.node (.node .nil 209 119 .nil) 210 120 (.node
 .nil 211 121 .nil)))) 212 122 (.node (.node (.node (.node .nil 213 123 .nil) 214 133 (.node .nil 215 134 .nil)) 216 135 (.node (.node .nil 217 136 .nil) 218 149 (.node .nil 219 150
 .nil))) 220 151 (.node (.node (.node .nil 221 152 .nil) 222 153 (.node .nil 223 154 .nil)) 224 155 (.node (.node .nil 225 169 .nil) 226 170 .nil))))))
def tauT:NT:=(.node (.node (.node (.node (.node (.node (.node (.node .nil 0 0 .nil) 1 1 (.node .nil 2 2 .nil)) 3 3 (.node (.node .nil 4 4 .nil) 5 5 (.node .nil 6 6 .nil))) 7 7 (.node
 (.node (.node .nil 8 8 .nil) 9 9 (.node .nil 10 10 .nil)) 11 11 (.node (.node .nil 12 12 .nil) 13 13 .nil))) 14 14 (.node (.node (.node (.node .nil 15 15 .nil) 16 16 (.node .nil 17
 17 .nil)) 18 18 (.node (.node .nil 19 19 .nil) 20 20 .nil)) 21 21 (.node (.node (.node .nil 25 23 .nil) 27 95 (.node .nil 28 56 .nil)) 30 28 (.node (.node .nil 31 41 .nil) 34 33 .nil))))
 35 22 (.node (.node (.node (.node (.node .nil 37 102 .nil) 42 62 (.node .nil 43 93 .nil)) 45 110 (.node (.node .nil 48 199 .nil) 79 90 (.node .nil 80 91 .nil))) 81 92 (.node (.node
 (.node .nil 82 49 .nil) 83 50 (.node .nil 84 51 .nil)) 85 94 (.node (.node .nil 86 52 .nil) 87 53 .nil))) 88 54 (.node (.node (.node (.node .nil 89 55 .nil) 102 117 (.node .nil 103
 118 .nil)) 104 119 (.node (.node .nil 105 120 .nil) 106 121 .nil)) 107 122 (.node (.node (.node .nil 108 89 .nil) 110 84 (.node .nil 112 203 .nil)) 114 115 (.node (.node .nil 115 116
 .nil) 116 129 .nil))))) 117 213 (.node (.node (.node (.node (.node (.node .nil 118 170 .nil) 120 141 (.node .nil 121 219 .nil)) 122 220 (.node (.node .nil 123 221 .nil) 124 222 (.node
 .nil 125 223 .nil))) 126 224 (.node (.node (.node .nil 127 225 .nil) 128 226 (.node .nil 129 227 .nil)) 130 228 (.node (.node .nil 131 229 .nil) 132 230 .nil))) 133 26 (.node (.node
 (.node (.node .nil 134 27 .nil) 135 85 (.node .nil 136 86 .nil)) 137 97 (.node (.node .nil 139 139 .nil) 140 103 .nil)) 141 106 (.node (.node (.node .nil 146 34 .nil) 147 82 (.node
 .nil 149 142 .nil)) 150 143 (.node (.node .nil 151 144 .nil) 152 72 .nil)))) 153 109 (.node (.node (.node (.node (.node .nil 154 111 .nil) 155 112 (.node .nil 156 113 .nil)) 157 114
 (.node (.node .nil 158 87 .nil) 159 123 (.node .nil 160 146 .nil))) 161 67 (.node (.node (.node .nil 162 148 .nil) 163 149 (.node .nil 164 150 .nil)) 165 151 (.node (.node .nil 166
 152 .nil) 167 125 .nil))) 168 126 (.node (.node (.node (.node .nil 169 127 .nil) 170 59 (.node .nil 171 44 .nil)) 172 164 (.node (.node .nil 173 165 .nil) 174 166 .nil)) 175 167 (.node
 (.node (.node .nil 176 168 .nil) 177 131 (.node .nil 178 140 .nil)) 179 174 (.node (.node .nil 180 186 .nil) 181 187 .nil)))))) 182 188 (.node (.node (.node (.node (.node (.node (.node
 .nil 183 189 .nil) 184 190 (.node .nil 185 192 .nil)) 186 193 (.node (.node .nil 187 194 .nil) 188 195 (.node .nil 189 196 .nil))) 190 197 (.node (.node (.node .nil 191 198 .nil) 192
 128 (.node .nil 193 204 .nil)) 194 205 (.node (.node .nil 195 207 .nil) 196 208 .nil))) 197 209 (.node (.node (.node (.node .nil 198 210 .nil) 199 211 (.node .nil 200 212 .nil)) 201
 214 (.node (.node .nil 202 215 .nil) 203 218 .nil)) 204 73 (.node (.node (.node .nil 205 74 .nil) 206 75 (.node .nil 208 43 .nil)) 209 45 (.node (.node .nil 213 58 .nil) 214 105 .nil))))
 215 108 (.node (.node (.node (.node (.node .nil 218 134 .nil) 219 135 (.node .nil 220 136 .nil)) 221 137 (.node (.node .nil 222 138 .nil) 228 145 (.node .nil 233 169 .nil))) 234 171
 (.node (.node (.node .nil 235 172 .nil) 236 173 (.node .nil 244 200 .nil)) 245 201 (.node (.node .nil 246 202 .nil) 251 216 .nil))) 252 217 (.node (.node (.node (.node .nil 253 24 .nil)
 254 25 (.node .nil 255 29 .nil)) 256 30 (.node (.node .nil 257 31 .nil) 258 32 .nil)) 259 35 (.node (.node (.node .nil 260 36 .nil) 261 37 (.node .nil 262 38 .nil)) 263 39 (.node (.node
 .nil 264 40 .nil) 265 42 .nil))))) 266 46 (.node (.node (.node (.node (.node (.node .nil 267 47 .nil) 268 48 (.node .nil 269 57 .nil)) 270 60 (.node (.node .nil 271 61 .nil) 272 63
 (.node .nil 273 64 .nil))) 274 65 (.node (.node (.node .nil 275 66 .nil) 276 68 (.node .nil 277 69 .nil)) 278 70 (.node (.node .nil 279 71 .nil) 280 76 .nil))) 281 77 (.node (.node
 (.node (.node .nil 282 78 .nil) 283 79 (.node .nil 284 80 .nil)) 285 81 (.node (.node .nil 286 83 .nil) 287 88 .nil)) 288 96 (.node (.node (.node .nil 289 98 .nil) 290 99 (.node .nil
 291 100 .nil)) 292 101 (.node (.node .nil 293 104 .nil) 294 107 .nil)))) 295 124 (.node (.node (.node (.node (.node .nil 296 130 .nil) 297 132 (.node .nil 298 133 .nil)) 299 153 (.node
 (.node .nil 300 154 .nil) 301 155 (.node .nil 302 156 .nil))) 303 157 (.node (.node (.node .nil 304 158 .nil) 305 159 (.node .nil 306 160 .nil)) 307 161 (.node (.node .nil 308 162 .nil)
 309 163 .nil))) 310 175 (.node (.node (.node (.node .nil 311 176 .nil) 312 177 (.node .nil 313 178 .nil)) 314 179 (.node (.node .nil 315 180 .nil) 316 181 .nil)) 317 182 (.node (.node
 (.node .nil 318 183 .nil) 319 184 (.node .nil 320 185 .nil)) 321 206 (.node (.node .nil 322 231 .nil) 323 232 .nil)))))))
def gamT:NT:=(.node (.node (.node .nil 0 0 .nil) 4 1 .nil) 5 2 (.node .nil 6 3 .nil))
noncomputable def cx:Cx:=⟨Tryz.prog,phiT.get,tauT.get,gamT.get⟩
theorem k_lex_Number:FnOK cx 63 B.lex_Number:=fnOK_of (by kernel_rfl) Tryz.func95 (by kernel_rfl)
theorem k_chaseref03_Number:FnOK cx 64 B.chaseref03_Number:=fnOK_of (by kernel_rfl) Tryz.func43 (by kernel_rfl)
theorem k_lex_Word:FnOK cx 65 B.lex_Word:=fnOK_of (by kernel_rfl) Tryz.func57 (by kernel_rfl)
theorem k_lex_Regular:FnOK cx 67 B.lex_Regular:=fnOK_of (by kernel_rfl) Tryz.func56 (by kernel_rfl)
theorem k_chaseref03_Regular:FnOK cx 68 B.chaseref03_Regular:=fnOK_of (by kernel_rfl) Tryz.func66 (by kernel_rfl)
theorem k_lex_Unquote:FnOK cx 69 B.lex_Unquote:=fnOK_of (by kernel_rfl) Tryz.func118 (by kernel_rfl)
theorem k_lex_Quote:FnOK cx 71 B.lex_Quote:=fnOK_of (by kernel_rfl) Tryz.func73 (by kernel_rfl)
theorem k_lex_Check:FnOK cx 74 B.lex_Check:=fnOK_of (by kernel_rfl) Tryz.func40 (by kernel_rfl)
theorem k_lex_numeral_whole:FnOK cx 75 B.lex_numeral_whole:=fnOK_of (by kernel_rfl) Tryz.func124 (by kernel_rfl)
theorem k_lex_numeral_radix:FnOK cx 76 B.lex_numeral_radix:=fnOK_of (by kernel_rfl) Tryz.func125 (by kernel_rfl)
theorem k_lex_numeral_decimal:FnOK cx 77 B.lex_numeral_decimal:=fnOK_of (by kernel_rfl) Tryz.func126 (by kernel_rfl)
theorem k_chaseref03_count:FnOK cx 78 B.chaseref03_count:=fnOK_of (by kernel_rfl) Tryz.func75 (by kernel_rfl)
theorem k_chaseref03_whole:FnOK cx 79 B.chaseref03_whole:=fnOK_of (by kernel_rfl) Tryz.func76 (by kernel_rfl)
theorem k_chaseref01_Read:FnOK cx 80 B.chaseref01_Read:=fnOK_of (by kernel_rfl) Tryz.func77 (by kernel_rfl)
theorem k_chaseref01_Parse:FnOK cx 81 B.chaseref01_Parse:=fnOK_of (by kernel_rfl) Tryz.func78 (by kernel_rfl)
theorem k_lex_regular:FnOK cx 82 B.lex_regular:=fnOK_of (by kernel_rfl) Tryz.func94 (by kernel_rfl)
theorem k_chaseref03_All:FnOK cx 83 B.chaseref03_All:=fnOK_of (by kernel_rfl) Tryz.func44 (by kernel_rfl)
theorem k_chaseref02_Blank:FnOK cx 85 B.chaseref02_Blank:=fnOK_of (by kernel_rfl) Tryz.func58 (by kernel_rfl)
theorem k_lex_quoted_next:FnOK cx 86 B.lex_quoted_next:=fnOK_of (by kernel_rfl) Tryz.func131 (by kernel_rfl)
theorem k_lex_quoted_run:FnOK cx 87 B.lex_quoted_run:=fnOK_of (by kernel_rfl) Tryz.func132 (by kernel_rfl)
theorem k_strings_Builder_WriteByte:FnOK cx 91 B.strings_Builder_WriteByte:=fnOK_of (by kernel_rfl) Tryz.func25 (by kernel_rfl)
theorem k_strings_Builder_String:FnOK cx 92 B.strings_Builder_String:=fnOK_of (by kernel_rfl) Tryz.func24 (by kernel_rfl)
theorem k_lex_right:FnOK cx 93 B.lex_right:=fnOK_of (by kernel_rfl) Tryz.func74 (by kernel_rfl)
theorem k_strings_HasPrefix:FnOK cx 94 B.strings_HasPrefix:=fnOK_of (by kernel_rfl) Tryz.func48 (by kernel_rfl)
theorem k_lex_count:FnOK cx 95 B.lex_count:=fnOK_of (by kernel_rfl) Tryz.func137 (by kernel_rfl)
theorem k_lex_numeral_answer:FnOK cx 96 B.lex_numeral_answer:=fnOK_of (by kernel_rfl) Tryz.func138 (by kernel_rfl)
theorem k_strings_Cut:FnOK cx 97 B.strings_Cut:=fnOK_of (by kernel_rfl) Tryz.func139 (by kernel_rfl)
theorem k_strings_ContainsAny:FnOK cx 98 B.strings_ContainsAny:=fnOK_of (by kernel_rfl) Tryz.func140 (by kernel_rfl)
theorem k_lex_pattern:FnOK cx 99 B.lex_pattern:=fnOK_of (by kernel_rfl) Tryz.func141 (by kernel_rfl)
theorem k_real_Parse:FnOK cx 100 B.real_Parse:=fnOK_of (by kernel_rfl) Tryz.func142 (by kernel_rfl)
theorem k_chaseref03_digit:FnOK cx 101 B.chaseref03_digit:=fnOK_of (by kernel_rfl) Tryz.func112 (by kernel_rfl)
theorem k_chaseref01_digit:FnOK cx 102 B.chaseref01_digit:=fnOK_of (by kernel_rfl) Tryz.func113 (by kernel_rfl)
theorem k_chaseref01_times:FnOK cx 103 B.chaseref01_times:=fnOK_of (by kernel_rfl) Tryz.func114 (by kernel_rfl)
theorem k_chaseref01_Floor:FnOK cx 104 B.chaseref01_Floor:=fnOK_of (by kernel_rfl) Tryz.func115 (by kernel_rfl)
theorem k_chaseref01_Is:FnOK cx 105 B.chaseref01_Is:=fnOK_of (by kernel_rfl) Tryz.func42 (by kernel_rfl)
theorem k_lex_quoted_escape:FnOK cx 106 B.lex_quoted_escape:=fnOK_of (by kernel_rfl) Tryz.func147 (by kernel_rfl)
theorem k_lex_quoted_line:FnOK cx 107 B.lex_quoted_line:=fnOK_of (by kernel_rfl) Tryz.func148 (by kernel_rfl)
theorem k_strings_Builder_copyCheck:FnOK cx 109 B.strings_Builder_copyCheck:=fnOK_of (by kernel_rfl) Tryz.func46 (by kernel_rfl)
theorem k_real_Is:FnOK cx 110 B.real_Is:=fnOK_of (by kernel_rfl) Tryz.func110 (by kernel_rfl)
theorem k_lex_named:FnOK cx 111 B.lex_named:=fnOK_of (by kernel_rfl) Tryz.func111 (by kernel_rfl)
theorem k_lex_digits:FnOK cx 112 B.lex_digits:=fnOK_of (by kernel_rfl) Tryz.func156 (by kernel_rfl)
theorem k_real_scanner_decimal:FnOK cx 113 B.real_scanner_decimal:=fnOK_of (by kernel_rfl) Tryz.func159 (by kernel_rfl)
theorem k_real_front:FnOK cx 114 B.real_front:=fnOK_of (by kernel_rfl) Tryz.func160 (by kernel_rfl)
theorem k_real_fraction:FnOK cx 115 B.real_fraction:=fnOK_of (by kernel_rfl) Tryz.func161 (by kernel_rfl)
theorem k_real_double:FnOK cx 116 B.real_double:=fnOK_of (by kernel_rfl) Tryz.func162 (by kernel_rfl)
theorem k_lex_letters:FnOK cx 117 B.lex_letters:=fnOK_of (by kernel_rfl) Tryz.func168 (by kernel_rfl)
theorem k_lex_digits_1:FnOK cx 119 B.lex_digits_1:=fnOK_of (by kernel_rfl) Tryz.func171 (by kernel_rfl)
theorem k_real_scanner_one:FnOK cx 120 B.real_scanner_one:=fnOK_of (by kernel_rfl) Tryz.func178 (by kernel_rfl)
theorem k_real_scanner_digits:FnOK cx 121 B.real_scanner_digits:=fnOK_of (by kernel_rfl) Tryz.func179 (by kernel_rfl)
theorem k_lex_value:FnOK cx 122 B.lex_value:=fnOK_of (by kernel_rfl) Tryz.func172 (by kernel_rfl)
theorem k_stringslite_HasPrefix:FnOK cx 123 B.stringslite_HasPrefix:=fnOK_of (by kernel_rfl) Tryz.func82 (by kernel_rfl)
theorem k_chaseref03_Draft_Token:FnOK cx 127 B.chaseref03_Draft_Token:=fnOK_of (by kernel_rfl) Tryz.func35 (by kernel_rfl)
theorem k_lex_Text:FnOK cx 128 B.lex_Text:=fnOK_of (by kernel_rfl) Tryz.func38 (by kernel_rfl)
theorem k_chaseref03_Right:FnOK cx 129 B.chaseref03_Right:=fnOK_of (by kernel_rfl) Tryz.func20 (by kernel_rfl)
theorem k_real_Print:FnOK cx 133 B.real_Print:=fnOK_of (by kernel_rfl) Tryz.func72 (by kernel_rfl)
theorem k_real_Print_1:FnOK cx 136 B.real_Print_1:=fnOK_of (by kernel_rfl) Tryz.func108 (by kernel_rfl)
theorem k_real_result_string:FnOK cx 137 B.real_result_string:=fnOK_of (by kernel_rfl) Tryz.func107 (by kernel_rfl)
theorem k_real_whole:FnOK cx 138 B.real_whole:=fnOK_of (by kernel_rfl) Tryz.func109 (by kernel_rfl)
theorem k_real_whole_1:FnOK cx 139 B.real_whole_1:=fnOK_of (by kernel_rfl) Tryz.func129 (by kernel_rfl)
theorem k_stringslite_Cut:FnOK cx 140 B.stringslite_Cut:=fnOK_of (by kernel_rfl) Tryz.func157 (by kernel_rfl)
theorem k_strings_IndexAny:FnOK cx 141 B.strings_IndexAny:=fnOK_of (by kernel_rfl) Tryz.func158 (by kernel_rfl)
theorem k_strings_IndexRune:FnOK cx 143 B.strings_IndexRune:=fnOK_of (by kernel_rfl) Tryz.func174 (by kernel_rfl)
theorem k_strings_shouldUseASCIISet:FnOK cx 144 B.strings_shouldUseASCIISet:=fnOK_of (by kernel_rfl) Tryz.func175 (by kernel_rfl)
theorem k_strings_makeASCIISet:FnOK cx 145 B.strings_makeASCIISet:=fnOK_of (by kernel_rfl) Tryz.func176 (by kernel_rfl)
theorem k_strings_asciiSet_contains:FnOK cx 146 B.strings_asciiSet_contains:=fnOK_of (by kernel_rfl) Tryz.func177 (by kernel_rfl)
theorem k_unicode_utf8_ValidRune:FnOK cx 147 B.unicode_utf8_ValidRune:=fnOK_of (by kernel_rfl) Tryz.func185 (by kernel_rfl)
theorem k_bytealg_Cutover:FnOK cx 148 B.bytealg_Cutover:=fnOK_of (by kernel_rfl) Tryz.func183 (by kernel_rfl)
theorem k_chaselaw04_ScanSpaces:FnOK cx 154 B.chaselaw04_ScanSpaces:=fnOK_of (by kernel_rfl) Tryz.func7 (by kernel_rfl)
theorem k_chaselaw04_works:FnOK cx 157 B.chaselaw04_works:=fnOK_of (by kernel_rfl) Tryz.func10 (by kernel_rfl)
theorem k_scan_Next:FnOK cx 158 B.scan_Next:=fnOK_of (by kernel_rfl) Tryz.func11 (by kernel_rfl)
theorem k_chaseref04_Tokens:FnOK cx 160 B.chaseref04_Tokens:=fnOK_of (by kernel_rfl) Tryz.func13 (by kernel_rfl)
theorem k_scan_All:FnOK cx 162 B.scan_All:=fnOK_of (by kernel_rfl) Tryz.func15 (by kernel_rfl)
theorem k_chaseref04_Same:FnOK cx 164 B.chaseref04_Same:=fnOK_of (by kernel_rfl) Tryz.func17 (by kernel_rfl)
theorem k_scan_Print:FnOK cx 165 B.scan_Print:=fnOK_of (by kernel_rfl) Tryz.func18 (by kernel_rfl)
theorem k_scan_Pack:FnOK cx 166 B.scan_Pack:=fnOK_of (by kernel_rfl) Tryz.func19 (by kernel_rfl)
theorem k_chaselaw04_reads:FnOK cx 168 B.chaselaw04_reads:=fnOK_of (by kernel_rfl) Tryz.func22 (by kernel_rfl)
theorem k_strings_Builder_WriteString:FnOK cx 169 B.strings_Builder_WriteString:=fnOK_of (by kernel_rfl) Tryz.func23 (by kernel_rfl)
theorem k_chaselaw04_fails:FnOK cx 170 B.chaselaw04_fails:=fnOK_of (by kernel_rfl) Tryz.func27 (by kernel_rfl)
theorem k_chaselaw04_text:FnOK cx 171 B.chaselaw04_text:=fnOK_of (by kernel_rfl) Tryz.func28 (by kernel_rfl)
theorem k_chaselaw04_name:FnOK cx 172 B.chaselaw04_name:=fnOK_of (by kernel_rfl) Tryz.func29 (by kernel_rfl)
theorem k_chaselaw04_number:FnOK cx 173 B.chaselaw04_number:=fnOK_of (by kernel_rfl) Tryz.func30 (by kernel_rfl)
theorem k_scan_reader_skip:FnOK cx 174 B.scan_reader_skip:=fnOK_of (by kernel_rfl) Tryz.func31 (by kernel_rfl)
theorem k_scan_reader_token:FnOK cx 175 B.scan_reader_token:=fnOK_of (by kernel_rfl) Tryz.func32 (by kernel_rfl)
theorem k_scan_tokens:FnOK cx 178 B.scan_tokens:=fnOK_of (by kernel_rfl) Tryz.func37 (by kernel_rfl)
theorem k_scan_form:FnOK cx 180 B.scan_form:=fnOK_of (by kernel_rfl) Tryz.func41 (by kernel_rfl)
theorem k_scan_run_string:FnOK cx 182 B.scan_run_string:=fnOK_of (by kernel_rfl) Tryz.func51 (by kernel_rfl)
theorem k_scan_blank:FnOK cx 183 B.scan_blank:=fnOK_of (by kernel_rfl) Tryz.func52 (by kernel_rfl)
theorem k_scan_reader_skip_1:FnOK cx 184 B.scan_reader_skip_1:=fnOK_of (by kernel_rfl) Tryz.func53 (by kernel_rfl)
theorem k_scan_readers:FnOK cx 185 B.scan_readers:=fnOK_of (by kernel_rfl) Tryz.func54 (by kernel_rfl)
theorem k_scan_reader_binary:FnOK cx 186 B.scan_reader_binary:=fnOK_of (by kernel_rfl) Tryz.func55 (by kernel_rfl)
theorem k_scan_tokens_1:FnOK cx 192 B.scan_tokens_1:=fnOK_of (by kernel_rfl) Tryz.func70 (by kernel_rfl)
theorem k_scan_reader_quoted:FnOK cx 193 B.scan_reader_quoted:=fnOK_of (by kernel_rfl) Tryz.func85 (by kernel_rfl)
theorem k_scan_reader_stray:FnOK cx 194 B.scan_reader_stray:=fnOK_of (by kernel_rfl) Tryz.func86 (by kernel_rfl)
theorem k_scan_reader_brace:FnOK cx 195 B.scan_reader_brace:=fnOK_of (by kernel_rfl) Tryz.func87 (by kernel_rfl)
theorem k_scan_reader_bracket:FnOK cx 196 B.scan_reader_bracket:=fnOK_of (by kernel_rfl) Tryz.func88 (by kernel_rfl)
theorem k_scan_reader_less:FnOK cx 197 B.scan_reader_less:=fnOK_of (by kernel_rfl) Tryz.func89 (by kernel_rfl)
theorem k_scan_reader_greater:FnOK cx 198 B.scan_reader_greater:=fnOK_of (by kernel_rfl) Tryz.func90 (by kernel_rfl)
theorem k_scan_reader_slash:FnOK cx 199 B.scan_reader_slash:=fnOK_of (by kernel_rfl) Tryz.func91 (by kernel_rfl)
theorem k_scan_reader_fixed:FnOK cx 200 B.scan_reader_fixed:=fnOK_of (by kernel_rfl) Tryz.func92 (by kernel_rfl)
theorem k_scan_reader_counted:FnOK cx 201 B.scan_reader_counted:=fnOK_of (by kernel_rfl) Tryz.func93 (by kernel_rfl)
theorem k_scan_text:FnOK cx 209 B.scan_text:=fnOK_of (by kernel_rfl) Tryz.func119 (by kernel_rfl)
theorem k_scan_reader_follows:FnOK cx 210 B.scan_reader_follows:=fnOK_of (by kernel_rfl) Tryz.func120 (by kernel_rfl)
theorem k_ascii_Unhex:FnOK cx 211 B.ascii_Unhex:=fnOK_of (by kernel_rfl) Tryz.func121 (by kernel_rfl)
theorem k_ascii_Unbase85:FnOK cx 212 B.ascii_Unbase85:=fnOK_of (by kernel_rfl) Tryz.func122 (by kernel_rfl)
theorem k_scan_number:FnOK cx 213 B.scan_number:=fnOK_of (by kernel_rfl) Tryz.func123 (by kernel_rfl)
theorem k_ascii_read_ascii_half:FnOK cx 214 B.ascii_read_ascii_half:=fnOK_of (by kernel_rfl) Tryz.func133 (by kernel_rfl)
theorem k_ascii_half_take:FnOK cx 215 B.ascii_half_take:=fnOK_of (by kernel_rfl) Tryz.func134 (by kernel_rfl)
theorem k_ascii_read_ascii_tens:FnOK cx 216 B.ascii_read_ascii_tens:=fnOK_of (by kernel_rfl) Tryz.func135 (by kernel_rfl)
theorem k_ascii_tens_take:FnOK cx 217 B.ascii_tens_take:=fnOK_of (by kernel_rfl) Tryz.func136 (by kernel_rfl)
theorem k_ascii_read_ascii_half_1:FnOK cx 218 B.ascii_read_ascii_half_1:=fnOK_of (by kernel_rfl) Tryz.func149 (by kernel_rfl)
theorem k_ascii_solid:FnOK cx 219 B.ascii_solid:=fnOK_of (by kernel_rfl) Tryz.func150 (by kernel_rfl)
theorem k_ascii_bounded:FnOK cx 220 B.ascii_bounded:=fnOK_of (by kernel_rfl) Tryz.func151 (by kernel_rfl)
theorem k_ascii_nibble:FnOK cx 221 B.ascii_nibble:=fnOK_of (by kernel_rfl) Tryz.func152 (by kernel_rfl)
theorem k_ascii_read_ascii_tens_1:FnOK cx 222 B.ascii_read_ascii_tens_1:=fnOK_of (by kernel_rfl) Tryz.func153 (by kernel_rfl)
theorem k_ascii_tens_close:FnOK cx 223 B.ascii_tens_close:=fnOK_of (by kernel_rfl) Tryz.func154 (by kernel_rfl)
theorem k_ascii_fold:FnOK cx 224 B.ascii_fold:=fnOK_of (by kernel_rfl) Tryz.func155 (by kernel_rfl)
theorem k_ascii_solid_1:FnOK cx 225 B.ascii_solid_1:=fnOK_of (by kernel_rfl) Tryz.func169 (by kernel_rfl)
theorem k_ascii_blank:FnOK cx 226 B.ascii_blank:=fnOK_of (by kernel_rfl) Tryz.func170 (by kernel_rfl)
def fnT:FT:=(.node (.node (.node (.node (.node (.node (.node .nil 63 B.lex_Number .nil) 64 B.chaseref03_Number (.node .nil 65 B.lex_Word .nil)) 67 B.lex_Regular (.node (.node .nil
 68 B.chaseref03_Regular .nil) 69 B.lex_Unquote (.node .nil 71 B.lex_Quote .nil))) 74 B.lex_Check (.node (.node (.node .nil 75 B.lex_numeral_whole .nil) 76 B.lex_numeral_radix (.node
 .nil 77 B.lex_numeral_decimal .nil)) 78 B.chaseref03_count (.node (.node .nil 79 B.chaseref03_whole .nil) 80 B.chaseref01_Read .nil))) 81 B.chaseref01_Parse (.node (.node (.node (.node
 .nil 82 B.lex_regular .nil) 83 B.chaseref03_All (.node .nil 85 B.chaseref02_Blank .nil)) 86 B.lex_quoted_next (.node (.node .nil 87 B.lex_quoted_run .nil) 91 B.strings_Builder_WriteByte
 (.node .nil 92 B.strings_Builder_String .nil))) 93 B.lex_right (.node (.node (.node .nil 94 B.strings_HasPrefix .nil) 95 B.lex_count (.node .nil 96 B.lex_numeral_answer .nil)) 97 B.strings_Cut
 (.node (.node .nil 98 B.strings_ContainsAny .nil) 99 B.lex_pattern .nil)))) 100 B.real_Parse (.node (.node (.node (.node (.node .nil 101 B.chaseref03_digit .nil) 102 B.chaseref01_digit
 (.node .nil 103 B.chaseref01_times .nil)) 104 B.chaseref01_Floor (.node (.node .nil 105 B.chaseref01_Is .nil) 106 B.lex_quoted_escape (.node .nil 107 B.lex_quoted_line .nil))) 109 B.strings_Builder_copyCheck
 (.node (.node (.node .nil 110 B.real_Is .nil) 111 B.lex_named (.node .nil 112 B.lex_digits .nil)) 113 B.real_scanner_decimal (.node (.node .nil 114 B.real_front .nil) 115 B.real_fraction
 .nil))) 116 B.real_double (.node (.node (.node (.node .nil 117 B.lex_letters .nil) 119 B.lex_digits_1 (.node .nil 120 B.real_scanner_one .nil)) 121 B.real_scanner_digits (.node (.node
 .nil 122 B.lex_value .nil) 123 B.stringslite_HasPrefix (.node .nil 127 B.chaseref03_Draft_Token .nil))) 128 B.lex_Text (.node (.node (.node .nil 129 B.chaseref03_Right .nil) 133 B.real_Print
 (.node .nil 136 B.real_Print_1 .nil)) 137 B.real_result_string (.node (.node .nil 138 B.real_whole .nil) 139 B.real_whole_1 .nil))))) 140 B.stringslite_Cut (.node (.node (.node (.node
 (.node (.node .nil 141 B.strings_IndexAny .nil) 143 B.strings_IndexRune (.node .nil 144 B.strings_shouldUseASCIISet .nil)) 145 B.strings_makeASCIISet (.node (.node .nil 146 B.strings_asciiSet_contains
 .nil) 147 B.unicode_utf8_ValidRune (.node .nil 148 B.bytealg_Cutover .nil))) 154 B.chaselaw04_ScanSpaces (.node (.node (.node .nil 157 B.chaselaw04_works .nil) 158 B.scan_Next (.node
 .nil 160 B.chaseref04_Tokens .nil)) 162 B.scan_All (.node (.node .nil 164 B.chaseref04_Same .nil) 165 B.scan_Print .nil))) 166 B.scan_Pack (.node (.node (.node (.node .nil 168 B.chaselaw04_reads
 .nil) 169 B.strings_Builder_WriteString (.node .nil 170 B.chaselaw04_fails .nil)) 171 B.chaselaw04_text (.node (.node .nil 172 B.chaselaw04_name .nil) 173 B.chaselaw04_number (.node
 .nil 174 B.scan_reader_skip .nil))) 175 B.scan_reader_token (.node (.node (.node .nil 178 B.scan_tokens .nil) 180 B.scan_form (.node .nil 182 B.scan_run_string .nil)) 183 B.scan_blank
 (.node (.node .nil 184 B.scan_reader_skip_1 .nil) 185 B.scan_readers .nil)))) 186 B.scan_reader_binary (.node (.node (.node (.node (.node .nil 192 B.scan_tokens_1 .nil) 193 B.scan_reader_quoted
 (.node .nil 194 B.scan_reader_stray .nil)) 195 B.scan_reader_brace (.node (.node .nil 196 B.scan_reader_bracket .nil) 197 B.scan_reader_less (.node .nil 198 B.scan_reader_greater .nil)))
 199 B.scan_reader_slash (.node (.node (.node .nil 200 B.scan_reader_fixed .nil) 201 B.scan_reader_counted (.node .nil 209 B.scan_text .nil)) 210 B.scan_reader_follows (.node (.node
 .nil 211 B.ascii_Unhex .nil) 212 B.ascii_Unbase85 .nil))) 213 B.scan_number (.node (.node (.node (.node .nil 214 B.ascii_read_ascii_half .nil) 215 B.ascii_half_take (.node .nil 216
 B.ascii_read_ascii_tens .nil)) 217 B.ascii_tens_take (.node (.node .nil 218 B.ascii_read_ascii_half_1 .nil) 219 B.ascii_solid .nil)) 220 B.ascii_bounded (.node (.node (.node .nil 221
 B.ascii_nibble .nil) 222 B.ascii_read_ascii_tens_1 (.node .nil 223 B.ascii_tens_close .nil)) 224 B.ascii_fold (.node (.node .nil 225 B.ascii_solid_1 .nil) 226 B.ascii_blank .nil))))))
theorem fnT_all:fnT.All (FnOK cx):=⟨⟨⟨⟨⟨⟨⟨trivial,k_lex_Number,trivial⟩,k_chaseref03_Number,⟨trivial,k_lex_Word,trivial⟩⟩,k_lex_Regular,⟨⟨trivial,k_chaseref03_Regular,
 trivial⟩,k_lex_Unquote,⟨trivial,k_lex_Quote,trivial⟩⟩⟩,k_lex_Check,⟨⟨⟨trivial,k_lex_numeral_whole,trivial⟩,k_lex_numeral_radix,⟨trivial,k_lex_numeral_decimal,trivial⟩⟩,
 k_chaseref03_count,⟨⟨trivial,k_chaseref03_whole,trivial⟩,k_chaseref01_Read,trivial⟩⟩⟩,k_chaseref01_Parse,⟨⟨⟨⟨trivial,k_lex_regular,trivial⟩,k_chaseref03_All,⟨trivial,k_chaseref02_Blank,
 trivial⟩⟩,k_lex_quoted_next,⟨⟨trivial,k_lex_quoted_run,trivial⟩,k_strings_Builder_WriteByte,⟨trivial,k_strings_Builder_String,trivial⟩⟩⟩,k_lex_right,⟨⟨⟨trivial,k_strings_HasPrefix,
 trivial⟩,k_lex_count,⟨trivial,k_lex_numeral_answer,trivial⟩⟩,k_strings_Cut,⟨⟨trivial,k_strings_ContainsAny,trivial⟩,k_lex_pattern,trivial⟩⟩⟩⟩,k_real_Parse,⟨⟨⟨⟨⟨trivial,
 k_chaseref03_digit,trivial⟩,k_chaseref01_digit,⟨trivial,k_chaseref01_times,trivial⟩⟩,k_chaseref01_Floor,⟨⟨trivial,k_chaseref01_Is,trivial⟩,k_lex_quoted_escape,⟨trivial,k_lex_quoted_line,
 trivial⟩⟩⟩,k_strings_Builder_copyCheck,⟨⟨⟨trivial,k_real_Is,trivial⟩,k_lex_named,⟨trivial,k_lex_digits,trivial⟩⟩,k_real_scanner_decimal,⟨⟨trivial,k_real_front,trivial⟩,
 k_real_fraction,trivial⟩⟩⟩,k_real_double,⟨⟨⟨⟨trivial,k_lex_letters,trivial⟩,k_lex_digits_1,⟨trivial,k_real_scanner_one,trivial⟩⟩,k_real_scanner_digits,⟨⟨trivial,k_lex_value,
 trivial⟩,k_stringslite_HasPrefix,⟨trivial,k_chaseref03_Draft_Token,trivial⟩⟩⟩,k_lex_Text,⟨⟨⟨trivial,k_chaseref03_Right,trivial⟩,k_real_Print,⟨trivial,k_real_Print_1,trivial⟩⟩,
 k_real_result_string,⟨⟨trivial,k_real_whole,trivial⟩,k_real_whole_1,trivial⟩⟩⟩⟩⟩,k_stringslite_Cut,⟨⟨⟨⟨⟨⟨trivial,k_strings_IndexAny,trivial⟩,k_strings_IndexRune,⟨trivial,
 k_strings_shouldUseASCIISet,trivial⟩⟩,k_strings_makeASCIISet,⟨⟨trivial,k_strings_asciiSet_contains,trivial⟩,k_unicode_utf8_ValidRune,⟨trivial,k_bytealg_Cutover,trivial⟩⟩⟩,
 k_chaselaw04_ScanSpaces,⟨⟨⟨trivial,k_chaselaw04_works,trivial⟩,k_scan_Next,⟨trivial,k_chaseref04_Tokens,trivial⟩⟩,k_scan_All,⟨⟨trivial,k_chaseref04_Same,trivial⟩,k_scan_Print,
 trivial⟩⟩⟩,k_scan_Pack,⟨⟨⟨⟨trivial,k_chaselaw04_reads,trivial⟩,k_strings_Builder_WriteString,⟨trivial,k_chaselaw04_fails,trivial⟩⟩,k_chaselaw04_text,⟨⟨trivial,k_chaselaw04_name,
 trivial⟩,k_chaselaw04_number,⟨trivial,k_scan_reader_skip,trivial⟩⟩⟩,k_scan_reader_token,⟨⟨⟨trivial,k_scan_tokens,trivial⟩,k_scan_form,⟨trivial,k_scan_run_string,trivial⟩⟩,
 k_scan_blank,⟨⟨trivial,k_scan_reader_skip_1,trivial⟩,k_scan_readers,trivial⟩⟩⟩⟩,k_scan_reader_binary,⟨⟨⟨⟨⟨trivial,k_scan_tokens_1,trivial⟩,k_scan_reader_quoted,⟨trivial,
 k_scan_reader_stray,trivial⟩⟩,k_scan_reader_brace,⟨⟨trivial,k_scan_reader_bracket,trivial⟩,k_scan_reader_less,⟨trivial,k_scan_reader_greater,trivial⟩⟩⟩,k_scan_reader_slash,
 ⟨⟨⟨trivial,k_scan_reader_fixed,trivial⟩,k_scan_reader_counted,⟨trivial,k_scan_text,trivial⟩⟩,k_scan_reader_follows,⟨⟨trivial,k_ascii_Unhex,trivial⟩,k_ascii_Unbase85,trivial⟩⟩⟩,
 k_scan_number,⟨⟨⟨⟨trivial,k_ascii_read_ascii_half,trivial⟩,k_ascii_half_take,⟨trivial,k_ascii_read_ascii_tens,trivial⟩⟩,k_ascii_tens_take,⟨⟨trivial,k_ascii_read_ascii_half_1,
 trivial⟩,k_ascii_solid,trivial⟩⟩,k_ascii_bounded,⟨⟨⟨trivial,k_ascii_nibble,trivial⟩,k_ascii_read_ascii_tens_1,⟨trivial,k_ascii_tens_close,trivial⟩⟩,k_ascii_fold,⟨⟨trivial,
 k_ascii_solid_1,trivial⟩,k_ascii_blank,trivial⟩⟩⟩⟩⟩⟩
def enT:Nat→Option Entry:=fun k=>if k=179 then some B.E_strings_Join else if k=132 then some B.E_strconv_Itoa else if k=118 then some B.E_abi_NoEscape else if k=84 then some B.E_strings_IndexByte else if k=142 then some B.E_stringslite_Index else none
def tab:Tab:=⟨fnT.get,enT⟩
theorem has_strings_Join:B.H_strings_Join tab:=⟨rfl⟩
theorem has_strconv_Itoa:B.H_strconv_Itoa tab:=⟨rfl⟩
theorem has_abi_NoEscape:B.H_abi_NoEscape tab:=⟨rfl⟩
theorem has_strings_IndexByte:B.H_strings_IndexByte tab:=⟨rfl⟩
theorem has_stringslite_Index:B.H_stringslite_Index tab:=⟨rfl⟩
theorem has_strings_Builder_String:B.H_strings_Builder_String tab:=⟨rfl,rfl⟩
theorem has_chaselaw04_number:B.H_chaselaw04_number tab:=⟨rfl,rfl⟩
theorem has_chaselaw04_name:B.H_chaselaw04_name tab:=⟨rfl,rfl⟩
theorem has_chaselaw04_text:B.H_chaselaw04_text tab:=⟨rfl,rfl⟩
theorem has_strings_Builder_copyCheck:B.H_strings_Builder_copyCheck tab:=⟨rfl,rfl,has_abi_NoEscape⟩
theorem has_chaseref04_Same:B.H_chaseref04_Same tab:=⟨rfl,rfl⟩
theorem has_scan_run_string:B.H_scan_run_string tab:=⟨rfl,rfl⟩
theorem has_scan_blank:B.H_scan_blank tab:=⟨rfl,rfl,has_strings_IndexByte⟩
theorem has_scan_reader_skip_1:B.H_scan_reader_skip_1 tab:=⟨rfl,rfl⟩
theorem has_lex_Regular:B.H_lex_Regular tab:=⟨rfl,rfl,has_strings_IndexByte⟩
theorem has_chaseref02_Blank:B.H_chaseref02_Blank tab:=⟨rfl,rfl⟩
theorem has_chaseref01_Is:B.H_chaseref01_Is tab:=⟨rfl,rfl⟩
theorem has_scan_reader_stray:B.H_scan_reader_stray tab:=⟨rfl,rfl⟩
theorem has_scan_reader_brace:B.H_scan_reader_brace tab:=⟨rfl,rfl⟩
theorem has_lex_regular:B.H_lex_regular tab:=⟨rfl,rfl,has_lex_Regular⟩
theorem has_real_Is:B.H_real_Is tab:=⟨rfl,rfl⟩
theorem has_chaseref03_whole:B.H_chaseref03_whole tab:=⟨rfl,rfl⟩
theorem has_scan_reader_follows:B.H_scan_reader_follows tab:=⟨rfl,rfl⟩
theorem has_scan_number:B.H_scan_number tab:=⟨rfl,rfl⟩
theorem has_chaseref03_digit:B.H_chaseref03_digit tab:=⟨rfl,rfl⟩
theorem has_chaseref01_digit:B.H_chaseref01_digit tab:=⟨rfl,rfl⟩
theorem has_chaseref01_times:B.H_chaseref01_times tab:=⟨rfl,rfl⟩
theorem has_chaseref01_Floor:B.H_chaseref01_Floor tab:=⟨rfl,rfl⟩
theorem has_real_whole_1:B.H_real_whole_1 tab:=⟨rfl,rfl⟩
theorem has_lex_quoted_next:B.H_lex_quoted_next tab:=⟨rfl,rfl⟩
theorem has_lex_numeral_answer:B.H_lex_numeral_answer tab:=⟨rfl,rfl⟩
theorem has_lex_quoted_line:B.H_lex_quoted_line tab:=⟨rfl,rfl⟩
theorem has_ascii_read_ascii_half_1:B.H_ascii_read_ascii_half_1 tab:=⟨rfl,rfl⟩
theorem has_ascii_bounded:B.H_ascii_bounded tab:=⟨rfl,rfl⟩
theorem has_ascii_nibble:B.H_ascii_nibble tab:=⟨rfl,rfl,has_strings_IndexByte⟩
theorem has_ascii_read_ascii_tens_1:B.H_ascii_read_ascii_tens_1 tab:=⟨rfl,rfl⟩
theorem has_ascii_fold:B.H_ascii_fold tab:=⟨rfl,rfl⟩
theorem has_stringslite_HasPrefix:B.H_stringslite_HasPrefix tab:=⟨rfl,rfl⟩
theorem has_stringslite_Cut:B.H_stringslite_Cut tab:=⟨rfl,rfl,has_stringslite_Index⟩
theorem has_real_front:B.H_real_front tab:=⟨rfl,rfl⟩
theorem has_real_fraction:B.H_real_fraction tab:=⟨rfl,rfl⟩
theorem has_real_double:B.H_real_double tab:=⟨rfl,rfl⟩
theorem has_lex_letters:B.H_lex_letters tab:=⟨rfl,rfl⟩
theorem has_strings_shouldUseASCIISet:B.H_strings_shouldUseASCIISet tab:=⟨rfl,rfl⟩
theorem has_strings_makeASCIISet:B.H_strings_makeASCIISet tab:=⟨rfl,rfl⟩
theorem has_strings_asciiSet_contains:B.H_strings_asciiSet_contains tab:=⟨rfl,rfl⟩
theorem has_real_scanner_one:B.H_real_scanner_one tab:=⟨rfl,rfl⟩
theorem has_real_scanner_digits:B.H_real_scanner_digits tab:=⟨rfl,rfl,has_real_scanner_one⟩
theorem has_ascii_blank:B.H_ascii_blank tab:=⟨rfl,rfl⟩
theorem has_lex_value:B.H_lex_value tab:=⟨rfl,rfl⟩
theorem has_unicode_utf8_ValidRune:B.H_unicode_utf8_ValidRune tab:=⟨rfl,rfl⟩
theorem has_bytealg_Cutover:B.H_bytealg_Cutover tab:=⟨rfl,rfl⟩
theorem has_strings_Builder_WriteString:B.H_strings_Builder_WriteString tab:=⟨rfl,rfl,has_strings_Builder_copyCheck⟩
theorem has_strings_Builder_WriteByte:B.H_strings_Builder_WriteByte tab:=⟨rfl,rfl,has_strings_Builder_copyCheck⟩
theorem has_scan_reader_skip:B.H_scan_reader_skip tab:=⟨rfl,rfl,has_scan_run_string,has_scan_blank,has_scan_reader_skip_1⟩
theorem has_scan_form:B.H_scan_form tab:=⟨rfl,rfl,has_strings_Builder_WriteByte,has_strings_Builder_WriteString,has_strings_Builder_String⟩
theorem has_chaseref03_Regular:B.H_chaseref03_Regular tab:=⟨rfl,rfl,has_chaseref02_Blank⟩
theorem has_lex_Quote:B.H_lex_Quote tab:=⟨rfl,rfl,has_strings_Builder_WriteByte,has_strings_Builder_String⟩
theorem has_chaseref03_All:B.H_chaseref03_All tab:=⟨rfl,rfl,has_chaseref03_Regular⟩
theorem has_real_result_string:B.H_real_result_string tab:=⟨rfl,rfl,has_real_Is⟩
theorem has_scan_reader_fixed:B.H_scan_reader_fixed tab:=⟨rfl,rfl,has_scan_reader_stray,has_scan_number⟩
theorem has_chaseref03_count:B.H_chaseref03_count tab:=⟨rfl,rfl,has_chaseref03_digit⟩
theorem has_chaseref01_Read:B.H_chaseref01_Read tab:=⟨rfl,rfl,has_chaseref01_digit⟩
theorem has_chaseref01_Parse:B.H_chaseref01_Parse tab:=⟨rfl,rfl,has_chaseref01_Read,has_chaseref01_times,has_chaseref01_Floor,has_chaseref01_Is⟩
theorem has_real_whole:B.H_real_whole tab:=⟨rfl,rfl,has_real_whole_1⟩
theorem has_ascii_half_take:B.H_ascii_half_take tab:=⟨rfl,rfl,has_ascii_nibble⟩
theorem has_strings_HasPrefix:B.H_strings_HasPrefix tab:=⟨rfl,rfl,has_stringslite_HasPrefix⟩
theorem has_strings_Cut:B.H_strings_Cut tab:=⟨rfl,rfl,has_stringslite_Cut⟩
theorem has_lex_quoted_escape:B.H_lex_quoted_escape tab:=⟨rfl,rfl,has_lex_quoted_next,has_lex_letters,has_lex_quoted_line⟩
theorem has_ascii_tens_close:B.H_ascii_tens_close tab:=⟨rfl,rfl,has_ascii_fold⟩
theorem has_real_scanner_decimal:B.H_real_scanner_decimal tab:=⟨rfl,rfl,has_real_scanner_one,has_real_scanner_digits⟩
theorem has_ascii_solid_1:B.H_ascii_solid_1 tab:=⟨rfl,rfl,has_ascii_blank⟩
theorem has_lex_digits_1:B.H_lex_digits_1 tab:=⟨rfl,rfl,has_lex_value⟩
theorem has_strings_IndexRune:B.H_strings_IndexRune tab:=⟨rfl,rfl,has_strings_IndexByte,has_unicode_utf8_ValidRune,has_bytealg_Cutover⟩
theorem has_chaseref03_Number:B.H_chaseref03_Number tab:=⟨rfl,rfl,has_chaseref03_count,has_chaseref03_whole,has_chaseref01_Read,has_chaseref01_Parse⟩
theorem has_real_Print_1:B.H_real_Print_1 tab:=⟨rfl,rfl,has_strings_Builder_WriteByte,has_real_whole,has_strings_Builder_String⟩
theorem has_lex_quoted_run:B.H_lex_quoted_run tab:=⟨rfl,rfl,has_lex_quoted_next,has_lex_quoted_escape,has_lex_quoted_line⟩
theorem has_ascii_tens_take:B.H_ascii_tens_take tab:=⟨rfl,rfl,has_ascii_tens_close,has_ascii_fold⟩
theorem has_real_Parse:B.H_real_Parse tab:=⟨rfl,rfl,has_real_scanner_decimal,has_real_front,has_real_fraction,has_real_double,has_real_Is⟩
theorem has_ascii_solid:B.H_ascii_solid tab:=⟨rfl,rfl,has_ascii_solid_1⟩
theorem has_lex_digits:B.H_lex_digits tab:=⟨rfl,rfl,has_lex_digits_1⟩
theorem has_strings_IndexAny:B.H_strings_IndexAny tab:=⟨rfl,rfl,has_strings_IndexRune,has_strings_shouldUseASCIISet,has_strings_makeASCIISet,has_strings_asciiSet_contains⟩
theorem has_chaseref03_Right:B.H_chaseref03_Right tab:=⟨rfl,rfl,has_chaseref01_Is,has_chaseref03_Number,has_chaseref03_All⟩
theorem has_real_Print:B.H_real_Print tab:=⟨rfl,rfl,has_real_Print_1,has_real_result_string⟩
theorem has_lex_Unquote:B.H_lex_Unquote tab:=⟨rfl,rfl,has_lex_quoted_next,has_lex_quoted_run⟩
theorem has_ascii_read_ascii_half:B.H_ascii_read_ascii_half tab:=⟨rfl,rfl,has_ascii_read_ascii_half_1,has_ascii_solid,has_ascii_bounded⟩
theorem has_ascii_read_ascii_tens:B.H_ascii_read_ascii_tens tab:=⟨rfl,rfl,has_ascii_read_ascii_tens_1,has_ascii_solid,has_ascii_bounded⟩
theorem has_lex_count:B.H_lex_count tab:=⟨rfl,rfl,has_lex_digits⟩
theorem has_strings_ContainsAny:B.H_strings_ContainsAny tab:=⟨rfl,rfl,has_strings_IndexAny⟩
theorem has_lex_pattern:B.H_lex_pattern tab:=⟨rfl,rfl,has_real_Parse⟩
theorem has_chaseref03_Draft_Token:B.H_chaseref03_Draft_Token tab:=⟨rfl,rfl,has_chaseref03_Regular,has_chaseref03_Right⟩
theorem has_ascii_Unhex:B.H_ascii_Unhex tab:=⟨rfl,rfl,has_ascii_read_ascii_half,has_ascii_half_take⟩
theorem has_ascii_Unbase85:B.H_ascii_Unbase85 tab:=⟨rfl,rfl,has_ascii_read_ascii_tens,has_ascii_tens_take⟩
theorem has_lex_numeral_whole:B.H_lex_numeral_whole tab:=⟨rfl,rfl,has_strings_HasPrefix,has_lex_count,has_lex_numeral_answer⟩
theorem has_lex_numeral_radix:B.H_lex_numeral_radix tab:=⟨rfl,rfl,has_strings_Cut,has_lex_count,has_lex_numeral_answer⟩
theorem has_lex_numeral_decimal:B.H_lex_numeral_decimal tab:=⟨rfl,rfl,has_strings_ContainsAny,has_lex_pattern,has_real_Parse⟩
theorem has_chaseref04_Tokens:B.H_chaseref04_Tokens tab:=⟨rfl,rfl,has_chaseref03_Draft_Token⟩
theorem has_lex_Number:B.H_lex_Number tab:=⟨rfl,rfl,has_lex_numeral_whole,has_lex_numeral_radix,has_lex_numeral_decimal⟩
theorem has_lex_named:B.H_lex_named tab:=⟨rfl,rfl,has_lex_regular,has_lex_Number⟩
theorem has_lex_Word:B.H_lex_Word tab:=⟨rfl,rfl,has_lex_regular,has_lex_Number⟩
theorem has_lex_right:B.H_lex_right tab:=⟨rfl,rfl,has_real_Is,has_lex_named⟩
theorem has_lex_Check:B.H_lex_Check tab:=⟨rfl,rfl,has_lex_right⟩
theorem has_scan_text:B.H_scan_text tab:=⟨rfl,rfl,has_lex_Check⟩
theorem has_lex_Text:B.H_lex_Text tab:=⟨rfl,rfl,has_lex_Check,has_strconv_Itoa,has_real_Print,has_lex_Quote⟩
theorem has_scan_reader_quoted:B.H_scan_reader_quoted tab:=⟨rfl,rfl,has_lex_Unquote,has_scan_text⟩
theorem has_scan_reader_bracket:B.H_scan_reader_bracket tab:=⟨rfl,rfl,has_scan_text⟩
theorem has_scan_reader_less:B.H_scan_reader_less tab:=⟨rfl,rfl,has_scan_reader_follows,has_scan_text,has_ascii_Unhex,has_ascii_Unbase85⟩
theorem has_scan_reader_greater:B.H_scan_reader_greater tab:=⟨rfl,rfl,has_scan_reader_follows,has_scan_text⟩
theorem has_scan_reader_slash:B.H_scan_reader_slash tab:=⟨rfl,rfl,has_scan_reader_follows,has_scan_run_string,has_lex_Regular,has_scan_text⟩
theorem has_scan_reader_counted:B.H_scan_reader_counted tab:=⟨rfl,rfl,has_scan_reader_stray,has_scan_text⟩
theorem has_scan_Print:B.H_scan_Print tab:=⟨rfl,rfl,has_lex_Text,has_strings_Join⟩
theorem has_scan_Pack:B.H_scan_Pack tab:=⟨rfl,rfl,has_lex_Check,has_scan_form,has_lex_Text⟩
theorem has_scan_readers:B.H_scan_readers tab:=⟨rfl,rfl,has_scan_reader_quoted,has_scan_reader_stray,has_scan_reader_brace,has_scan_reader_bracket,has_scan_reader_less,has_scan_reader_greater,has_scan_reader_slash⟩
theorem has_scan_reader_binary:B.H_scan_reader_binary tab:=⟨rfl,rfl,has_scan_reader_fixed,has_scan_reader_counted,has_scan_reader_stray⟩
theorem has_scan_reader_token:B.H_scan_reader_token tab:=⟨rfl,rfl,has_scan_readers,has_scan_reader_binary,has_scan_run_string,has_lex_Regular,has_lex_Word⟩
theorem has_scan_Next:B.H_scan_Next tab:=⟨rfl,rfl,has_scan_reader_skip,has_scan_reader_token⟩
theorem has_scan_tokens_1:B.H_scan_tokens_1 tab:=⟨rfl,rfl,has_scan_Next⟩
theorem has_scan_tokens:B.H_scan_tokens tab:=⟨rfl,rfl,has_scan_tokens_1⟩
theorem has_scan_All:B.H_scan_All tab:=⟨rfl,rfl,has_scan_tokens⟩
theorem has_chaselaw04_reads:B.H_chaselaw04_reads tab:=⟨rfl,rfl,has_scan_All,has_chaseref04_Same⟩
theorem has_chaselaw04_fails:B.H_chaselaw04_fails tab:=⟨rfl,rfl,has_scan_All⟩
theorem has_chaselaw04_works:B.H_chaselaw04_works tab:=⟨rfl,rfl,has_chaselaw04_number,has_chaselaw04_reads,has_chaselaw04_name,has_chaselaw04_text,has_scan_Next,has_scan_Print,has_scan_Pack,has_chaselaw04_fails⟩
theorem has_chaselaw04_ScanSpaces:B.H_chaselaw04_ScanSpaces tab:=⟨rfl,rfl,has_chaselaw04_works,has_chaseref04_Tokens,has_scan_Print,has_strings_Builder_WriteString,has_strings_Builder_WriteByte,has_strings_Builder_String,has_chaselaw04_reads⟩
theorem tabOK_all (ok179:EntryOK chkD cx 179 B.E_strings_Join) (ok132:EntryOK chkD cx 132 B.E_strconv_Itoa) (ok118:EntryOK chkD cx 118 B.E_abi_NoEscape) (ok84:EntryOK chkD cx 84 B.E_strings_IndexByte) (ok142:EntryOK chkD cx 142 B.E_stringslite_Index):TabOK chkD cx tab:=tabOK_of fnT_all (fun f F h=>by
 simp only[enT]at h
 by_cases e179:f=179
 ·subst e179;simp only[if_true,Option.some.injEq]at h;subst h;exact ok179
 rw[if_neg e179]at h
 by_cases e132:f=132
 ·subst e132;simp only[if_true,Option.some.injEq]at h;subst h;exact ok132
 rw[if_neg e132]at h
 by_cases e118:f=118
 ·subst e118;simp only[if_true,Option.some.injEq]at h;subst h;exact ok118
 rw[if_neg e118]at h
 by_cases e84:f=84
 ·subst e84;simp only[if_true,Option.some.injEq]at h;subst h;exact ok84
 rw[if_neg e84]at h
 by_cases e142:f=142
 ·subst e142;simp only[if_true,Option.some.injEq]at h;subst h;exact ok142
 rw[if_neg e142]at h
 cases h)
end Go.Ev.ScanSpaces

/- DERIVED: THE SHELF's CONTRACTS AT THIS DUMP, IN PLAIN WORDS (tools/lay-plain.mjs out of 'EvScanShelf.lean', which tools/lay-shelf.mjs wrote): THE SAME DECLARATIONS UNDER THE SAME NAMES: 'import', 'namespace', 'open', 'def', 'theorem' AND NOTHING ELSE: no command of the shelf's: FOR A HAND-IN. Each laying: the table of numbers ('.._ren') and one theorem, a field a fact of the dump's own or the kernel's comparison; each contract: ONE APPLICATION. -/
namespace Go.Proofs
open Go.Shelf
def Tryz.lays156_ren:Go.Shelf.Ren:=⟨fun | 156=>39 | 165=>49 | 166=>23 | 169=>24 | 240=>46 | 241=>83 | 276=>79 | 277=>116 | n=>n,fun | 31=>58 | 9=>9 | 3=>3 | 4=>4 | 0=>0 | 20=>20 | 72=>51 | 76=>54 | 70=>49 | 37=>22 | 75=>53 | 127=>89 | 164=>115 | 5=>5 | 80=>56 | n=>n,fun | n=>n⟩
theorem Tryz.lays156:Go.Proofs.Lays.n156 Tryz.prog Tryz.lays156_ren:={
 mixed:=by kernel_rfl
 f156:=Tryz.func39.trans (congrArg some (by kernel_rfl))
 f165:=Tryz.func49.trans (congrArg some (by kernel_rfl))
 f166:=Tryz.func23.trans (congrArg some (by kernel_rfl))
 f169:=Tryz.func24.trans (congrArg some (by kernel_rfl))
 f240:=Tryz.func46.trans (congrArg some (by kernel_rfl))
 f241:=Tryz.func83.trans (congrArg some (by kernel_rfl))
 f276:=Tryz.func79.trans (congrArg some (by kernel_rfl))
 f277:=Tryz.func116.trans (congrArg some (by kernel_rfl))
 t0:=Tryz.underlying0
 a0:=Tryz.isAgg0
 z0:=Tryz.sizeOf0
 v0:=Tryz.zeroValue0
 t3:=Tryz.underlying3
 a3:=Tryz.isAgg3
 z3:=Tryz.sizeOf3
 v3:=Tryz.zeroValue3
 t4:=Tryz.underlying4
 a4:=Tryz.isAgg4
 z4:=Tryz.sizeOf4
 v4:=Tryz.zeroValue4
 t9:=Tryz.underlying9
 a9:=Tryz.isAgg9
 z9:=Tryz.sizeOf9
 v9:=Tryz.zeroValue9
 t20:=Tryz.underlying20
 a20:=Tryz.isAgg20
 z20:=Tryz.sizeOf20
 v20:=Tryz.zeroValue20
 t31:=Tryz.underlying58
 a31:=Tryz.isAgg58
 z31:=Tryz.sizeOf58
 v31:=Tryz.zeroValue58
 t37:=Tryz.underlying22
 a37:=Tryz.isAgg22
 z37:=Tryz.sizeOf22
 v37:=Tryz.zeroValue22
 t70:=Tryz.underlying49
 a70:=Tryz.isAgg49
 z70:=Tryz.sizeOf49
 v70:=Tryz.zeroValue49
 t72:=Tryz.underlying51
 a72:=Tryz.isAgg51
 z72:=Tryz.sizeOf51
 v72:=Tryz.zeroValue51
 t75:=Tryz.underlying53
 a75:=Tryz.isAgg53
 z75:=Tryz.sizeOf53
 v75:=Tryz.zeroValue53
 t76:=Tryz.underlying54
 a76:=Tryz.isAgg54
 z76:=Tryz.sizeOf54
 v76:=Tryz.zeroValue54
 t127:=Tryz.underlying89
 a127:=Tryz.isAgg89
 z127:=Tryz.sizeOf89
 v127:=Tryz.zeroValue89
 t164:=Tryz.underlying115
 a164:=Tryz.isAgg115
 z164:=Tryz.sizeOf115
 v164:=Tryz.zeroValue115}
theorem Tryz.Builder_Extra_156:Builder.Extra Tryz.prog Tryz.lays156_ren:={
 sizeBuilder:=by kernel_rfl
 liesBuilder:=by kernel_rfl
 t5:=Tryz.underlying5
 a5:=Tryz.isAgg5
 z5:=Tryz.sizeOf5
 v5:=Tryz.zeroValue5
 infoByte:=by kernel_rfl
 cellsByte:=by kernel_rfl
 sizeByte:=by kernel_rfl
 neB5:=by decide}
open Go.RowKit in
theorem Tryz.strings_Join_none (a:Option Addr) (c:Nat) (sep:ByteArray) (w:World):
  Calls Tryz.prog 39 #[.slice a 0 c,.string sep] w fun e w'=>e= .returned (.string ⟨#[]⟩)∧w'=w:=Any.strings_Join_none Tryz.lays156 Tryz.Builder_Extra_156 a c sep w
open Go.RowKit in
theorem Tryz.strings_Join (bk o c:Nat) (xs:List ByteArray) (sep:ByteArray) (w:World) (hcells:∀(j:Nat) x,xs[j]? =some x→w.cell? ⟨bk,o+j,none⟩=some (.string x)) (hbk:bk<w.heap.size) (hN:xs.length≤140737488355328) (hcap:xs.length≤c) (hlen:(Lib.join (xs.map (·.data.toList)) sep.data.toList).length≤140737488355328):
  Calls Tryz.prog 39 #[.slice (some ⟨bk,o,none⟩) xs.length c,.string sep] w fun e w'=>e= .returned (.string ⟨(Lib.join (xs.map (·.data.toList)) sep.data.toList).toArray⟩)∧Below w.heap.size w w':=Any.strings_Join Tryz.lays156 Tryz.Builder_Extra_156 bk o c xs sep w hcells hbk hN hcap hlen
def Tryz.lays137_ren:Go.Shelf.Ren:=⟨fun | 137=>84 | 217=>117 | 266=>130 | n=>n,fun | 9=>9 | 5=>5 | 3=>3 | n=>n,fun | n=>n⟩
theorem Tryz.lays137:Go.Proofs.Lays.n137 Tryz.prog Tryz.lays137_ren:={
 mixed:=by kernel_rfl
 f137:=Tryz.func84.trans (congrArg some (by kernel_rfl))
 f217:=Tryz.func117.trans (congrArg some (by kernel_rfl))
 f266:=Tryz.func130.trans (congrArg some (by kernel_rfl))
 t3:=Tryz.underlying3
 a3:=Tryz.isAgg3
 z3:=Tryz.sizeOf3
 v3:=Tryz.zeroValue3
 t5:=Tryz.underlying5
 a5:=Tryz.isAgg5
 z5:=Tryz.sizeOf5
 v5:=Tryz.zeroValue5
 t9:=Tryz.underlying9
 a9:=Tryz.isAgg9
 z9:=Tryz.sizeOf9
 v9:=Tryz.zeroValue9}
open Go.RowKit in
theorem Tryz.strings_IndexByte (s:ByteArray) (c:Int) (w:World):
  Calls Tryz.prog 84 #[.string s,.int .u8 c] w fun e w'=>e= .returned (.int .i64 (Lib.indexByte s.data.toList c.toNat.toUInt8))∧w'=w:=Any.strings_IndexByte Tryz.lays137 s c w
def Tryz.laysM171_ren:Go.Shelf.Ren:=⟨fun | 171=>71 | 243=>106 | 246=>128 | 283=>143 | 284=>144 | 285=>145 | 286=>146 | 129=>164 | 317=>163 | 318=>165 | 319=>166 | 320=>167 | 337=>180 | 338=>181 | n=>n,fun | 3=>3 | 9=>9 | 2=>2 | 4=>4 | 171=>169 | 0=>0 | 53=>120 | 37=>22 | 5=>5 | 173=>172 | 212=>201 | 51=>117 | 20=>20 | 213=>202 | 46=>90 | 232=>216 | 233=>217 | n=>n,fun | 17=>1 | 18=>2 | 19=>3 | n=>n⟩
theorem Tryz.laysM171:Go.Proofs.LaysM.n171 Tryz.prog Tryz.laysM171_ren:={
 mixed:=by kernel_rfl
 f129:=Tryz.func164.trans (congrArg some (by kernel_rfl))
 f171:=Tryz.func71.trans (congrArg some (by kernel_rfl))
 f243:=Tryz.func106.trans (congrArg some (by kernel_rfl))
 f246:=Tryz.func128.trans (congrArg some (by kernel_rfl))
 f283:=Tryz.func143.trans (congrArg some (by kernel_rfl))
 f284:=Tryz.func144.trans (congrArg some (by kernel_rfl))
 f285:=Tryz.func145.trans (congrArg some (by kernel_rfl))
 f286:=Tryz.func146.trans (congrArg some (by kernel_rfl))
 f317:=Tryz.func163.trans (congrArg some (by kernel_rfl))
 f318:=Tryz.func165.trans (congrArg some (by kernel_rfl))
 f319:=Tryz.func166.trans (congrArg some (by kernel_rfl))
 f320:=Tryz.func167.trans (congrArg some (by kernel_rfl))
 f337:=Tryz.func180.trans (congrArg some (by kernel_rfl))
 f338:=Tryz.func181.trans (congrArg some (by kernel_rfl))
 t0:=Tryz.underlying0
 a0:=Tryz.isAgg0
 z0:=Tryz.sizeOf0
 v0:=Tryz.zeroValue0
 t2:=Tryz.underlying2
 a2:=Tryz.isAgg2
 z2:=Tryz.sizeOf2
 v2:=Tryz.zeroValue2
 t3:=Tryz.underlying3
 a3:=Tryz.isAgg3
 z3:=Tryz.sizeOf3
 v3:=Tryz.zeroValue3
 t4:=Tryz.underlying4
 a4:=Tryz.isAgg4
 z4:=Tryz.sizeOf4
 v4:=Tryz.zeroValue4
 t5:=Tryz.underlying5
 a5:=Tryz.isAgg5
 z5:=Tryz.sizeOf5
 v5:=Tryz.zeroValue5
 t9:=Tryz.underlying9
 a9:=Tryz.isAgg9
 z9:=Tryz.sizeOf9
 v9:=Tryz.zeroValue9
 t20:=Tryz.underlying20
 a20:=Tryz.isAgg20
 z20:=Tryz.sizeOf20
 v20:=Tryz.zeroValue20
 t37:=Tryz.underlying22
 a37:=Tryz.isAgg22
 z37:=Tryz.sizeOf22
 v37:=Tryz.zeroValue22
 t46:=Tryz.underlying90
 a46:=Tryz.isAgg90
 z46:=Tryz.sizeOf90
 v46:=Tryz.zeroValue90
 t51:=Tryz.underlying117
 a51:=Tryz.isAgg117
 z51:=Tryz.sizeOf117
 v51:=Tryz.zeroValue117
 t53:=Tryz.underlying120
 a53:=Tryz.isAgg120
 z53:=Tryz.sizeOf120
 v53:=Tryz.zeroValue120
 t171:=Tryz.underlying169
 a171:=Tryz.isAgg169
 z171:=Tryz.sizeOf169
 v171:=Tryz.zeroValue169
 t173:=Tryz.underlying172
 a173:=Tryz.isAgg172
 z173:=Tryz.sizeOf172
 v173:=Tryz.zeroValue172
 t212:=Tryz.underlying201
 a212:=Tryz.isAgg201
 z212:=Tryz.sizeOf201
 v212:=Tryz.zeroValue201
 t213:=Tryz.underlying202
 a213:=Tryz.isAgg202
 z213:=Tryz.sizeOf202
 t232:=Tryz.underlying216
 a232:=Tryz.isAgg216
 z232:=Tryz.sizeOf216
 v232:=Tryz.zeroValue216
 t233:=Tryz.underlying217
 a233:=Tryz.isAgg217
 z233:=Tryz.sizeOf217
 v233:=Tryz.zeroValue217
 g17:=by kernel_rfl
 g18:=by kernel_rfl
 g19:=by kernel_rfl
 i0:=by kernel_rfl
 i2:=by kernel_rfl
 i3:=by kernel_rfl
 i4:=by kernel_rfl
 i5:=by kernel_rfl
 i9:=by kernel_rfl
 i20:=by kernel_rfl
 i37:=by kernel_rfl
 i46:=by kernel_rfl
 i51:=by kernel_rfl
 i53:=by kernel_rfl
 i171:=by kernel_rfl
 i173:=by kernel_rfl
 i212:=by kernel_rfl
 i232:=by kernel_rfl
 i233:=by kernel_rfl
 m17:=by kernel_rfl
 m18:=by kernel_rfl
 m19:=by kernel_rfl}
open Go.RowKit Go.Sort Go.Lib in
theorem Tryz.strconv_Itoa (n:Int) (h0: -9223372036854775808≤n) (h1:n≤9223372036854775807) (w:World) (htab:Lib.TabIs Tryz.prog w "internal/strconv.uint64pow10" .u64 Lib.pow10Tab):
  Calls Tryz.prog 71 #[.int .i64 n] w fun e w'=>e= .returned (.string ⟨(Lib.itoa n).toArray⟩)∧∃k os,w'=grow (w.drewN k) os:=Any.strconv_Itoa Tryz.laysM171 n h0 h1 w htab
def Tryz.lays219_ren:Go.Shelf.Ren:=⟨fun | 219=>173 | 217=>117 | 225=>182 | 224=>183 | 267=>184 | 266=>130 | 314=>186 | n=>n,fun | 9=>9 | 3=>3 | 4=>4 | 5=>5 | 46=>90 | 146=>118 | 51=>117 | n=>n,fun | 1=>0 | n=>n⟩
theorem Tryz.lays219:Go.Proofs.Lays.n219 Tryz.prog Tryz.lays219_ren:={
 mixed:=by kernel_rfl
 f217:=Tryz.func117.trans (congrArg some (by kernel_rfl))
 f219:=Tryz.func173.trans (congrArg some (by kernel_rfl))
 f224:=Tryz.func183.trans (congrArg some (by kernel_rfl))
 f225:=Tryz.func182.trans (congrArg some (by kernel_rfl))
 f266:=Tryz.func130.trans (congrArg some (by kernel_rfl))
 f267:=Tryz.func184.trans (congrArg some (by kernel_rfl))
 f314:=Tryz.func186.trans (congrArg some (by kernel_rfl))
 t3:=Tryz.underlying3
 a3:=Tryz.isAgg3
 z3:=Tryz.sizeOf3
 v3:=Tryz.zeroValue3
 t4:=Tryz.underlying4
 a4:=Tryz.isAgg4
 z4:=Tryz.sizeOf4
 v4:=Tryz.zeroValue4
 t5:=Tryz.underlying5
 a5:=Tryz.isAgg5
 z5:=Tryz.sizeOf5
 v5:=Tryz.zeroValue5
 t9:=Tryz.underlying9
 a9:=Tryz.isAgg9
 z9:=Tryz.sizeOf9
 v9:=Tryz.zeroValue9
 t46:=Tryz.underlying90
 a46:=Tryz.isAgg90
 z46:=Tryz.sizeOf90
 v46:=Tryz.zeroValue90
 t51:=Tryz.underlying117
 a51:=Tryz.isAgg117
 z51:=Tryz.sizeOf117
 v51:=Tryz.zeroValue117
 t146:=Tryz.underlying118
 a146:=Tryz.isAgg118
 z146:=Tryz.sizeOf118
 v146:=Tryz.zeroValue118
 g1:=by kernel_rfl}
open Go.RowKit Go.Lib in
theorem Tryz.stringslite_Index_one (s:ByteArray) (c:UInt8) (w:World):
  Calls Tryz.prog 173 #[.string s,.string ⟨#[c]⟩] w fun e w'=>e= .returned (.int .i64 (Lib.indexByte s.data.toList c))∧w'=w:=Any.stringslite_Index_one Tryz.lays219 s c w
end Go.Proofs
