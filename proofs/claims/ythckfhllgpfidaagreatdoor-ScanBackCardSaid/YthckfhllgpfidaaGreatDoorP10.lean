/- Lists of tokens. -/
import Derived.Test.YthckfhllgpfidaaGreatDoorP09
import Derived.Test.YthckfhllgpfidaaGreatDoorP08
import Derived.Lib.Join
import Derived.Test.YthckfhllgpfidaaGreatDoorP07
import Derived.Test.YthckfhllgpfidaaGreatDoorP03
set_option linter.unusedSimpArgs false
set_option linter.unusedVariables false
set_option linter.unusedSectionVars false
namespace Go.Ev
open Go
variable {T : Tab} {st : St}
abbrev Tok:=Int×Int×List UInt8
def tkA (t:Tok):List AV:=[.int .i64 t.1,.int .i64 t.2.1,.str t.2.2]
def toksA (l:List Tok):List AV:=l.flatMap tkA
theorem toksA_snoc (l:List Tok) (t:Tok):toksA (l++[t])=toksA l++tkA t:=by simp[toksA]
theorem toksA_at:∀{l:List Tok} {i:Nat} {t:Tok},l[i]? =some t→((toksA l).drop (i*3)).take 3=tkA t
 | [],i,t,h=>by simp at h
 | x::r,0,t,h=>by
   simp at h
   subst h
   simp[toksA,tkA]
 | x::r,i+1,t,h=>by
   have:=toksA_at (l:=r) (i:=i) (t:=t) (by simpa using h)
   rw[←this]
   have e:(i+1)*3=(tkA x).length+i*3:=by simp[tkA];omega
   rw[e]
   simp only[toksA,List.flatMap_cons]
   rw[←List.drop_drop,List.drop_left]
theorem rdCells_part {h:Heap} {n off c o k:Nat} {cs:List AV} (a:rdCells h n off c=some cs) (hk:o+k≤c):rdCells h n (off+o) k=some ((cs.drop o).take k):=by
 unfold rdCells at a⊢
 split at a
 all_goals
  first
  | (split at a
     ·rename_i hle
      injection a with a
      rw[if_pos (by omega),←a,List.drop_take,List.drop_drop,List.take_take,Nat.min_eq_left (by omega)]
     ·cases a)
  | cases a
theorem Rd.tok {h:Heap} {v:AV} {l:List Tok} {i:Nat} {t:Tok} (a:Rd h v 3 l.length (toksA l)) (ht:l[i]? =some t):∃n off cp,v= .slice n off l.length cp∧rdCells h n (off+i*3) 3=some [.int .i64 t.1,.int .i64 t.2.1,.str t.2.2]:=by
 have hil:i<l.length:=by
  rcases Nat.lt_or_ge i l.length with h | h
  ·exact h
  ·rw[List.getElem?_eq_none h]at ht;cases ht
 rcases a with ⟨h1,h2,h3⟩ | ⟨n,off,cp,h1,h2⟩
 ·omega
 ·refine⟨n,off,cp,h1,?_⟩
  have:=rdCells_part h2 (o:=i*3) (k:=3) (by omega)
  rw[toksA_at ht]at this
  exact this
def GrowT (st0 s:St) (v:AV) (l:List Tok):Prop:=Sl s v 134 3 l.length (toksA l)∧Mine [] st0 v∧NK v
theorem GrowT.nil (st0 s:St):GrowT st0 s .nilslice []:=⟨.nil _ _ _,.nil _ _,fun _ _ _ _ h=>by cases h⟩
theorem GrowT.ge {st0 s:St} {v:AV} {l:List Tok} (a:GrowT st0 s v l):∀n∈v.nms,st0.nx≤n:=fun n hn=>by
 rcases a.2.1 n hn with h | h
 ·cases h
 ·exact h
theorem GrowT.ext {st0 s s':St} {v:AV} {l:List Tok} (a:GrowT st0 s v l) (f:Ext s s') (hw:s.Wf):GrowT st0 s' v l:=⟨a.1.ext f hw,a.2.1,a.2.2⟩
theorem GrowT.frm {st0 s s':St} {v:AV} {l:List Tok} {S:List Nat} (a:GrowT st0 s v l) (f:Frm S s s') (hw:s.Wf) (hn:∀n∈v.nms,n∉S):GrowT st0 s' v l:=⟨a.1.frm f hw hn,a.2.1,a.2.2⟩
theorem GrowT.dropLoc {st0 s:St} {v:AV} {l:List Tok} {c:Nat} (a:GrowT st0 s v l) (hw:s.Wf):GrowT st0 ⟨Go.Ev.dropLoc c s.h,s.nx⟩ v l:=⟨a.1.dropLoc hw,a.2.1,a.2.2⟩
theorem GrowT.rd {st0 s:St} {v:AV} {l:List Tok} (a:GrowT st0 s v l):Rd s.h v 3 l.length (toksA l):=a.1.rd
theorem GrowT.form {st0 s:St} {v:AV} {l:List Tok} (a:GrowT st0 s v l):(v= .nilslice∧l=[])∨∃n,v= .slice n 0 l.length .full∧hget s.h n=some (.buf 134 3 (toksA l))∧st0.nx≤n:=by
 have hge:=a.ge
 obtain⟨⟨m,hsl⟩,b6,b7⟩:=a
 rcases hsl with ⟨k1,k2,k3⟩ | ⟨k1,k2,k3⟩ | ⟨ty',k1,k2,k3⟩
 ·exact .inl ⟨k1,List.length_eq_zero_iff.1 k3⟩
 ·exact .inr ⟨m,k1,k2,hge m (by rw[k1];simp[AV.nms])⟩
 ·exact absurd k1 (b7 _ _ _ _)
theorem GrowT.sc {st0 s:St} {v:AV} {l:List Tok} (a:GrowT st0 s v l):v.sc=true:=by
 rcases a.form with ⟨h,_⟩ | ⟨n,h,_⟩ <;> rw[h] <;> rfl
theorem GrowT.push {st0 s1:St} (hF:st0.nx≤s1.nx) (hw:s1.Wf) {v:AV} {l:List Tok} (a b:Int) (c:List UInt8) {k:Nat} (hk:0<k) (g:GrowT st0 s1 v l) (hl:l.length<1000000000000):
  CRes (aappend 134 3 32 ⟨(s1.nx,.cells 134 false [.int .i64 a,.int .i64 b,.str c])::s1.h,s1.nx+k⟩ v (.slice s1.nx 0 1 (.known 1))) fun v' s=>GrowT st0 s v' (l++[(a,b,c)])∧Frm v.nms s1 s:=by
 obtain⟨a1,a2,a3⟩:=g
 have xa:=Ext.newA hw (.cells 134 false [.int .i64 a,.int .i64 b,.str c]) hk
 have hap:=Sl.append (x:= .slice s1.nx 0 1 (.known 1)) (j:=1) (new:=[.int .i64 a,.int .i64 b,.str c]) (b:=32) (Frm.refl xa.wf v.nms) (fun n h=> .inl h) (a1.ext xa hw)
  (.inr ⟨_,_,_,rfl,rd_all (ty:=134) (l:=false) (by simp[hget_cons]) rfl⟩) (by simp[AV.sc]) (by omega) (by omega) (.inl (by omega))
 refine(hap.also (fun _ _ h=>aappend_nk h a3)).mono ?_
 rintro v2 s2 ⟨⟨k1,k2,k3,_⟩,hnk2⟩
 refine⟨⟨by rw[toksA_snoc];simpa [tkA] using k1,fun n hn=> ?_,hnk2⟩,(xa.fr v.nms).trans k2 (fun n h=> .inl h)⟩
 rcases k3 n hn with h | h
 ·exact a2 n h
 ·simp at h;exact .inr (by omega)
structure Dra where
 k:Nat
 n:Int
 t:List UInt8
instance:Inhabited Dra:=⟨⟨0,0,[]⟩⟩
def Dra.ok (d:Dra):Prop:=d.k<256∧-2147483648≤d.n∧d.n≤2147483647∧d.t.length<9223372036854775808
def draA (d:Dra):List AV:=[.int .u8 (d.k:Int),.int .i32 d.n,.str d.t]
def drasA (l:List Dra):List AV:=l.flatMap draA
def Dra.tok (d:Dra):Tok:=draftT d.k d.n d.t
theorem drasA_len:∀l:List Dra,(drasA l).length=l.length*3
 | []=>rfl
 | t::r=>by
   have:=drasA_len r
   simp only[drasA,List.flatMap_cons,List.length_append,List.length_cons]at this⊢
   simp only[draA,List.length_cons,List.length_nil]
   omega
theorem drasA_at:∀{l:List Dra} {i:Nat} {t:Dra},l[i]? =some t→((drasA l).drop (i*3)).take 3=draA t
 | [],i,t,h=>by simp at h
 | x::r,0,t,h=>by
   simp at h
   subst h
   simp[drasA,draA]
 | x::r,i+1,t,h=>by
   have:=drasA_at (l:=r) (i:=i) (t:=t) (by simpa using h)
   rw[←this]
   have e:(i+1)*3=(draA x).length+i*3:=by simp[draA];omega
   rw[e]
   simp only[drasA,List.flatMap_cons]
   rw[←List.drop_drop,List.drop_left]
def InD (h:Heap) (v:AV) (l:List Dra):Prop:=Rd h v 3 l.length (drasA l)∧∀d∈l,d.ok
theorem InD.ext {st':St} {v:AV} {l:List Dra} (a:InD st.h v l) (x:Ext st st') (hw:st.Wf):InD st'.h v l:=⟨a.1.ext x hw,a.2⟩
theorem InD.at {h:Heap} {v:AV} {l:List Dra} {i:Nat} {d:Dra} (a:InD h v l) (ht:l[i]? =some d):∃n off cp,v= .slice n off l.length cp∧rdCells h n (off+i*3) 3=some [.int .u8 (d.k:Int),.int .i32 d.n,.str d.t]:=by
 have hil:i<l.length:=by
  rcases Nat.lt_or_ge i l.length with h | h
  ·exact h
  ·rw[List.getElem?_eq_none h]at ht;cases ht
 rcases a.1 with ⟨h1,h2,h3⟩ | ⟨n,off,cp,h1,h2⟩
 ·omega
 ·refine⟨n,off,cp,h1,?_⟩
  have:=rdCells_part h2 (o:=i*3) (k:=3) (by omega)
  rw[drasA_at ht]at this
  exact this
def toksD (d:List Dra):List Tok:=(d.take 40).map Dra.tok
theorem toksD_len (d:List Dra):(toksD d).length≤40:=by simp[toksD];omega
theorem toksD_right {d:List Dra} (h:∀x∈d,x.ok):∀t∈toksD d,rightT t.1 t.2.1 t.2.2=true∧t.2.2.length≤60:=by
 intro t ht
 simp only[toksD,List.mem_map]at ht
 obtain⟨x,hx,rfl⟩:=ht
 obtain⟨h1,h2,h3,h4⟩:=h x (List.mem_of_mem_take hx)
 exact⟨draft_right x.k h2 h3 x.t,draft_len _ _ _⟩
theorem tokens_l0 (H:B.H_chaseref04_Tokens T) {st0:St} (hw0:st0.Wf) {v0:AV} {d:List Dra} (hd0:InD st0.h v0 d):∀(m i:Nat) (v:AV) (e:Env) (st1:St),i+m=min d.length 40→Ext st0 st1→GrowT st0 st1 v (toksD (d.take i))→eget e 0=v0→eget e 3=v→eget e 4= .int .i64 (i:Int)→
  Res (run T (.loop B.chaseref04_Tokens_l0) e st1) fun x e' s'=>x= .exit 0∧Ext st0 s'∧GrowT st0 s' (eget e' 3) (toksD d):=by
 intro m
 induction m with
 | zero=>
   intro i v e st1 hi hx hg g0 g3 g4
   have hd:=hd0.ext hx hw0
   have htk:toksD (d.take i)=toksD d:=by
    unfold toksD
    rw[List.take_take]
    congr 1
    rw[List.take_eq_take_iff]
    omega
   rw[htk]at hg
   clear htk
   rw[run_loop]
   rcases hd.1 with ⟨rfl,h2,h3⟩ | ⟨n,off,cp,rfl,h2⟩
   ·have:i=0:=by omega
    subst this
    simp[B.chaseref04_Tokens_l0,go_sem,g0,g3,g4,hx,hg]
   ·by_cases h40:(i:Int)<d.length
    ·have:¬(i:Int)<40:=by omega
     simp[B.chaseref04_Tokens_l0,go_sem,g0,g3,g4,h40,this,hx,hg]
    ·simp[B.chaseref04_Tokens_l0,go_sem,g0,g3,g4,h40,hx,hg]
 | succ m ih=>
   intro i v e st1 hi hx hg g0 g3 g4
   have hd:=hd0.ext hx hw0
   have hil:i<d.length:=by omega
   obtain⟨c,hc⟩:∃c,d[i]? =some c:=⟨_,List.getElem?_eq_getElem hil⟩
   obtain⟨n,off,cp,hv0,hrd⟩:=hd.at hc
   obtain⟨hk,hn0,hn1,ht⟩:=hd.2 c (List.mem_of_getElem? hc)
   have h1:(i:Int)<d.length:=by omega
   have h2:(i:Int)<40:=by omega
   have ek:IntKind.i64.wrap ((i:Int)+1)=((i+1:Nat):Int):=wrap64' (by omega) (by omega)
   have hsn:toksD (d.take (i+1))=toksD (d.take i)++[(c.tok.1,c.tok.2.1,c.tok.2.2)]:=by
    unfold toksD
    rw[List.take_take,List.take_take,Nat.min_eq_right (by omega),Nat.min_eq_right (by omega),List.take_add_one,hc]
    simp
   have hl:(toksD (d.take i)).length<1000000000000:=by have:=toksD_len (d.take i);omega
   have ih2:=fun v' e' s'=>ih (i+1) v' e' s' (by omega)
   rw[hsn]at ih2
   clear hsn
   rw[run_loop]
   rw[hv0]at g0 ih2
   simp[B.chaseref04_Tokens_l0,go_sem,g0,g3,g4,h1,h2,RO.run,hrd]
   refine(token_tells H.chaseref03_Draft_Token hx.wf (K:=c.k) (N:=c.n) (t:=c.t) hk hn0 hn1 (by omega)).use fun s1 x1=> ?_
   have y1:=hx.trans x1
   simp[go_sem,NO.run]
   refine((hg.ext x1 hx.wf).push y1.nx y1.wf c.tok.1 c.tok.2.1 c.tok.2.2 (k:=1) (by omega) hl).mono ?_
   rintro v2 s2 ⟨o2,f2⟩
   have y2:=y1.frm f2 (hg.ge)
   simp[go_sem,g0,g3,g4]
   exact ih2 v2 _ s2 y2 o2 (by simp[go_sem,g0]) (by simp[go_sem]) (by simp[go_sem,g4,ek])
theorem tokens_res (H:B.H_chaseref04_Tokens T) (hwf:st.Wf) {v0:AV} {d:List Dra} (hd:InD st.h v0 d):CRes (call T (.fn 160 [] []) [v0] st) fun v s=>Ext st s∧GrowT st s v (toksD d):=by
 refine call_res H.e H.f rfl ?_
 simp[B.chaseref04_Tokens,go_sem]
 refine(tokens_l0 H hwf hd (min d.length 40) 0 .nilslice _ st (by omega) (.refl hwf) (by simpa [toksD] using GrowT.nil st st) (by simp[go_sem]) (by simp[go_sem]) (by simp[go_sem])).mono ?_
 rintro x e' s' ⟨rfl,hx,hg⟩
 simp[go_sem,fresults,resVals,resVal]
 exact⟨hx.dropGe (Nat.le_refl _),hg.dropLoc hx.wf⟩
end Go.Ev

/- The reference's Print and Same; a token takes octets; all tokens. -/
namespace Go.Ev
open Go
variable {T : Tab} {st : St}
def txT (t:Tok):List UInt8:=textS t.1 t.2.1 t.2.2
def printL (l:List Tok):List UInt8:=Lib.join (l.map txT) [32]
theorem join_snoc (xs:List (List UInt8)) (x sep:List UInt8):Lib.join (xs++[x]) sep=if xs=[]then x else Lib.join xs sep++(sep++x):=by
 cases xs with
 | nil=>simp[Lib.join_one]
 | cons y r=>
   rw[if_neg (by simp),List.cons_append,Lib.join_cons,Lib.join_cons]
   simp[Lib.joinTail]
theorem printL_snoc (l:List Tok) (t:Tok):printL (l++[t])=if l=[]then txT t else printL l++(32::txT t):=by
 unfold printL
 rw[List.map_append,List.map_singleton,join_snoc]
 simp
def OkT (l:List Tok):Prop:=l.length≤40∧∀t∈l,rightT t.1 t.2.1 t.2.2=true∧t.2.2.length≤60
theorem dec_len (n:Nat) (h:n<10000000000):(Lib.decDigits n).length≤10:=by
 have aux:∀(k n:Nat),n<10 ^ (k+1)→(Lib.decDigits n).length≤k+1:=by
  intro k
  induction k with
  | zero=>intro n hn;rw[decDigits_small (by simpa using hn)];simp
  | succ k ih=>
    intro n hn
    by_cases h10:n<10
    ·rw[decDigits_small h10];simp
    ·rw[decDigits_big (by omega),List.length_append,List.length_singleton]
     have:=ih (n / 10) (by rw[Nat.pow_succ]at hn;omega)
     omega
 exact aux 9 n (by simpa using h)
theorem flatC_len:∀x:List UInt8,(x.flatMap quoteC).length≤4*x.length
 | []=>Nat.le_refl _
 | c::r=>by
   have:=flatC_len r
   have:=(quoteC_len c).2
   simp only[List.flatMap_cons,List.length_append,List.length_cons]
   omega
theorem quoteS_len (x:List UInt8):(quoteS x).length≤4*x.length+2:=by
 have:=flatC_len x
 unfold quoteS
 simp only[List.length_cons,List.length_append,List.length_nil]
 omega
theorem txT_len {t:Tok} (h:rightT t.1 t.2.1 t.2.2=true∧t.2.2.length≤60):(txT t).length≤300:=by
 obtain⟨k,n,x⟩:=t
 obtain⟨hr,hl⟩:=h
 simp only at hr hl
 have hb:=right_bound hr
 have hq:=quoteS_len x
 unfold txT textS
 simp only
 split
 ·rename_i h1
  have:=hb (.inl h1)
  unfold Lib.itoa
  split
  ·have:=dec_len n.natAbs (by omega)
   simp only[List.length_cons];omega
  ·have:=dec_len n.toNat (by omega)
   omega
 split
 ·rename_i h2
  have:=hb (.inr h2)
  have h3:=dec_len (n.natAbs / 65536) (by omega)
  have h4:=fracS_len 17 (n.natAbs % 65536)
  unfold printS
  simp only[List.length_append,List.length_cons]
  split <;> simp only[List.length_cons,List.length_nil] <;> omega
 split
 ·simp;omega
 split
 ·simp;omega
 split
 ·omega
 split
 ·simp
 split
 ·simp
 ·omega
theorem printL_len {l:List Tok} (h:OkT l):(printL l).length≤301*l.length:=by
 obtain⟨_,h⟩:=h
 have aux:∀i,i≤l.length→(printL (l.take i)).length≤301*i:=by
  intro i
  induction i with
  | zero=>intro _;simp[printL,Lib.join_nil]
  | succ i ih=>
    intro hi
    obtain⟨t,ht⟩:∃t,l[i]? =some t:=⟨_,List.getElem?_eq_getElem (by omega)⟩
    have h1:=ih (by omega)
    have h2:=txT_len (h t (List.mem_of_getElem? ht))
    rw[List.take_add_one,ht,show (some t).toList=[t]from rfl,printL_snoc]
    split
    ·omega
    ·simp only[List.length_append,List.length_cons];omega
 have:=aux l.length (Nat.le_refl _)
 rwa[List.take_length]at this
theorem same_l0 (H:B.H_chaseref04_Same T) {st0:St} (hw0:st0.Wf) {v w:AV} {l:List Tok} (hl:l.length<1000000000000) (hv:Rd st0.h v 3 l.length (toksA l)) (hw:Rd st0.h w 3 l.length (toksA l)):∀(m i:Nat) (e:Env) (st1:St),i+m=l.length→Ext st0 st1→eget e 0=v→eget e 1=w→eget e 5= .int .i64 (i:Int)→
  Res (run T (.loop B.chaseref04_Same_l0) e st1) fun x e' s'=>x= .exit 0∧Ext st0 s':=by
 intro m
 induction m with
 | zero=>
   intro i e st1 hi hx g0 g1 g5
   have hie:i=l.length:=by omega
   subst hie
   rw[run_loop]
   rcases hv with ⟨rfl,h2,h3⟩ | ⟨n,off,cp,rfl,h2⟩
   ·simp[B.chaseref04_Same_l0,go_sem,g0,g5,hx,h2]
   ·simp[B.chaseref04_Same_l0,go_sem,g0,g5,hx]
 | succ m ih=>
   intro i e st1 hi hx g0 g1 g5
   have hil:i<l.length:=by omega
   obtain⟨t,ht⟩:∃t,l[i]? =some t:=⟨_,List.getElem?_eq_getElem hil⟩
   obtain⟨n,off,cp,hvn,hrd⟩:=(hv.ext hx hw0).tok ht
   obtain⟨n2,off2,cp2,hwn,hrd2⟩:=(hw.ext hx hw0).tok ht
   have h1:(i:Int)<l.length:=by omega
   have ek:IntKind.i64.wrap ((i:Int)+1)=((i+1:Nat):Int):=wrap64' (by omega) (by omega)
   have heq:cellsEqK [.i .i64,.i .i64,.s] [.int .i64 t.1,.int .i64 t.2.1,.str t.2.2] [.int .i64 t.1,.int .i64 t.2.1,.str t.2.2]=some true:=by
    rw[tok_eq];simp
   have ih2:=fun e' s'=>ih (i+1) e' s' (by omega)
   rw[run_loop]
   rw[hvn]at g0 ih2
   rw[hwn]at g1 ih2
   obtain⟨I,hI⟩:∃I:Int,I=(i:Int):=⟨_,rfl⟩
   rw[←hI]at g5 h1 ek
   have h0:0≤I:=by omega
   have ht:I.toNat=i:=by omega
   simp[B.chaseref04_Same_l0,go_sem,g0,g1,g5,h0,ht,h1,RO.run,hrd,hrd2,heq]
   exact ih2 _ _ (hx.trans (Ext.aside hx.wf 9)) (by simp[go_sem,g0]) (by simp[go_sem,g1]) (by simp[go_sem,g5,ek])
theorem same_tells (H:B.H_chaseref04_Same T) (hwf:st.Wf) {v w:AV} {l:List Tok} (hl:l.length<1000000000000) (hv:Rd st.h v 3 l.length (toksA l)) (hw:Rd st.h w 3 l.length (toksA l)):Tells T st (.fn 164 [] []) [v,w] (.bool true):=by
 refine tells_of H.e H.f rfl ?_
 have hlv:=hv.lenOf (ev:=fun _=>v) (x:= .t 0) rfl
 have hlw:=hw.lenOf (ev:=fun _=>w) (x:= .t 0) rfl
 have loop:=fun(e:Env) g0 g1 g5=>same_l0 H hwf hl hv hw l.length 0 e st (by simp) (.refl hwf) g0 g1 g5
 rcases hv with ⟨rfl,h2,h3⟩ | ⟨n,off,cp,rfl,h2⟩ <;> rcases hw with ⟨rfl,k2,k3⟩ | ⟨n2,off2,cp2,rfl,k2⟩
 ·simp[B.chaseref04_Same,go_sem]
  refine(loop _ (by simp[go_sem]) (by simp[go_sem]) (by simp[go_sem])).mono ?_
  rintro x e' s' ⟨rfl,hx⟩
  simp[go_sem,hx]
 ·simp[B.chaseref04_Same,go_sem,h2]
  refine(loop _ (by simp[go_sem,h2]) (by simp[go_sem,h2]) (by simp[go_sem])).mono ?_
  rintro x e' s' ⟨rfl,hx⟩
  simp[go_sem,hx]
 ·simp[B.chaseref04_Same,go_sem,k2]
  refine(loop _ (by simp[go_sem,k2]) (by simp[go_sem,k2]) (by simp[go_sem])).mono ?_
  rintro x e' s' ⟨rfl,hx⟩
  simp[go_sem,hx]
 ·simp[B.chaseref04_Same,go_sem]
  refine(loop _ (by simp[go_sem]) (by simp[go_sem]) (by simp[go_sem])).mono ?_
  rintro x e' s' ⟨rfl,hx⟩
  simp[go_sem,hx]
def okP (t:T3):Prop:=t.2.2=0→0<t.2.1
theorem okP_err {e:Int} (h:e≠0):okP (err3 e):=fun h2=>absurd h2 h
theorem okP_text (k:Int) (x:List UInt8) {n:Nat} (h:0<n):okP (textK k x n):=by
 unfold textK
 split
 ·exact okP_err (by decide)
 ·split
  ·exact fun _=>h
  ·exact okP_err (by decide)
theorem tokS_pos (s:List UInt8):okP (tokS s):=by
 cases s with
 | nil=>exact okP_err (by decide)
 | cons c R=>
   have hf:∀k l,okP (fixR k l R):=fun k l=>by
    unfold fixR
    split
    ·exact okP_err (by decide)
    ·exact fun _=>by simp only;omega
   have hcn:∀k l,okP (cntR4 k l R):=fun k l=>by
    unfold cntR4
    split
    ·exact okP_err (by decide)
    ·split
     ·exact okP_err (by decide)
     ·exact okP_text _ _ (by omega)
   have hde:∀(f:Nat) (u:List UInt8×Nat×Int),0<f→okP (decoR f u):=fun f u h=>by
    unfold decoR
    split
    ·exact okP_text _ _ (by omega)
    ·split <;> exact okP_err (by decide)
   simp only[tokS]
   split
   ·rename_i hc
    subst hc
    unfold quotedR
    split
    ·rename_i hu
     refine okP_text _ _ ?_
     unfold unquoteT at hu⊢
     simp only[if_true]at hu⊢
     split at hu
     ·simp at hu
     ·rename_i o l he
      have:=unq_left he
      split at hu
      ·simp at hu
      ·rename_i h2
       rw[if_neg h2]
       simp only[List.length_cons]
       omega
    ·split <;> exact okP_err (by decide)
   split
   ·exact okP_err (by decide)
   split
   ·exact fun _=>Nat.one_pos
   split
   ·exact fun _=>Nat.one_pos
   split
   ·exact okP_text _ _ (by omega)
   split
   ·unfold lessR
    split
    ·exact okP_text _ _ (by omega)
    ·split <;> exact hde _ _ (by omega)
   split
   ·unfold greaterR
    split
    ·exact okP_text _ _ (by omega)
    ·exact okP_err (by decide)
   split
   ·unfold slashR
    split <;> exact okP_text _ _ (by omega)
   split
   ·unfold binR
    (repeat' split) <;> first | exact hf _ _ | exact hcn _ _ | exact okP_err (by decide)
   ·unfold wordK
    split
    ·rename_i h
     exact okP_err h
    ·rename_i h
     intro _
     simp only
     rcases Nat.eq_zero_or_pos (runN isReg (c::R))with h0 | h0
     ·rw[h0]at h
      exact absurd (by simp[wordT]) h
     ·exact h0
theorem nextS_pos {s:List UInt8} {i:Nat} {t:Tok} {n:Nat} (h:nextS s (i:Int)=(t,n,0)):i<n∧n≤s.length∧i<s.length:=by
 unfold nextS at h
 split at h
 ·simp[err3]at h
 split at h
 ·simp[err3]at h
 rename_i h1 h2
 simp only[Int.toNat_natCast]at h
 have hsk:=skp_le false (s.drop i)
 rw[List.length_drop]at hsk
 split at h
 ·simp at h
 ·rename_i h3
  have hp:=tokS_pos (s.drop (i+skp false (s.drop i)))
  have hle:=tokS_le (s.drop (i+skp false (s.drop i)))
  rw[List.length_drop]at hle
  injection h with _ h
  injection h with h4 h5
  have:=hp h5
  omega
theorem nextS_le (s:List UInt8) (i:Int):(nextS s i).2.1≤s.length:=by
 unfold nextS
 split
 ·exact Nat.zero_le _
 split
 ·exact Nat.zero_le _
 rename_i h1 h2
 have hsk:=skp_le false (s.drop i.toNat)
 rw[List.length_drop]at hsk
 simp only
 split
 ·simp only;omega
 ·have hle:=tokS_le (s.drop (i.toNat+skp false (s.drop i.toNat)))
  rw[List.length_drop]at hle
  simp only
  omega
def runA (s:List UInt8):Nat→Nat→List Tok→List Tok×Nat×Int
 | 0,i,l=>(l,i,4)
 | f+1,i,l=>if(nextS s (i:Int)).2.2=0 then runA s f (nextS s (i:Int)).2.1 (l++[(nextS s (i:Int)).1])else(l,(nextS s (i:Int)).2.1,(nextS s (i:Int)).2.2)
def allS (s:List UInt8):List Tok×Nat×Int:=
 if(runA s (s.length+1) 0 []).2.2=4 then((runA s (s.length+1) 0 []).1,(runA s (s.length+1) 0 []).2.1,0)else([],(runA s (s.length+1) 0 []).2.1,(runA s (s.length+1) 0 []).2.2)
end Go.Ev

/- scan.Print told. -/
namespace Go.Ev
open Go
variable {T : Tab} {st : St}
def strsX (l:List (List UInt8)):List AV:=l.map AV.str
theorem strsX_len (l:List (List UInt8)):(strsX l).length=l.length:=by simp[strsX]
theorem strsOf_x:∀l:List (List UInt8),B.strsOf (strsX l)=some l
 | []=>rfl
 | x::r=>by
   have:=strsOf_x r
   simp only[strsX,List.map_cons,B.strsOf]at this⊢
   rw[this]
def GrowX (st0 s:St) (v:AV) (l:List (List UInt8)):Prop:=Sl s v 9 1 l.length (strsX l)∧Mine [] st0 v∧NK v∧(l=[]→v= .nilslice)
theorem GrowX.nil (st0 s:St):GrowX st0 s .nilslice []:=⟨.nil _ _ _,.nil _ _,(fun _ _ _ _ h=>by cases h),fun _=>rfl⟩
theorem GrowX.ge {st0 s:St} {v:AV} {l:List (List UInt8)} (a:GrowX st0 s v l):∀n∈v.nms,st0.nx≤n:=fun n hn=>by
 rcases a.2.1 n hn with h | h
 ·cases h
 ·exact h
theorem GrowX.ext {st0 s s':St} {v:AV} {l:List (List UInt8)} (a:GrowX st0 s v l) (f:Ext s s') (hw:s.Wf):GrowX st0 s' v l:=⟨a.1.ext f hw,a.2.1,a.2.2.1,a.2.2.2⟩
theorem GrowX.push {st0 s1:St} (hF:st0.nx≤s1.nx) (hw:s1.Wf) {v:AV} {l:List (List UInt8)} (c:List UInt8) {k:Nat} (hk:0<k) (g:GrowX st0 s1 v l) (hl:l.length<1000000000000):
  CRes (aappend 9 1 16 ⟨(s1.nx,.cells 9 false [.str c])::s1.h,s1.nx+k⟩ v (.slice s1.nx 0 1 (.known 1))) fun v' s=>GrowX st0 s v' (l++[c])∧Frm v.nms s1 s:=by
 obtain⟨a1,a2,a3,_⟩:=g
 have xa:=Ext.newA hw (.cells 9 false [.str c]) hk
 have hap:=Sl.append (x:= .slice s1.nx 0 1 (.known 1)) (j:=1) (new:=[.str c]) (b:=16) (Frm.refl xa.wf v.nms) (fun n h=> .inl h) (a1.ext xa hw)
  (.inr ⟨_,_,_,rfl,rd_all (ty:=9) (l:=false) (by simp[hget_cons]) rfl⟩) (by simp[AV.sc]) (by omega) (by omega) (.inl (by omega))
 refine(hap.also (fun _ _ h=>aappend_nk h a3)).mono ?_
 rintro v2 s2 ⟨⟨k1,k2,k3,_⟩,hnk2⟩
 have hsn:strsX (l++[c])=strsX l++[.str c]:=by simp[strsX]
 refine⟨⟨by rw[hsn];simpa using k1,fun n hn=> ?_,hnk2,fun h=>by simp at h⟩,(xa.fr v.nms).trans k2 (fun n h=> .inl h)⟩
 rcases k3 n hn with h | h
 ·exact a2 n h
 ·simp at h;exact .inr (by omega)
theorem GrowX.form {st0 s:St} {v:AV} {l:List (List UInt8)} (a:GrowX st0 s v l):(v= .nilslice∧l=[])∨∃n,v= .slice n 0 l.length .full∧0<l.length∧rdCells s.h n 0 l.length=some (strsX l):=by
 obtain⟨⟨m,hsl⟩,b6,b7,b8⟩:=a
 rcases hsl with ⟨k1,k2,k3⟩ | ⟨k1,k2,k3⟩ | ⟨ty',k1,k2,k3⟩
 ·exact .inl ⟨k1,List.length_eq_zero_iff.1 k3⟩
 ·refine .inr ⟨m,k1,?_,?_⟩
  ·rcases Nat.eq_zero_or_pos l.length with h | h
   ·rw[b8 (List.length_eq_zero_iff.1 h)]at k1;cases k1
   ·exact h
  ·simp[rdCells,k2,strsX_len]
   exact List.take_of_length_le (by rw[strsX_len];exact Nat.le_refl _)
 ·exact absurd k1 (b7 _ _ _ _)
theorem scanPrint_l0 (H:B.H_scan_Print T) {st0:St} (hw0:st0.Wf) (hp:Pow st0) {v:AV} {l:List Tok} (hl:OkT l) (hv:Rd st0.h v 3 l.length (toksA l)):∀(m i:Nat) (w:AV) (e:Env) (st1:St),i+m=l.length→Ext st0 st1→GrowX st0 st1 w ((l.take i).map txT)→eget e 4=w→eget e 9=v→eget e 10= .int .i64 (l.length:Int)→eget e 11= .int .i64 (i:Int)→
  Res (run T (.loop B.scan_Print_l0) e st1) fun x e' s'=>x= .exit 0∧Ext st0 s'∧GrowX st0 s' (eget e' 4) (l.map txT):=by
 intro m
 induction m with
 | zero=>
   intro i w e st1 hi hx hg g4 g9 g10 g11
   have hie:i=l.length:=by omega
   subst hie
   rw[List.take_length]at hg
   rw[run_loop]
   simp[B.scan_Print_l0,go_sem,g4,g9,g10,g11,hx,hg]
 | succ m ih=>
   intro i w e st1 hi hx hg g4 g9 g10 g11
   have hil:i<l.length:=by omega
   obtain⟨t,ht⟩:∃t,l[i]? =some t:=⟨_,List.getElem?_eq_getElem hil⟩
   obtain⟨n,off,cp,hvn,hrd⟩:=(hv.ext hx hw0).tok ht
   have h1:(i:Int)<l.length:=by omega
   have h40:=hl.1
   have ek:IntKind.i64.wrap ((i:Int)+1)=((i+1:Nat):Int):=wrap64' (by omega) (by omega)
   have hrt:=hl.2 t (List.mem_of_getElem? ht)
   have hsn:(l.take (i+1)).map txT=(l.take i).map txT++[txT t]:=by
    rw[List.take_add_one,ht,List.map_append];rfl
   have hln:((l.take i).map txT).length<1000000000000:=by simp;omega
   have hcall:=fun(st':St) (hw:st'.Wf) (hp:Pow st')=>lexText_tells (st:=st') H.lex_Text hw hp (k:=t.1) (n:=t.2.1) (t:=t.2.2) (by omega)
   rw[if_pos hrt.1,if_pos hrt.1]at hcall
   rw[show textS t.1 t.2.1 t.2.2=txT t from rfl]at hcall
   have ih2:=fun w' e' s'=>ih (i+1) w' e' s' (by omega)
   rw[hsn]at ih2
   clear ih hsn
   generalize txT t=X at*
   rw[run_loop]
   rw[hvn]at g9 ih2
   have x2:=Ext.new hx.wf (.cells 134 true [.int .i64 t.1,.int .i64 t.2.1,.str t.2.2])
   have y2:=hx.trans x2
   simp[B.scan_Print_l0,go_sem,g4,g9,g10,g11,h1,RO.run,hrd,NO.run,WO.run,wr_tok,rd_tok]
   refine(hcall _ y2.wf (hp.ext y2 hw0)).use fun s3 x3=> ?_
   have y3:=y2.trans x3
   simp[go_sem,g4,NO.run]
   refine(((hg.ext x2 hx.wf).ext x3 y2.wf).push y3.nx y3.wf X (k:=1) (by omega) hln).mono ?_
   rintro v4 s4 ⟨o4,f4⟩
   have y4:=y3.frm f4 hg.ge
   simp[go_sem,g4,g9,g10,g11]
   exact ih2 v4 _ s4 y4 o4 (by simp[go_sem]) (by simp[go_sem,g9]) (by simp[go_sem,g10]) (by simp[go_sem,g11,ek])
theorem scanPrint_tells (H:B.H_scan_Print T) (hwf:st.Wf) (hp:Pow st) {v:AV} {l:List Tok} (hl:OkT l) (hv:Rd st.h v 3 l.length (toksA l)):Tells T st (.fn 165 [] []) [v] (.tuple [.str (printL l),.int .i64 0]):=by
 refine tells_of H.e H.f rfl ?_
 have hlo:=hv.lenOf (ev:=fun _=>v) (x:= .t 0) rfl
 have hpl:=printL_len hl
 have h40:=hl.1
 have loop:=fun(e:Env) g4 g9 g10 g11=>scanPrint_l0 H hwf hp hl hv l.length 0 .nilslice e st (by simp) (.refl hwf) (GrowX.nil _ _) g4 g9 g10 g11
 have fin:∀(w:AV) (s:St) (K:AV→St→Prop),GrowX st s w (l.map txT)→K (.str (printL l)) s→CRes (call T (.fn 179 [] []) [w,.str [32]] s) K:=by
  intro w s K hg hK
  rw[call_entry H.strings_Join.en]
  simp only[List.nil_append,List.append_nil]
  rcases hg.form with ⟨rfl,h0⟩ | ⟨n,rfl,hn,hrd⟩
  ·have:printL l=[]:=by unfold printL;rw[h0];rfl
   rw[this]at hK
   exact hK
  ·simp only[B.E_strings_Join,hrd,strsOf_x]
   have e1:(l.map txT).length=l.length:=by simp
   have e2:(Lib.join (l.map txT) [32]).length≤140737488355328:=by show (printL l).length≤_;omega
   rw[if_pos ⟨by omega,by omega,e2⟩]
   exact hK
 rcases hv with ⟨rfl,h2,h3⟩ | ⟨n,off,cp,rfl,h2⟩
 ·simp[B.scan_Print,go_sem]
  refine(loop _ (by simp[go_sem]) (by simp[go_sem]) (by simp[go_sem,h2]) (by simp[go_sem])).mono ?_
  rintro x e' s' ⟨rfl,hx,hg⟩
  simp[go_sem]
  refine fin _ _ _ hg ?_
  simp[go_sem,hx]
 ·simp[B.scan_Print,go_sem]
  refine(loop _ (by simp[go_sem]) (by simp[go_sem]) (by simp[go_sem]) (by simp[go_sem])).mono ?_
  rintro x e' s' ⟨rfl,hx,hg⟩
  simp[go_sem]
  refine fin _ _ _ hg ?_
  simp[go_sem,hx]
end Go.Ev

/- All tokens: the reference's All. -/
namespace Go.Ev
open Go
variable {T : Tab} {st : St}
def finA (r:List Tok×Nat×Int):List Tok×Nat×Int:=if r.2.2=4 then(r.1,r.2.1,0)else([],r.2.1,r.2.2)
theorem allS_fin (s:List UInt8):allS s=finA (runA s (s.length+1) 0 []):=rfl
def AllR (st s:St) (r:List Tok×Nat×Int) (v:AV):Prop:=∃w,v= .tuple [w,.int .i64 (r.2.1:Int),.int .i64 r.2.2]∧Ext st s∧GrowT st s w r.1
end Go.Ev

/- The plain law of reading back: a token's text, and what stands between tokens. -/
namespace Go.Ev
open Go
def Sep (r:List UInt8):Prop:=∀c u,r=c::u→blankC c=true∨c=37
theorem Sep.nil:Sep []:=fun c u h=>by cases h
theorem Sep.reg {r:List UInt8} (h:Sep r):∀c u,r=c::u→isReg c=false∧c≠47∧c≠60:=by
 intro c u hc
 have aux:=all_octets (P:=fun n=> !(blankC (UInt8.ofNat n) || decide (UInt8.ofNat n=37)) || (!isReg (UInt8.ofNat n) && (decide (UInt8.ofNat n≠47) && decide (UInt8.ofNat n≠60)))) (by decide+kernel) c
 simp only[UInt8.ofNat_toNat]at aux
 have hd:(blankC c || decide (c=37))=true:=by
  rcases h c u hc with h | h
  ·simp[h]
  ·simp[h]
 rw[hd]at aux
 simpa using aux
theorem runN_reg {rest:List UInt8} (h:∀c u,rest=c::u→isReg c=false):∀x:List UInt8,regAll x=true→runN isReg (x++rest)=x.length
 | [],_=>by
   cases rest with
   | nil=>rfl
   | cons c u=>simp[runN,h c u rfl]
 | c::x,hx=>by
   simp only[regAll,Bool.and_eq_true]at hx
   simp only[List.cons_append,runN,hx.1,if_true,runN_reg h x hx.2,List.length_cons]
theorem reg_plain {c:UInt8} (h:isReg c=true):c≠40∧c≠41∧c≠123∧c≠125∧c≠91∧c≠93∧c≠60∧c≠62∧c≠47∧¬(128≤c.toNat∧c.toNat<160)∧blankC c=false∧c≠37:=by
 have aux:=all_octets (P:=fun n=> !isReg (UInt8.ofNat n) || decide (UInt8.ofNat n≠40∧UInt8.ofNat n≠41∧UInt8.ofNat n≠123∧UInt8.ofNat n≠125∧UInt8.ofNat n≠91∧UInt8.ofNat n≠93∧UInt8.ofNat n≠60∧UInt8.ofNat n≠62∧UInt8.ofNat n≠47∧¬(128≤(UInt8.ofNat n).toNat∧(UInt8.ofNat n).toNat<160)∧blankC (UInt8.ofNat n)=false∧UInt8.ofNat n≠37)) (by decide+kernel) c
 simp only[UInt8.ofNat_toNat]at aux
 rw[h]at aux
 simpa only[Bool.not_true,Bool.false_or,decide_eq_true_eq] using aux
def Front (u:List UInt8):Prop:=∃c r,u=c::r∧blankC c=false∧c≠37
theorem Front.app {u:List UInt8} (h:Front u) (r:List UInt8):Front (u++r):=by
 obtain⟨c,v,rfl,h1,h2⟩:=h
 exact⟨c,v++r,rfl,h1,h2⟩
theorem tokS_text {k n:Int} {x:List UInt8} (hr:rightT k n x=true) {rest:List UInt8} (hs:Sep rest):tokS (textS k n x++rest)=((k,n,x),(textS k n x).length,0)∧Front (textS k n x):=by
 have hreg:=fun c u h=>(hs.reg c u h).1
 rcases kind_cases hr with ⟨hk,hw,hre,h12,h3,hl⟩ | ⟨_,rfl,hc⟩
 ·generalize hT:textS k n x=X at*
  cases X with
  | nil=>simp[wordT]at hw
  | cons c X=>
    simp only[regAll,Bool.and_eq_true]at hre
    obtain⟨a1,a2,a3,a4,a5,a6,a7,a8,a9,a10,a11,a12⟩:=reg_plain hre.1
    have hrun:=runN_reg hreg (c::X) (by simp[regAll,hre])
    refine⟨?_,c,X,rfl,a11,a12⟩
    have htk:(c::X++rest).take (c::X).length=c::X:=by rw[List.take_left]
    show tokS (c::(X++rest))=_
    rw[tokS,if_neg a1,if_neg a2,if_neg a3,if_neg a4,if_neg (by simp[a5,a6]),if_neg a7,if_neg a8,if_neg a9,if_neg a10]
    unfold wordK
    rw[show c::(X++rest)=c::X++rest from rfl,hrun,htk,hw]
    simp
 ·rcases hc with ⟨rfl,hre,ht,hl⟩ | ⟨rfl,hre,ht,hl⟩ | ⟨rfl,hl,ht⟩ | ⟨rfl,rfl,ht⟩ | ⟨rfl,rfl,ht⟩ | ⟨rfl,ht,hm⟩
  ·rw[ht]
   have hrun:=runN_reg hreg x hre
   refine⟨?_,47,x,rfl,by decide,by decide⟩
   have h47:¬(x++rest).head? =some 47:=by
    cases x with
    | nil=>
      cases rest with
      | nil=>simp
      | cons c u=>simp;exact(hs.reg c u rfl).2.1
    | cons c x=>
      simp only[regAll,Bool.and_eq_true]at hre
      simp
      exact(reg_plain hre.1).2.2.2.2.2.2.2.2.1
   show tokS (47::(x++rest))=_
   simp only[tokS]
   rw[if_neg (by decide),if_neg (by decide),if_neg (by decide),if_neg (by decide),if_neg (by decide),if_neg (by decide),if_neg (by decide),if_pos trivial]
   unfold slashR
   rw[if_neg h47,hrun,List.take_left]
   unfold textK
   rw[if_neg (by omega),if_pos hr]
   simp;omega
  ·rw[ht]
   have hrun:=runN_reg hreg x hre
   refine⟨?_,47,47::x,rfl,by decide,by decide⟩
   show tokS (47::(47::(x++rest)))=_
   simp only[tokS]
   rw[if_neg (by decide),if_neg (by decide),if_neg (by decide),if_neg (by decide),if_neg (by decide),if_neg (by decide),if_neg (by decide),if_pos trivial]
   unfold slashR
   rw[if_pos (show (47::(x++rest)).head? =some 47 from rfl),List.drop_succ_cons,List.drop_zero,hrun,List.take_left]
   unfold textK
   rw[if_neg (by omega),if_pos hr]
   simp;omega
  ·rw[ht]
   have hu:=unquote_back (more:=rest) hl
   refine⟨?_,40,_,rfl,by decide,by decide⟩
   have e:quoteS x++rest=40::(x.flatMap quoteC++[41]++rest):=by simp[quoteS]
   rw[e]at hu⊢
   simp only[tokS]
   rw[if_pos trivial]
   unfold quotedR
   rw[hu]
   simp only
   rw[if_pos trivial]
   unfold textK
   rw[if_neg (by omega),if_pos hr]
  ·rw[ht]
   exact⟨rfl,123,[],rfl,by decide,by decide⟩
  ·rw[ht]
   exact⟨rfl,125,[],rfl,by decide,by decide⟩
  ·rw[ht]
   rcases hm with rfl | rfl | rfl | rfl
   ·exact⟨rfl,91,[],rfl,by decide,by decide⟩
   ·exact⟨rfl,93,[],rfl,by decide,by decide⟩
   ·exact⟨rfl,60,[60],rfl,by decide,by decide⟩
   ·exact⟨rfl,62,[62],rfl,by decide,by decide⟩
def Gap (g:List UInt8):Prop:=∀p,skp false (g++p)=g.length+skp false p
theorem Gap.nil:Gap []:=fun p=>by simp
theorem Gap.blank {c:UInt8} (h:blankC c=true):Gap [c]:=fun p=>by simp[skp,h];omega
theorem skp_front {u:List UInt8} (h:Front u):skp false u=0:=by
 obtain⟨c,r,rfl,h1,h2⟩:=h
 simp[skp,h1,h2]
def nextU (u:List UInt8):T3:=if skp false u=u.length then((0,0,[]),u.length,4)else((tokS (u.drop (skp false u))).1,skp false u+(tokS (u.drop (skp false u))).2.1,(tokS (u.drop (skp false u))).2.2)
theorem nextS_U {s:List UInt8} (hs:s.length≤65536) {i:Nat} (hi:i≤s.length):nextS s (i:Int)=((nextU (s.drop i)).1,i+(nextU (s.drop i)).2.1,(nextU (s.drop i)).2.2):=by
 unfold nextS nextU
 rw[if_neg (by omega),if_neg (by omega)]
 simp only[Int.toNat_natCast,List.length_drop]
 by_cases h:i+skp false (s.drop i)=s.length
 ·rw[if_pos h,if_pos (by omega)]
  simp only[Prod.mk.injEq,and_true,true_and]
  omega
 ·rw[if_neg h,if_neg (by omega),List.drop_drop]
  simp only[Prod.mk.injEq,and_true,true_and]
  omega
inductive Chain:List UInt8→List Tok→Prop where
 | nil (u:List UInt8):skp false u=u.length→Chain u []
 | cons (u:List UInt8) (t:Tok) (n:Nat) (l:List Tok):nextU u=(t,n,0)→Chain (u.drop n) l→Chain u (t::l)
theorem Chain.run {s:List UInt8} (hs:s.length≤65536):∀{l:List Tok} {u:List UInt8},Chain u l→∀(f i:Nat) (acc:List Tok),i≤s.length→u=s.drop i→s.length<f+i→runA s f i acc=(acc++l,s.length,4):=by
 intro l u hc
 induction hc with
 | nil u h=>
   intro f i acc hi hu hf
   cases f with
   | zero=>omega
   | succ f=>
     rw[runA,nextS_U hs hi,←hu]
     unfold nextU
     rw[if_pos h,hu,List.length_drop]
     simp
     omega
 | cons u t n l h _ ih=>
   intro f i acc hi hu hf
   cases f with
   | zero=>omega
   | succ f=>
     have hp:=nextS_pos (s:=s) (i:=i) (t:=t) (n:=i+n) (by rw[nextS_U hs hi,←hu,h])
     rw[runA,nextS_U hs hi,←hu,h]
     simp only[if_true]
     rw[ih f (i+n) (acc++[t]) (by omega) (by rw[hu,List.drop_drop]) (by omega)]
     simp
theorem Chain.all {s:List UInt8} {l:List Tok} (hs:s.length≤65536) (h:Chain s l):allS s=(l,s.length,0):=by
 rw[allS_fin,h.run hs (s.length+1) 0 [] (by omega) (by simp) (by omega)]
 rfl
theorem nextU_piece {g p rest:List UInt8} {t:Tok} (hg:Gap g) (hf:Front p) (ht:tokS (p++rest)=(t,p.length,0)):nextU (g++(p++rest))=(t,(g++p).length,0):=by
 have hk:skp false (g++(p++rest))=g.length:=by rw[hg,skp_front (hf.app rest)];omega
 have hp:p≠[]:=by obtain⟨c,r,rfl,_⟩:=hf;simp
 have hpl:0<p.length:=List.length_pos_iff.2 hp
 unfold nextU
 rw[hk,if_neg (by simp only[List.length_append];omega),List.drop_left,ht]
 simp
theorem Chain.piece {g p rest:List UInt8} {t:Tok} {l:List Tok} (hg:Gap g) (hf:Front p) (ht:tokS (p++rest)=(t,p.length,0)) (hl:Chain rest l):Chain (g++(p++rest)) (t::l):=by
 refine .cons _ t (g++p).length l (nextU_piece hg hf ht) ?_
 rw[←List.append_assoc,List.drop_left]
 exact hl
theorem Chain.gap {g:List UInt8} (hg:Gap g):Chain g []:= .nil _ (by have:=hg [];simp[skp]at this;exact this)
def prT:List Tok→List UInt8
 | []=>[]
 | t::r=>32::(txT t++prT r)
theorem prT_sep (l:List Tok):Sep (prT l):=by
 cases l with
 | nil=>exact Sep.nil
 | cons t r=>intro c u h;injection h with h _;subst h;exact .inl (by decide)
theorem prT_chain:∀l:List Tok,(∀t∈l,rightT t.1 t.2.1 t.2.2=true)→Chain (prT l) l
 | [],_=> .nil _ rfl
 | t::r,h=>by
   obtain⟨h1,h2⟩:=tokS_text (h t (by simp)) (prT_sep r)
   exact Chain.piece (g:=[32]) (Gap.blank (by decide)) h2 h1 (prT_chain r fun x hx=>h x (by simp[hx]))
theorem printL_pr (t:Tok) (r:List Tok):printL (t::r)=txT t++prT r:=by
 unfold printL
 rw[List.map_cons,Lib.join_cons]
 congr 1
 induction r with
 | nil=>rfl
 | cons u r ih=>
   simp only[prT,Lib.joinTail,List.map_cons,List.flatten_cons]at ih⊢
   rw[ih];simp
theorem print_chain {l:List Tok} (h:∀t∈l,rightT t.1 t.2.1 t.2.2=true):Chain (printL l) l:=by
 cases l with
 | nil=>exact .nil _ rfl
 | cons t r=>
   rw[printL_pr]
   obtain⟨h1,h2⟩:=tokS_text (h t (by simp)) (prT_sep r)
   exact Chain.piece (g:=[]) Gap.nil h2 h1 (prT_chain r fun x hx=>h x (by simp[hx]))
theorem print_all {l:List Tok} (h:OkT l):allS (printL l)=(l,(printL l).length,0):=by
 have:=printL_len h
 have:=h.1
 exact Chain.all (by omega) (print_chain fun t ht=>(h.2 t ht).1)
end Go.Ev

/- A string is appended to octets; a Builder takes a string; the binary form. -/
namespace Go.Ev
open Go
variable {T : Tab} {st : St}
theorem Sl.append2 {st0:St} {S:List Nat} (hF:Frm S st0 st) {v x:AV} {ty es k j b:Nat} {cs new:List AV} (hv:Mine S st0 v) (a:Sl st v ty es k cs) (hxs:srcCells st.h es x=some (j,new)) (hxl:new.length=j*es) (hsc:new.all AV.sc=true)
  (hb:(k+j)*b≤35184372088832) (hb':k+j≤35184372088832) (hm:0<j∨∀n c,v≠.slice n 0 k (.known c)):
  CRes (aappend ty es b st v x) fun v' s=>Sl s v' ty es (k+j) (cs++new)∧Frm S st0 s∧Mine S st0 v'∧Frm v.nms st s:=by
 obtain⟨n,a⟩:=a
 cases hv0:v with
 | slice m o l c=>
   have hmn:n=m:=by
    rcases a with ⟨h1,h2,h3⟩ | ⟨h1,h2,h3⟩ | ⟨ty',h1,h2,h3⟩ <;> rw[hv0]at h1 <;> simp at h1 <;> first | exact h1.1.symm | exact h1.symm
   subst hmn
   rw[←hv0]
   refine(a.append hF.wf hxs hxl hsc hb hb' ?_).mono ?_
   ·rcases hm with h | h
    ·exact .inl h
    ·exact .inr (fun⟨c,hc⟩=>h _ _ hc)
   ·rintro v' s ⟨n',hs,hf,hn,_⟩
    have hfs:Frm v.nms st s:=by rw[hv0];exact hf
    refine⟨⟨n',hs⟩,hF.trans hfs hv,?_,hfs⟩
    intro k hk
    have hk':k=n':=by
     rcases hs with ⟨h1,h2,h3⟩ | ⟨h1,h2,h3⟩ | ⟨ty',h1,h2,h3⟩ <;> rw[h1]at hk <;> simp[AV.nms]at hk <;> exact hk
    subst hk'
    rcases hn with h | h
    ·subst h;exact hv _ (by simp[hv0,AV.nms])
    ·exact .inr (Nat.le_trans hF.nx h)
 | nilslice=>
   have hk0:k=0∧cs=[]:=by
    rcases a with ⟨h1,h2,h3⟩ | ⟨h1,h2,h3⟩ | ⟨ty',h1,h2,h3⟩
    ·exact⟨h3,h2⟩
    ·rw[hv0]at h1;cases h1
    ·rw[hv0]at h1;cases h1
   obtain⟨rfl,rfl⟩:=hk0
   unfold aappend
   rw[hxs]
   simp only[Nat.zero_add]at hb hb'⊢
   by_cases hj0:j=0
   ·rw[if_pos hj0]
    refine⟨?_,hF,Mine.nil _ _,Frm.refl hF.wf _⟩
    have:new=[]:=List.length_eq_zero_iff.1 (by rw[hxl,hj0];simp)
    subst this;subst hj0
    exact .nil _ _ _
   ·rw[if_neg hj0,if_pos ⟨hb,hb'⟩]
    refine⟨⟨st.nx,.buf rfl (by simp[hget]) (by simpa using hxl)⟩,hF.trans ((Ext.new hF.wf _).fr []) (by simp),?_,(Ext.new hF.wf _).fr _⟩
    intro n hn
    simp[AV.nms]at hn
    subst hn
    exact .inr hF.nx
 | _=>
   rcases a with ⟨h1,h2,h3⟩ | ⟨h1,h2,h3⟩ | ⟨ty',h1,h2,h3⟩ <;> rw[hv0]at h1 <;> cases h1
theorem Grow.appS {st0 s1:St} (hF:st0.nx≤s1.nx) (hw:s1.Wf) {v:AV} {l m:List UInt8} (a:Grow st0 s1 v l) (hl:l.length+m.length<35184372088831):
  CRes (aappend 5 1 1 s1 v (.str m)) fun v' s=>Grow st0 s v' (l++m)∧Frm v.nms s1 s:=by
 obtain⟨a1,a2,a3⟩:=a
 have hap:=Sl.append2 (x:= .str m) (j:=m.length) (new:=u8s m) (b:=1) (Frm.refl hw v.nms) (fun n h=> .inl h) a1 (by simp[srcCells,u8s]) (by rw[u8s_len];omega) (by simp[u8s,AV.sc]) (by omega) (by omega) (.inr fun n c h=>a3 _ _ _ _ h)
 refine(hap.also (fun _ _ h=>aappend_nk h a3)).mono ?_
 rintro v2 s2 ⟨⟨k1,k2,k3,_⟩,hnk2⟩
 refine⟨⟨by rw[u8s_append,List.length_append];exact k1,fun n hn=> ?_,hnk2⟩,k2⟩
 rcases k3 n hn with h | h
 ·exact a2 n h
 ·exact .inr (by omega)
theorem writeString_res (H:B.H_strings_Builder_WriteString T) {st0:St} (hx:Ext st0 st) {q:Nat} {l:List UInt8} (m:List UInt8) (b:Bd st0 st q l) (hl:l.length+m.length<35184372088831):
  CRes (call T (.fn 169 [] []) [.ptr q 0,.str m] st) fun _ s'=>Ext st0 s'∧Bd st0 s' q (l++m):=by
 obtain⟨h1,a,v,h2,h3,h4,h5⟩:=b
 refine call_res H.e H.f rfl ?_
 simp[B.strings_Builder_WriteString,go_sem]
 refine(copyCheck_res H.strings_Builder_copyCheck hx.wf h2 h3).mono ?_
 rintro _ s1 ⟨f1,g1⟩
 have x1:Ext st0 s1:=hx.frm f1 (by simpa using h1)
 have g4:=h4.frm f1 hx.wf (by intro n hn h;simp at h;subst h;exact h5 hn)
 have hr:rdCell s1.h q 1=some v:=by simp[rdCell,g1]
 simp[go_sem,RO.run,NO.run,hr,reps]
 refine(g4.appS x1.nx x1.wf (m:=m) hl).mono ?_
 rintro v2 s2 ⟨o2,f2⟩
 have x2:=x1.frm f2 h4.ge
 have g2:hget s2.h q=some (.cells 84 false [.ptr q 0,v]):=f2.get x1.wf g1 h5
 have hw2:wrCells s2.h q 1 [v2]=some (hset s2.h q (.cells 84 false [.ptr q 0,v2])):=wr_cells g2 o2.sc (by simp)
 have f3:=Frm.set x2.wf g2 (o:= .cells 84 false [.ptr q 0,v2])
 have hap:=o2.apart g2 (x:= .ptr q 0) (by simp) (by simp)
 have g3:=hget_hset_self (o:= .cells 84 false [.ptr q 0,v2]) g2
 simp[go_sem,WO.run,o2.acells,hw2]
 have x3:Ext st0 ⟨hset s2.h q (.cells 84 false [.ptr q 0,v2]),s2.nx⟩:=x2.frm f3 (by simpa using h1)
 have o3:Grow st0 ⟨hset s2.h q (.cells 84 false [.ptr q 0,v2]),s2.nx⟩ v2 (l++m):=o2.frm f3 x2.wf (by intro n hn h;simp at h;subst h;exact hap hn)
 refine⟨?_,h1,_,v2,hget_dropLoc_keep x3.wf g3 rfl,.inr rfl,o3.dropLoc x3.wf,hap⟩
 exact x3.dropGe hx.nx
def beN (n:Int):Nat→List UInt8
 | 0=>[]
 | m+1=>UInt8.ofNat ((n / 256 ^ m) % 256).toNat::beN n m
theorem beN_len (n:Int):∀m,(beN n m).length=m
 | 0=>rfl
 | m+1=>by simp[beN,beN_len n m]
def formS (first:UInt8) (n:Int) (m:Nat) (s:List UInt8):List UInt8:=first::(beN n m++s)
theorem shr_oct {n:Int} (hn0: -4294967296≤n) (hn1:n≤4294967296) {m:Nat} (hm:m<4):IntKind.u8.wrap (ishr .i64 n (8*(m:Int)))=((UInt8.ofNat ((n / 256 ^ m) % 256).toNat).toNat:Int):=by
 have key:∀q:Int, -4294967296≤q→q≤4294967296→IntKind.u8.wrap q=((UInt8.ofNat (q % 256).toNat).toNat:Int):=by
  intro q h0 h1
  rw[UInt8.toNat_ofNat',Nat.mod_eq_of_lt (by omega)]
  simp[IntKind.wrap,IntKind.signed,IntKind.bits]
  omega
 have hd:ishr .i64 n (8*(m:Int))=n / 256 ^ m:=by
  have:m=0∨m=1∨m=2∨m=3:=by omega
  rcases this with rfl | rfl | rfl | rfl
  ·simp[ishr,IntKind.bits]
  ·simp[ishr,IntKind.bits]
   exact Int.fdiv_eq_ediv_of_nonneg _ (by omega)
  ·simp[ishr,IntKind.bits]
   exact Int.fdiv_eq_ediv_of_nonneg _ (by omega)
  ·simp[ishr,IntKind.bits]
   exact Int.fdiv_eq_ediv_of_nonneg _ (by omega)
 rw[hd,key]
 ·have:m=0∨m=1∨m=2∨m=3:=by omega
  rcases this with rfl | rfl | rfl | rfl <;> simp <;> omega
 ·have:m=0∨m=1∨m=2∨m=3:=by omega
  rcases this with rfl | rfl | rfl | rfl <;> simp <;> omega
theorem form_l0 (H:B.H_scan_form T) {st0:St} {q:Nat} {n:Int} (hn0: -4294967296≤n) (hn1:n≤4294967296) {a3:AV}:∀(m:Nat) (o:List UInt8) (e:Env) (st1:St),m≤4→o.length+m≤10→Ext st0 st1→Bd st0 st1 q o→eget e 1= .int .i64 n→eget e 3=a3→eget e 9= .ptr q 0→eget e 10= .int .i64 ((m:Int) - 1)→
  Res (run T (.loop B.scan_form_l0) e st1) fun x e' s'=>x= .exit 0∧Ext st0 s'∧Bd st0 s' q (o++beN n m)∧eget e' 3=a3∧eget e' 9= .ptr q 0:=by
 intro m
 induction m with
 | zero=>
   intro o e st1 hm ho hx hb g1 g3 g9 g10
   rw[run_loop]
   simp[B.scan_form_l0,go_sem,g1,g3,g9,g10,beN,hx,hb]
 | succ m ih=>
   intro o e st1 hm ho hx hb g1 g3 g9 g10
   have g10':eget e 10= .int .i64 (m:Int):=by rw[g10];congr 1;omega
   have hm4:m<4:=by omega
   have h0:(0:Int)≤(m:Int):=by omega
   obtain⟨M,hM⟩:∃M:Int,M=8*(m:Int):=⟨_,rfl⟩
   obtain⟨M1,hM1⟩:∃M:Int,M=(m:Int) - 1:=⟨_,rfl⟩
   have w8:IntKind.i64.wrap (8*(m:Int))=M:=by rw[wrap64' (by omega) (by omega)];omega
   have w1:IntKind.i64.wrap ((m:Int) - 1)=M1:=by rw[wrap64' (by omega) (by omega)];omega
   have hM0:¬M<0:=by omega
   have hsh:=shr_oct hn0 hn1 hm4
   rw[←hM]at hsh
   have ih2:=fun o' e' s'=>ih o' e' s' (by omega)
   rw[←hM1]at ih2
   obtain⟨c,hc⟩:∃c,c=UInt8.ofNat ((n / 256 ^ m) % 256).toNat:=⟨_,rfl⟩
   rw[←hc]at hsh
   rw[beN,←hc]
   clear hc hM hM1 ih
   rw[run_loop]
   simp[B.scan_form_l0,go_sem,g1,g3,g9,g10',h0,w8,hM0,hsh]
   refine(writeByte_at H.strings_Builder_WriteByte hx c rfl hb (by omega)).mono ?_
   rintro _ s2 ⟨x2,b2⟩
   simp[go_sem,g1,g3,g9,g10',w1]
   refine(ih2 (o++[c]) _ s2 (by simp;omega) x2 b2 (by simp[go_sem,g1]) (by simp[go_sem,g3]) (by simp[go_sem,g9]) (by simp[go_sem])).mono ?_
   rintro x e' s3 ⟨h1,h2,h3,h4,h5⟩
   exact⟨h1,h2,by simpa using h3,h4,h5⟩
theorem form_tells (H:B.H_scan_form T) (hwf:st.Wf) {first:UInt8} {n:Int} (hn0: -4294967296≤n) (hn1:n≤4294967296) {m:Nat} (hm:m≤4) (hm1:1≤m) {s:List UInt8} (hs:s.length<1000000000) {F M:Int} (hF:F=(first.toNat:Int)) (hM:M=(m:Int)):
  Tells T st (.fn 180 [] []) [.int .u8 F,.int .i64 n,.int .i64 M,.str s] (.str (formS first n m s)):=by
 subst hF hM
 refine tells_of H.e H.f rfl ?_
 have hx:=Ext.new hwf (.cells 84 false [.nilptr,.nilslice])
 have hb0:Bd st ⟨(st.nx,.cells 84 false [.nilptr,.nilslice])::st.h,st.nx+1⟩ st.nx []:=⟨Nat.le_refl _,.nilptr,.nilslice,by simp[hget_cons],.inl rfl,Grow.nil _ _,by simp[AV.nms]⟩
 obtain⟨M1,hM1⟩:∃M:Int,M=(m:Int) - 1:=⟨_,rfl⟩
 have w1:IntKind.i64.wrap ((m:Int) - 1)=M1:=by rw[wrap64' (by omega) (by omega)];omega
 have hf:=beN_len n m
 have loop:=fun(o:List UInt8) (e:Env) (s1:St)=>form_l0 H (st0:=st) (q:=st.nx) hn0 hn1 (a3:= .str s) m o e s1 hm
 rw[←hM1]at loop
 simp[B.scan_form,go_sem,NO.run]
 refine(writeByte_at H.strings_Builder_WriteByte hx first rfl hb0 (by simp)).mono ?_
 rintro _ s2 ⟨x2,b2⟩
 simp[go_sem,w1]
 refine(loop _ _ s2 (by simp;omega) x2 b2 (by simp[go_sem]) (by simp[go_sem]) (by simp[go_sem]) (by simp[go_sem])).mono ?_
 rintro x e' s3 ⟨rfl,x3,b3,g3,g9⟩
 simp[go_sem,g3,g9]
 refine(writeString_res H.strings_Builder_WriteString x3 s b3 (by simp;omega)).mono ?_
 rintro _ s4 ⟨x4,b4⟩
 simp[go_sem]
 refine(string_res H.strings_Builder_String x4 b4 (by simp) (by simp;omega)).mono ?_
 rintro _ s5 ⟨rfl,x5⟩
 simp[go_sem,formS,x5]
def packS (t:Tok):List UInt8:=
 if t.1=1 then(if -128≤t.2.1∧t.2.1<128 then formS 129 t.2.1 1 []else if -32768≤t.2.1∧t.2.1<32768 then formS 130 t.2.1 2 []else formS 128 t.2.1 4 [])
 else if t.1=2 then formS 131 t.2.1 4 []
 else if t.1=6 then(if t.2.2.length<256 then formS 132 t.2.2.length 1 t.2.2 else formS 133 t.2.2.length 2 t.2.2)
 else if t.1=4 then formS 134 t.2.2.length 1 t.2.2
 else if t.1=3 then formS 135 t.2.2.length 1 t.2.2
 else if t.1=5 then formS 136 t.2.2.length 1 t.2.2
 else textS t.1 t.2.1 t.2.2
end Go.Ev

/- scan.Pack told. -/
namespace Go.Ev
open Go
variable {T : Tab} {st : St}
set_option maxHeartbeats 2000000 in
set_option maxRecDepth 20000 in
theorem pack_tells (H:B.H_scan_Pack T) (hwf:st.Wf) (hp:Pow st) {k n:Int} {t:List UInt8} (hr:rightT k n t=true) (hs:t.length<65536) (hbig:k=2→n≤2147483647):
  Tells T st (.fn 166 [] []) [.agg [.int .i64 k,.int .i64 n,.str t]] (.tuple [.str (packS (k,n,t)),.int .i64 0]):=by
 refine tells_of H.e H.f rfl ?_
 have hx:=Ext.new hwf (.cells 134 true [.int .i64 k,.int .i64 n,.str t])
 have g:hget ((st.nx,AObj.cells 134 true [.int .i64 k,.int .i64 n,.str t])::st.h) st.nx=some (.cells 134 true [.int .i64 k,.int .i64 n,.str t]):=by simp[hget_cons]
 simp[B.scan_Pack,go_sem,NO.run,WO.run,RO.run,rd_tok]
 refine(check_tells H.lex_Check hx.wf (by omega)).use fun s1 hs1=> ?_
 have e1:=hx.trans hs1
 have g1:=hs1.get hx.wf g
 have p1:=hp.ext e1 hwf
 have hb:=right_bound hr
 have fm:=fun(first:UInt8) (n:Int) (h0: -4294967296≤n) (h1:n≤4294967296) (m:Nat) (hm:m≤4) (hm1:1≤m) (s:List UInt8) (hs:s.length<1000000000) (F M:Int) (hF:F=(first.toNat:Int)) (hM:M=(m:Int))=>form_tells (st:=s1) H.scan_form e1.wf h0 h1 hm hm1 hs hF hM
 have lt:=lexText_tells (st:=s1) H.lex_Text e1.wf p1 (k:=k) (n:=n) (t:=t) (by omega)
 have c0:rdCell s1.h st.nx 0=some (.int .i64 k):=by simp[rdCell,g1]
 have c1:rdCell s1.h st.nx 1=some (.int .i64 n):=by simp[rdCell,g1]
 have c2:rdCell s1.h st.nx 2=some (.str t):=by simp[rdCell,g1]
 have c3:rdCells s1.h st.nx 0 3=some [.int .i64 k,.int .i64 n,.str t]:=tok_rd g1
 rw[if_pos hr,if_pos hr]at lt
 simp[go_sem,RO.run,hr,c0,c1,c2]
 by_cases h1:k=1
 ·subst h1
  obtain⟨b0,b1⟩:=hb (.inl rfl)
  by_cases h128: -128≤n∧n<128
  ·have hP:packS (1,n,t)=formS 129 n 1 []:=by simp[packS,h128]
   rw[hP]
   simp[go_sem,RO.run,c1,h128]
   refine(fm 129 n b0 b1 1 (by omega) (by omega) [] (by simp) 129 1 rfl rfl).use fun s2 x2=> ?_
   simp[go_sem,e1.trans x2]
  ·have hg:(-128≤n→¬n<128):=fun h h'=>h128 ⟨h,h'⟩
   by_cases h32: -32768≤n∧n<32768
   ·have hP:packS (1,n,t)=formS 130 n 2 []:=by simp[packS,h128,h32]
    rw[hP]
    have h32a:=h32.1
    have h32b:=h32.2
    by_cases ha: -128≤n
    ·have hb':=hg ha
     simp[go_sem,RO.run,c1,ha,hb',h32a,h32b]
     refine(fm 130 n b0 b1 2 (by omega) (by omega) [] (by simp) 130 2 rfl rfl).use fun s2 x2=> ?_
     simp[go_sem,e1.trans x2]
    ·simp[go_sem,RO.run,c1,ha,h32a,h32b]
     refine(fm 130 n b0 b1 2 (by omega) (by omega) [] (by simp) 130 2 rfl rfl).use fun s2 x2=> ?_
     simp[go_sem,e1.trans x2]
   ·have hP:packS (1,n,t)=formS 128 n 4 []:=by simp[packS,h128,h32]
    rw[hP]
    have fin:=fm 128 n b0 b1 4 (by omega) (by omega) [] (by simp) 128 4 rfl rfl
    by_cases ha: -128≤n
    ·have hb':=hg ha
     have hc': -32768≤n:=by omega
     have hd':¬n<32768:=by omega
     simp[go_sem,RO.run,c1,ha,hb',hc',hd']
     refine fin.use fun s2 x2=> ?_
     simp[go_sem,e1.trans x2]
    ·by_cases hc': -32768≤n
     ·exfalso;omega
     ·simp[go_sem,RO.run,c1,ha,hc']
      refine fin.use fun s2 x2=> ?_
      simp[go_sem,e1.trans x2]
 by_cases h2:k=2
 ·subst h2
  obtain⟨b0,b1⟩:=hb (.inr rfl)
  have hP:packS (2,n,t)=formS 131 n 4 []:=by simp[packS]
  rw[hP]
  have hn:=hbig rfl
  simp[go_sem,RO.run,c1,hn,show¬(2147483647<n)by omega]
  refine(fm 131 n b0 b1 4 (by omega) (by omega) [] (by simp) 131 4 rfl rfl).use fun s2 x2=> ?_
  simp[go_sem,e1.trans x2]
 by_cases h6:k=6
 ·subst h6
  rcases Nat.lt_or_ge t.length 256 with hl | hl
  ·have hP:packS (6,n,t)=formS 132 t.length 1 t:=by simp[packS,hl]
   rw[hP]
   have hl':(t.length:Int)<256:=by omega
   simp[go_sem,RO.run,c2,hl']
   refine(fm 132 t.length (by omega) (by omega) 1 (by omega) (by omega) t (by omega) 132 1 rfl rfl).use fun s2 x2=> ?_
   simp[go_sem,e1.trans x2]
  ·have hP:packS (6,n,t)=formS 133 t.length 2 t:=by simp only[packS];rw[if_neg (by decide),if_neg (by decide),if_pos trivial,if_neg (by omega)]
   rw[hP]
   have hl':¬(t.length:Int)<256:=by omega
   simp[go_sem,RO.run,c2,hl']
   refine(fm 133 t.length (by omega) (by omega) 2 (by omega) (by omega) t (by omega) 133 2 rfl rfl).use fun s2 x2=> ?_
   simp[go_sem,e1.trans x2]
 by_cases h4:k=4
 ·subst h4
  have hP:packS (4,n,t)=formS 134 t.length 1 t:=by simp[packS]
  rw[hP]
  simp[go_sem,RO.run,c2]
  refine(fm 134 t.length (by omega) (by omega) 1 (by omega) (by omega) t (by omega) 134 1 rfl rfl).use fun s2 x2=> ?_
  simp[go_sem,e1.trans x2]
 by_cases h3:k=3
 ·subst h3
  have hP:packS (3,n,t)=formS 135 t.length 1 t:=by simp[packS]
  rw[hP]
  simp[go_sem,RO.run,c2]
  refine(fm 135 t.length (by omega) (by omega) 1 (by omega) (by omega) t (by omega) 135 1 rfl rfl).use fun s2 x2=> ?_
  simp[go_sem,e1.trans x2]
 by_cases h5:k=5
 ·subst h5
  have hP:packS (5,n,t)=formS 136 t.length 1 t:=by simp[packS]
  rw[hP]
  simp[go_sem,RO.run,c2]
  refine(fm 136 t.length (by omega) (by omega) 1 (by omega) (by omega) t (by omega) 136 1 rfl rfl).use fun s2 x2=> ?_
  simp[go_sem,e1.trans x2]
 ·have hP:packS (k,n,t)=textS k n t:=by simp[packS,h1,h2,h3,h4,h5,h6]
  rw[hP]
  simp[go_sem,RO.run,h1,h2,h3,h4,h5,h6,c3]
  refine lt.use fun s2 x2=> ?_
  simp[go_sem,e1.trans x2]
end Go.Ev

/- The plain law of reading back: binary forms. -/
namespace Go.Ev
open Go
theorem oct_val (q:Int):((UInt8.ofNat (q % 256).toNat).toNat:Int)=q % 256:=by
 rw[UInt8.toNat_ofNat',Nat.mod_eq_of_lt (by omega)]
 omega
theorem numS_1 {n:Int} (h0: -128≤n) (h1:n<128):numS (beN n 1)=n:=by
 have a:=oct_val (n / 256 ^ 0)
 simp only[beN]
 generalize UInt8.ofNat ((n / 256 ^ 0) % 256).toNat=c at*
 simp only[numS,numF]
 split <;> omega
theorem numS_2 {n:Int} (h0: -32768≤n) (h1:n<32768):numS (beN n 2)=n:=by
 have a:=oct_val (n / 256 ^ 0)
 have b:=oct_val (n / 256 ^ 1)
 simp only[beN]
 generalize UInt8.ofNat ((n / 256 ^ 0) % 256).toNat=c at*
 generalize UInt8.ofNat ((n / 256 ^ 1) % 256).toNat=d at*
 simp only[numS,numF]
 split <;> omega
theorem numS_4 {n:Int} (h0: -2147483648≤n) (h1:n≤2147483647):numS (beN n 4)=n:=by
 have a:=oct_val (n / 256 ^ 0)
 have b:=oct_val (n / 256 ^ 1)
 have c:=oct_val (n / 256 ^ 2)
 have d:=oct_val (n / 256 ^ 3)
 simp only[beN]
 generalize UInt8.ofNat ((n / 256 ^ 0) % 256).toNat=c0 at*
 generalize UInt8.ofNat ((n / 256 ^ 1) % 256).toNat=c1 at*
 generalize UInt8.ofNat ((n / 256 ^ 2) % 256).toNat=c2 at*
 generalize UInt8.ofNat ((n / 256 ^ 3) % 256).toNat=c3 at*
 simp only[numS,numF]
 split <;> omega
theorem numU_1 {n:Nat} (h1:n<256):(numU (beN n 1)).toNat=n:=by
 have a:=oct_val ((n:Int) / 256 ^ 0)
 simp only[beN]
 generalize UInt8.ofNat (((n:Int) / 256 ^ 0) % 256).toNat=c at*
 simp only[numU,numF]
 omega
theorem numU_2 {n:Nat} (h1:n<65536):(numU (beN n 2)).toNat=n:=by
 have a:=oct_val ((n:Int) / 256 ^ 0)
 have b:=oct_val ((n:Int) / 256 ^ 1)
 simp only[beN]
 generalize UInt8.ofNat (((n:Int) / 256 ^ 0) % 256).toNat=c at*
 generalize UInt8.ofNat (((n:Int) / 256 ^ 1) % 256).toNat=d at*
 simp only[numU,numF]
 omega
theorem tokS_bin {c:UInt8} (h:128≤c.toNat∧c.toNat<160) (R:List UInt8):tokS (c::R)=binR c R:=by
 have hn:∀k:UInt8,k.toNat<128→c≠k:=fun k hk he=>by rw[he]at h;omega
 simp only[tokS]
 rw[if_neg (hn 40 (by decide)),if_neg (hn 41 (by decide)),if_neg (hn 123 (by decide)),if_neg (hn 125 (by decide)),if_neg (by rintro(h | h);exact hn 91 (by decide) h;exact hn 93 (by decide) h),if_neg (hn 60 (by decide)),if_neg (hn 62 (by decide)),if_neg (hn 47 (by decide)),if_pos h]
theorem fixR_form {k n:Int} {m:Nat} (hn:numS (beN n m)=n) (rest:List UInt8):fixR k m (beN n m++rest)=((k,n,[]),1+m,0):=by
 unfold fixR
 have hl:=beN_len n m
 rw[if_neg (by rw[List.length_append];omega)]
 generalize beN n m=B at*
 subst hl
 rw[List.take_left,hn]
theorem cntR4_form {k:Int} {m:Nat} {x:List UInt8} (hn:(numU (beN x.length m)).toNat=x.length) (hk:¬((k=6∧1000<x.length)∨(k≠6∧100<x.length))) (hr:rightT k 0 x=true) (rest:List UInt8):
  cntR4 k m (beN x.length m++(x++rest))=((k,0,x),1+m+x.length,0):=by
 unfold cntR4
 have hl:=beN_len (x.length:Int) m
 generalize beN (x.length:Int) m=B at*
 subst hl
 rw[if_neg (by rw[List.length_append];omega),List.take_left,List.drop_left,hn,if_neg (by rw[List.length_append];omega),List.take_left]
 unfold textK
 rw[if_neg hk,if_pos hr]
theorem tokS_pack {k n:Int} {x:List UInt8} (hr:rightT k n x=true) (hbig:k=2→n≤2147483647) (hx:x.length<65536) (rest:List UInt8):tokS (packS (k,n,x)++rest)=((k,n,x),(packS (k,n,x)).length,0)∧Front (packS (k,n,x)):=by
 have hF:∀(c:UInt8) (n:Int) (m:Nat) (s:List UInt8),128≤c.toNat∧c.toNat<160→(formS c n m s).length=1+m+s.length∧Front (formS c n m s)∧tokS (formS c n m s++rest)=binR c (beN n m++(s++rest)):=by
  intro c n m s hc
  refine⟨by simp[formS,beN_len];omega,⟨c,_,rfl,?_⟩,?_⟩
  ·have aux:=all_octets (P:=fun n=> !(decide (128≤n) && decide (n<160)) || (!blankC (UInt8.ofNat n) && decide (UInt8.ofNat n≠37))) (by decide+kernel) c
   simp only[UInt8.ofNat_toNat,hc.1,hc.2,decide_true,Bool.and_self,Bool.not_true,Bool.false_or,Bool.and_eq_true,Bool.not_eq_true',decide_eq_true_eq]at aux
   exact aux
  ·show tokS (c::(beN n m++s++rest))=_
   rw[tokS_bin hc,List.append_assoc]
 by_cases h1:k=1
 ·subst h1
  have hr':=hr
  simp[rightT]at hr'
  obtain⟨⟨b0,b1⟩,rfl⟩:=hr'
  by_cases h128: -128≤n∧n<128
  ·have hP:packS (1,n,[])=formS 129 n 1 []:=by simp[packS,h128]
   obtain⟨f1,f2,f3⟩:=hF 129 n 1 [] (by decide)
   rw[hP,f1,f3]
   exact⟨fixR_form (numS_1 h128.1 h128.2) _,f2⟩
  ·by_cases h32: -32768≤n∧n<32768
   ·have hP:packS (1,n,[])=formS 130 n 2 []:=by simp[packS,h128,h32]
    obtain⟨f1,f2,f3⟩:=hF 130 n 2 [] (by decide)
    rw[hP,f1,f3]
    exact⟨fixR_form (numS_2 h32.1 h32.2) _,f2⟩
   ·have hP:packS (1,n,[])=formS 128 n 4 []:=by simp[packS,h128,h32]
    obtain⟨f1,f2,f3⟩:=hF 128 n 4 [] (by decide)
    rw[hP,f1,f3]
    exact⟨fixR_form (numS_4 b0 b1) _,f2⟩
 by_cases h2:k=2
 ·subst h2
  have hr':=hr
  simp[rightT]at hr'
  obtain⟨⟨b0,b1⟩,rfl⟩:=hr'
  have hP:packS (2,n,[])=formS 131 n 4 []:=by simp[packS]
  obtain⟨f1,f2,f3⟩:=hF 131 n 4 [] (by decide)
  rw[hP,f1,f3]
  exact⟨fixR_form (numS_4 b0 (hbig rfl)) _,f2⟩
 have hn0:n=0:=by
  rcases kind_cases hr with ⟨h,_,_,_,h3,_⟩ | ⟨_,h,_⟩
  ·rcases h with h | h | rfl
   ·exact absurd h h1
   ·exact absurd h h2
   ·have hr':=hr
    simp[rightT,markT]at hr'
    rcases hr' with h | h
    ·exact h.1
    ·exact h.1
  ·exact h
 subst hn0
 by_cases h6:k=6
 ·subst h6
  have hr':=hr
  simp[rightT]at hr'
  rcases Nat.lt_or_ge x.length 256 with hl | hl
  ·have hP:packS (6,0,x)=formS 132 x.length 1 x:=by simp[packS,hl]
   obtain⟨f1,f2,f3⟩:=hF 132 x.length 1 x (by decide)
   rw[hP,f1,f3]
   exact⟨cntR4_form (numU_1 hl) (by omega) hr _,f2⟩
  ·have hP:packS (6,0,x)=formS 133 x.length 2 x:=by simp only[packS];rw[if_neg (by decide),if_neg (by decide),if_pos trivial,if_neg (by omega)]
   obtain⟨f1,f2,f3⟩:=hF 133 x.length 2 x (by decide)
   rw[hP,f1,f3]
   exact⟨cntR4_form (numU_2 hx) (by omega) hr _,f2⟩
 by_cases h345:k=4∨k=3∨k=5
 ·have hl:x.length≤100:=by
   have hr':=hr
   unfold rightT at hr'
   rw[if_neg h1,if_neg h2,if_pos (by omega)]at hr'
   simp only[Bool.or_eq_true,Bool.and_eq_true,decide_eq_true_eq]at hr'
   rcases hr' with h | ⟨_,h⟩
   ·simp[markT]at h
    rcases h.2 with ((h | h) | h) | h <;> rw[h] <;> decide
   ·simp[namedT]at h
    exact h.1.1
  rcases h345 with rfl | rfl | rfl
  ·have hP:packS (4,0,x)=formS 134 x.length 1 x:=by simp[packS]
   obtain⟨f1,f2,f3⟩:=hF 134 x.length 1 x (by decide)
   rw[hP,f1,f3]
   exact⟨cntR4_form (numU_1 (by omega)) (by omega) hr _,f2⟩
  ·have hP:packS (3,0,x)=formS 135 x.length 1 x:=by simp[packS]
   obtain⟨f1,f2,f3⟩:=hF 135 x.length 1 x (by decide)
   rw[hP,f1,f3]
   exact⟨cntR4_form (numU_1 (by omega)) (by omega) hr _,f2⟩
  ·have hP:packS (5,0,x)=formS 136 x.length 1 x:=by simp[packS]
   obtain⟨f1,f2,f3⟩:=hF 136 x.length 1 x (by decide)
   rw[hP,f1,f3]
   exact⟨cntR4_form (numU_1 (by omega)) (by omega) hr _,f2⟩
 ·have hr':=hr
  unfold rightT at hr'
  rw[if_neg h1,if_neg h2,if_neg (by omega),if_neg h6]at hr'
  simp only[Bool.or_eq_true,Bool.and_eq_true,decide_eq_true_eq,beq_iff_eq]at hr'
  obtain⟨h78,_,rfl⟩:=hr'
  rcases h78 with rfl | rfl
  ·exact⟨rfl,123,[],rfl,by decide,by decide⟩
  ·exact⟨rfl,125,[],rfl,by decide,by decide⟩
end Go.Ev

/- All tokens: scan.All. -/
namespace Go.Ev
open Go
variable {T : Tab} {st : St}
def AI (st0 s1:St) (s:List UInt8) (O:AObj) (l:List Tok) (a:Nat) (b:Int):Prop:=
 Ext st0 s1∧(∃v,hget s1.h st0.nx=some (.cells 146 true [v])∧GrowT st0 s1 v l)∧hget s1.h (st0.nx+1)=some (cO a)∧hget s1.h (st0.nx+2)=some (.cells 30 true [.int .i64 b])∧hget s1.h (st0.nx+3)=some (.cells 9 false [.str s])∧hget s1.h (st0.nx+4)=some O
theorem GrowT.apart {st0 s:St} {v:AV} {l:List Tok} (a:GrowT st0 s v l) {m:Nat} {o:AObj} (hg:hget s.h m=some o) (ho:∀ty es cs,o≠.buf ty es cs):∀n∈v.nms,n≠m:=by
 intro n hn e
 subst e
 rcases a.form with ⟨rfl,_⟩ | ⟨k,rfl,hk,_⟩
 ·cases hn
 ·simp[AV.nms]at hn
  subst hn
  rw[hg]at hk
  injection hk with hk
  exact ho _ _ _ hk
theorem GrowT.acells {st0 s:St} {v:AV} {l:List Tok} (a:GrowT st0 s v l):acells v=[v]:=by
 rcases a.form with ⟨h,_⟩ | ⟨n,h,_⟩ <;> rw[h] <;> rfl
theorem AI.ext {st0 s1 s2:St} {s:List UInt8} {O:AObj} {l:List Tok} {a:Nat} {b:Int} (h:AI st0 s1 s O l a b) (x:Ext s1 s2):AI st0 s2 s O l a b:=by
 obtain⟨h1,⟨v,h2,h3⟩,h4,h5,h6,h7⟩:=h
 exact⟨h1.trans x,⟨v,x.get h1.wf h2,h3.ext x h1.wf⟩,x.get h1.wf h4,x.get h1.wf h5,x.get h1.wf h6,x.get h1.wf h7⟩
theorem AI.set {st0 s1:St} {s:List UInt8} {O O':AObj} {l:List Tok} {a:Nat} {b:Int} (h:AI st0 s1 s O l a b) (ho:∀ty es cs,O≠.buf ty es cs):AI st0 ⟨hset s1.h (st0.nx+4) O',s1.nx⟩ s O' l a b:=by
 obtain⟨h1,⟨v,h2,h3⟩,h4,h5,h6,h7⟩:=h
 refine⟨h1.setNew h7 (by omega),⟨v,(hget_hset_ne h7 (by omega)).trans h2,h3.frm (Frm.set h1.wf h7) h1.wf ?_⟩,(hget_hset_ne h7 (by omega)).trans h4,(hget_hset_ne h7 (by omega)).trans h5,(hget_hset_ne h7 (by omega)).trans h6,hget_hset_self h7⟩
 intro n hn h
 simp at h
 exact h3.apart h7 ho n hn h
theorem AI.dropLoc {st0 s1:St} {s:List UInt8} {O:AObj} {l:List Tok} {a:Nat} {b:Int} {c:Nat} (h:AI st0 s1 s O l a b) (hc:st0.nx+5≤c):AI st0 ⟨Go.Ev.dropLoc c s1.h,s1.nx⟩ s O l a b:=by
 obtain⟨h1,⟨v,h2,h3⟩,h4,h5,h6,h7⟩:=h
 have hlt:∀m,m<st0.nx+5→hget (Go.Ev.dropLoc c s1.h) m=hget s1.h m:=fun m hm=>hget_dropLoc_lt (by omega)
 exact⟨h1.dropGe (by omega),⟨v,(hlt _ (by omega)).trans h2,h3.dropLoc h1.wf⟩,(hlt _ (by omega)).trans h4,(hlt _ (by omega)).trans h5,(hlt _ (by omega)).trans h6,(hlt _ (by omega)).trans h7⟩
theorem all_round {st0 s1:St} {s:List UInt8} {O:AObj} {l:List Tok} {a:Nat} {b:Int} (h:AI st0 s1 s O l a b) (hO:∀ty es cs,O≠.buf ty es cs) (hl:l.length<1000000000) {q:Nat} (hq:st0.nx+5≤q) {k n:Int} {t:List UInt8} {N:Nat} {er:Int} (hgq:hget s1.h q=some (.cells 284 true [.int .i64 k,.int .i64 n,.str t,.int .i64 (N:Int),.int .i64 er]))
  {e:Env} (g5:eget e 5= .ptr st0.nx 0) (g6:eget e 6= .ptr (st0.nx+1) 0) (g7:eget e 7= .ptr (st0.nx+2) 0) (g8:eget e 8= .ptr q 0):
  Res (run T B.scan_All_l0 e s1) fun x _ s'=>(er=0∧x= .norm∧AI st0 s' s O (l++[(k,n,t)]) N 0)∨(er≠0∧x= .exit 0∧AI st0 s' s O l N er):=by
 obtain⟨h1,⟨v,h2,h3⟩,h4,h5,h6,h7⟩:=h
 have r3:rdCell s1.h q 3=some (.int .i64 (N:Int)):=by simp[rdCell,hgq]
 have r4:rdCell s1.h q 4=some (.int .i64 er):=by simp[rdCell,hgq]
 have w6:=wr_one (v:= .int .i64 (N:Int)) h4 rfl
 have y6:=h1.setNew h4 (o:= .cells 3 true [.int .i64 (N:Int)]) (by omega)
 have q7:=(hget_hset_ne (o:= .cells 3 true [.int .i64 (N:Int)]) h4 (show st0.nx+1≠q by omega)).trans hgq
 have r4':rdCell (hset s1.h (st0.nx+1) (.cells 3 true [.int .i64 (N:Int)])) q 4=some (.int .i64 er):=by simp[rdCell,q7]
 have p7:=(hget_hset_ne (o:= .cells 3 true [.int .i64 (N:Int)]) h4 (show st0.nx+1≠st0.nx+2 by omega)).trans h5
 have w7:=wr_one (v:= .int .i64 er) p7 rfl
 have y7:=y6.setNew p7 (o:= .cells 30 true [.int .i64 er]) (by omega)
 have other:∀m,m≠st0.nx+1→m≠st0.nx+2→hget (hset (hset s1.h (st0.nx+1) (.cells 3 true [.int .i64 (N:Int)])) (st0.nx+2) (.cells 30 true [.int .i64 er])) m=hget s1.h m:=fun m m1 m2=>by
  rw[hget_hset_ne p7 (by omega),hget_hset_ne h4 (by omega)]
 have z7:=hget_hset_self (o:= .cells 30 true [.int .i64 er]) p7
 have z6:=(hget_hset_ne (o:= .cells 30 true [.int .i64 er]) p7 (show st0.nx+2≠st0.nx+1 by omega)).trans (hget_hset_self (o:= .cells 3 true [.int .i64 (N:Int)]) h4)
 have z5:=(other st0.nx (by omega) (by omega)).trans h2
 have zb:=(other (st0.nx+3) (by omega) (by omega)).trans h6
 have zl:=(other (st0.nx+4) (by omega) (by omega)).trans h7
 have zq:=(other q (by omega) (by omega)).trans hgq
 have g1:GrowT st0 ⟨hset s1.h (st0.nx+1) (.cells 3 true [.int .i64 (N:Int)]),s1.nx⟩ v l:=h3.frm (Frm.set h1.wf h4) h1.wf (by
  intro n hn h
  simp at h
  exact h3.apart h4 (by intro ty es cs h;cases h) n hn h)
 have g2:GrowT st0 ⟨hset (hset s1.h (st0.nx+1) (.cells 3 true [.int .i64 (N:Int)])) (st0.nx+2) (.cells 30 true [.int .i64 er]),s1.nx⟩ v l:=g1.frm (Frm.set y6.wf p7) y6.wf (by
  intro n hn h
  simp at h
  exact g1.apart p7 (by intro ty es cs h;cases h) n hn h)
 have x8:=Ext.aside y7.wf 7
 have y8:=y7.trans x8
 have g3:=g2.ext x8 y7.wf
 have rv:=rd_one z5
 have re7:=rd_one z7
 clear g1 g2 other p7 q7
 generalize hset (hset s1.h (st0.nx+1) (.cells 3 true [.int .i64 (N:Int)])) (st0.nx+2) (.cells 30 true [.int .i64 er])=h9 at*
 have rq:rdCells h9 q 0 3=some [.int .i64 k,.int .i64 n,.str t]:=by
  simp only[rdCells,zq]
  simp
 simp[B.scan_All_l0,go_sem,RO.run,WO.run,reI,g5,g6,g7,g8,r3,r4,r4',w6,w7,re7]
 by_cases h0:er=0
 ·subst h0
  simp[go_sem,RO.run,NO.run,g5,g8,rv,rq]
  refine⟨rfl,?_⟩
  refine(g3.push y8.nx y8.wf k n t (k:=1) (by omega) (by omega)).mono ?_
  rintro v2 s2 ⟨o2,f2⟩
  have y9:=y8.frm f2 g3.ge
  have keep:∀m o,hget h9 m=some o→(∀ty es cs,o≠.buf ty es cs)→hget s2.h m=some o:=fun m o hm ho=>f2.get (st:=⟨h9,s1.nx+7⟩) y8.wf hm (by
   intro hmv
   exact g3.apart (m:=m) hm ho m hmv rfl)
  have k5:=keep _ _ z5 (by intro ty es cs h;cases h)
  have w5:=wr_one (v:=v2) k5 o2.sc
  have hap:=o2.apart k5 (by intro ty es cs h;cases h)
  simp[go_sem,WO.run,g5,o2.acells,w5]
  refine⟨y9.setNew k5 (Nat.le_refl _),⟨v2,hget_hset_self k5,o2.frm (Frm.set y9.wf k5) y9.wf (by intro n hn h;simp at h;exact hap n hn h)⟩,?_,?_,?_,?_⟩
  ·exact(hget_hset_ne k5 (by omega)).trans (keep _ _ z6 (by intro ty es cs h;cases h))
  ·exact(hget_hset_ne k5 (by omega)).trans (keep _ _ z7 (by intro ty es cs h;cases h))
  ·exact(hget_hset_ne k5 (by omega)).trans (keep _ _ zb (by intro ty es cs h;cases h))
  ·exact(hget_hset_ne k5 (by omega)).trans (keep _ _ zl hO)
 ·simp[go_sem,h0]
  refine⟨rfl,?_⟩
  exact⟨y8,⟨v,z5,g3⟩,z6,z7,zb,zl⟩
theorem wr_tok5 (h:Heap) (m ty:Nat) (l:Bool) (a b c d e:AV) {k n N er:Int} {t:List UInt8}:wrCells ((m,.cells ty l [a,b,c,d,e])::h) m 0 [.int .i64 k,.int .i64 n,.str t,.int .i64 N,.int .i64 er]=some ((m,.cells ty l [.int .i64 k,.int .i64 n,.str t,.int .i64 N,.int .i64 er])::h):=by
 rw[wr_all (ty:=ty) (l:=l) (cs:=[a,b,c,d,e]) (vs:=[.int .i64 k,.int .i64 n,.str t,.int .i64 N,.int .i64 er]) (by simp[hget_cons]) rfl rfl];simp[hset_cons]
theorem tokens_loop (H:B.H_scan_tokens_1 T) {st0:St} {s:List UInt8} (hs:s.length<1000000000) {E:Env} {assign body:MCode} (hb:body=B.scan_All_l0) (has:assign= .reg [⟨some 8,none,.n (.alloc 284 true [.int .i64 0,.int .i64 0,.str [],.int .i64 0,.int .i64 0])⟩,⟨none,none,.w (.store 5 (.t 8) (.t 11))⟩])
  (g5:eget E 5= .ptr st0.nx 0) (g6:eget E 6= .ptr (st0.nx+1) 0) (g7:eget E 7= .ptr (st0.nx+2) 0) {R:List Tok×Nat×Int}:∀(f i:Nat) (l:List Tok) (a:Nat) (b:Int) (e:Env) (st1:St),s.length<f+i→i≤s.length→l.length≤i→R=runA s f i l→AI st0 st1 s (.loop .ready E [11] assign body) l a b→eget e 0= .yield (st0.nx+4)→eget e 1= .ptr (st0.nx+3) 0→eget e 3= .int .i64 (i:Int)→
  Res (run T (.loop B.scan_tokens_1_l0) e st1) fun x _ s'=>x= .ret∧AI st0 s' s (.loop (.done (.exit 0)) E [11] assign body) R.1 R.2.1 R.2.2:=by
 intro f
 induction f with
 | zero=>intro i l a b e st1 hf hi;omega
 | succ f ih=>
   intro i l a b e st1 hf hi hl hR hI g0 g1 g3
   have hx:=hI.1
   have hn:=next_tells158 (st:=st1) H.scan_Next hx.wf (s:=s) (i:=(i:Int)) (by omega) (by omega) hs
   have hpos:=fun(t:Tok) (n:Nat)=>nextS_pos (s:=s) (i:=i) (t:=t) (n:=n)
   rw[runA]at hR
   generalize nextS s (i:Int)=O at*
   obtain⟨⟨k,n,t⟩,N,er⟩:=O
   simp only at hR
   have rb:=rd_one hI.2.2.2.2.1
   rw[run_loop]
   simp[B.scan_tokens_1_l0,go_sem,g0,g1,g3,RO.run,rb]
   refine hn.use fun s1 x1=> ?_
   have hI1:=hI.ext x1
   have x2:=Ext.new hI1.1.wf (.cells 134 true [.int .i64 k,.int .i64 n,.str t])
   have hI2:=hI1.ext x2
   simp[go_sem,tk3,NO.run,WO.run,RO.run,wr_tok,rd_tok]
   refine(cres_yield hI2.2.2.2.2.2 rfl ?_ (Q:=fun v s'=>(er=0∧v= .bool true∧AI st0 s' s (.loop .ready E [11] assign body) (l++[(k,n,t)]) N 0)∨(er≠0∧v= .bool false∧AI st0 s' s (.loop (.done (.exit 0)) E [11] assign body) l N er))).mono ?_
   ·have x3:=Ext.new hI2.1.wf (.cells 284 true [.int .i64 k,.int .i64 n,.str t,.int .i64 (N:Int),.int .i64 er])
    have hI3:=hI2.ext x3
    have hnx:st0.nx+5≤s1.nx+1:=by
     have:=hI1.1.wf.lt _ _ hI1.2.2.2.2.2
     omega
    have hq:hget ((s1.nx+1,AObj.cells 284 true [.int .i64 k,.int .i64 n,.str t,.int .i64 (N:Int),.int .i64 er])::(s1.nx,.cells 134 true [.int .i64 k,.int .i64 n,.str t])::s1.h) (s1.nx+1)=some (.cells 284 true [.int .i64 k,.int .i64 n,.str t,.int .i64 (N:Int),.int .i64 er]):=by simp[hget_cons]
    generalize hS:(⟨(s1.nx+1,AObj.cells 284 true [.int .i64 k,.int .i64 n,.str t,.int .i64 (N:Int),.int .i64 er])::(s1.nx,.cells 134 true [.int .i64 k,.int .i64 n,.str t])::s1.h,s1.nx+1+1⟩:St)=s3 at hI3
    rw[show ((s1.nx+1,AObj.cells 284 true [.int .i64 k,.int .i64 n,.str t,.int .i64 (N:Int),.int .i64 er])::(s1.nx,.cells 134 true [.int .i64 k,.int .i64 n,.str t])::s1.h)=s3.h by rw[←hS]]at hq
    have hrd:=fun(e:Env) k5 k6 k7 k8=>all_round (T:=T) (hI3.set (O':= .loop .busy E [11] assign body) (by intro ty es cs h;cases h)) (by intro ty es cs h;cases h) (by omega) hnx ((hget_hset_ne hI3.2.2.2.2.2 (by omega)).trans hq) (e:=e) k5 k6 k7 k8
    have hl4:=hI3.2.2.2.2.2
    subst has hb
    simp[go_sem,NO.run,WO.run,wr_tok5,hS]
    refine⟨hl4,?_⟩
    refine(hrd _ (by simp[go_sem,g5]) (by simp[go_sem,g6]) (by simp[go_sem,g7]) (by simp[go_sem])).mono ?_
    rintro x e' s4 (⟨rfl,rfl,hI4⟩ | ⟨h0,rfl,hI4⟩)
    ·exact⟨hI4.2.2.2.2.2,.inl ⟨rfl,rfl,hI4.set (by intro ty es cs h;cases h)⟩⟩
    ·exact⟨hI4.2.2.2.2.2,.inr ⟨h0,rfl,hI4.set (by intro ty es cs h;cases h)⟩⟩
   ·rintro v s2 (⟨rfl,rfl,hI3⟩ | ⟨h0,rfl,hI3⟩)
    ·obtain⟨p1,p2,p3⟩:=hpos (k,n,t) N rfl
     rw[if_pos rfl]at hR
     simp[go_sem,g0,g1]
     exact ih N _ N 0 _ s2 (by omega) p2 (by simp;omega) hR hI3 (by simp[go_sem,g0]) (by simp[go_sem,g1]) (by simp[go_sem])
    ·rw[if_neg h0]at hR
     subst hR
     simp[go_sem,hI3]
end Go.Ev

/- scan.All told. -/
namespace Go.Ev
open Go
variable {T : Tab} {st : St}
theorem tokens_call (H:B.H_scan_tokens T) (hwf:st.Wf) {s:List UInt8} {Q:AV→St→Prop} (h:Q (.fn 192 [] [.ptr st.nx 0]) ⟨(st.nx,.cells 9 false [.str s])::st.h,st.nx+1⟩):CRes (call T (.fn 178 [] []) [.str s] st) Q:=by
 refine call_res H.e H.f rfl ?_
 have hd:dropLoc st.nx ((st.nx,AObj.cells 9 false [.str s])::st.h)=(st.nx,AObj.cells 9 false [.str s])::st.h:=by
  have:locNames st.nx ((st.nx,AObj.cells 9 false [.str s])::st.h)=[]:=by
   simp only[locNames]
   exact locNames_nil fun n o ho=>hwf.lt n o ho
  rw[dropLoc_eq,this,hdrop_nil]
 simp[B.scan_tokens,go_sem,NO.run,AV.nb,hd]
 exact h
theorem tokens_yields (H:B.H_scan_tokens_1 T) {st0 sA:St} {s:List UInt8} (hs:s.length<1000000000) {E:Env} {assign body:MCode} (hb:body=B.scan_All_l0) (has:assign= .reg [⟨some 8,none,.n (.alloc 284 true [.int .i64 0,.int .i64 0,.str [],.int .i64 0,.int .i64 0])⟩,⟨none,none,.w (.store 5 (.t 8) (.t 11))⟩])
  (g5:eget E 5= .ptr st0.nx 0) (g6:eget E 6= .ptr (st0.nx+1) 0) (g7:eget E 7= .ptr (st0.nx+2) 0) (hA:st0.nx+5≤sA.nx) (hI:AI st0 sA s (.loop .ready E [11] assign body) [] 0 0) {Q:St→Prop}
  (hQ:∀s',AI st0 s' s (.loop (.done (.exit 0)) E [11] assign body) (runA s (s.length+1) 0 []).1 (runA s (s.length+1) 0 []).2.1 (runA s (s.length+1) 0 []).2.2→Q s'):
  CRes (call T (.fn 192 [] [.ptr (st0.nx+3) 0]) [.yield (st0.nx+4)] sA) fun _ s'=>Q s':=by
 refine call_any H.e H.f rfl rfl ?_
 simp[B.scan_tokens_1,go_sem]
 refine(tokens_loop H hs hb has g5 g6 g7 (R:=runA s (s.length+1) 0 []) (s.length+1) 0 [] 0 0 _ sA (by omega) (by omega) (by simp) rfl hI (by simp[go_sem]) (by simp[go_sem]) (by simp[go_sem])).mono ?_
 rintro x e' s' ⟨rfl,h⟩
 simp[go_sem]
 exact hQ _ (h.dropLoc hA)
theorem all_res (H:B.H_scan_All T) (hwf:st.Wf) {s:List UInt8} (hs:s.length<1000000000):CRes (call T (.fn 162 [] []) [.str s] st) fun v s'=>AllR st s' (allS s) v:=by
 refine call_res H.e H.f rfl ?_
 have a2:Ext st ⟨(st.nx+2,AObj.cells 30 true [.int .i64 0])::(st.nx+1,.cells 3 true [.int .i64 0])::(st.nx,.cells 146 true [.nilslice])::st.h,st.nx+3⟩:=by
  have a0:=Ext.new hwf (.cells 146 true [.nilslice])
  have a1:=a0.trans (Ext.new a0.wf (.cells 3 true [.int .i64 0]))
  have a2:=a1.trans (Ext.new a1.wf (.cells 30 true [.int .i64 0]))
  simpa only[Nat.add_assoc,Nat.reduceAdd] using a2
 simp[B.scan_All,go_sem,NO.run,WO.run,RO.run,Nat.add_assoc,wrCells,hget_cons,hset_cons,splice,rdCell]
 refine tokens_call H.scan_tokens a2.wf ?_
 simp[go_sem]
 refine res_rangeFunc ?_
 have a3:=a2.trans (Ext.new a2.wf (.cells 9 false [.str s]))
 simp only[Nat.add_assoc,Nat.reduceAdd]at a3
 simp only[Nat.add_assoc,Nat.reduceAdd]
 generalize hE:([(10,AV.fn 192 [] [AV.ptr (st.nx+3) 0]),(9,AV.str s),(7,AV.ptr (st.nx+2) 0),(6,AV.ptr (st.nx+1) 0),(5,AV.ptr st.nx 0),(4,AV.int IntKind.i64 0),(3,AV.int IntKind.i64 0),(2,AV.nilslice),(0,AV.str s)]:Env)=E
 have g10:AO.ev E (.t 10)= .fn 192 [] [.ptr (st.nx+3) 0]:=by rw[←hE];simp[go_sem]
 have g5:eget E 5= .ptr st.nx 0:=by rw[←hE];simp[go_sem]
 have g6:eget E 6= .ptr (st.nx+1) 0:=by rw[←hE];simp[go_sem]
 have g7:eget E 7= .ptr (st.nx+2) 0:=by rw[←hE];simp[go_sem]
 clear hE
 rw[g10]
 generalize has:(MCode.reg [{dst:=some 8,guard:=none,op:=MO.n (NO.alloc 284 true [AV.int IntKind.i64 0,AV.int IntKind.i64 0,AV.str [],AV.int IntKind.i64 0,AV.int IntKind.i64 0])},{dst:=none,guard:=none,op:=MO.w (WO.store 5 (AO.t 8) (AO.t 11))}])=assign
 generalize hbo:B.scan_All_l0=body
 have a4:=a3.trans (Ext.new a3.wf (.loop .ready E [11] assign body))
 simp only[Nat.add_assoc,Nat.reduceAdd]at a4
 refine(tokens_yields H.scan_tokens.scan_tokens_1 hs hbo.symm has.symm g5 g6 g7 (Nat.le_refl _) (st0:=st) ⟨a4,⟨.nilslice,by simp[hget_cons],GrowT.nil _ _⟩,by simp[hget_cons,cO],by simp[hget_cons],by simp[hget_cons],by simp[hget_cons]⟩ (Q:=fun s1=>AI st s1 s (.loop (.done (.exit 0)) E [11] assign body) (runA s (s.length+1) 0 []).1 (runA s (s.length+1) 0 []).2.1 (runA s (s.length+1) 0 []).2.2) (fun s' h=>h)).mono ?_
 rintro _ s1 ⟨h1,⟨v,h2,h3⟩,h4,h5,h6,h7⟩
 rw[allS_fin]
 generalize runA s (s.length+1) 0 []=R at*
 obtain⟨l,n,er⟩:=R
 simp only at h3 h4 h5
 have hdl:∀m,m≠st.nx+4→hget (hdel s1.h (st.nx+4)) m=hget s1.h m:=fun m hm=>by rw[hget_hdel,if_neg (by omega)]
 have yd:Ext st ⟨hdel s1.h (st.nx+4),s1.nx⟩:=h1.frm (Frm.hdel h1.wf _) (by intro m hm;simp at hm;omega)
 have gd:GrowT st ⟨hdel s1.h (st.nx+4),s1.nx⟩ v l:=h3.frm (Frm.hdel h1.wf _) h1.wf (by
  intro k hk h
  simp at h
  exact h3.apart h7 (by intro ty es cs h;cases h) k hk h)
 have r5:=rd_one ((hdl _ (by omega)).trans h2)
 have r6:=rd_one ((hdl _ (by omega)).trans h4)
 have r7:=rd_one ((hdl _ (by omega)).trans h5)
 refine .inr ⟨_,h7,?_⟩
 have yz:=yd.trans (Ext.aside yd.wf 5)
 have gz:=gd.ext (Ext.aside yd.wf 5) yd.wf
 by_cases h:er=4
 ·subst h
  simp[go_sem,RO.run,g5,g6,g7,r5,r6,r7,finA]
  simp[go_sem,fresults,resVals,resVal,B.scan_All,AllR]
  exact⟨yz.dropGe (Nat.le_refl _),gz.dropLoc yz.wf⟩
 ·simp[go_sem,RO.run,g5,g6,g7,r5,r6,r7,finA,h]
  simp[go_sem,fresults,resVals,resVal,B.scan_All,AllR]
  exact⟨yz.dropGe (Nat.le_refl _),GrowT.nil _ _⟩
end Go.Ev

/- ScanAlls told, where works holds. -/
namespace Go.Ev
open Go
variable {T : Tab} {st : St}
theorem allS_len (s:List UInt8):(allS s).1.length≤s.length∧(allS s).2.1≤s.length:=by
 have aux:∀(f i:Nat) (l:List Tok),i≤s.length→l.length≤i→(runA s f i l).1.length≤s.length∧(runA s f i l).2.1≤s.length:=by
  intro f
  induction f with
  | zero=>intro i l hi hl;exact⟨by simp[runA];omega,hi⟩
  | succ f ih=>
    intro i l hi hl
    have hpos:=fun(t:Tok) (n:Nat)=>nextS_pos (s:=s) (i:=i) (t:=t) (n:=n)
    have hle:=nextS_le s (i:Int)
    rw[runA]
    generalize nextS s (i:Int)=O at*
    obtain⟨t,n,er⟩:=O
    simp only at hle⊢
    split
    ·rename_i h0
     subst h0
     obtain⟨p1,p2,p3⟩:=hpos t n rfl
     exact ih n _ p2 (by simp;omega)
    ·exact⟨by simp only;omega,hle⟩
 have:=aux (s.length+1) 0 [] (by omega) (by simp)
 rw[allS_fin]
 unfold finA
 split
 ·exact this
 ·exact⟨by simp,this.2⟩
end Go.Ev

/- reads and fails, where they hold; one token of a list; a Builder's string. -/
namespace Go.Ev
open Go
variable {T : Tab} {st : St}
theorem reads_tells (H:B.H_chaselaw04_reads T) (hwf:st.Wf) {s:List UInt8} (hs:s.length<1000000000) {w:AV} {l:List Tok} (hw:Rd st.h w 3 l.length (toksA l)) (hall:allS s=(l,s.length,0)):Tells T st (.fn 168 [] []) [.str s,w] (.bool true):=by
 refine tells_of H.e H.f rfl ?_
 have hl:=(allS_len s).1
 have c1:=all_res (st:=st) H.scan_All hwf (s:=s) hs
 rw[hall]at c1 hl
 simp only at hl
 simp[B.chaselaw04_reads,go_sem]
 refine c1.mono ?_
 rintro _ s1 ⟨w1,rfl,x1,o1⟩
 simp[go_sem]
 refine(same_tells H.chaseref04_Same x1.wf (l:=l) (by omega) o1.rd (hw.ext x1 hwf)).use fun s3 x3=> ?_
 simp[go_sem,x1.trans x3]
theorem asubL_one {es n L i:Nat} {I J:Int} (hI:I=(i:Int)) (hJ:J=((i+1:Nat):Int)) (hi:i<L):∃cp,asubL es n 0 L .full (some (.int .i64 I)) (some (.int .i64 J)) none=some (.slice n (i*es) 1 cp):=by
 subst hI hJ
 have hb:abounds L (topOf L .full) (some (.int .i64 (i:Int))) (some (.int .i64 ((i+1:Nat):Int))) none=some (i,i+1,none):=by
  have h1:(0:Int)≤((i+1:Nat):Int)∧((i+1:Nat):Int)≤((topOf L .full:Nat):Int):=by
   show (0:Int)≤((i+1:Nat):Int)∧((i+1:Nat):Int)≤(L:Int)
   omega
  have h2:(0:Int)≤(i:Int)∧(i:Int)≤((i+1:Nat):Int):=by omega
  simp only[abounds,bnd,abound]
  rw[if_pos h1]
  simp only[Int.toNat_natCast]
  rw[if_pos h2]
 unfold asubL
 rw[hb]
 simp only[subCap]
 by_cases h0:i=0
 ·subst h0
  exact⟨.full,by simp⟩
 ·rw[if_neg h0]
  exact⟨.unk,by simp⟩
theorem GrowT.one {st0 s:St} {v:AV} {l:List Tok} (a:GrowT st0 s v l) {i:Nat} {t:Tok} (ht:l[i]? =some t) {I J:Int} (hI:I=(i:Int)) (hJ:J=((i+1:Nat):Int)):
  ∃n cp,v= .slice n 0 l.length .full∧asubL 3 n 0 l.length .full (some (.int .i64 I)) (some (.int .i64 J)) none=some (.slice n (i*3) 1 cp)∧∀s',Ext s s'→s.Wf→Rd s'.h (.slice n (i*3) 1 cp) 3 [t].length (toksA [t]):=by
 have hil:i<l.length:=by
  rcases Nat.lt_or_ge i l.length with h | h
  ·exact h
  ·rw[List.getElem?_eq_none h]at ht;cases ht
 rcases a.form with ⟨_,rfl⟩ | ⟨n,rfl,_,_⟩
 ·simp at hil
 ·obtain⟨cp,hcp⟩:=asubL_one (es:=3) (n:=n) hI hJ hil
  refine⟨n,cp,rfl,hcp,fun s' x hw=> ?_⟩
  obtain⟨m,off,c2,hv,hrd⟩:=(a.rd.ext x hw).tok ht
  injection hv with e1 e2 _ e4
  subst e1 e2 e4
  refine .inr ⟨n,i*3,cp,rfl,?_⟩
  rw[Nat.zero_add]at hrd
  simpa [toksA,tkA] using hrd
theorem string_new (H:B.H_strings_Builder_String T) {st0:St} (hx:Ext st0 st) {q:Nat} (hg:hget st.h q=some (.cells 84 false [.nilptr,.nilslice])):
  CRes (call T (.fn 92 [] []) [.ptr q 0] st) fun v s'=>v= .str []∧Ext st0 s':=by
 refine call_res H.e H.f rfl ?_
 have hr:rdCell st.h q 1=some .nilslice:=by simp[rdCell,hg]
 have xa:=hx.trans (Ext.aside hx.wf 12)
 simp[B.strings_Builder_String,go_sem,RO.run,WO.run,hr]
 exact xa.dropGe hx.nx
end Go.Ev

/- ScanBack told, where works holds. -/
namespace Go.Ev
open Go
variable {T : Tab} {st : St}
def InBo (h:Heap) (v:AV) (l:List Bool):Prop:=Rd h v 1 l.length (l.map AV.bool)
theorem InBo.at {h:Heap} {v:AV} {l:List Bool} {i:Nat} {b:Bool} (a:InBo h v l) (hb:l[i]? =some b):∃n off cp,v= .slice n off l.length cp∧rdCell h n (off+i)=some (.bool b):=by
 have hil:i<l.length:=by
  rcases Nat.lt_or_ge i l.length with h | h
  ·exact h
  ·rw[List.getElem?_eq_none h]at hb;cases hb
 rcases a with ⟨h1,h2,h3⟩ | ⟨n,off,cp,h1,h2⟩
 ·omega
 ·refine⟨n,off,cp,h1,?_⟩
  rw[rdCells_get h2 (by omega),List.getElem?_map,hb]
  rfl
def backP (fs:List Bool) (i:Nat) (t:Tok):List UInt8:=if fs[i]? =some true then txT t++[32]else packS t
def backL (fs:List Bool):Nat→List Tok→List UInt8
 | _,[]=>[]
 | i,t::r=>backP fs i t++backL fs (i+1) r
theorem backL_snoc (fs:List Bool) (t:Tok):∀(l:List Tok) (i:Nat),backL fs i (l++[t])=backL fs i l++backP fs (i+l.length) t
 | [],i=>by simp[backL]
 | x::r,i=>by
   simp only[List.cons_append,backL,backL_snoc fs t r (i+1),List.append_assoc,List.length_cons]
   rw[show i+1+r.length=i+(r.length+1)by omega]
def OkP (t:Tok):Prop:=rightT t.1 t.2.1 t.2.2=true∧t.2.2.length≤60∧(t.1=2→t.2.1≤2147483647)
theorem formS_len (c:UInt8) (n:Int) (m:Nat) (s:List UInt8):(formS c n m s).length=1+m+s.length:=by simp[formS,beN_len];omega
theorem packS_len {t:Tok} (h:OkP t):1≤(packS t).length∧(packS t).length≤300:=by
 obtain⟨h1,h2,h3⟩:=h
 have ht:=txT_len ⟨h1,h2⟩
 obtain⟨_,c,r,hf,_⟩:=tokS_pack h1 h3 (by omega) []
 refine⟨?_,?_⟩
 ·rw[show packS t=c::r from hf];simp
 ·unfold packS
  repeat' split
  all_goals first | (rw[formS_len];simp;done) | (rw[formS_len];omega) | exact ht
theorem backP_len {fs:List Bool} {i:Nat} {t:Tok} (h:OkP t):1≤(backP fs i t).length∧(backP fs i t).length≤301:=by
 have h1:=packS_len h
 have h2:=txT_len ⟨h.1,h.2.1⟩
 unfold backP
 split
 ·simp only[List.length_append,List.length_singleton];omega
 ·omega
theorem backL_len {fs:List Bool}:∀{l:List Tok} {i:Nat},(∀t∈l,OkP t)→l.length≤(backL fs i l).length∧(backL fs i l).length≤301*l.length
 | [],i,_=>by simp[backL]
 | t::r,i,h=>by
   have h1:=backP_len (fs:=fs) (i:=i) (h t (by simp))
   have h2:=backL_len (fs:=fs) (l:=r) (i:=i+1) (fun x hx=>h x (by simp[hx]))
   simp only[backL,List.length_append,List.length_cons]
   omega
theorem back_chain (fs:List Bool):∀(l:List Tok) (i:Nat) (g:List UInt8),(g=[]∨g=[32])→(∀t∈l,OkP t)→Chain (g++backL fs i l) l
 | [],i,g,hg,_=>by
   rcases hg with rfl | rfl
   ·exact Chain.gap Gap.nil
   ·exact Chain.gap (g:=[32]++[]) (Gap.blank (by decide))
 | t::r,i,g,hg,h=>by
   have hG:Gap g:=by
    rcases hg with rfl | rfl
    ·exact Gap.nil
    ·exact Gap.blank (by decide)
   obtain⟨o1,o2,o3⟩:=h t (by simp)
   have hr:∀x∈r,OkP x:=fun x hx=>h x (by simp[hx])
   unfold backL backP
   split
   ·obtain⟨h1,h2⟩:=tokS_text o1 (rest:=[32]++backL fs (i+1) r) (fun c u he=>by injection he with he _;subst he;exact .inl (by decide))
    rw[List.append_assoc]
    exact Chain.piece hG h2 h1 (back_chain fs r (i+1) [32] (.inr rfl) hr)
   ·obtain⟨h1,h2⟩:=tokS_pack o1 o3 (by omega) (backL fs (i+1) r)
    exact Chain.piece hG h2 h1 (back_chain fs r (i+1) [] (.inl rfl) hr)
theorem back_all {fs:List Bool} {l:List Tok} (hl:l.length≤40) (h:∀t∈l,OkP t):allS (backL fs 0 l)=(l,(backL fs 0 l).length,0):=by
 have:=(backL_len (fs:=fs) (l:=l) (i:=0) h).2
 exact Chain.all (by omega) (back_chain fs l 0 [] (.inl rfl) h)
theorem toksD_okp {d:List Dra} (h:∀x∈d,x.ok):∀t∈toksD d,OkP t:=by
 intro t ht
 obtain⟨h1,h2⟩:=toksD_right h t ht
 refine⟨h1,h2,?_⟩
 simp only[toksD,List.mem_map]at ht
 obtain⟨x,hx,rfl⟩:=ht
 obtain⟨_,_,h4,_⟩:=h x (List.mem_of_mem_take hx)
 unfold Dra.tok draftT
 intro hk
 (repeat' split at hk) <;> (repeat' split) <;> simp_all
end Go.Ev

/- ScanBack told, where works holds: the walk. -/
namespace Go.Ev
open Go
variable {T : Tab} {st : St}
theorem printL_one (t:Tok):printL [t]=txT t:=by simp[printL,Lib.join_one]
set_option maxHeartbeats 2000000 in
theorem back_l0 (H:B.H_chaselaw04_ScanBack T) {sA:St} (hwA:sA.Wf) (hp:Pow sA) {st0:St} {w:AV} {l:List Tok} (hg:GrowT st0 sA w l) (hl:OkT l) (hok:∀t∈l,OkP t) {vf:AV} {fs:List Bool} (hf:InBo sA.h vf fs) (hfl:fs.length<9223372036854775808) {q:Nat}:
  ∀(m i:Nat) (o:List UInt8) (e:Env) (s1:St),i+m=l.length→o=backL fs 0 (l.take i)→Ext sA s1→(i=0→hget s1.h q=some (.cells 84 false [.nilptr,.nilslice]))→Bd sA s1 q o→
  eget e 1=vf→eget e 5=w→eget e 8= .ptr q 0→eget e 32=w→eget e 33= .int .i64 (l.length:Int)→eget e 34= .int .i64 (i:Int)→
  Res (run T (.loop B.chaselaw04_ScanBack_l0) e s1) fun x e' s'=>x= .exit 0∧Ext sA s'∧(l=[]→hget s'.h q=some (.cells 84 false [.nilptr,.nilslice]))∧Bd sA s' q (backL fs 0 l)∧eget e' 5=w∧eget e' 8= .ptr q 0:=by
 intro m
 induction m with
 | zero=>
   intro i o e s1 hi ho hx hnew hb g1 g5 g8 g32 g33 g34
   have hie:i=l.length:=by omega
   subst hie
   rw[List.take_length]at ho
   subst ho
   rw[run_loop]
   simp[B.chaselaw04_ScanBack_l0,go_sem,g1,g5,g8,g32,g33,g34,hx,hb]
   intro h
   exact hnew (by simp[h])
 | succ m ih=>
   intro i o e s1 hi ho hx hnew hb g1 g5 g8 g32 g33 g34
   have hil:i<l.length:=by omega
   obtain⟨t,ht⟩:∃t,l[i]? =some t:=⟨_,List.getElem?_eq_getElem hil⟩
   have hmem:=List.mem_of_getElem? ht
   have h40:=hl.1
   obtain⟨o1,o2,o3⟩:=hok t hmem
   have hg1:=hg.ext hx hwA
   obtain⟨I,hI⟩:∃I:Int,I=(i:Int):=⟨_,rfl⟩
   obtain⟨J,hJ⟩:∃J:Int,J=((i+1:Nat):Int):=⟨_,rfl⟩
   obtain⟨n,cp,hwn,hsub,hone⟩:=hg1.one ht hI hJ
   obtain⟨n',off',cp',hwn',hrd⟩:=hg1.rd.tok ht
   rw[hwn]at hwn'
   injection hwn' with e1 e2 _ e4
   subst e1 e2 e4
   have h1:I<l.length:=by omega
   have hI0:0≤I:=by omega
   have hIt:I.toNat=i:=by omega
   have ek:IntKind.i64.wrap (I+1)=J:=by rw[wrap64' (by omega) (by omega)];omega
   have hpk:=packS_len ⟨o1,o2,o3⟩
   have htx:=txT_len ⟨o1,o2⟩
   have hol:o.length≤301*l.length:=by
    rw[ho]
    have:=(backL_len (fs:=fs) (l:=l.take i) (i:=0) (fun x hx=>hok x (List.mem_of_mem_take hx))).2
    rw[List.length_take]at this
    omega
   have hnext:backL fs 0 (l.take (i+1))=o++backP fs i t:=by
    rw[List.take_add_one,ht,show (some t).toList=[t]from rfl,backL_snoc,←ho,List.length_take]
    congr 2;omega
   have ih2:=fun o' e' s'=>ih (i+1) o' e' s' (by omega)
   rw[hnext,←hJ]at ih2
   have hpack:=fun(st':St) (hw:st'.Wf) (hp:Pow st')=>pack_tells (st:=st') H.scan_Pack hw hp (k:=t.1) (n:=t.2.1) (t:=t.2.2) o1 (by omega) o3
   rw[show (t.1,t.2.1,t.2.2)=t from rfl]at hpack
   have hprint:=fun(st':St) (hw:st'.Wf) (hp:Pow st') (h:Rd st'.h (.slice n (i*3) 1 cp) 3 [t].length (toksA [t]))=>scanPrint_tells (st:=st') H.scan_Print hw hp (v:= .slice n (i*3) 1 cp) (l:=[t]) ⟨by simp,fun x hx=>by rw[List.mem_singleton]at hx;subst hx;exact⟨o1,o2⟩⟩ h
   rw[printL_one]at hprint
   have hbp:backP fs i t=if fs[i]? =some true then txT t++[32]else packS t:=rfl
   clear ih hnext ho
   generalize packS t=PK at*
   generalize txT t=X at*
   subst hwn
   rw[←hI]at g34
   rw[run_loop]
   have x2:=Ext.new hx.wf (.cells 134 true [.int .i64 t.1,.int .i64 t.2.1,.str t.2.2])
   have y2:=hx.trans x2
   simp[B.chaselaw04_ScanBack_l0,go_sem,g1,g5,g8,g32,g33,g34,h1,hI0,hIt,RO.run,hrd,NO.run,WO.run,wr_tok,rd_tok]
   rw[Nat.zero_add]at hrd
   simp[go_sem,hrd,NO.run,WO.run,RO.run,wr_tok,rd_tok]
   refine(hpack _ y2.wf (hp.ext y2 hwA)).use fun s3 x3=> ?_
   have y3:=y2.trans x3
   simp[go_sem,g5,ek,hsub]
   refine(hprint _ y3.wf (hp.ext y3 hwA) (hone s3 (x2.trans x3) hx.wf)).use fun s4 x4=> ?_
   have y4:=y3.trans x4
   have xb:=(x2.trans x3).trans x4
   have hb4:Bd sA s4 q o:=hb.ext xb hx.wf
   have hf4:InBo s4.h vf fs:=hf.ext y4 hwA
   have hol2:o.length+(X.length+1)<35184372088831:=by omega
   have hol3:o.length+PK.length<35184372088831:=by omega
   have hX:X.length+1<4611686018427387904:=by omega
   have hg5':∀(s5:St) (o':List UInt8),Ext sA s5→Bd sA s5 q o'→True:=fun _ _ _ _=>trivial
   have h0:¬(i+1=0):=by omega
   have step:∀(b:Bool),(fs[i]? =some true↔b=true)→(b=true→CRes (call T (.fn 169 [] []) [.ptr q 0,.str (X++[32])] s4) fun _ s'=>Ext sA s'∧Bd sA s' q (o++backP fs i t))∧(b=false→CRes (call T (.fn 169 [] []) [.ptr q 0,.str PK] s4) fun _ s'=>Ext sA s'∧Bd sA s' q (o++backP fs i t)):=by
    intro b hb
    refine⟨fun h=> ?_,fun h=> ?_⟩
    ·rw[hbp,if_pos (hb.2 h)]
     exact writeString_res H.strings_Builder_WriteString y4 _ hb4 (by simp;omega)
    ·rw[hbp,if_neg (by intro h2;have:=hb.1 h2;rw[h]at this;cases this)]
     exact writeString_res H.strings_Builder_WriteString y4 _ hb4 (by omega)
   clear hbp hpack hprint
   by_cases hfi:i<fs.length
   ·obtain⟨b,hbv⟩:∃b,fs[i]? =some b:=⟨_,List.getElem?_eq_getElem hfi⟩
    obtain⟨nf,of,cf,hvf,hrf⟩:=hf4.at hbv
    have hfI:I<(fs.length:Int):=by omega
    obtain⟨st1,st2⟩:=step b (by rw[hbv];simp)
    subst hvf
    cases b with
    | true=>
      simp[go_sem,g1,g5,g8,hfI,hI0,hIt,RO.run,hrf,hX]
      refine(st1 rfl).mono ?_
      rintro _ s5 ⟨x5,b5⟩
      simp[go_sem,g1,g5,g8,g32,g33,g34,ek]
      exact ih2 _ _ s5 rfl x5 (by simp) b5 (by simp[go_sem,g1]) (by simp[go_sem,g5]) (by simp[go_sem,g8]) (by simp[go_sem,g32]) (by simp[go_sem,g33]) (by simp[go_sem])
    | false=>
      simp[go_sem,g1,g5,g8,hfI,hI0,hIt,RO.run,hrf]
      refine(st2 rfl).mono ?_
      rintro _ s5 ⟨x5,b5⟩
      simp[go_sem,g1,g5,g8,g32,g33,g34,ek]
      exact ih2 _ _ s5 rfl x5 (by simp) b5 (by simp[go_sem,g1]) (by simp[go_sem,g5]) (by simp[go_sem,g8]) (by simp[go_sem,g32]) (by simp[go_sem,g33]) (by simp[go_sem])
   ·have hfI:¬I<(fs.length:Int):=by omega
    obtain⟨st1,st2⟩:=step false (by rw[List.getElem?_eq_none (by omega)];simp)
    rcases hf4 with ⟨rfl,hf0,_⟩ | ⟨nf,of,cf,rfl,_⟩
    ·have hfI2:¬I<0:=by omega
     simp[go_sem,g1,g5,g8,hfI2,hI0,hIt,RO.run]
     refine(st2 rfl).mono ?_
     rintro _ s5 ⟨x5,b5⟩
     simp[go_sem,g1,g5,g8,g32,g33,g34,ek]
     exact ih2 _ _ s5 rfl x5 (by simp) b5 (by simp[go_sem,g1]) (by simp[go_sem,g5]) (by simp[go_sem,g8]) (by simp[go_sem,g32]) (by simp[go_sem,g33]) (by simp[go_sem])
    ·simp[go_sem,g1,g5,g8,hfI,hI0,hIt,RO.run]
     refine(st2 rfl).mono ?_
     rintro _ s5 ⟨x5,b5⟩
     simp[go_sem,g1,g5,g8,g32,g33,g34,ek]
     exact ih2 _ _ s5 rfl x5 (by simp) b5 (by simp[go_sem,g1]) (by simp[go_sem,g5]) (by simp[go_sem,g8]) (by simp[go_sem,g32]) (by simp[go_sem,g33]) (by simp[go_sem])
end Go.Ev

/- ScanBack told, where works holds: the law. -/
namespace Go.Ev
open Go
variable {T : Tab} {st : St}
theorem back_res (H:B.H_chaselaw04_ScanBack T) (hwf:st.Wf) (hp:Pow st) {v:AV} {d:List Dra} (hv:InD st.h v d) {vf:AV} {fs:List Bool} (hf:InBo st.h vf fs) (hfl:fs.length<9223372036854775808)
  (hworks:CRes (call T (.fn 157 [] []) [] st) fun v s=>v= .bool true∧Ext st s):CRes (call T (.fn 153 [] []) [v,vf] st) fun v _=>v= .bool true:=by
 refine call_res H.e H.f rfl ?_
 simp[B.chaselaw04_ScanBack,go_sem]
 refine hworks.mono ?_
 rintro _ s1 ⟨rfl,x1⟩
 simp[go_sem]
 refine(tokens_res H.chaseref04_Tokens x1.wf (hv.ext x1 hwf)).mono ?_
 rintro w1 s2 ⟨x2,o2⟩
 have y2:=x1.trans x2
 have hok:OkT (toksD d):=⟨toksD_len d,toksD_right hv.2⟩
 have hokp:=toksD_okp hv.2
 have hpl:=printL_len hok
 have h40:=hok.1
 have hall:=print_all hok
 have hball:=fun fs=>back_all (fs:=fs) h40 hokp
 have hbl:=fun fs=>(backL_len (fs:=fs) (i:=0) hokp).2
 have hbg:=fun fs=>(backL_len (fs:=fs) (i:=0) hokp).1
 simp[go_sem]
 refine(scanPrint_tells H.scan_Print x2.wf (hp.ext y2 hwf) hok o2.rd).use fun s3 x3=> ?_
 have y3:=y2.trans x3
 have o3:=o2.ext x3 x2.wf
 generalize toksD d=l at*
 generalize printL l=P at*
 simp[go_sem]
 refine(reads_tells H.chaselaw04_reads x3.wf (by omega) o3.rd hall).use fun s4 x4=> ?_
 have y4:=y3.trans x4
 have o4:=o3.ext x4 x3.wf
 have xn:=Ext.new y4.wf (.cells 84 false [.nilptr,.nilslice])
 have hg0:hget ((s4.nx,AObj.cells 84 false [.nilptr,.nilslice])::s4.h) s4.nx=some (.cells 84 false [.nilptr,.nilslice]):=by simp[hget_cons]
 have hb0:Bd s4 ⟨(s4.nx,.cells 84 false [.nilptr,.nilslice])::s4.h,s4.nx+1⟩ s4.nx []:=⟨Nat.le_refl _,.nilptr,.nilslice,hg0,.inl rfl,Grow.nil _ _,by simp[AV.nms]⟩
 have loop:=fun(e:Env) g1 g5 g8 g32 g33 g34=>back_l0 H y4.wf (hp.ext y4 hwf) o4 hok hokp (hf.ext y4 hwf) hfl (q:=s4.nx) l.length 0 [] e ⟨(s4.nx,.cells 84 false [.nilptr,.nilslice])::s4.h,s4.nx+1⟩ (by omega) (by simp[backL]) xn (fun _=>hg0) hb0 g1 g5 g8 g32 g33 g34
 have fin:∀(e':Env) (s5:St) (K:AV→St→Prop),Ext s4 s5→(l=[]→hget s5.h s4.nx=some (.cells 84 false [.nilptr,.nilslice]))→Bd s4 s5 s4.nx (backL fs 0 l)→(∀s6,Ext s4 s6→K (.str (backL fs 0 l)) s6)→CRes (call T (.fn 92 [] []) [.ptr s4.nx 0] s5) K:=by
  intro e' s5 K x5 hn b5 hK
  by_cases hl:l=[]
  ·refine(string_new H.strings_Builder_String x5 (hn hl)).mono ?_
   rintro _ s6 ⟨rfl,x6⟩
   have:=hK s6 x6
   rw[hl]at this
   exact this
  ·have h1:=hbl fs
   have h2:=hbg fs
   have h3:0<l.length:=List.length_pos_iff.2 hl
   refine(string_res H.strings_Builder_String x5 b5 (by omega) (by omega)).mono ?_
   rintro _ s6 ⟨rfl,x6⟩
   exact hK s6 x6
 have last:=fun(s6:St) (x6:Ext s4 s6)=>reads_tells (st:=s6) H.chaselaw04_reads x6.wf (s:=backL fs 0 l) (by have:=hbl fs;omega) ((o4.ext x6 y4.wf).rd) (hball fs)
 generalize backL fs 0 l=BL at*
 rcases o4.form with ⟨rfl,rfl⟩ | ⟨n,rfl,_,_⟩
 ·simp[go_sem,NO.run,AV.nb]
  refine(loop _ (by simp[go_sem]) (by simp[go_sem]) (by simp[go_sem]) (by simp[go_sem]) (by simp[go_sem]) (by simp[go_sem])).mono ?_
  rintro x e' s5 ⟨rfl,x5,hn,b5,g5,g8⟩
  simp[go_sem,g5,g8]
  refine fin [] _ _ x5 hn b5 fun s6 x6=> ?_
  simp[go_sem,g5,g8]
  refine(last s6 x6).use fun s7 x7=> ?_
  simp[go_sem]
 ·simp[go_sem,NO.run,AV.nb]
  refine(loop _ (by simp[go_sem]) (by simp[go_sem]) (by simp[go_sem]) (by simp[go_sem]) (by simp[go_sem]) (by simp[go_sem])).mono ?_
  rintro x e' s5 ⟨rfl,x5,hn,b5,g5,g8⟩
  simp[go_sem,g5,g8]
  refine fin [] _ _ x5 hn b5 fun s6 x6=> ?_
  simp[go_sem,g5,g8]
  refine(last s6 x6).use fun s7 x7=> ?_
  simp[go_sem]
end Go.Ev

/- A table of the library beside what the arguments named. -/
namespace Go.Ev
open Go Go.RowKit Go.ChangeShapes Go.WideShapes Go.Deep Go.Joins
theorem sr_add {X:Cx} {w:World} {N:Nu} {st:St} {o:AObj} {a:Addr} (h:SR chkD X N st w) (how:∀b,¬Own N st.h b) (ho:o.own=false) (hobj:ObjR chkD X (N.add st.nx a 0) w st.nx o):
  SR chkD X (N.add st.nx a 0) ⟨(st.nx,o)::st.h,st.nx+1⟩ w∧(∀b,¬Own (N.add st.nx a 0) ((st.nx,o)::st.h) b)∧N.Le (N.add st.nx a 0):=by
 have hle:N.Le (N.add st.nx a 0):=Nu.le_add (h.fresh _ (Nat.le_refl _))
 have hold:∀m,m≠st.nx→(N.add st.nx a 0).ρ m=N.ρ m:=fun m hm=>by simp[Nu.add,hm]
 have hown:∀b,¬Own (N.add st.nx a 0) ((st.nx,o)::st.h) b:=by
  rintro b ⟨n,p,x,h1,h2,h3,h4⟩
  by_cases e:n=st.nx
  ·subst e
   rw[hget_cons,if_pos rfl]at h1
   injection h1 with h1
   subst h1
   rw[ho]at h2
   cases h2
  ·rw[hget_cons,if_neg (fun x=>e x.symm)]at h1
   exact how b ⟨n,p,x,h1,h2,by rw[←hold n e];exact h3,h4⟩
 refine⟨⟨⟨?_,?_⟩,?_⟩,hown,hle⟩
 ·intro n p h1
  by_cases e:n=st.nx
  ·subst e
   rw[hget_cons,if_pos rfl]at h1
   injection h1 with h1
   subst h1
   exact hobj
  ·rw[hget_cons,if_neg (fun x=>e x.symm)]at h1
   exact ObjR.keep hle (Nat.le_refl _) (fun _ _=>rfl) (h.hr.objs n p h1)
 ·intro n m o1 p1 x y h1 h2 h3 h4 h5 h6
  exact absurd ⟨n,o1,x,h1,h3,h4,rfl⟩ (hown x.block)
 ·intro n hn
  rw[hold n (by simp only at hn;omega)]
  exact h.fresh n (by simp only at hn;omega)
theorem objR_pow {X:Cx} {w:World} {N:Nu} {n k:Nat} {name:String} (hname:X.P.globalNamed name=some (X.γ k)) (h:Lib.TabIs X.P w name .u64 Lib.pow10Tab):ObjR chkD X (N.add n ⟨X.γ k,0,none⟩ 0) w n (.glob k powAV):=by
 unfold Lib.TabIs World.var? at h
 rw[hname]at h
 simp only[Option.bind_some]at h
 split at h
 ·rename_i cs t fz hc
  refine⟨cs,t,fz,by simp[Nu.add],hc,?_⟩
  injection h with h
  rw[h]
  exact vrs_ints _
 ·cases h
theorem pow_glob (n m:Nat) (h:Heap):Pow ⟨(n,.glob B.gPow10 powAV)::h,m⟩:=⟨n,powAV,by simp[hget],by simp[powAV,B.av64]⟩
theorem tab_block {X:Cx} {w:World} {k:Nat} {name:String} (hname:X.P.globalNamed name=some (X.γ k)) (h:Lib.TabIs X.P w name .u64 Lib.pow10Tab):∃us t fz,w.heap[X.γ k]? =some (.cells us t fz):=by
 unfold Lib.TabIs World.var? at h
 rw[hname]at h
 simp only[Option.bind_some]at h
 split at h
 ·rename_i cs t fz hc
  exact⟨cs,t,fz,hc⟩
 ·cases h
theorem sr_pow {X:Cx} {w:World} {N:Nu} {st:St} {k:Nat} {name:String} (hname:X.P.globalNamed name=some (X.γ k)) (h:Lib.TabIs X.P w name .u64 Lib.pow10Tab) (hr:SR chkD X N st w) (how:∀b,¬Own N st.h b):
  ∃N':Nu,SR chkD X N' ⟨(st.nx,.glob k powAV)::st.h,st.nx+1⟩ w∧(∀b,¬Own N' ((st.nx,.glob k powAV)::st.h) b)∧N.Le N':=
 ⟨_,sr_add hr how rfl (objR_pow hname h)⟩
theorem wf_add {st:St} {o:AObj} (h:st.Wf) (hp:0<st.nx):St.Wf ⟨(st.nx,o)::st.h,st.nx+1⟩:=(Ext.new h o).wf
end Go.Ev

/- A slice of drafts among the arguments. -/
namespace Go.Ev
open Go Go.RowKit Go.ChangeShapes Go.WideShapes Go.Deep Go.Joins
theorem drasA_get {l:List Dra} {i:Nat} {x:AV} (h:(drasA l)[i]? =some x):∃d,l[i / 3]? =some d∧(draA d)[i % 3]? =some x:=by
 have hi:i<(drasA l).length:=(List.getElem?_eq_some_iff.1 h).1
 rw[drasA_len]at hi
 obtain⟨d,hd⟩:∃d,l[i / 3]? =some d:=⟨_,List.getElem?_eq_getElem (by omega)⟩
 refine⟨d,hd,?_⟩
 rw[←drasA_at hd,List.getElem?_take,if_pos (by omega),List.getElem?_drop,show i / 3*3+i % 3=i by omega]
 exact h
section
variable {H : Type} {enc : TypeId × Value → H} {P : Program} {w : World} {base : Nat} {spare : Nat → Bool} {held : Bool}
theorem draft_cells {td:TypeId} {f0 f1 f2:Field} (hs:P.underlying td=some (.struct #[f0,f1,f2])) (o0:f0.offset=0) (o1:f1.offset=1) (o2:f2.offset=2) (c0:P.cellsOf f0.type=1) (c1:P.cellsOf f1.type=1) (c2:P.cellsOf f2.type=1) (hC:P.cellsOf td=3)
  (h0:P.underlying f0.type=some (.int .u8)) (h1:P.underlying f1.type=some (.int .i32)) (h2:P.underlying f2.type=some .string) {fuel:Nat} {cs:List Value} {x:DataW H×List MemPlace} (h:DataW.trod enc P w base spare held fuel td cs=some x):
  ∃(d:Dra) (s:ByteArray),d.ok∧d.t=s.data.toList∧cs=[.int .u8 (d.k:Int),.int .i32 d.n,.string s]:=by
 obtain⟨xs,n,_,_,hl,hxl,hel⟩:=DataW.trod_struct hs h
 rw[hC]at hl
 match cs,hl with
 | [a,b,c],_=>
   have e0:=hel 0 f0 rfl
   have e1:=hel 1 f1 rfl
   have e2:=hel 2 f2 rfl
   rw[o0,c0]at e0
   rw[o1,c1]at e1
   rw[o2,c2]at e2
   obtain⟨y0,hy0⟩:∃y,xs[0]? =some y:=⟨_,List.getElem?_eq_getElem (by rw[hxl];show 0<3;omega)⟩
   obtain⟨y1,hy1⟩:∃y,xs[1]? =some y:=⟨_,List.getElem?_eq_getElem (by rw[hxl];show 1<3;omega)⟩
   obtain⟨y2,hy2⟩:∃y,xs[2]? =some y:=⟨_,List.getElem?_eq_getElem (by rw[hxl];show 2<3;omega)⟩
   rw[hy0]at e0
   rw[hy1]at e1
   rw[hy2]at e2
   simp only[List.drop_zero,List.take_succ_cons,List.take_zero,List.drop_succ_cons]at e0 e1 e2
   obtain⟨k,k0,_,wk⟩:=DataW.trod_int h0 e0
   obtain⟨m,m0,_,wm⟩:=DataW.trod_int h1 e1
   obtain⟨s,s0,_,ws⟩:=DataW.trod_string h2 e2
   simp only[List.cons.injEq,and_true]at k0 m0 s0
   subst k0 m0 s0
   have wk':=wf_u8 wk
   have wm':=wf_i32 wm
   obtain⟨k,rfl⟩:=Int.eq_ofNat_of_zero_le wk'.1
   have hml:maxLen≤9223372036854775807:=by decide
   exact⟨⟨k,m,s.data.toList⟩,s,⟨by show k<256;omega,wm'.1,wm'.2,by show s.data.toList.length<_;rw[Array.length_toList];exact Nat.lt_of_le_of_lt (Nat.le_trans ws hml) (by decide)⟩,rfl,rfl⟩
end
end Go.Ev

/- ScanSpaces told, where works holds. -/
namespace Go.Ev
open Go
variable {T : Tab} {st : St}
end Go.Ev

/- More than one slice among the arguments. -/
namespace Go.Ev
open Go Go.RowKit Go.ChangeShapes Go.WideShapes Go.Deep Go.Joins
def SliceD (X:Cx) (w:World) (v:Value) (es k:Nat) (cs:List AV):Prop:=cs.length=k*es∧((v= .slice none 0 0∧k=0)∨∃blk off cap,v= .slice (some ⟨blk,off,none⟩) k cap∧k≤cap∧(∃us t fz,w.heap[blk]? =some (.cells us t fz))∧∀(i:Nat) (x:AV),cs[i]? =some x→∃u,w.cell? ⟨blk,off+i,none⟩=some u∧∀N,VR X N x u)
theorem add_slice {X:Cx} {w:World} {N:Nu} {st:St} (h:SR chkD X N st w) (how:∀b,¬Own N st.h b) {b0:Nat} (hb0:∃us t fz,w.heap[b0]? =some (.cells us t fz)) {v:Value} {es k:Nat} {cs:List AV} (hs:SliceD X w v es k cs):
  ∃(N':Nu) (cs':List AV) (sv:AV),SR chkD X N' ⟨(st.nx,.ro cs')::st.h,st.nx+1⟩ w∧(∀b,¬Own N' ((st.nx,.ro cs')::st.h) b)∧N.Le N'∧VR X N' sv v∧Rd ((st.nx,.ro cs')::st.h) sv es k cs:=by
 obtain⟨hl,⟨rfl,rfl⟩ | ⟨blk,off,cap,rfl,hcap,hheap,hcell⟩⟩:=hs
 ·obtain⟨us,t,fz,hh⟩:=hb0
  obtain⟨h1,h2,h3⟩:=sr_add (o:= .ro []) (a:=⟨b0,0,none⟩) h how rfl ⟨⟨b0,0,none⟩,by simp[Nu.add],⟨us,t,fz,hh⟩,fun i x hx=>by simp at hx⟩
  exact⟨_,[],.nilslice,h1,h2,h3,rfl,.inl ⟨rfl,rfl,List.length_eq_zero_iff.1 (by rw[hl];simp)⟩⟩
 ·obtain⟨h1,h2,h3⟩:=sr_add (o:= .ro cs) (a:=⟨blk,off,none⟩) h how rfl ⟨⟨blk,off,none⟩,by simp[Nu.add],hheap,fun i x hx=>by
   obtain⟨u,hu,hv⟩:=hcell i x hx
   exact⟨u,hu,hv _⟩⟩
  refine⟨_,cs,.slice st.nx 0 k .unk,h1,h2,h3,⟨⟨blk,off,none⟩,cap,by simp[Nu.add],rfl,hcap,trivial⟩,.inr ⟨st.nx,0,.unk,rfl,?_⟩⟩
  simp only[rdCells,hget_cons,if_true]
  rw[if_pos (by omega),List.drop_zero,List.take_of_length_le (by omega)]
section
variable {H : Type} {enc : TypeId × Value → H} {P : Program} {w : World} {base : Nat} {spare : Nat → Bool} {held : Bool}
theorem ones_data {X:Cx} {r:Reach} {b0:Nat} {te tsl:TypeId} {v:Value} {d:DataW H} {p:List MemPlace} (hc:P.cellsOf te=1) (hsl:P.underlying tsl=some (.slice te)) {α:Type} [Inhabited α] (val:α→AV)
  (hel:∀{fuel:Nat} {cs:List Value} {x:DataW H×List MemPlace},DataW.trod enc P w base spare held fuel te cs=some x→∃(z:α) (u:Value),cs=[u]∧∀N,VR X N (val z) u)
  (hv:Value.okWide P w r b0 tsl v) (h:DataW.Trod enc P w base spare held tsl v d p):∃l:List α,SliceD X w v 1 l.length (l.map val)∧l.length<9223372036854775808:=by
 obtain⟨a0,len0,cap0,rfl⟩:=okWide_slice hsl hv
 obtain⟨fuel,hf⟩:=h
 rcases open_slice hsl hf with ⟨hcs,_⟩ | ⟨a,len,cap,m,n2,D,Pl,hcs,hba,hl,hm,hmm,_,hels⟩
 ·simp[Value.cells]at hcs
  obtain⟨rfl,rfl,rfl⟩:=hcs
  exact⟨[],⟨rfl,.inl ⟨rfl,rfl⟩⟩,by simp⟩
 ·simp[Value.cells]at hcs
  obtain⟨rfl,rfl,rfl⟩:=hcs
  have hcell:Cell.okWide P w r b0 tsl (.slice (some a) len0 cap0):=by
   simpa only[Value.okWide,hsl] using hv
  have hhas:a.spot=none∧∃us tt fz,w.heap[a.block]? =some (.cells us tt fz):=by
   simp only[Cell.okWide,hsl,Cell.ok,World.has]at hcell
   obtain⟨_,_,_,h3,row,cells,h4,_⟩:=hcell
   refine⟨h3,?_⟩
   unfold World.shape? at h4
   split at h4
   ·exact⟨_,_,_,by assumption⟩
   ·cases h4
  obtain⟨hsp,us,tt,fz,hheap⟩:=hhas
  obtain⟨blk,off,spot⟩:=a
  simp only at hsp
  subst hsp
  have hmlen:len0≤m:=by rw[hmm];split <;> omega
  have hdr:∀j,j<len0→∃z:α,∃u,w.cell? ⟨blk,off+j,none⟩=some u∧∀N,VR X N (val z) u:=by
   intro j hj
   obtain⟨cs',h3,h4⟩:=hels j (by omega)
   rw[hc]at h3
   obtain⟨z,u,rfl,hz⟩:=hel h4
   obtain⟨_,_,h9⟩:=World.cells?_some h3
   have h10:=h9 0 (by omega)
   simp only[List.getElem?_cons_zero,Nat.mul_one]at h10
   rw[Deep.add_add,Nat.add_zero]at h10
   refine⟨z,u,?_,hz⟩
   unfold Addr.add at h10
   split at h10
   ·rename_i hj0;rw[hj0];exact h10
   ·exact h10
  obtain⟨f,hff⟩:=Deep.choose_lt (α:=α) (p:=fun j z=>∃u,w.cell? ⟨blk,off+j,none⟩=some u∧∀N,VR X N (val z) u) hdr
  have hll:((List.range len0).map f).length=len0:=by simp
  have:maxLen≤9223372036854775807:=by decide
  refine⟨(List.range len0).map f,⟨by simp,.inr ⟨blk,off,cap0,by rw[hll],by rw[hll];exact hl,⟨us,tt,fz,hheap⟩,fun i x hx=> ?_⟩⟩,by rw[hll];omega⟩
  have hi:i<len0:=by
   have:=(List.getElem?_eq_some_iff.1 hx).1
   simpa using this
  have hx':x=val (f i):=by
   simp[hi]at hx
   exact hx.symm
  subst hx'
  exact hff i hi
theorem bools_data {X:Cx} {r:Reach} {b0:Nat} {te tsl:TypeId} {v:Value} {d:DataW H} {p:List MemPlace} (he:P.underlying te=some .bool) (hc:P.cellsOf te=1) (hsl:P.underlying tsl=some (.slice te))
  (hv:Value.okWide P w r b0 tsl v) (h:DataW.Trod enc P w base spare held tsl v d p):∃l:List Bool,SliceD X w v 1 l.length (l.map AV.bool)∧l.length<9223372036854775808:=
 ones_data (X:=X) hc hsl AV.bool (fun h=>by
  obtain⟨b,hb,_⟩:=DataW.trod_bool he h
  exact⟨b,_,hb,fun N=>rfl⟩) hv h
theorem drafts_data {X:Cx} {r:Reach} {b0:Nat} {td tsl:TypeId} {f0 f1 f2:Field} {v:Value} {d:DataW H} {p:List MemPlace} (hs:P.underlying td=some (.struct #[f0,f1,f2])) (o0:f0.offset=0) (o1:f1.offset=1) (o2:f2.offset=2) (c0:P.cellsOf f0.type=1) (c1:P.cellsOf f1.type=1) (c2:P.cellsOf f2.type=1) (hC:P.cellsOf td=3)
  (h0:P.underlying f0.type=some (.int .u8)) (h1:P.underlying f1.type=some (.int .i32)) (h2:P.underlying f2.type=some .string) (hsl:P.underlying tsl=some (.slice td))
  (hv:Value.okWide P w r b0 tsl v) (h:DataW.Trod enc P w base spare held tsl v d p):
  ∃l:List Dra,SliceD X w v 3 l.length (drasA l)∧∀d∈l,d.ok:=by
 obtain⟨a0,len0,cap0,rfl⟩:=okWide_slice hsl hv
 obtain⟨fuel,hf⟩:=h
 rcases open_slice hsl hf with ⟨hcs,_⟩ | ⟨a,len,cap,m,n2,D,Pl,hcs,hba,hl,hm,hmm,_,hel⟩
 ·simp[Value.cells]at hcs
  obtain⟨rfl,rfl,rfl⟩:=hcs
  exact⟨[],⟨rfl,.inl ⟨rfl,rfl⟩⟩,fun d hd=>by cases hd⟩
 ·simp[Value.cells]at hcs
  obtain⟨rfl,rfl,rfl⟩:=hcs
  have hcell:Cell.okWide P w r b0 tsl (.slice (some a) len0 cap0):=by
   simpa only[Value.okWide,hsl] using hv
  have hhas:a.spot=none∧∃us tt fz,w.heap[a.block]? =some (.cells us tt fz):=by
   simp only[Cell.okWide,hsl,Cell.ok,World.has]at hcell
   obtain⟨_,_,_,h3,row,cells,h4,_⟩:=hcell
   refine⟨h3,?_⟩
   unfold World.shape? at h4
   split at h4
   ·exact⟨_,_,_,by assumption⟩
   ·cases h4
  obtain⟨hsp,us,tt,fz,hheap⟩:=hhas
  obtain⟨blk,off,spot⟩:=a
  simp only at hsp
  subst hsp
  have hmlen:len0≤m:=by rw[hmm];split <;> omega
  have hdr:∀j,j<len0→∃d:Dra,d.ok∧∀i x,(draA d)[i]? =some x→∃u,w.cell? ⟨blk,off+(j*3+i),none⟩=some u∧∀N,VR X N x u:=by
   intro j hj
   obtain⟨cs',h3,h4⟩:=hel j (by omega)
   rw[hC]at h3
   obtain⟨d,s,hd,ht,rfl⟩:=draft_cells hs o0 o1 o2 c0 c1 c2 hC h0 h1 h2 h4
   refine⟨d,hd,fun i x hx=> ?_⟩
   obtain⟨_,_,h9⟩:=World.cells?_some h3
   have hi:i<3:=by
    have:=(List.getElem?_eq_some_iff.1 hx).1
    simpa [draA] using this
   have h10:=h9 i hi
   rw[Deep.add_add]at h10
   have hcell2:w.cell? ⟨blk,off+(j*3+i),none⟩=[Value.int .u8 (d.k:Int),.int .i32 d.n,.string s][i]? :=by
    unfold Addr.add at h10
    split at h10
    ·rename_i hj0;rw[hj0];exact h10
    ·exact h10
   have:i=0∨i=1∨i=2:=by omega
   rcases this with rfl | rfl | rfl
   ·simp[draA]at hx
    subst hx
    exact⟨_,hcell2,fun N=>rfl⟩
   ·simp[draA]at hx
    subst hx
    exact⟨_,hcell2,fun N=>rfl⟩
   ·simp[draA]at hx
    subst hx
    exact⟨_,hcell2,fun N=>by rw[ht];simp[VR]⟩
  obtain⟨f,hff⟩:=Deep.choose_lt (α:=Dra) (p:=fun j d=>d.ok∧∀i x,(draA d)[i]? =some x→∃u,w.cell? ⟨blk,off+(j*3+i),none⟩=some u∧∀N,VR X N x u) hdr
  let l:List Dra:=(List.range len0).map f
  have hll:l.length=len0:=by simp[l]
  have hxs:(drasA l).length=len0*3:=by rw[drasA_len,hll]
  refine⟨l,⟨by rw[hxs,hll],.inr ⟨blk,off,cap0,by rw[hll],by rw[hll];exact hl,⟨us,tt,fz,hheap⟩,fun i x hx=> ?_⟩⟩,?_⟩
  ·obtain⟨d,hd,hx⟩:=drasA_get hx
   have hi:i / 3<len0:=by rw[←hll];exact(List.getElem?_eq_some_iff.1 hd).1
   have hd2:d=f (i / 3):=by
    simp[l,hi]at hd
    exact hd.symm
   subst hd2
   have:=(hff (i / 3) hi).2 (i % 3) x hx
   rw[show i / 3*3+i % 3=i by omega]at this
   exact this
  ·intro d hd
   obtain⟨j,hj,rfl⟩:=List.mem_map.1 hd
   exact(hff j (List.mem_range.1 hj)).1
end
end Go.Ev

/- A closed call run by the kernel: what it answers, and that what was there stays. -/
namespace Go.Ev
open Go
variable {T : Tab}
def okNames:List Nat→Bool
 | []=>true
 | n::r=> !hmem n r && okNames r
def allLt (k:Nat):List Nat→Bool
 | []=>true
 | n::r=>decide (n<k) && allLt k r
def okSt (k:Nat) (s:St):Bool:=okNames (s.h.map (·.1)) && (allLt s.nx (s.h.map (·.1)) && decide (k≤s.nx))
theorem hmem_false {n:Nat}:∀{l:List Nat},hmem n l=false→n∉l
 | [],_=>by simp
 | m::l,h=>by
   simp only[hmem]at h
   split at h
   ·cases h
   ·rename_i e
    simp only[List.mem_cons,not_or]
    exact⟨fun h=>e h.symm,hmem_false h⟩
theorem okNames_nodup:∀{l:List Nat},okNames l=true→l.Nodup
 | [],_=>List.nodup_nil
 | n::l,h=>by
   simp only[okNames,Bool.and_eq_true,Bool.not_eq_true']at h
   exact List.nodup_cons.2 ⟨hmem_false h.1,okNames_nodup h.2⟩
theorem allLt_mem {k:Nat}:∀{l:List Nat},allLt k l=true→∀n∈l,n<k
 | [],_,n,hn=>by cases hn
 | m::l,h,n,hn=>by
   simp only[allLt,Bool.and_eq_true,decide_eq_true_eq]at h
   rcases List.mem_cons.1 hn with rfl | hn
   ·exact h.1
   ·exact allLt_mem h.2 n hn
theorem okSt_wf {k:Nat} {s:St} (h:okSt k s=true):s.Wf∧k≤s.nx:=by
 simp only[okSt,Bool.and_eq_true,decide_eq_true_eq]at h
 refine⟨⟨fun n o ho=>allLt_mem h.2.1 n ?_,okNames_nodup h.1⟩,h.2.2⟩
 exact List.mem_map.2 ⟨(n,o),hget_mem ho,rfl⟩
def lookAt (k:Nat) (r:Option (Ex×Env×St)):Option (AV×Bool×List (Option AObj)):=
 match r with
 | some (.ret,e,s)=>some (eget e 0,okSt k s,(List.range k).map (hget s.h))
 | _=>none
theorem closed_res {f n:Nat} {mf:MFun} (hen:T.en f=none) (hf:T.fn f=some mf) (h0:mf.nargs=0) (hr:mf.results=[.t 0]) {st:St} {v:AV}
  (h:lookAt st.nx (exec T n mf.body [] st)=some (v,true,(List.range st.nx).map (hget st.h))):CRes (call T (.fn f [] []) [] st) fun v' s=>v'=v∧Ext st s:=by
 refine call_res hen hf (by simp[h0]) ?_
 cases hx:exec T n mf.body [] st with
 | none=>rw[hx]at h;cases h
 | some p=>
   obtain⟨x,e,s⟩:=p
   rw[hx]at h
   cases x with
   | norm=>cases h
   | exit i=>cases h
   | ret=>
     simp only[lookAt,Option.some.injEq,Prod.mk.injEq]at h
     obtain⟨hv,hs,hk⟩:=h
     obtain⟨hwf,hnx⟩:=okSt_wf hs
     have hrun:run T mf.body (argEnv 0 ([]++[]++[])) st=some (.ret,e,s):=run_iff.2 ⟨n,hx⟩
     rw[hrun]
     refine⟨.inr rfl,v,by rw[hr];simp[fresults,resVals,resVal,hv],rfl,?_⟩
     have x1:Ext st s:=⟨hnx,hwf,fun m hm=>by
      have:=congrArg (fun l=>l[m]?) hk
      simp only[List.getElem?_map,List.getElem?_range hm,Option.map_some,Option.some.injEq]at this
      exact this⟩
     exact x1.dropLoc
end Go.Ev
