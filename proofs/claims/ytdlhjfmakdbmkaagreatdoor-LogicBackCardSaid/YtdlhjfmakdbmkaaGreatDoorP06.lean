/- Reals as decimals: what both Prints answer; the reference's Print. -/
import Derived.Test.YtdlhjfmakdbmkaaGreatDoorP05
import Derived.Test.YtdlhjfmakdbmkaaGreatDoorP04
import Derived.Stop.LaidErr
import Derived.Lib.LaidTab
import Derived.SizedLaws
import Derived.Lib.Join
import Derived.Lib.Small
import Derived.Lib.Strings
import Derived.Lib.Case
set_option linter.unusedSimpArgs false
set_option linter.unusedVariables false
set_option linter.unusedSectionVars false
namespace Go.Ev
open Go
variable {T : Tab} {st : St}
def fracS:Nat→Nat→List UInt8
 | 0,_=>[]
 | k+1,f=>UInt8.ofNat (48+f*10 / 65536)::(if f*10 % 65536=0 then []else fracS k (f*10 % 65536))
def printS (n:Int):List UInt8:=(if n<0 then [45]else [])++(Lib.decDigits (n.natAbs / 65536)++(46::fracS 17 (n.natAbs % 65536)))
theorem fracS_len:∀k f,(fracS k f).length≤k
 | 0,_=>by simp[fracS]
 | k+1,f=>by
   have:=fracS_len k (f*10 % 65536)
   simp only[fracS,List.length_cons]
   split <;> simp <;> omega
theorem frac_dvd {k f:Nat} (hk:1≤k) (hk2:k≤16) (hd:2 ^ (17 - (k+1)) ∣ f):2 ^ (17 - k) ∣ f*10 % 65536:=by
 obtain⟨m,hm⟩:=hd
 have e1:(2:Nat) ^ (17 - k)=2 ^ (17 - (k+1))*2:=by rw[←Nat.pow_succ];congr 1;omega
 have h1:2 ^ (17 - k) ∣ f*10:=⟨m*5,by rw[e1,hm];rw[Nat.mul_assoc,Nat.mul_assoc,←Nat.mul_assoc 2 m 5,Nat.mul_comm 2 m,Nat.mul_assoc m 2 5]⟩
 have h2:2 ^ (17 - k) ∣ 65536:=⟨2 ^ (k - 1),by rw[←Nat.pow_add,show 17 - k+(k - 1)=16 by omega]⟩
 exact(Nat.dvd_mod_iff h2).2 h1
theorem frac_nums {f:Nat} (hf:f<65536):IntKind.i64.wrap ((f:Int)*10)=((f*10:Nat):Int)∧((f*10:Nat):Int).tdiv 65536=((f*10 / 65536:Nat):Int)∧((f*10:Nat):Int).tmod 65536=((f*10 % 65536:Nat):Int)∧
  IntKind.i64.wrap ((f*10 / 65536:Nat):Int)=((f*10 / 65536:Nat):Int)∧f*10 / 65536<10∧f*10 % 65536<65536:=by
 refine⟨by rw[wrap64' (by omega) (by omega)];omega,?_,?_,wrap64' (by omega) (by omega),by omega,by omega⟩
 ·rw[Int.tdiv_eq_ediv_of_nonneg (by omega)];omega
 ·rw[Int.tmod_eq_emod_of_nonneg (by omega)];omega
theorem printS_pos {u:Nat}:printS (u:Int)=Lib.decDigits (u / 65536)++(46::fracS 17 (u % 65536)):=by
 unfold printS;rw[if_neg (by omega)];simp
theorem printS_neg {u:Nat} (h:0<u):printS (-(u:Int))=45::(Lib.decDigits (u / 65536)++(46::fracS 17 (u % 65536))):=by
 unfold printS;rw[if_pos (by omega)];simp
theorem div65536 (u:Nat):(u:Int).tdiv 65536=((u / 65536:Nat):Int)∧(u:Int).tmod 65536=((u % 65536:Nat):Int):=by
 refine⟨?_,?_⟩
 ·rw[Int.tdiv_eq_ediv_of_nonneg (by omega)];omega
 ·rw[Int.tmod_eq_emod_of_nonneg (by omega)];omega
end Go.Ev

/- The canonical texts: the reference's Text. -/
namespace Go.Ev
open Go
variable {T : Tab} {st : St}
end Go.Ev

/- real.Print: the digits ahead of the point are yielded one by one. -/
namespace Go.Ev
open Go
variable {T : Tab} {st : St}
theorem writeByte_frm (H:B.H_strings_Builder_WriteByte T) {st0:St} (hx:Ext st0 st) {q:Nat} {l:List UInt8} (c:UInt8) {n:Int} (hn:n=(c.toNat:Int)) (b:Bd st0 st q l) (hl:l.length<35184372088831):
  CRes (call T (.fn 91 [] []) [.ptr q 0,.int .u8 n] st) fun _ s'=>(Ext st0 s'∧Bd st0 s' q (l++[c]))∧∀m o,m≠q→hget st.h m=some o→(∀ty,o≠.cells ty false (u8s l))→o≠.buf 5 1 (u8s l)→hget s'.h m=some o:=by
 subst hn
 obtain⟨h1,a,v,h2,h3,h4,h5⟩:=b
 refine call_res H.e H.f rfl ?_
 simp[B.strings_Builder_WriteByte,go_sem]
 refine(copyCheck_res H.strings_Builder_copyCheck hx.wf h2 h3).mono ?_
 rintro _ s1 ⟨f1,g1⟩
 have x1:Ext st0 s1:=hx.frm f1 (by simpa using h1)
 have g4:=h4.frm f1 hx.wf (by intro n hn h;simp at h;subst h;exact h5 hn)
 have hr:rdCell s1.h q 1=some v:=by simp[rdCell,g1]
 simp[go_sem,RO.run,NO.run,hr,reps]
 refine(g4.push x1.nx x1.wf (k:=1) (by omega) (c:=c) hl).mono ?_
 rintro v2 s2 ⟨o2,f2⟩
 have x2:=x1.frm f2 h4.ge
 have g2:hget s2.h q=some (.cells 84 false [.ptr q 0,v]):=f2.get x1.wf g1 h5
 have hw2:wrCells s2.h q 1 [v2]=some (hset s2.h q (.cells 84 false [.ptr q 0,v2])):=wr_cells g2 o2.sc (by simp)
 have f3:=Frm.set x2.wf g2 (o:= .cells 84 false [.ptr q 0,v2])
 have hap:=o2.apart g2 (x:= .ptr q 0) (by simp) (by simp)
 have g3:=hget_hset_self (o:= .cells 84 false [.ptr q 0,v2]) g2
 simp[go_sem,WO.run,o2.acells,hw2]
 have x3:Ext st0 ⟨hset s2.h q (.cells 84 false [.ptr q 0,v2]),s2.nx⟩:=x2.frm f3 (by simpa using h1)
 have o3:Grow st0 ⟨hset s2.h q (.cells 84 false [.ptr q 0,v2]),s2.nx⟩ v2 (l++[c]):=o2.frm f3 x2.wf (by intro n hn h;simp at h;subst h;exact hap hn)
 have x4:Ext st0 ⟨Go.Ev.dropLoc st.nx (hset s2.h q (.cells 84 false [.ptr q 0,v2])),s2.nx⟩:=x3.dropGe hx.nx
 refine⟨⟨x4,h1,_,v2,hget_dropLoc_keep x3.wf g3 rfl,.inr rfl,o3.dropLoc x3.wf,hap⟩,?_⟩
 intro m o hmq ho hc hb
 have hm:m∉v.nms:=by
  intro hm
  rcases h4.nms hm with ⟨ty,k⟩ | k
  ·rw[ho]at k;cases k;exact hc ty rfl
  ·rw[ho]at k;cases k;exact hb rfl
 have k1:=f1.get hx.wf ho (by simpa using hmq)
 have k2:=f2.get x1.wf k1 hm
 have k3:=f3.get (st:=⟨_,_⟩) x2.wf k2 (by simpa using hmq)
 show hget (Go.Ev.dropLoc st.nx _) m=_
 rw[hget_dropLoc_lt (hx.wf.lt m o ho)]
 exact k3
theorem whole_call (H:B.H_real_whole T) (hwf:st.Wf) {n:Int} {Q:AV→St→Prop}
  (h:Q (.fn 139 [] [.ptr st.nx 0]) ⟨(st.nx,.cells 3 false [.int .i64 n])::st.h,st.nx+1⟩):
  CRes (call T (.fn 138 [] []) [.int .i64 n] st) Q:=by
 refine call_res H.e H.f rfl ?_
 have hd:dropLoc st.nx ((st.nx,AObj.cells 3 false [.int .i64 n])::st.h)=(st.nx,AObj.cells 3 false [.int .i64 n])::st.h:=by
  have:locNames st.nx ((st.nx,AObj.cells 3 false [.int .i64 n])::st.h)=[]:=by
   simp only[locNames]
   exact locNames_nil fun n o ho=>hwf.lt n o ho
  rw[dropLoc_eq,this,hdrop_nil]
 simp[B.real_whole,go_sem,NO.run,AV.nb,hd]
 exact h
def digsF (n:Nat):Nat→List UInt8
 | 0=>[UInt8.ofNat (48+n % 10)]
 | k+1=>UInt8.ofNat (48+n / 10 ^ (k+1) % 10)::digsF n k
theorem digsF_last (n:Nat):∀k,digsF n (k+1)=digsF (n / 10) k++[UInt8.ofNat (48+n % 10)]
 | 0=>by simp[digsF]
 | k+1=>by
   have:=digsF_last n k
   rw[digsF,this,digsF,Nat.div_div_eq_div_mul,←Nat.pow_succ']
   rfl
theorem digsF_dec:∀(k n:Nat),n<10 ^ (k+1)→(k=0∨10 ^ k≤n)→digsF n k=Lib.decDigits n
 | 0,n,h,_=>by rw[decDigits_small (by simpa using h),digsF,Nat.mod_eq_of_lt (by simpa using h)]
 | k+1,n,h,hk=>by
   have h1:10 ^ (k+1)≤n:=by rcases hk with hk | hk;cases hk;exact hk
   have h2:1≤10 ^ k:=Nat.pow_pos (by omega)
   rw[Nat.pow_succ]at h h1
   rw[digsF_last,decDigits_big (by omega),digsF_dec k (n / 10) (by rw[Nat.pow_succ]at h⊢;omega) (.inr (by omega))]
theorem whole_l0 {n m:Nat} (hn:n≤65536) (hg:hget st.h m=some (.cells 3 false [.int .i64 (n:Int)])) {y:AV}:∀(f j:Nat) (e:Env),j+f=5→(j=0∨10 ^ j≤n)→eget e 0=y→eget e 1= .ptr m 0→eget e 3= .int .i64 ((10 ^ j:Nat):Int)→
  Res (run T (.loop B.real_whole_1_l0) e st) fun x e' s'=>x= .exit 0∧s'=st∧eget e' 0=y∧eget e' 1= .ptr m 0∧∃k,k≤5∧eget e' 3= .int .i64 ((10 ^ k:Nat):Int)∧n<10 ^ (k+1)∧(k=0∨10 ^ k≤n):=by
 intro f
 induction f with
 | zero=>
   intro j e hj hjn g0 g1 g3
   have hj5:j=5:=by omega
   subst hj5
   exfalso
   omega
 | succ f ih=>
   intro j e hj hjn g0 g1 g3
   rw[run_loop]
   have hp:10 ^ (j+1)=10 ^ j*10:=Nat.pow_succ ..
   have hp1:1≤10 ^ j:=Nat.pow_pos (by omega)
   have hp2:10 ^ j≤10 ^ 4:=Nat.pow_le_pow_right (by omega) (by omega)
   have hnext:=ih (j+1)
   have hthis:∀k,k=j→(k=0∨10 ^ k≤n):=fun k h=>h▸hjn
   rw[hp]at hnext
   have hend:n<10 ^ j*10→∃k,k≤5∧10 ^ k=10 ^ j∧n<10 ^ (k+1)∧(k=0∨10 ^ k≤n):=fun h=>⟨j,by omega,rfl,by rw[hp];exact h,hjn⟩
   generalize 10 ^ j=p at*
   have hq:(n:Int).tdiv (p:Int)=((n / p:Nat):Int):=(Int.ofNat_tdiv n p).symm
   have hle:n / p≤n:=Nat.div_le_self n p
   have hd:10≤n / p↔p*10≤n:=by rw[Nat.le_div_iff_mul_le hp1,Nat.mul_comm]
   have hp0:¬(p:Int)=0:=by omega
   have hp0':¬p=0:=by omega
   have wp:IntKind.i64.wrap ((p:Int)*10)=((p*10:Nat):Int):=by rw[wrap64' (by omega) (by omega)];omega
   generalize n / p=q at*
   have wq:IntKind.i64.wrap (q:Int)=(q:Int):=wrap64' (by omega) (by omega)
   by_cases hc:10≤q
   ·have hc':(10:Int)≤q:=by omega
    simp[B.real_whole_1_l0,go_sem,g0,g1,g3,RO.run,rd_one hg,hq,wq,hp0,hp0',hc,hc',wp]
    exact hnext _ (by omega) (.inr (hd.1 hc)) (by simp[go_sem]) (by simp[go_sem]) (by simp[go_sem,wp])
   ·have hc':¬(10:Int)≤q:=by omega
    simp[B.real_whole_1_l0,go_sem,g0,g1,g3,RO.run,rd_one hg,hq,wq,hp0,hp0',hc,hc']
    obtain⟨k,k1,k2,k3,k4⟩:=hend (by omega)
    exact⟨k,k1,by rw[←k2];rfl,k3,k4⟩
theorem whole_l1 {n m:Nat} (hn:n≤65536) {Y:AV} (P:List UInt8→St→Prop) (hg:∀l s,P l s→hget s.h m=some (.cells 3 false [.int .i64 (n:Int)]))
  (hY:∀l s (c:UInt8),P l s→l.length≤10→CRes (call T Y [.int .u8 (c.toNat:Int)] s) fun v s2=>v= .bool true∧P (l++[c]) s2):∀(k:Nat) (l:List UInt8) (e:Env) (st1:St),k≤5→l.length+k≤10→P l st1→eget e 0=Y→eget e 1= .ptr m 0→eget e 3= .int .i64 ((10 ^ k:Nat):Int)→
  Res (run T (.loop B.real_whole_1_l1) e st1) fun x e' s'=>x= .exit 2∧P (l++digsF n k) s':=by
 have step:∀(p:Nat) (l:List UInt8) (e:Env) (st1:St) (Q:Ex→Env→St→Prop),1≤p→p≤100000→l.length≤10→P l st1→eget e 0=Y→eget e 1= .ptr m 0→eget e 3= .int .i64 (p:Int)→
   (∀e' s',P (l++[UInt8.ofNat (48+n / p % 10)]) s'→eget e' 0=Y→eget e' 1= .ptr m 0→eget e' 3= .int .i64 ((p / 10:Nat):Int)→Res (run T (.loop B.real_whole_1_l1) e' s') Q)→
   Res (run T (.loop B.real_whole_1_l1) e st1) Q:=by
  intro p l e st1 Q hp1 hp2 hl hP g0 g1 g3 hfin
  rw[run_loop]
  have hq:(n:Int).tdiv (p:Int)=((n / p:Nat):Int):=(Int.ofNat_tdiv n p).symm
  have hle:n / p≤n:=Nat.div_le_self n p
  have hp0:¬(p:Int)=0:=by omega
  have hp0':¬p=0:=by omega
  have hpp:(0:Int)<p:=by omega
  have hpp':0<p:=by omega
  generalize n / p=q at*
  have wq:IntKind.i64.wrap (q:Int)=(q:Int):=wrap64' (by omega) (by omega)
  obtain⟨hr,_⟩:=div10 q
  obtain⟨_,hs⟩:=div10 p
  have wr:IntKind.u8.wrap ((q % 10:Nat):Int)=((q % 10:Nat):Int):=by
   have:q % 10<10:=Nat.mod_lt _ (by omega)
   generalize q % 10=r at*
   have:r=0∨r=1∨r=2∨r=3∨r=4∨r=5∨r=6∨r=7∨r=8∨r=9:=by omega
   rcases this with rfl | rfl | rfl | rfl | rfl | rfl | rfl | rfl | rfl | rfl <;> rfl
  have ws:IntKind.i64.wrap ((p / 10:Nat):Int)=((p / 10:Nat):Int):=wrap64' (by omega) (by omega)
  obtain⟨w1,_⟩:=digW (Nat.mod_lt q (show 0<10 by omega))
  generalize q % 10=r at*
  generalize p / 10=p2 at*
  generalize UInt8.ofNat (48+r)=c at*
  simp[B.real_whole_1_l1,go_sem,g0,g1,g3,RO.run,rd_one (hg _ _ hP),hq,wq,hp0,hp0',hpp,hpp',hr,wr,w1]
  refine(hY l st1 c hP hl).mono ?_
  rintro v s2 ⟨rfl,hP2⟩
  simp[go_sem,g0,g1,g3,hs,ws]
  exact hfin _ _ hP2 (by simp[go_sem]) (by simp[go_sem]) (by simp[go_sem,hs,ws])
 intro k
 induction k with
 | zero=>
   intro l e st1 _ hl hP g0 g1 g3
   refine step 1 l e st1 _ (by omega) (by omega) (by omega) hP g0 g1 (by simpa using g3) ?_
   intro e' s' hP' k0 k1 k3
   rw[run_loop]
   simp[B.real_whole_1_l1,go_sem,k0,k1,k3]
   rw[Nat.div_one]at hP'
   exact hP'
 | succ k ih=>
   intro l e st1 hk hl hP g0 g1 g3
   have hp1:1≤10 ^ (k+1):=Nat.pow_pos (by omega)
   have hp2:10 ^ (k+1)≤10 ^ 5:=Nat.pow_le_pow_right (by omega) (by omega)
   refine step (10 ^ (k+1)) l e st1 _ hp1 (by omega) (by omega) hP g0 g1 g3 ?_
   intro e' s' hP' k0 k1 k3
   have hp3:10 ^ (k+1) / 10=10 ^ k:=by rw[Nat.pow_succ];omega
   rw[hp3]at k3
   have:=ih (l++[UInt8.ofNat (48+n / 10 ^ (k+1) % 10)]) e' s' (by omega) (by simp;omega) hP' k0 k1 k3
   rw[List.append_assoc]at this
   exact this
theorem whole_yields (H:B.H_real_whole_1 T) {n m:Nat} (hn:n≤65536) {Y:AV} (P:List UInt8→St→Prop) (hg:∀l s,P l s→hget s.h m=some (.cells 3 false [.int .i64 (n:Int)]))
  (hY:∀l s (c:UInt8),P l s→l.length≤10→CRes (call T Y [.int .u8 (c.toNat:Int)] s) fun v s2=>v= .bool true∧P (l++[c]) s2) (hP:P [] st) {Q:St→Prop} (hQ:∀s,P (Lib.decDigits n) s→Q ⟨dropLoc st.nx s.h,s.nx⟩):
  CRes (call T (.fn 139 [] [.ptr m 0]) [Y] st) fun _ s=>Q s:=by
 refine call_any H.e H.f rfl rfl ?_
 simp[B.real_whole_1,go_sem]
 refine(whole_l0 hn (hg _ _ hP) (y:=Y) 5 0 _ rfl (.inl rfl) (by simp[go_sem]) (by simp[go_sem]) (by simp[go_sem])).mono ?_
 rintro x e s ⟨rfl,rfl,k0,k1,k,hk,k3,k4,k5⟩
 simp[go_sem,k0,k1,k3]
 refine(whole_l1 hn P hg hY k [] _ _ hk (by simp;omega) hP (by simp[go_sem]) (by simp[go_sem]) (by simp[go_sem])).mono ?_
 rintro x e s ⟨rfl,hP2⟩
 rw[digsF_dec k n k4 k5]at hP2
 simp[go_sem]
 exact hQ s (by simpa using hP2)
end Go.Ev

/- real.Print told. -/
namespace Go.Ev
open Go
variable {T : Tab} {st : St}
def pb:Nat→MCode
 | 0=>B.real_Print_1.body
 | k+1=>(pb k).b
theorem Bd.frm1 {st0 s s':St} {q m:Nat} {l:List UInt8} {o:AObj} (b:Bd st0 s q l) (f:Frm [m] s s') (hw:s.Wf) (hm:hget s.h m=some o) (h1:∀ty l cs,o≠.cells ty l cs) (h2:∀ty es cs,o≠.buf ty es cs):Bd st0 s' q l:=by
 obtain⟨k1,a,v,k2,k3,k4,k5⟩:=b
 have hq:q≠m:=by rintro rfl;rw[hm]at k2;cases k2;exact h1 _ _ _ rfl
 have hv:∀n∈v.nms,n∉[m]:=by
  intro n hn hnm
  simp at hnm
  subst hnm
  rcases k4.nms hn with ⟨ty,h⟩ | h
  ·rw[hm]at h;cases h;exact h1 _ _ _ rfl
  ·rw[hm]at h;cases h;exact h2 _ _ _ rfl
 exact⟨k1,a,v,f.get hw k2 (by simpa using hq),k3,k4.frm f hw hv,k5⟩
theorem print1_frac (H:B.H_real_Print_1 T) (st0:St):∀(k f:Nat) (first:Bool) (l:List UInt8) (q:Nat) (e:Env) (st1:St),k+1≤17→f<65536→2 ^ (17 - (k+1)) ∣ f→(first=true∨0<f)→(first=true→k=16)→l.length+k≤1000→Ext st0 st1→Bd st0 st1 q l→eget e 4= .ptr q 0→eget e 7= .int .i64 (f:Int)→eget e 8= .bool first→
  Res (run T (.loop B.real_Print_1_l1) e st1) fun x e' s'=>x= .exit 2∧Ext st0 s'∧Bd st0 s' q (l++fracS (k+1) f)∧eget e' 4= .ptr q 0:=by
 intro k
 induction k with
 | zero=>
   intro f first l q e st1 hi hf hd hgo hk hl hx b g4 g7 g8
   obtain⟨m,hm⟩:=hd
   have hf0:f=0:=by
    rw[show (2:Nat) ^ (17 - (0+1))=65536 from rfl]at hm;omega
   exfalso
   rcases hgo with h | h
   ·have:=hk h;omega
   ·omega
 | succ k ih=>
   intro f first l q e st1 hi hf hd hgo hk hl hx b g4 g7 g8
   obtain⟨a1,a2,a3,a4,a5,a6⟩:=frac_nums hf
   obtain⟨w1,w2⟩:=digW a5
   have hdv:=frac_dvd (k:=k+1) (by omega) (by omega) hd
   have hfr:fracS (k+1+1) f=UInt8.ofNat (48+f*10 / 65536)::(if f*10 % 65536=0 then []else fracS (k+1) (f*10 % 65536)):=rfl
   rw[hfr]
   generalize f*10 / 65536=d at*
   generalize f*10 % 65536=r at*
   generalize f*10=t at*
   have wd:IntKind.u8.wrap (d:Int)=(d:Int):=by
    have:d=0∨d=1∨d=2∨d=3∨d=4∨d=5∨d=6∨d=7∨d=8∨d=9:=by omega
    rcases this with rfl | rfl | rfl | rfl | rfl | rfl | rfl | rfl | rfl | rfl <;> rfl
   generalize UInt8.ofNat (48+d)=c at*
   obtain⟨OUT,hO⟩:∃OUT,OUT=l++c::(if r=0 then []else fracS (k+1) r):=⟨_,rfl⟩
   rw[←hO]
   have fin:∀e' s',Ext st0 s'→Bd st0 s' q (l++[c])→eget e' 4= .ptr q 0→eget e' 7= .int .i64 (r:Int)→eget e' 8= .bool false→
     Res (run T (.loop B.real_Print_1_l1) e' s') fun x e' s'=>x= .exit 2∧Ext st0 s'∧Bd st0 s' q OUT∧eget e' 4= .ptr q 0:=by
    intro e' s' hx' b' k4 k7 k8
    by_cases hr:r=0
    ·subst hr
     have hO':OUT=l++[c]:=by rw[hO];simp
     rw[run_loop]
     simp[B.real_Print_1_l1,go_sem,k4,k7,k8,hx',hO',b']
    ·have hO':OUT=(l++[c])++fracS (k+1) r:=by rw[hO,if_neg hr];simp
     rw[hO']
     exact ih r false (l++[c]) q e' s' (by omega) a6 hdv (.inr (by omega)) (by simp) (by simp;omega) hx' b' k4 k7 k8
   rw[run_loop]
   by_cases hf0:0<f
   ·have hf0':(0:Int)<f:=by omega
    simp[B.real_Print_1_l1,go_sem,g4,g7,g8,a1,a2,a3,a4,hf0,hf0',wd,w1]
    refine(writeByte_at H.strings_Builder_WriteByte hx c rfl b (by omega)).mono ?_
    rintro _ s1 ⟨x1,b1⟩
    simp[go_sem,a3]
    exact fin _ _ x1 b1 (by simp[go_sem]) (by simp[go_sem,a3]) (by simp[go_sem])
   ·have hf1:first=true:=by rcases hgo with h | h;exact h;exact absurd h hf0
    subst hf1
    have hf0':¬(0:Int)<f:=by omega
    simp[B.real_Print_1_l1,go_sem,g4,g7,g8,a1,a2,a3,a4,hf0,hf0',wd,w1]
    refine(writeByte_at H.strings_Builder_WriteByte hx c rfl b (by omega)).mono ?_
    rintro _ s1 ⟨x1,b1⟩
    simp[go_sem,a3]
    exact fin _ _ x1 b1 (by simp[go_sem]) (by simp[go_sem,a3]) (by simp[go_sem])
theorem Bd.dropLoc {st0 s:St} {q c:Nat} {l:List UInt8} (b:Bd st0 s q l) (hw:s.Wf):Bd st0 ⟨Go.Ev.dropLoc c s.h,s.nx⟩ q l:=by
 obtain⟨k1,a,v,k2,k3,k4,k5⟩:=b
 exact⟨k1,a,v,hget_dropLoc_keep hw k2 rfl,k3,k4.dropLoc hw,k5⟩
theorem box_not (n:Int) (l:List UInt8):[AV.int .i64 n]≠u8s l:=by
 cases l with
 | nil=>simp[u8s]
 | cons c l=>simp[u8s]
theorem print1_tail (H:B.H_real_Print_1 T) (st0:St) {q u:Nat} {pre:List UInt8} {e:Env} {s1:St} (hu:u≤4294967296) (hpre:pre.length≤1) (hx:Ext st0 s1) (b:Bd st0 s1 q pre) (g4:eget e 4= .ptr q 0) (g5:eget e 5= .int .i64 (u:Int)):
  Res (run T (pb 4) e s1) fun x e' s'=>x= .ret∧Ext st0 s'∧eget e' 1= .str (pre++(Lib.decDigits (u / 65536)++(46::fracS 17 (u % 65536))))∧eget e' 2= .int .i64 0∧eget e' 3= .int .i64 0:=by
 obtain⟨a1,a2⟩:=div65536 u
 have hq:u / 65536≤65536:=by omega
 have hr:u % 65536<65536:=by omega
 have wq:IntKind.i64.wrap ((u / 65536:Nat):Int)=((u / 65536:Nat):Int):=wrap64' (by omega) (by omega)
 generalize u / 65536=n at*
 generalize u % 65536=r at*
 simp only[pb,B.real_Print_1,ab_seq]
 simp[go_sem,g5,a1,wq]
 refine whole_call H.real_whole hx.wf ?_
 simp[go_sem]
 refine res_rangeFunc ?_
 simp[go_sem]
 have hqlt:q<s1.nx:=by
  obtain⟨_,_,_,k2,_⟩:=b
  exact hx.wf.lt _ _ k2
 have hd:=decDigits_len10 (u:=n) (by omega)
 have xa:=Ext.new hx.wf (.cells 3 false [.int .i64 (n:Int)])
 generalize hE:((17,AV.fn 139 [] [.ptr s1.nx 0])::(16,AV.int .i64 (n:Int))::(15,AV.int .i64 (u:Int))::e:Env)=E
 have q4:eget E 4= .ptr q 0:=by rw[←hE];simp[go_sem,g4]
 clear hE
 obtain⟨W,hW⟩:∃W,W=B.real_Print_1_l0:=⟨_,rfl⟩
 rw[←hW]
 generalize hO:(fun st=>AObj.loop st E [18] (MCode.reg [{dst:=some 6,guard:=none,op:=MO.p (PO.mov (AO.t 18))}]) W)=O
 have hOr:AObj.loop .ready E [18] (MCode.reg [{dst:=some 6,guard:=none,op:=MO.p (PO.mov (AO.t 18))}]) W=O .ready:=by rw[←hO]
 have hOb:AObj.loop .busy E [18] (MCode.reg [{dst:=some 6,guard:=none,op:=MO.p (PO.mov (AO.t 18))}]) W=O .busy:=by rw[←hO]
 have on1:∀z ty l cs,O z≠.cells ty l cs:=fun z ty l cs=>by rw[←hO];simp
 have on2:∀z ty es cs,O z≠.buf ty es cs:=fun z ty es cs=>by rw[←hO];simp
 have hOe:∀z,O z=AObj.loop z E [18] (MCode.reg [{dst:=some 6,guard:=none,op:=MO.p (PO.mov (AO.t 18))}]) W:=fun z=>by rw[←hO]
 rw[hOr]
 have xb:=xa.trans (Ext.new xa.wf (O .ready))
 simp only[Nat.add_assoc,Nat.reduceAdd]at xb⊢
 clear hO
 refine(whole_yields H.real_whole.real_whole_1 (n:=n) (m:=s1.nx) hq
  (fun l s=>Ext st0 s∧Bd st0 s q (pre++l)∧hget s.h (s1.nx+1)=some (O .ready)∧hget s.h s1.nx=some (.cells 3 false [.int .i64 (n:Int)])) (fun l s h=>h.2.2.2) ?_
  ⟨hx.trans xb,by simpa using b.ext xb hx.wf,by simp[hget_cons],by simp[hget_cons]⟩ (Q:=fun s=>Ext st0 s∧Bd st0 s q (pre++Lib.decDigits n)∧hget s.h (s1.nx+1)=some (O .ready)) ?_).mono ?_
 ·rintro l s c ⟨k1,k2,k3,k4⟩ hl
  rw[hOe]at k3
  refine cres_yield k3 rfl ?_
  simp[go_sem,k3]
  rw[hOr]at k3
  rw[hOb]
  have y1:Ext st0 ⟨hset s.h (s1.nx+1) (O .busy),s.nx⟩:=k1.setNew k3 (by have:=hx.nx;omega)
  have y2:=k2.frm1 (Frm.set k1.wf k3 (o:=O .busy)) k1.wf k3 (on1 _) (on2 _)
  have y3:=hget_hset_self (o:=O .busy) k3
  have y4:=(hget_hset_ne (m:=s1.nx) (o:=O .busy) k3 (by omega)).trans k4
  refine Res.mono (Q:=fun x _ s2=>x= .norm∧Ext st0 s2∧Bd st0 s2 q (pre++l++[c])∧hget s2.h (s1.nx+1)=some (O .busy)∧hget s2.h s1.nx=some (.cells 3 false [.int .i64 (n:Int)])) ?_ ?_
  ·rw[hW]
   simp[B.real_Print_1_l0,go_sem,q4]
   refine(writeByte_frm H.strings_Builder_WriteByte y1 c rfl y2 (by simp;omega)).mono ?_
   rintro _ s2 ⟨⟨z1,z2⟩,z3⟩
   have w1:=z3 (s1.nx+1) (O .busy) (by omega) y3 (fun ty=>on1 _ _ _ _) (on2 _ _ _ _)
   have w2:=z3 s1.nx _ (by omega) y4 (fun ty h=>by injection h with _ _ h;exact box_not _ _ h) (by simp)
   simp[go_sem,z1,w1,w2]
   simpa using z2
  ·rintro _ _ s2 ⟨rfl,z1,z2,w1,w2⟩
   refine⟨by rw[hOb];exact w1,?_⟩
   show AV.bool true= .bool true∧_
   rw[hOr]
   refine⟨rfl,z1.setNew w1 (by have:=hx.nx;omega),?_,hget_hset_self w1,(hget_hset_ne w1 (by omega)).trans w2⟩
   rw[←List.append_assoc]
   exact z2.frm1 (Frm.set z1.wf w1 (o:=O .ready)) z1.wf w1 (on1 _) (on2 _)
 ·rintro s ⟨k1,k2,k3,k4⟩
  exact⟨k1.dropGe (by have:=hx.nx;simp only;omega),k2.dropLoc k1.wf,by rw[hget_dropLoc_lt (by simp only;omega)];exact k3⟩
 ·rintro _ s ⟨k1,k2,k3⟩
  refine .inl ⟨k3,?_⟩
  have f:=Frm.hdel (st:=s) k1.wf (s1.nx+1)
  have y1:Ext st0 ⟨hdel s.h (s1.nx+1),s.nx⟩:=k1.frm f (by have:=hx.nx;simp;omega)
  have y2:=k2.frm1 f k1.wf k3 (on1 _) (on2 _)
  rw[g4]
  refine(writeByte_at H.strings_Builder_WriteByte y1 46 rfl y2 (by simp;omega)).mono ?_
  rintro _ s2 ⟨x2,b2⟩
  simp[go_sem,g5,a2]
  refine(print1_frac H st0 16 r true _ q _ s2 (by omega) hr (by simp) (.inl rfl) (fun _=>rfl) (by simp;omega) x2 b2 (by simp[go_sem]) (by simp[go_sem]) (by simp[go_sem])).mono ?_
  rintro x e' s3 ⟨rfl,x3,b3,g4'⟩
  have:=fracS_len 17 r
  simp[go_sem,g4']
  refine(string_res H.strings_Builder_String x3 b3 (by simp;omega) (by simp;omega)).mono ?_
  rintro v s4 ⟨rfl,x4⟩
  simp[go_sem]
  exact x4
theorem print1_tells (H:B.H_real_Print_1 T) (hwf:st.Wf) {p:Nat} {n:Int} (hp:hget st.h p=some (.cells 3 true [.int .i64 n])) (h0: -4294967296≤n) (h1:n≤4294967296):Tells T st (.fn 136 [] [.ptr p 0]) [] (.tuple [.str (printS n),.int .i64 0,.int .i64 0]):=by
 refine tells_of H.e H.f rfl ?_
 have hx:=Ext.new hwf (.cells 84 false [.nilptr,.nilslice])
 have hb:Bd st ⟨(st.nx,.cells 84 false [.nilptr,.nilslice])::st.h,st.nx+1⟩ st.nx []:=⟨Nat.le_refl _,.nilptr,.nilslice,by simp[hget_cons],.inl rfl,.nil _ _,by simp[AV.nms]⟩
 have hp0:=hx.get hwf hp
 refine cut (c:=pb 0) rfl (by intro l;simp[pb,B.real_Print_1,ab_seq]) (fun x e' s'=>x= .norm∧s'=st∧eget e' 0= .ptr p 0) ?_ ?_
 ·simp only[pb,B.real_Print_1,ab_seq]
  simp[go_sem]
 rintro _ e1 s1 ⟨rfl,hst,g0⟩
 rw[kSeq_norm,hst]
 clear hst
 refine cut (c:=pb 1) rfl (by intro l;simp[pb,B.real_Print_1,ab_seq]) (fun x e' s'=>x= .norm∧s'=⟨(st.nx,.cells 84 false [.nilptr,.nilslice])::st.h,st.nx+1⟩∧eget e' 0= .ptr p 0∧eget e' 4= .ptr st.nx 0) ?_ ?_
 ·simp only[pb,B.real_Print_1,ab_seq]
  simp[go_sem,NO.run,g0]
 rintro _ e2 s2 ⟨rfl,hst,g0,g4⟩
 rw[kSeq_norm,hst]
 clear hst
 have hp1:rdCell (⟨(st.nx,.cells 84 false [.nilptr,.nilslice])::st.h,st.nx+1⟩:St).h p 0=some (.int .i64 n):=rd_one hp0
 generalize hS:(⟨(st.nx,.cells 84 false [.nilptr,.nilslice])::st.h,st.nx+1⟩:St)=sA at hx hb hp1⊢
 clear hS
 refine cut (c:=pb 2) rfl (by intro l;simp[pb,B.real_Print_1,ab_seq]) (fun x e' s'=>x= .norm∧s'=sA∧eget e' 4= .ptr st.nx 0∧eget e' 5= .int .i64 n) ?_ ?_
 ·simp only[pb,B.real_Print_1,ab_seq]
  simp[go_sem,RO.run,g0,g4,hp1]
 rintro _ e3 s3 ⟨rfl,hst,g4,g5⟩
 rw[kSeq_norm,hst]
 clear hst
 refine cut (c:=pb 3) rfl (by intro l;simp[pb,B.real_Print_1,ab_seq]) (fun x e' s'=>x= .norm∧eget e' 4= .ptr st.nx 0∧∃(u:Nat) (pre:List UInt8),eget e' 5= .int .i64 (u:Int)∧u≤4294967296∧pre.length≤1∧Ext st s'∧Bd st s' st.nx pre∧printS n=pre++(Lib.decDigits (u / 65536)++(46::fracS 17 (u % 65536)))) ?_ ?_
 ·simp only[pb,B.real_Print_1,ab_seq]
  by_cases hn:n<0
  ·obtain⟨u,hu⟩:∃u:Nat,n= -(u:Int):=⟨n.natAbs,by omega⟩
   have e1:IntKind.i64.wrap (-n)=u:=by rw[wrap64' (by omega) (by omega)];omega
   simp[go_sem,g4,g5,hn]
   refine(writeByte_at H.strings_Builder_WriteByte hx 45 rfl hb (by simp)).mono ?_
   rintro _ s1 ⟨x1,b1⟩
   simp[go_sem,g4,g5,e1]
   exact⟨u,rfl,by omega,[45],by simp,x1,by simpa using b1,by rw[hu,printS_neg (by omega)];rfl⟩
  ·obtain⟨u,rfl⟩:=Int.eq_ofNat_of_zero_le (show 0≤n by omega)
   simp[go_sem,g4,g5,hn]
   exact⟨u,rfl,by omega,[],by simp,hx,hb,by rw[printS_pos];rfl⟩
 rintro _ e4 s4 ⟨rfl,g4,u,pre,g5,hu,hpre,x4,b4,hpr⟩
 rw[kSeq_norm,hpr]
 refine(print1_tail H st (q:=st.nx) hu hpre x4 b4 g4 g5).mono ?_
 rintro _ e5 s5 ⟨rfl,x5,k1,k2,k3⟩
 refine⟨.inr rfl,?_⟩
 simp[B.real_Print_1,fresults,resVals,resVal,RO.run,k1,k2,k3,x5]
theorem realPrint_tells (H:B.H_real_Print T) (hwf:st.Wf) {n:Int} (h0: -2147483648≤n) (h1:n≤2147483648):Tells T st (.fn 133 [] []) [.int .i64 n] (.tuple [.str (printS n),.int .i64 0]):=by
 refine tells_of H.e H.f rfl ?_
 have hx:=Ext.new hwf (.cells 3 true [.int .i64 n])
 have hx2:=hx.trans (Ext.new hx.wf (.cells 3 false [.int .i64 n]))
 simp only[Nat.add_assoc,Nat.reduceAdd]at hx2
 have hr:Tells T ⟨(st.nx+1,.cells 3 false [.int .i64 n])::(st.nx,.cells 3 true [.int .i64 n])::st.h,st.nx+2⟩ (.fn 137 [] []) [.fn 136 [] [.ptr st.nx 0],.slice (st.nx+1) 0 1 (.known 1)] (.tuple [.str (printS n),.int .i64 0]):=by
  refine tells_of H.real_result_string.e H.real_result_string.f rfl ?_
  simp[B.real_result_string,go_sem]
  rw[run_loop]
  simp[B.real_result_string_l0,go_sem,RO.run,rdCell,hget_cons]
  refine(is110_tells H.real_result_string.real_Is hx2.wf).use fun s1 x1=> ?_
  simp[go_sem,h0,h1]
  rw[run_loop,show IntKind.i64.wrap 1=1 from rfl]
  simp[B.real_result_string_l0,go_sem]
  have hp:hget s1.h st.nx=some (.cells 3 true [.int .i64 n]):=x1.get hx2.wf (by simp[hget_cons])
  refine(print1_tells H.real_Print_1 x1.wf hp (by omega) (by omega)).use fun s2 x2=> ?_
  simp[go_sem]
  refine(is110_tells H.real_result_string.real_Is x2.wf).use fun s3 x3=> ?_
  simp[go_sem]
  exact(x1.trans x2).trans x3
 simp[B.real_Print,go_sem,NO.run,RO.run,rdCell,hget_cons,Nat.add_assoc]
 refine hr.use fun s1 x1=> ?_
 simp[go_sem]
 exact hx2.trans x1
end Go.Ev

/- lex.Text; the token of a draft. -/
namespace Go.Ev
open Go
variable {T : Tab} {st : St}
def Pow (st:St):Prop:=∃m cs,hget st.h m=some (.glob B.gPow10 cs)∧cs.map B.av64=Lib.pow10Tab.map some
theorem Pow.ext {s:St} (h:Pow st) (x:Ext st s) (hw:st.Wf):Pow s:=by
 obtain⟨m,cs,h1,h2⟩:=h
 exact⟨m,cs,x.get hw h1,h2⟩
theorem itoa_call (H:B.H_strconv_Itoa T) (hp:Pow st) {n:Int} (h0: -9223372036854775808≤n) (h1:n≤9223372036854775807):call T (.fn 132 [] []) [.int .i64 n] st=some (.str (Lib.itoa n),st):=by
 obtain⟨m,cs,k1,k2⟩:=hp
 rw[call_entry H.en]
 simp only[List.nil_append,List.append_nil,B.E_strconv_Itoa]
 rw[if_pos ⟨hasPow_of k1 k2,h0,h1⟩]
def tb:Nat→MCode
 | 0=>B.chaseref03_Draft_Token.body
 | k+1=>(tb k).b
end Go.Ev

/- The token of a draft; LexTexts. -/
namespace Go.Ev
open Go
variable {T : Tab} {st : St}
end Go.Ev

/- LexTexts: the law told. -/
namespace Go.Ev
open Go
variable {T : Tab} {st : St}
end Go.Ev

/- Structs of two numbers and a text among the arguments; a table of the library among the objects. -/
namespace Go.Ev
open Go Go.RowKit Go.ChangeShapes Go.WideShapes Go.Deep Go.Joins
def powAV:List AV:=Lib.pow10Tab.map fun z=> .int .u64 z
theorem vrs_ints {X:Cx} {N:Nu}:∀zs:List Int,VRs X N (zs.map fun z=> .int .u64 z) (zs.map fun z=>Value.int .u64 z)
 | []=>rfl
 | z::zs=>⟨_,_,rfl,rfl,vrs_ints zs⟩
theorem wf_i32 {n:Int} (h:(Lit.int .i32 n).wf=true): -2147483648≤n∧n≤2147483647:=by
 simp[Lit.wf,IntKind.min,IntKind.max,IntKind.signed,IntKind.bits]at h
 omega
end Go.Ev

/- strings.Join as an entry of the table. -/
namespace Go.Ev
open Go Go.RowKit
variable {X : Cx} {D : ChkD} {T : Tab} {st : St}
namespace B
end B
end Go.Ev

/- The abstract bodies of the functions, printed by a program of this work. -/
namespace Go.Ev.B
open Go
end Go.Ev.B

/- The plain law of LexBack: quoted strings, names and ints are read back. -/
namespace Go.Ev
open Go
end Go.Ev

/- The plain law of bases: digits in any base are read back. -/
namespace Go.Ev
open Go
def bdig (i:Nat):UInt8:=if i<10 then UInt8.ofNat (48+i)else UInt8.ofNat (55+i)
def baseD (b u:Nat):List UInt8:=
 if h:u<b∨b<2 then [bdig u]else baseD b (u / b)++[bdig (u % b)]
termination_by u
decreasing_by exact Nat.div_lt_self (by omega) (by omega)
theorem baseD_small {b u:Nat} (h:u<b):baseD b u=[bdig u]:=by rw[baseD,dif_pos (.inl h)]
theorem baseD_big {b u:Nat} (hb:2≤b) (h:¬u<b):baseD b u=baseD b (u / b)++[bdig (u % b)]:=by rw[baseD,dif_neg (by omega)]
theorem bdig_facts {i:Nat} (h:i<36):digV (bdig i)=i∧digV (Lib.lowerB (bdig i))=i∧(bdig i).toNat<128:=by
 have hk:(List.range 36).all (fun i=>decide (digV (bdig i)=i) && (decide (digV (Lib.lowerB (bdig i))=i) && decide ((bdig i).toNat<128)))=true:=by kernel_rfl
 have:=List.all_eq_true.1 hk i (List.mem_range.2 h)
 simpa using this
theorem cntFrom_append (C:Nat) (base:Int):∀(X Y:List UInt8) (n:Nat),cntFrom C base n (X++Y)=(cntFrom C base n X).bind fun m=>cntFrom C base m Y
 | [],Y,n=>rfl
 | c::X,Y,n=>by
   simp only[List.cons_append,cntFrom]
   split
   ·rfl
   ·exact cntFrom_append C base X Y _
theorem cnt_baseD {b:Nat} (hb:2≤b) (hb2:b≤36) {C:Nat} (g:UInt8→UInt8) (hg:∀i,i<36→digV (g (bdig i))=i):∀u:Nat,u≤C→cntFrom C (b:Int) 0 ((baseD b u).map g)=some u:=by
 intro u
 induction u using Nat.strongRecOn with
 | _ u ih=>
   intro hu
   by_cases h:u<b
   ·rw[baseD_small h]
    simp only[List.map_cons,List.map_nil,cntFrom]
    rw[hg u (by omega),if_neg (by omega)]
    simp;omega
   ·have hlt:u % b<b:=Nat.mod_lt _ (by omega)
    have hdm:=Nat.div_add_mod u b
    have hq:=Nat.div_lt_self (n:=u) (k:=b) (by omega) (by omega)
    rw[baseD_big hb h,List.map_append,cntFrom_append,ih (u / b) hq (by omega)]
    generalize u / b=q at*
    generalize u % b=r at*
    simp only[Option.bind_some,List.map_cons,List.map_nil,cntFrom]
    rw[hg r (by omega),if_neg (by omega)]
    simp only[Int.toNat_natCast,Option.some.injEq]
    rw[Nat.mul_comm q b]
    omega
end Go.Ev

/- The plain law of LexBack: the decimal texts of ints and reals are read back. -/
namespace Go.Ev
open Go
theorem dec_base:∀u:Nat,Lib.decDigits u=baseD 10 u:=by
 intro u
 induction u using Nat.strongRecOn with
 | _ u ih=>
   have hd:∀i,i<10→bdig i=UInt8.ofNat (48+i):=fun i h=>by unfold bdig;rw[if_pos h]
   by_cases h:u<10
   ·rw[decDigits_small h,baseD_small h,hd u h]
   ·rw[decDigits_big h,baseD_big (by omega) h,ih (u / 10) (by omega),hd _ (Nat.mod_lt _ (by omega))]
theorem regAll_of:∀{l:List UInt8},(∀c∈l,isReg c=true)→regAll l=true
 | [],_=>rfl
 | c::l,h=>by simp[regAll,h c List.mem_cons_self,regAll_of (l:=l) fun x hx=>h x (List.mem_cons_of_mem _ hx)]
theorem dig_reg {c:UInt8} (h:isDig c=true):isReg c=true∧c≠45∧c≠43∧c≠35∧c≠46:=by
 have hk:(List.range 256).all (fun n=> !isDig (UInt8.ofNat n) || (isReg (UInt8.ofNat n) && (decide (UInt8.ofNat n≠45) && (decide (UInt8.ofNat n≠43) && (decide (UInt8.ofNat n≠35) && decide (UInt8.ofNat n≠46))))))=true:=by kernel_rfl
 have:=all_octets hk c
 simp only[UInt8.ofNat_toNat,h]at this
 simpa using this
theorem digc {d:Nat} (h:d<10):isDig (UInt8.ofNat (48+d))=true∧(UInt8.ofNat (48+d)).toNat - 48=d:=by
 have hk:(List.range 10).all (fun d=>isDig (UInt8.ofNat (48+d)) && decide ((UInt8.ofNat (48+d)).toNat - 48=d))=true:=by kernel_rfl
 have:=List.all_eq_true.1 hk d (List.mem_range.2 h)
 simpa using this
theorem dec_dig:∀u:Nat,∀c∈Lib.decDigits u,isDig c=true:=by
 intro u
 induction u using Nat.strongRecOn with
 | _ u ih=>
   intro c hc
   by_cases h:u<10
   ·rw[decDigits_small h]at hc
    simp only[List.mem_singleton]at hc
    subst hc
    exact(digc h).1
   ·rw[decDigits_big h]at hc
    rcases List.mem_append.1 hc with hc | hc
    ·exact ih _ (by omega) c hc
    ·simp only[List.mem_singleton]at hc
     subst hc
     exact(digc (Nat.mod_lt _ (by omega))).1
def valC (l:List UInt8):List Nat:=l.map fun c=>c.toNat - 48
theorem dec_num:∀u:Nat,numD (valC (Lib.decDigits u))=u:=by
 intro u
 induction u using Nat.strongRecOn with
 | _ u ih=>
   by_cases h:u<10
   ·rw[decDigits_small h]
    simp only[valC,List.map_cons,List.map_nil,(digc h).2]
    simp[numD]
   ·rw[decDigits_big h]
    have h1:valC (Lib.decDigits (u / 10)++[UInt8.ofNat (48+u % 10)])=valC (Lib.decDigits (u / 10))++[u % 10]:=by
     simp only[valC,List.map_append,List.map_cons,List.map_nil,(digc (Nat.mod_lt u (show 0<10 by omega))).2]
    rw[h1,numD_append,ih _ (by omega)]
    simp[numD]
    omega
theorem spanD_app:∀(D R:List UInt8),(∀c∈D,isDig c=true)→(∀c r,R=c::r→isDig c=false)→spanD (D++R)=(valC D,R)
 | [],[],_,_=>rfl
 | [],c::r,_,h=>by
   have:=h c r rfl
   simp only[List.nil_append,spanD]
   rw[if_neg (fun h'=>by rw[(isDig_iff c).2 h']at this;cases this)]
   rfl
 | c::D,R,hd,h=>by
   have hc:=(isDig_iff c).1 (hd c List.mem_cons_self)
   simp only[List.cons_append,spanD]
   rw[if_pos hc,spanD_app D R (fun x hx=>hd x (List.mem_cons_of_mem _ hx)) h]
   rfl
theorem frac_num:∀(k f:Nat),k≤17→f<65536→2 ^ (17 - k) ∣ f→65536*numD (valC (fracS k f))=f*10 ^ (fracS k f).length∧∀c∈fracS k f,isDig c=true
 | 0,f,_,hf,hd=>by
   obtain⟨m,hm⟩:=hd
   have:f=0:=by
    rw[show (2:Nat) ^ (17 - 0)=131072 from rfl]at hm;omega
   subst this
   simp[fracS,valC,numD]
 | k+1,f,hk,hf,hd=>by
   have h5:f*10 / 65536<10:=by omega
   obtain⟨c1,c2⟩:=digc h5
   have hdm:=Nat.div_add_mod (f*10) 65536
   have hr:f*10 % 65536<65536:=Nat.mod_lt _ (by omega)
   simp only[fracS]
   by_cases h0:f*10 % 65536=0
   ·rw[if_pos h0]
    refine⟨?_,fun c hc=> ?_⟩
    ·simp only[valC,List.map_cons,List.map_nil,c2,numD_cons,List.length_cons,List.length_nil]
     simp[numD]
     omega
    ·simp only[List.mem_singleton]at hc;subst hc;exact c1
   ·rw[if_neg h0]
    have hk1:1≤k:=by
     rcases Nat.eq_zero_or_pos k with h | h
     ·subst h
      exfalso
      obtain⟨m,hm⟩:=hd
      rw[show (2:Nat) ^ (17 - (0+1))=65536 from rfl]at hm
      have:f=0:=by omega
      subst this
      simp at h0
     ·exact h
    obtain⟨e1,e2⟩:=frac_num k (f*10 % 65536) (by omega) hr (frac_dvd hk1 (by omega) hd)
    refine⟨?_,fun c hc=> ?_⟩
    ·have hv:valC (UInt8.ofNat (48+f*10 / 65536)::fracS k (f*10 % 65536))=(f*10 / 65536)::valC (fracS k (f*10 % 65536)):=by simp only[valC,List.map_cons,c2]
     rw[hv,numD_cons,List.length_cons,Nat.pow_succ]
     have hl:(valC (fracS k (f*10 % 65536))).length=(fracS k (f*10 % 65536)).length:=by simp[valC]
     rw[hl]
     generalize f*10 / 65536=d at*
     generalize f*10 % 65536=r at*
     generalize numD (valC (fracS k r))=A at*
     generalize 10 ^ (fracS k r).length=p at*
     have e3:65536*(d*p+A)=(65536*d+r)*p:=by
      rw[Nat.mul_add,e1,Nat.add_mul,Nat.mul_assoc]
     rw[e3,hdm,Nat.mul_comm p 10,Nat.mul_assoc]
    ·rcases List.mem_cons.1 hc with rfl | hc
     ·exact c1
     ·exact e2 c hc
theorem unsign_dig {s:List UInt8} (h:∀c r,s=c::r→isDig c=true):unsign s=(s,1):=by
 unfold unsign
 split
 ·rename_i r;have:=h 45 r rfl;cases this
 ·rename_i r;have:=h 43 r rfl;cases this
 ·rfl
theorem sgn_dig {s:List UInt8} (h:∀c r,s=c::r→isDig c=true):sgn s=(false,s):=by
 unfold sgn
 split
 ·rename_i c r
  have:=(dig_reg (h c r rfl)).2
  rw[if_neg this.1,if_neg this.2.1]
 ·rfl
theorem dec_head (u:Nat) (R:List UInt8):∀c r,Lib.decDigits u++R=c::r→isDig c=true:=by
 intro c r h
 have h1:1≤(Lib.decDigits u).length:=by
  by_cases h:u<10
  ·rw[decDigits_small h];simp
  ·rw[decDigits_big h];simp
 cases hd:Lib.decDigits u with
 | nil=>rw[hd]at h1;simp at h1
 | cons x l=>
   rw[hd]at h
   simp only[List.cons_append,List.cons.injEq]at h
   rw[←h.1]
   exact dec_dig u x (by rw[hd];exact List.mem_cons_self)
theorem cnt_dec (u C:Nat) (h:u≤C):cntFrom C 10 0 (Lib.decDigits u)=some u:=by
 have:=cnt_baseD (b:=10) (by omega) (by omega) (C:=C) id (fun i hi=>(bdig_facts hi).1) u h
 rw[List.map_id,←dec_base]at this
 exact this
theorem itoa_back {n:Int} (h0: -2147483648≤n) (h1:n≤2147483647):wordT (Lib.itoa n)=(1,n,[],0)∧(Lib.itoa n).length≤11∧regAll (Lib.itoa n)=true∧Lib.itoa n≠[]:=by
 have key:∀(u:Nat) (sg:Int) (s:List UInt8),u≤2147483648→(sg=1∨sg= -1)→-2147483648≤sg*u→sg*u≤2147483647→unsign s=(Lib.decDigits u,sg)→s.length≤11→regAll s=true→s≠[]→wordT s=(1,sg*u,[],0):=by
  intro u sg s hu hsg k0 k1 hun hl hr hs
  have hc:cntS 10 (Lib.decDigits u)=(u,true):=by
   unfold cntS
   rw[cnt_dec u _ (by omega)]
   have:=(decDigits_len10 (u:=u) (by omega)).1
   have hne:Lib.decDigits u≠[]:=by intro h;rw[h]at this;simp at this
   simp[hne]
  have hw:wholeT s=(1,sg*u,0):=by
   unfold wholeT
   rw[hun,hc]
   simp only[if_true]
   unfold ansT
   rw[if_neg (by omega)]
  have hn:numT s=(1,sg*u,0):=by
   unfold numT
   rw[hw,if_pos (by simp)]
  unfold wordT
  rw[if_neg (by simp[hs,hr]),hn,if_pos (by simp)]
 by_cases hn:n<0
 ·obtain⟨u,hu⟩:∃u:Nat,n= -(u:Int):=⟨n.natAbs,by omega⟩
  have e2:Lib.itoa n=45::Lib.decDigits u:=by unfold Lib.itoa;rw[if_pos hn,hu];simp
  have hl:=decDigits_len10 (u:=u) (by omega)
  have hr:regAll (45::Lib.decDigits u)=true:=regAll_of fun c hc=>by
   rcases List.mem_cons.1 hc with rfl | hc
   ·rfl
   ·exact(dig_reg (dec_dig u c hc)).1
  rw[e2]
  refine⟨?_,by simp;omega,hr,by simp⟩
  rw[key u (-1) _ (by omega) (.inr rfl) (by omega) (by omega) rfl (by simp;omega) hr (by simp),hu]
  simp
 ·obtain⟨u,rfl⟩:=Int.eq_ofNat_of_zero_le (show 0≤n by omega)
  have e2:Lib.itoa (u:Int)=Lib.decDigits u:=by unfold Lib.itoa;rw[if_neg hn];simp
  have hl:=decDigits_len10 (u:=u) (by omega)
  have hr:regAll (Lib.decDigits u)=true:=regAll_of fun c hc=>(dig_reg (dec_dig u c hc)).1
  have hne:Lib.decDigits u≠[]:=by intro h;rw[h]at hl;simp at hl
  rw[e2]
  refine⟨?_,by omega,hr,hne⟩
  have hun:unsign (Lib.decDigits u)=(Lib.decDigits u,1):=unsign_dig (by simpa using dec_head u [])
  rw[key u 1 _ (by omega) (.inl rfl) (by omega) (by omega) hun (by omega) hr hne]
  simp
theorem cntFrom_46 (C:Nat):∀(s:List UInt8) (n:Nat),46∈s→cntFrom C 10 n s=none
 | c::s,n,h=>by
   simp only[cntFrom]
   split
   ·rfl
   ·rename_i hc
    rcases List.mem_cons.1 h with rfl | h
    ·exact absurd (show (digV 46:Int)≥10 by have:digV 46=99:=rfl;omega) hc
    ·exact cntFrom_46 C s _ h
theorem print_back {n:Int} (h0: -2147483648≤n) (h1:n≤2147483648):wordT (printS n)=(2,n,[],0)∧(printS n).length≤29∧regAll (printS n)=true:=by
 obtain⟨u,neg,hn,hu,hneg⟩:∃(u:Nat) (neg:Bool),n=(if neg=true then -(u:Int)else u)∧u≤2147483648∧(neg=true→0<u):=by
  by_cases h:n<0
  ·exact⟨n.natAbs,true,by simp;omega,by omega,fun _=>by omega⟩
  ·exact⟨n.natAbs,false,by simp;omega,by omega,fun h=>by cases h⟩
 obtain⟨F,hF⟩:∃F,F=fracS 17 (u % 65536):=⟨_,rfl⟩
 obtain⟨D,hD⟩:∃D,D=Lib.decDigits (u / 65536):=⟨_,rfl⟩
 have hp:printS n=(if neg=true then [45]else [])++(D++(46::F)):=by
  rw[hn,hF,hD]
  cases hb:neg with
  | true=>simp only[if_true];rw[printS_neg (hneg hb)];rfl
  | false=>simp only[Bool.false_eq_true,if_false];rw[printS_pos];rfl
 have hDl:=decDigits_len10 (u:=u / 65536) (by omega)
 rw[←hD]at hDl
 have hFl:=fracS_len 17 (u % 65536)
 rw[←hF]at hFl
 have hDd:∀c∈D,isDig c=true:=by rw[hD];exact dec_dig _
 have hr:u % 65536<65536:=Nat.mod_lt _ (by omega)
 obtain⟨q1,q2⟩:=frac_num 17 (u % 65536) (by omega) hr (by simp)
 rw[←hF]at q1 q2
 have hDn:numD (valC D)=u / 65536:=by rw[hD];exact dec_num _
 have hhead:∀c r,D++(46::F)=c::r→isDig c=true:=by rw[hD];exact dec_head _ _
 have hdm:=Nat.div_add_mod u 65536
 have hch:∀c∈printS n,isReg c=true∧c≠35:=by
  intro c hc
  rw[hp]at hc
  have hdg:isDig c=true→isReg c=true∧c≠35:=fun h=>⟨(dig_reg h).1,(dig_reg h).2.2.2.1⟩
  rcases List.mem_append.1 hc with hc | hc
  ·cases neg with
   | true=>simp at hc;subst hc;exact⟨rfl,by decide⟩
   | false=>simp at hc
  ·rcases List.mem_append.1 hc with hc | hc
   ·exact hdg (hDd c hc)
   ·rcases List.mem_cons.1 hc with rfl | hc
    ·exact⟨rfl,by decide⟩
    ·exact hdg (q2 c hc)
 have hreg:regAll (printS n)=true:=regAll_of fun c hc=>(hch c hc).1
 have hlen:(printS n).length≤29:=by
  rw[hp]
  simp only[List.length_append,List.length_cons]
  split <;> simp <;> omega
 refine⟨?_,hlen,hreg⟩
 have hne:printS n≠[]:=by rw[hp];simp
 have hsgn:sgn (printS n)=(neg,D++(46::F)):=by
  rw[hp]
  cases neg with
  | true=>rfl
  | false=>simpa using sgn_dig hhead
 have hun:(unsign (printS n)).1=D++(46::F):=by
  rw[hp]
  cases neg with
  | true=>rfl
  | false=>simp only[Bool.false_eq_true,if_false,List.nil_append];rw[unsign_dig hhead]
 have hsp1:spanD (D++(46::F))=(valC D,46::F):=spanD_app D _ hDd (fun c r h=>by cases h;rfl)
 have hsp2:spanD F=(valC F,[]):=by
  have:=spanD_app F [] q2 (fun c r h=>by cases h)
  simpa using this
 have hL:decL (printS n)=valC D++valC F:=by
  unfold decL
  rw[hsgn]
  simp only[hsp1,oneB,List.tail_cons,hsp2]
  simp
 have hR:decR (printS n)=[]:=by
  unfold decR
  rw[hsgn]
  simp only[hsp1,oneB,List.tail_cons,hsp2]
  simp
 have hdec:decD (printS n)=some (neg,valC D++valC F,((valC D).length:Int)):=by
  unfold decD
  rw[hL,hR,hsgn]
  simp only[hsp1]
  have:valC D++valC F≠[]:=by
   intro h
   have:(valC D).length=0:=by rw[(List.append_eq_nil_iff.1 h).1];rfl
   simp[valC]at this
   rw[this]at hDl;simp at hDl
  rw[if_neg this]
  simp[oneB]
 have hld:=(decD_facts hdec).2.1
 have hex:(((valC D).length:Int) - ((valC D++valC F).length:Int))= -((valC F).length:Int):=by simp;omega
 have hFlen:(valC F).length=F.length:=by simp[valC]
 have hval:131072*numD (valC D++valC F)=10 ^ F.length*(2*u):=by
  rw[numD_append,hDn,hFlen]
  generalize 10 ^ F.length=p at*
  generalize numD (valC F)=A at*
  generalize u / 65536=a at*
  generalize u % 65536=b at*
  have e1:131072*(a*p+A)=2*(65536*(a*p)+65536*A):=by omega
  rw[e1,q1]
  have e2:65536*(a*p)+b*p=u*p:=by rw[←hdm,Nat.add_mul,Nat.mul_assoc]
  rw[e2,Nat.mul_comm u p,←Nat.mul_assoc,Nat.mul_comm 2 p,Nat.mul_assoc]
 have hpp:0<10 ^ F.length:=Nat.pow_pos (by omega)
 have hN:unitsN (valC D++valC F) (((valC D).length:Int) - ((valC D++valC F).length:Int))=2*u∧unitsR (valC D++valC F) (((valC D).length:Int) - ((valC D++valC F).length:Int))=false:=by
  unfold unitsN unitsR
  rw[hex,hFlen,show (-(F.length:Int)).toNat=0 by omega,show (-(-(F.length:Int))).toNat=F.length by omega,hval]
  refine⟨?_,?_⟩
  ·rw[Nat.pow_zero,Nat.mul_one,Nat.mul_div_cancel_left _ hpp]
  ·rw[Nat.pow_zero,Nat.mul_one,Nat.mul_mod_right];rfl
 have hround:roundR neg (valC D++valC F) (((valC D).length:Int) - ((valC D++valC F).length:Int))=n:=by
  unfold roundR
  rw[acc_units hld,hN.1,hN.2,Nat.min_eq_left (by omega),hn]
  cases neg with
  | true=>simp;omega
  | false=>simp;omega
 have hparse:parseS (printS n)=(n,0):=by
  unfold parseS
  rw[if_neg (by omega),hdec]
  simp only
  rw[val_law hld,hround,if_pos ⟨h0,h1⟩]
 have h46:46∈printS n:=by rw[hp];simp
 have hw:wholeT (printS n)=(0,0,5):=by
  have hc:cntR 10 (unsign (printS n)).1= -1:=by
   rw[hun]
   unfold cntR
   rw[cntFrom_46 _ _ _ (by simp)]
   split <;> rfl
  rw[whole_law,hc,if_neg (by omega)]
 have ht:∀i,tryR (printS n) i=none:=by
  intro i
  unfold tryR
  rw[if_neg]
  rintro⟨h,_⟩
  exact(hch 35 (List.mem_of_getElem? h)).2 rfl
 have hrx:radixT (printS n)=(0,0,5):=by rw[radix_law,ht 1,ht 2]
 have hdt:decT (printS n)=(2,n,0):=by
  unfold decT
  have ha:anyOf [46,101,69] (printS n)=true:=by
   unfold anyOf
   rw[List.any_eq_true]
   exact⟨46,h46,by decide⟩
  rw[ha,patS_eq,hdec,hparse]
  simp
 have hnum:numT (printS n)=(2,n,0):=by
  unfold numT
  rw[hw,if_neg (by simp),hrx,if_neg (by simp),hdt]
 unfold wordT
 rw[if_neg (by simp[hne,hreg]),hnum,if_pos (by simp)]
end Go.Ev

/- The plain law of LexBack: what a valid token's text is; texts are distinct. -/
namespace Go.Ev
open Go
end Go.Ev

/- LexBack: the law told. -/
namespace Go.Ev
open Go
variable {T : Tab} {st : St}
end Go.Ev

/- What the functions of ascii tell: octets. -/
namespace Go.Ev
open Go
variable {T : Tab} {st : St}
def blankC (c:UInt8):Bool:=decide (c=0) || (decide (c=9) || (decide (c=10) || (decide (c=12) || (decide (c=13) || decide (c=32)))))
def nibV (c:UInt8):Int:=if 48≤c.toNat∧c.toNat≤57 then(c.toNat:Int) - 48 else if 65≤c.toNat∧c.toNat≤70 then(c.toNat:Int) - 55 else if 97≤c.toNat∧c.toNat≤102 then(c.toNat:Int) - 87 else -1
end Go.Ev

/- What is skipped: white space and comments; the regular characters ahead. -/
namespace Go.Ev
open Go
variable {T : Tab} {st : St}
def runN (p:UInt8→Bool):List UInt8→Nat
 | []=>0
 | c::r=>if p c=true then runN p r+1 else 0
def skp:Bool→List UInt8→Nat
 | _,[]=>0
 | true,c::r=>if c=10∨c=13 then skp false r+1 else skp true r+1
 | false,c::r=>if blankC c=true then skp false r+1 else if c=37 then skp true r+1 else 0
end Go.Ev

/- The reader skips white space and comments. -/
namespace Go.Ev
open Go
variable {T : Tab} {st : St}
end Go.Ev

/- Tokens with a text; numbers out of octets. -/
namespace Go.Ev
open Go
variable {T : Tab} {st : St}
abbrev T3:=(Int×Int×List UInt8)×Nat×Int
def err3 (e:Int):T3:=((0,0,[]),0,e)
def textK (k:Int) (x:List UInt8) (n:Nat):T3:=
 if(k=6∧1000<x.length)∨(k≠6∧100<x.length)then err3 26 else if rightT k 0 x=true then((k,0,x),n,0)else err3 37
end Go.Ev

/- Numbers out of octets. -/
namespace Go.Ev
open Go
variable {T : Tab} {st : St}
def numF (n:Int):List UInt8→Int
 | []=>n
 | c::r=>numF (n*256+c.toNat) r
def numU (s:List UInt8):Int:=numF 0 s
def numS:List UInt8→Int
 | []=>0
 | c::r=>numF (if 128≤c.toNat then -1 else 0) (c::r)
end Go.Ev

/- Binary tokens. -/
namespace Go.Ev
open Go
variable {T : Tab} {st : St}
def fixR (k:Int) (long:Nat) (rest:List UInt8):T3:=if rest.length<long then err3 37 else((k,numS (rest.take long),[]),1+long,0)
def cntR4 (k:Int) (long:Nat) (rest:List UInt8):T3:=
 if rest.length<long then err3 37
 else if(rest.drop long).length<(numU (rest.take long)).toNat then err3 37
 else textK k ((rest.drop long).take (numU (rest.take long)).toNat) (1+long+(numU (rest.take long)).toNat)
def binR (c:UInt8) (rest:List UInt8):T3:=
 if c=128 then fixR 1 4 rest else if c=129 then fixR 1 1 rest else if c=130 then fixR 1 2 rest else if c=131 then fixR 2 4 rest
 else if c=132 then cntR4 6 1 rest else if c=133 then cntR4 6 2 rest else if c=134 then cntR4 4 1 rest else if c=135 then cntR4 3 1 rest else if c=136 then cntR4 5 1 rest
 else err3 37
end Go.Ev

/- The reference's binary tokens. -/
namespace Go.Ev
open Go
variable {T : Tab} {st : St}
end Go.Ev

/- The reference's Unhex. -/
namespace Go.Ev
open Go
variable {T : Tab} {st : St}
def hexG:List UInt8→Nat→List Nat→Option (List Nat×Nat)
 | [],_,_=>none
 | c::r,i,l=>if c=62 then some (l,i+1)else if blankC c=true then hexG r (i+1) l else if nibV c<0 then none else hexG r (i+1) (l++[(nibV c).toNat])
def prs:List Nat→List UInt8
 | []=>[]
 | [a]=>[UInt8.ofNat (16*a)]
 | a::b::r=>UInt8.ofNat (16*a+b)::prs r
def hexT (s:List UInt8):List UInt8×Nat×Int:=
 if 65536<s.length then([],0,3)else match hexG s 0 []with
  | none=>([],0,5)
  | some (l,n)=>(prs l,n,0)
end Go.Ev

/- The reference's Unhex told. -/
namespace Go.Ev
open Go
variable {T : Tab} {st : St}
end Go.Ev

/- Decoders that take octets one by one: what they write to, and the octets that are not blank. -/
namespace Go.Ev
open Go
variable {T : Tab} {st : St}
end Go.Ev

/- What a decoder reads: over any step. -/
namespace Go.Ev
open Go
variable {T : Tab} {st : St}
def runD {σ:Type} (stepF:σ→UInt8→Option (Bool×σ)):σ→List UInt8→Nat→Option (σ×Nat)
 | _,[],_=>none
 | x,c::r,i=>if blankC c=true then runD stepF x r (i+1)else match stepF x c with
   | none=>none
   | some (true,x')=>some (x',i+1)
   | some (false,x')=>runD stepF x' r (i+1)
def readT {σ:Type} (stepF:σ→UInt8→Option (Bool×σ)) (out:σ→List UInt8) (x0:σ) (s:List UInt8):List UInt8×Nat×Int:=
 if 65536<s.length then([],0,3)else match runD stepF x0 s 0 with
  | none=>([],0,5)
  | some (x,n)=>if 65536<(out x).length then([],0,3)else(out x,n,0)
end Go.Ev

/- What a decoder reads, told. -/
namespace Go.Ev
open Go
variable {T : Tab} {st : St}
end Go.Ev

/- ascii.Unhex told. -/
namespace Go.Ev
open Go
variable {T : Tab} {st : St}
end Go.Ev

/- What a decoder of base 85 reads, told: the same as for digits. -/
namespace Go.Ev
open Go
variable {T : Tab} {st : St}
end Go.Ev

/- Numbers in base 85. -/
namespace Go.Ev
open Go
variable {T : Tab} {st : St}
def d85 (n:Nat) (c:UInt8):Nat:=n*85+(c.toNat - 33)
def v85:List UInt8→Nat→Nat
 | [],n=>n
 | c::r,n=>v85 r (d85 n c)
def oct4 (n:Nat):List UInt8:=[UInt8.ofNat (n / 16777216),UInt8.ofNat (n / 65536),UInt8.ofNat (n / 256),UInt8.ofNat n]
theorem wrapu64 {n:Int} (h0:0≤n) (h1:n<18446744073709551616):IntKind.u64.wrap n=n:=by
 simp[IntKind.wrap,IntKind.signed,IntKind.bits];omega
theorem ishr_u64 {a b:Nat} (hb:b≤64):ishr .u64 (a:Int) (b:Int)=((a / 2 ^ b:Nat):Int):=by
 rw[ishr_nat (by omega) hb];push_cast;rfl
end Go.Ev

/- ascii.Unbase85: its steps. -/
namespace Go.Ev
open Go
variable {T : Tab} {st : St}
def closeF (pt:List UInt8):Option (List UInt8):=
 if pt.length=1 then none else if pt.length=0 then some []
 else if v85 (pt++List.replicate (5 - pt.length) 117) 0<4294967296 then some ((oct4 (v85 (pt++List.replicate (5 - pt.length) 117) 0)).take (pt.length - 1))else none
end Go.Ev

/- ascii.Unbase85 told. -/
namespace Go.Ev
open Go
variable {T : Tab} {st : St}
abbrev TX:=List UInt8×List UInt8×Bool
def charS (o pt:List UInt8):Option (Bool×TX):=
 if pt.length=5 then if v85 pt 0<4294967296 then some (false,(o++oct4 (v85 pt 0),[],false))else none else some (false,(o,pt,false))
def tensStep (x:TX) (c:UInt8):Option (Bool×TX):=
 if x.2.2=true then if c=62 then(closeF x.2.1).map fun d=>(true,(x.1++d,[],true))else none
 else if c=126 then some (false,(x.1,x.2.1,true))
 else if c=122 then if x.2.1.length=0 then some (false,(x.1++[0,0,0,0],[],false))else none
 else if c.toNat<33∨117<c.toNat then none
 else charS x.1 (x.2.1++[c])
def tensOut (x:TX):List UInt8:=x.1
end Go.Ev

/- Unbase85 told; parts of the reference's. -/
namespace Go.Ev
open Go
variable {T : Tab} {st : St}
def b85T (s:List UInt8):List UInt8×Nat×Int:=readT tensStep tensOut ([],[],false) s
end Go.Ev

/- The reference's Unbase85 told. -/
namespace Go.Ev
open Go
variable {T : Tab} {st : St}
end Go.Ev

/- The readers of the scanner. -/
namespace Go.Ev
open Go
variable {T : Tab} {st : St}
def quotedR (s:List UInt8):T3:=if(unquoteT s).2.2=0 then textK 6 (unquoteT s).1 (unquoteT s).2.1 else if(unquoteT s).2.2=26 then err3 26 else err3 37
def decoR (front:Nat) (u:List UInt8×Nat×Int):T3:=if u.2.2=0 then textK 6 u.1 (front+u.2.1)else if u.2.2=3 then err3 26 else err3 37
def lessR (R:List UInt8):T3:=if R.head? =some 60 then textK 3 [60,60] 2 else if R.head? =some 126 then decoR 2 (b85T (R.drop 1))else decoR 1 (hexT R)
def greaterR (R:List UInt8):T3:=if R.head? =some 62 then textK 3 [62,62] 2 else err3 37
def slashR (R:List UInt8):T3:=
 if R.head? =some 47 then textK 5 ((R.drop 1).take (runN isReg (R.drop 1))) (2+runN isReg (R.drop 1))else textK 4 (R.take (runN isReg R)) (1+runN isReg R)
end Go.Ev

/- What begins with the sign less; the token at a reader's place. -/
namespace Go.Ev
open Go
variable {T : Tab} {st : St}
def wordK (s:List UInt8):T3:=
 if(wordT (s.take (runN isReg s))).2.2.2≠0 then err3 (wordT (s.take (runN isReg s))).2.2.2
 else(((wordT (s.take (runN isReg s))).1,(wordT (s.take (runN isReg s))).2.1,(wordT (s.take (runN isReg s))).2.2.1),runN isReg s,0)
def tokS:List UInt8→T3
 | []=>err3 37
 | c::R=>
   if c=40 then quotedR (c::R)else if c=41 then err3 37 else if c=123 then((7,0,[]),1,0)else if c=125 then((8,0,[]),1,0)
   else if c=91∨c=93 then textK 3 [c] 1 else if c=60 then lessR R else if c=62 then greaterR R else if c=47 then slashR R
   else if 128≤c.toNat∧c.toNat<160 then binR c R else wordK (c::R)
end Go.Ev

/- The token at a reader's place; Next. -/
namespace Go.Ev
open Go
variable {T : Tab} {st : St}
def nextS (s:List UInt8) (i:Int):T3:=
 if 65536<s.length then err3 3
 else if i<0∨(s.length:Int)<i then err3 2
 else let k:=i.toNat+skp false (s.drop i.toNat)
  if k=s.length then((0,0,[]),k,4)else((tokS (s.drop k)).1,k+(tokS (s.drop k)).2.1,(tokS (s.drop k)).2.2)
end Go.Ev

/- The reference's token. -/
namespace Go.Ev
open Go
variable {T : Tab} {st : St}
end Go.Ev

/- The reference's Next. -/
namespace Go.Ev
open Go
variable {T : Tab} {st : St}
end Go.Ev

/- Lists of tokens. -/
namespace Go.Ev
open Go
variable {T : Tab} {st : St}
theorem rdCells_part {h:Heap} {n off c o k:Nat} {cs:List AV} (a:rdCells h n off c=some cs) (hk:o+k≤c):rdCells h n (off+o) k=some ((cs.drop o).take k):=by
 unfold rdCells at a⊢
 split at a
 all_goals
  first
  | (split at a
     ·rename_i hle
      injection a with a
      rw[if_pos (by omega),←a,List.drop_take,List.drop_drop,List.take_take,Nat.min_eq_left (by omega)]
     ·cases a)
  | cases a
structure Dra where
 k:Nat
 n:Int
 t:List UInt8
instance:Inhabited Dra:=⟨⟨0,0,[]⟩⟩
end Go.Ev

/- Objects, cells and heaps of the language, and how they lie in the evaluator's blocks. -/
namespace Go.Ev
open Go
variable {T : Tab} {st st' : St}
structure Ob where
 k:Int
 x:Bool
 n:Int
 t:List UInt8
 r:Int
 o:Int
 l:Int
 deriving DecidableEq,Inhabited
def Ob.A (o:Ob):List AV:=[.int .i64 o.k,.bool o.x,.int .i64 o.n,.str o.t,.int .i64 o.r,.int .i64 o.o,.int .i64 o.l]
def Ob.v (o:Ob):AV:= .agg o.A
def obsA (l:List Ob):List AV:=l.flatMap Ob.A
theorem Ob.A_len (o:Ob):o.A.length=7:=rfl
theorem obsA_cons (o:Ob) (l:List Ob):obsA (o::l)=o.A++obsA l:=rfl
theorem obsA_append (a b:List Ob):obsA (a++b)=obsA a++obsA b:=by simp[obsA]
theorem obsA_len:∀l:List Ob,(obsA l).length=l.length*7
 | []=>rfl
 | o::l=>by rw[obsA_cons,List.length_append,obsA_len l,List.length_cons,Ob.A_len];omega
theorem obsA_drop:∀(l:List Ob) (i:Nat),(obsA l).drop (i*7)=obsA (l.drop i)
 | [],i=>by simp[obsA]
 | o::l,0=>by simp
 | o::l,i+1=>by
   rw[obsA_cons,show (i+1)*7=o.A.length+i*7 by rw[Ob.A_len];omega,←List.drop_drop,List.drop_left,obsA_drop l i,List.drop_succ_cons]
theorem obsA_take:∀(l:List Ob) (i:Nat),(obsA l).take (i*7)=obsA (l.take i)
 | [],i=>by simp[obsA]
 | o::l,0=>by simp[obsA]
 | o::l,i+1=>by
   rw[obsA_cons,show (i+1)*7=o.A.length+i*7 by rw[Ob.A_len];omega,List.take_length_add_append,obsA_take l i,List.take_succ_cons,obsA_cons]
theorem obsA_at {l:List Ob} {i:Nat} {o:Ob} (h:l[i]? =some o):((obsA l).drop (i*7)).take 7=o.A:=by
 rw[obsA_drop,show 7=1*7 by rfl,obsA_take]
 have:(l.drop i).take 1=[o]:=by
  rw[List.getElem?_eq_some_iff]at h
  obtain⟨hi,h⟩:=h
  rw[List.drop_eq_getElem_cons hi,h];rfl
 rw[this];simp[obsA]
def CapOK (len:Nat):Cap→Prop
 | .known c=>len≤c
 | _=>True
def AObj.ow:AObj→Bool
 | .cells _ false _ | .buf .. =>true
 | _=>false
theorem AObj.ow_lc {o:AObj} (h:o.ow=true):o.lc=false:=by
 unfold AObj.ow at h
 split at h
 ·rfl
 ·rfl
 ·cases h
def Stays (h:Heap) (n:Nat):Prop:=∃o,hget h n=some o∧o.ow=true
theorem Stays.frm {n:Nat} {S:List Nat} (a:Stays st.h n) (x:Frm S st st') (hw:st.Wf) (hn:n∉S):Stays st'.h n:=by
 obtain⟨o,h1,h2⟩:=a
 exact⟨o,x.get hw h1 hn,h2⟩
theorem Stays.dropLoc {n c:Nat} (a:Stays st.h n) (hw:st.Wf):Stays (Go.Ev.dropLoc c st.h) n:=by
 obtain⟨o,h1,h2⟩:=a
 exact⟨o,hget_dropLoc_keep hw h1 (AObj.ow_lc h2),h2⟩
def RdS (es:Nat) (h:Heap) (v:AV) (k:Nat) (cs:List AV):Prop:=cs.length=k*es∧((v= .nilslice∧k=0)∨∃n off cp,v= .slice n off k cp∧CapOK k cp∧Stays h n∧rdCells h n off (k*es)=some cs)
theorem RdS.nil (es:Nat) (h:Heap):RdS es h .nilslice 0 []:=⟨by simp,.inl ⟨rfl,rfl⟩⟩
theorem RdS.rd {es:Nat} {h:Heap} {v:AV} {k:Nat} {cs:List AV} (a:RdS es h v k cs):Rd h v es k cs:=by
 obtain⟨h0,⟨h1,h2⟩ | ⟨n,off,cp,h1,h2,h3,h4⟩⟩:=a
 ·exact .inl ⟨h1,h2,List.length_eq_zero_iff.1 (by rw[h0,h2];simp)⟩
 ·exact .inr ⟨n,off,cp,h1,h4⟩
theorem RdS.frm {es:Nat} {v:AV} {k:Nat} {cs:List AV} {S:List Nat} (a:RdS es st.h v k cs) (x:Frm S st st') (hw:st.Wf) (hn:∀n∈v.nms,n∉S):RdS es st'.h v k cs:=by
 obtain⟨h0,⟨h1,h2⟩ | ⟨n,off,cp,h1,h2,h3,h4⟩⟩:=a
 ·exact⟨h0,.inl ⟨h1,h2⟩⟩
 ·have hn':n∉S:=hn n (by simp[h1,AV.nms])
  refine⟨h0,.inr ⟨n,off,cp,h1,h2,h3.frm x hw hn',?_⟩⟩
  obtain⟨o,ho⟩:=rdCells_some h4
  have:=x.get hw ho hn'
  unfold rdCells at h4⊢
  rw[ho]at h4
  rw[this]
  exact h4
theorem RdS.ext {es:Nat} {v:AV} {k:Nat} {cs:List AV} (a:RdS es st.h v k cs) (x:Ext st st') (hw:st.Wf):RdS es st'.h v k cs:=a.frm (x.fr []) hw (by simp)
theorem RdS.dropLoc {es c:Nat} {v:AV} {k:Nat} {cs:List AV} (a:RdS es st.h v k cs) (hw:st.Wf):RdS es (Go.Ev.dropLoc c st.h) v k cs:=by
 obtain⟨h0,⟨h1,h2⟩ | ⟨n,off,cp,h1,h2,h3,h4⟩⟩:=a
 ·exact⟨h0,.inl ⟨h1,h2⟩⟩
 ·refine⟨h0,.inr ⟨n,off,cp,h1,h2,h3.dropLoc hw,?_⟩⟩
  obtain⟨o,h5,h6⟩:=h3
  have:=hget_dropLoc_keep (c:=c) hw h5 (AObj.ow_lc h6)
  unfold rdCells at h4⊢
  rw[h5]at h4
  rw[this]
  exact h4
theorem RdS.sc {es:Nat} {h:Heap} {v:AV} {k:Nat} {cs:List AV} (a:RdS es h v k cs):v.sc=true:=by
 obtain⟨h0,⟨h1,h2⟩ | ⟨n,off,cp,h1,h2,h3,h4⟩⟩:=a <;> rw[h1] <;> rfl
theorem RdS.sub3 {es:Nat} {h:Heap} {v:AV} {k:Nat} {cs:List AV} (a:RdS es h v k cs) {ev:AO→AV} {x lo hi:AO} {i j:Int} (hx:ev x=v) (hlo:ev lo= .int .i64 i) (hhi:ev hi= .int .i64 j) (h0:0≤i) (h1:i≤j) (h2:j≤k):
  ∃v',PO.run ev (.subL es x (some lo) (some hi) (some hi))=some v'∧RdS es h v' (j.toNat - i.toNat) ((cs.drop (i.toNat*es)).take ((j.toNat - i.toNat)*es)):=by
 obtain⟨i,rfl⟩:=Int.eq_ofNat_of_zero_le h0
 obtain⟨j,rfl⟩:=Int.eq_ofNat_of_zero_le (by omega:0≤j)
 simp only[Int.ofNat_eq_natCast,Int.toNat_natCast]
 have hij:i≤j:=by omega
 have hjk:j≤k:=by omega
 obtain⟨hl,⟨rfl,rfl⟩ | ⟨n,off,cp,rfl,hcp,hst,hrd⟩⟩:=a
 ·have hi0:i=0:=by omega
  have hj0:j=0:=by omega
  subst hi0 hj0
  have hcs:cs=[]:=List.length_eq_zero_iff.1 (by rw[hl];simp)
  subst hcs
  refine⟨.nilslice,?_,by simp,.inl ⟨rfl,rfl⟩⟩
  simp[PO.run,hx,hlo,hhi,asubL,abounds,abound,bnd,topOf,subCap]
 ·have hb:abounds k (topOf k cp) (some (.int .i64 (i:Int))) (some (.int .i64 (j:Int))) (some (.int .i64 (j:Int)))=some (i,j,some j):=by
   have ht:(j:Int)≤(topOf k cp:Nat):=by
    cases cp with
    | known c=>simp only[CapOK]at hcp;simp only[topOf];omega
    | _=>simp only[topOf];omega
   simp only[abounds,abound,bnd,Int.toNat_natCast]
   rw[if_pos ⟨by omega,ht⟩]
   simp only[Int.toNat_natCast,if_pos (⟨by omega,Int.le_refl _⟩:(0:Int)≤(j:Int)∧(j:Int)≤(j:Int)),if_pos (⟨by omega,by omega⟩:(0:Int)≤(i:Int)∧(i:Int)≤(j:Int))]
  have hlen:((cs.drop (i*es)).take ((j - i)*es)).length=(j - i)*es:=by
   rw[List.length_take,List.length_drop,hl]
   have h3:i*es+(j - i)*es≤k*es:=by
    rw[←Nat.add_mul]
    exact Nat.mul_le_mul_right es (by omega)
   omega
  have hpart:rdCells h n (off+i*es) ((j - i)*es)=some ((cs.drop (i*es)).take ((j - i)*es)):=rdCells_part hrd (by
   rw[←Nat.add_mul]
   exact Nat.mul_le_mul_right es (by omega))
  simp only[PO.run,hx,hlo,hhi,Option.map_some,asubL,hb,subCap]
  by_cases e:j - i=0
  ·rw[e]
   refine⟨_,rfl,by simp,.inr ⟨n,off,.known 0,rfl,Nat.le_refl _,hst,?_⟩⟩
   have:=rdCells_part hrd (o:=0) (k:=0) (by omega)
   simp only[Nat.add_zero,List.take_zero,Nat.zero_mul]at this⊢
   exact this
  ·obtain⟨z,hz⟩:∃z,j - i=z+1:=⟨j - i - 1,by omega⟩
   rw[hz]at hpart hlen⊢
   exact⟨_,rfl,hlen,.inr ⟨n,_,_,rfl,Nat.le_refl _,hst,hpart⟩⟩
def RdO (h:Heap) (v:AV) (l:List Ob):Prop:=RdS 7 h v l.length (obsA l)
theorem RdO.nil (h:Heap):RdO h .nilslice []:=RdS.nil 7 h
theorem RdO.ext {v:AV} {l:List Ob} (a:RdO st.h v l) (x:Ext st st') (hw:st.Wf):RdO st'.h v l:=RdS.ext a x hw
structure Ce where
 k:Int
 b:List UInt8
 it:List Ob
 ks:List Ob
 vs:List Ob
 mx:Int
 at':Int
 deriving DecidableEq,Inhabited
def CeR (h:Heap) (c:Ce) (cs:List AV):Prop:=∃a b d,cs=[.int .i64 c.k,.str c.b,a,b,d,.int .i64 c.mx,.int .i64 c.at']∧RdO h a c.it∧RdO h b c.ks∧RdO h d c.vs
theorem CeR.len {h:Heap} {c:Ce} {cs:List AV} (a:CeR h c cs):cs.length=7:=by
 obtain⟨_,_,_,rfl,_⟩:=a;rfl
theorem CeR.sc {h:Heap} {c:Ce} {cs:List AV} (a:CeR h c cs):cs.all AV.sc=true:=by
 obtain⟨a,b,d,rfl,h1,h2,h3⟩:=a
 simp only[List.all_cons,List.all_nil,RdS.sc h1,RdS.sc h2,RdS.sc h3]
 rfl
theorem CeR.ext {c:Ce} {cs:List AV} (a:CeR st.h c cs) (x:Ext st st') (hw:st.Wf):CeR st'.h c cs:=by
 obtain⟨a,b,d,h0,h1,h2,h3⟩:=a
 exact⟨a,b,d,h0,h1.ext x hw,h2.ext x hw,h3.ext x hw⟩
theorem CeR.dropLoc {c:Ce} {cs:List AV} {k:Nat} (a:CeR st.h c cs) (hw:st.Wf):CeR (Go.Ev.dropLoc k st.h) c cs:=by
 obtain⟨a,b,d,h0,h1,h2,h3⟩:=a
 exact⟨a,b,d,h0,RdS.dropLoc h1 hw,RdS.dropLoc h2 hw,RdS.dropLoc h3 hw⟩
def CesR (h:Heap):List Ce→List AV→Prop
 | [],cs=>cs=[]
 | c::l,cs=>∃x r,cs=x++r∧CeR h c x∧CesR h l r
theorem CesR.len {h:Heap}:∀{l:List Ce} {cs:List AV},CesR h l cs→cs.length=l.length*7
 | [],_,a=>by cases a;rfl
 | c::l,_,⟨x,r,e,h1,h2⟩=>by subst e;rw[List.length_append,h1.len,h2.len,List.length_cons];omega
theorem CesR.sc {h:Heap}:∀{l:List Ce} {cs:List AV},CesR h l cs→cs.all AV.sc=true
 | [],_,a=>by cases a;rfl
 | c::l,_,⟨x,r,e,h1,h2⟩=>by subst e;rw[List.all_append,h1.sc,h2.sc];rfl
theorem CesR.ext (x:Ext st st') (hw:st.Wf):∀{l:List Ce} {cs:List AV},CesR st.h l cs→CesR st'.h l cs
 | [],_,a=>a
 | c::l,_,⟨y,r,e,h1,h2⟩=>⟨y,r,e,h1.ext x hw,CesR.ext x hw h2⟩
theorem CesR.dropLoc {k:Nat} (hw:st.Wf):∀{l:List Ce} {cs:List AV},CesR st.h l cs→CesR (Go.Ev.dropLoc k st.h) l cs
 | [],_,a=>a
 | c::l,_,⟨y,r,e,h1,h2⟩=>⟨y,r,e,h1.dropLoc hw,CesR.dropLoc hw h2⟩
theorem CesR.at {h:Heap}:∀{l:List Ce} {cs:List AV} {i:Nat} {c:Ce},CesR h l cs→l[i]? =some c→CeR h c ((cs.drop (i*7)).take 7)
 | [],_,_,_,_,hc=>by simp at hc
 | d::l,_,0,c,⟨x,r,e,h1,h2⟩,hc=>by
   simp at hc
   subst hc e
   rw[Nat.zero_mul,List.drop_zero,List.take_append_of_le_length (by rw[h1.len];omega),List.take_of_length_le (by rw[h1.len];omega)]
   exact h1
 | d::l,_,i+1,c,⟨x,r,e,h1,h2⟩,hc=>by
   have:=h2.at (i:=i) (c:=c) (by simpa using hc)
   subst e
   rw[show (i+1)*7=x.length+i*7 by rw[h1.len];omega,←List.drop_drop,List.drop_left]
   exact this
theorem CesR.put {h:Heap} {c:Ce} {x:List AV} (hc:CeR h c x):∀{l:List Ce} {cs:List AV} {i:Nat},CesR h l cs→i<l.length→CesR h (l.set i c) (splice cs (i*7) x):=by
 intro l
 induction l with
 | nil=>intro cs i _ hi;simp at hi
 | cons d l ih=>
   rintro cs i ⟨y,r,rfl,h1,h2⟩ hi
   cases i with
   | zero=>
     refine⟨x,r,?_,hc,h2⟩
     have:=splice_mid x y r [] (by rw[hc.len,h1.len])
     simpa using this
   | succ i=>
     refine⟨y,splice r (i*7) x,?_,h1,ih h2 (by simpa using hi)⟩
     have aux:∀(x r:List AV) (o:Nat),splice (y++r) (y.length+o) x=y++splice r o x:=by
      intro x
      induction x with
      | nil=>intro r o;rfl
      | cons v x ihx=>
        intro r o
        simp only[splice]
        rw[List.set_append_right _ _ (by omega),show y.length+o - y.length=o by omega,show y.length+o+1=y.length+(o+1)by omega]
        exact ihx (r.set o v) (o+1)
     rw[show (i+1)*7=y.length+i*7 by rw[h1.len];omega]
     exact aux x r (i*7)
def HpR (h:Heap) (v:AV) (l:List Ce):Prop:=∃cs,CesR h l cs∧RdS 7 h v l.length cs
theorem HpR.ext {v:AV} {l:List Ce} (a:HpR st.h v l) (x:Ext st st') (hw:st.Wf):HpR st'.h v l:=by
 obtain⟨cs,h1,h2⟩:=a
 exact⟨cs,h1.ext x hw,h2.ext x hw⟩
theorem HpR.dropLoc {v:AV} {l:List Ce} {k:Nat} (a:HpR st.h v l) (hw:st.Wf):HpR (Go.Ev.dropLoc k st.h) v l:=by
 obtain⟨cs,h1,h2⟩:=a
 exact⟨cs,h1.dropLoc hw,h2.dropLoc hw⟩
theorem HpR.sc {h:Heap} {v:AV} {l:List Ce} (a:HpR h v l):v.sc=true:=by
 obtain⟨cs,h1,h2⟩:=a
 exact h2.sc
theorem take_all {cs:List AV} {n:Nat} (h:cs.length=n):cs.take n=cs:=List.take_of_length_le (by omega)
theorem splice_len {a b:List AV} (h:b.length=a.length):splice a 0 b=b:=splice_whole h
@[go_sem] theorem Ob_acells (o:Ob):acells o.v=o.A:=rfl
@[go_sem] theorem Ob_nb (o:Ob):o.v.nb=true:=rfl
theorem Ext.consN {h:Heap} {n m:Nat} {o:AObj} (x:Ext st ⟨h,n⟩) (hm:n<m):Ext st ⟨(n,o)::h,m⟩:=by
 have a:=x.trans (Ext.new x.wf o)
 exact a.trans ⟨hm,⟨fun k p hp=>Nat.lt_of_lt_of_le (a.wf.lt k p hp) hm,a.wf.nd⟩,fun _ _=>rfl⟩
theorem Ext.upN {h:Heap} {n m:Nat} (x:Ext st ⟨h,n⟩) (hm:n≤m):Ext st ⟨h,m⟩:=
 x.trans ⟨hm,⟨fun k p hp=>Nat.lt_of_lt_of_le (x.wf.lt k p hp) hm,x.wf.nd⟩,fun _ _=>rfl⟩
theorem Ext.consF {h:Heap} {n m:Nat} {o:AObj} (x:Ext st ⟨h,m⟩) (hf:hget h n=none) (h0:st.nx≤n) (hm:n<m):Ext st ⟨(n,o)::h,m⟩:=by
 refine⟨x.nx,⟨fun k p hp=> ?_,?_⟩,fun k hk=> ?_⟩
 ·simp only[hget]at hp
  split at hp
  ·rename_i e;subst e;exact hm
  ·exact x.wf.lt k p hp
 ·simp only[List.map_cons,List.nodup_cons]
  refine⟨fun hmem=> ?_,x.wf.nd⟩
  obtain⟨⟨k,p⟩,hk,e⟩:=List.mem_map.1 hmem
  simp only at e
  subst e
  rw[mem_hget x.wf.nd hk]at hf
  cases hf
 ·simp only[hget]
  rw[if_neg (by omega)]
  exact x.keep k hk
theorem hget_hset':∀{h:Heap} {n m:Nat} {o:AObj},hget (hset h n o) m=if n=m then(hget h n).map (fun _=>o)else hget h m
 | [],n,m,o=>by simp[hset,hget]
 | (k,p)::h,n,m,o=>by
   simp only[hset]
   by_cases e:k=n
   ·subst e
    simp only[if_true,hget]
    by_cases e2:k=m
    ·subst e2;simp
    ·simp[e2]
   ·simp only[if_neg e,hget]
    by_cases e2:k=m
    ·subst e2
     rw[if_pos rfl,if_pos rfl,if_neg (fun h=>e h.symm)]
    ·rw[if_neg e2,if_neg e2,hget_hset']
theorem Ext.setN {h:Heap} {n m:Nat} {o:AObj} (x:Ext st ⟨h,m⟩) (h0:st.nx≤n):Ext st ⟨hset h n o,m⟩:=by
 refine⟨x.nx,⟨fun k p hp=> ?_,by show ((hset h n o).map _).Nodup;rw[hset_names];exact x.wf.nd⟩,fun k hk=> ?_⟩
 ·simp only[hget_hset']at hp
  split at hp
  ·rename_i e
   subst e
   cases hg:hget h n with
   | none=>rw[hg]at hp;cases hp
   | some q=>exact x.wf.lt n q hg
  ·exact x.wf.lt k p hp
 ·simp only[hget_hset']
  rw[if_neg (by omega)]
  exact x.keep k hk
def rdOb:AObj→Nat→Nat→Option (List AV)
 | .cells _ _ cs,off,k | .buf _ _ cs,off,k | .ro cs,off,k | .glob _ cs,off,k=>if off+k≤cs.length then some ((cs.drop off).take k)else none
 | _,_,_=>none
def rdOb1:AObj→Nat→Option AV
 | .cells _ _ cs,off | .buf _ _ cs,off | .ro cs,off | .glob _ cs,off=>cs[off]?
 | _,_=>none
theorem rdCells_bind (h:Heap) (n off k:Nat):rdCells h n off k=(hget h n).bind fun o=>rdOb o off k:=by
 unfold rdCells
 cases hg:hget h n with
 | none=>rfl
 | some o=>cases o <;> rfl
theorem rdCell_bind (h:Heap) (n off:Nat):rdCell h n off=(hget h n).bind fun o=>rdOb1 o off:=by
 unfold rdCell
 cases hg:hget h n with
 | none=>rfl
 | some o=>cases o <;> rfl
section
variable (ty es off k : Nat) (l : Bool) (cs : List AV)
theorem rdOb_cells:rdOb (.cells ty l cs) off k=if off+k≤cs.length then some ((cs.drop off).take k)else none:=rfl
theorem rdOb_buf:rdOb (.buf ty es cs) off k=if off+k≤cs.length then some ((cs.drop off).take k)else none:=rfl
theorem rdOb_ro:rdOb (.ro cs) off k=if off+k≤cs.length then some ((cs.drop off).take k)else none:=rfl
theorem rdOb_glob:rdOb (.glob ty cs) off k=if off+k≤cs.length then some ((cs.drop off).take k)else none:=rfl
theorem rdOb1_cells:rdOb1 (.cells ty l cs) off=cs[off]? :=rfl
theorem rdOb1_buf:rdOb1 (.buf ty es cs) off=cs[off]? :=rfl
theorem rdOb1_ro:rdOb1 (.ro cs) off=cs[off]? :=rfl
theorem rdOb1_glob:rdOb1 (.glob ty cs) off=cs[off]? :=rfl
end
theorem rdOb_part {o:AObj} {off k i j:Nat} {cs:List AV} (h:rdOb o off k=some cs) (hj:i+j≤k):rdOb o (off+i) j=some ((cs.drop i).take j):=by
 unfold rdOb at h⊢
 split at h
 all_goals first
  | (split at h
     ·rename_i hle
      cases h
      rw[if_pos (by omega),List.drop_take,List.drop_drop,List.take_take,Nat.min_eq_left (by omega)]
     ·cases h)
  | cases h
theorem rdOb_one {o:AObj} {off k i:Nat} {cs:List AV} (h:rdOb o off k=some cs) (hi:i<k):rdOb1 o (off+i)=cs[i]? :=by
 unfold rdOb at h
 unfold rdOb1
 split at h
 all_goals first
  | (split at h
     ·cases h;simp[hi]
     ·cases h)
  | cases h
theorem RdS.form {es:Nat} {v:AV} {k:Nat} {cs:List AV} (a:RdS es st.h v k cs) (hw:st.Wf):(v= .nilslice∧k=0∧cs=[])∨∃n off cp ob,v= .slice n off k cp∧CapOK k cp∧n<st.nx∧hget st.h n=some ob∧ob.ow=true∧rdOb ob off (k*es)=some cs:=by
 obtain⟨h0,⟨h1,h2⟩ | ⟨n,off,cp,h1,h2,⟨o,h3,h3'⟩,h4⟩⟩:=a
 ·exact .inl ⟨h1,h2,List.length_eq_zero_iff.1 (by rw[h0,h2];simp)⟩
 ·refine .inr ⟨n,off,cp,o,h1,h2,hw.lt _ _ h3,h3,h3',?_⟩
  rw[rdCells_bind,h3]at h4
  exact h4
theorem RdO.form {v:AV} {l:List Ob} (a:RdO st.h v l) (hw:st.Wf):(v= .nilslice∧l=[])∨∃n off cp ob,v= .slice n off l.length cp∧CapOK l.length cp∧n<st.nx∧hget st.h n=some ob∧ob.ow=true∧∀i o,l[i]? =some o→rdOb ob (off+i*7) 7=some o.A:=by
 rcases RdS.form a hw with ⟨h1,h2,h3⟩ | ⟨n,off,cp,ob,h1,h2,h3,h4,h5,h6⟩
 ·exact .inl ⟨h1,List.length_eq_zero_iff.1 h2⟩
 ·refine .inr ⟨n,off,cp,ob,h1,h2,h3,h4,h5,fun i o ho=> ?_⟩
  have hi:i<l.length:=(List.getElem?_eq_some_iff.1 ho).1
  have:=rdOb_part h6 (i:=i*7) (j:=7) (by omega)
  rwa[obsA_at ho]at this
theorem HpR.form {v:AV} {l:List Ce} (a:HpR st.h v l) (hw:st.Wf):(v= .nilslice∧l=[])∨∃n off cp ob,v= .slice n off l.length cp∧CapOK l.length cp∧n<st.nx∧hget st.h n=some ob∧ob.ow=true∧∀i c,l[i]? =some c→∃x,rdOb ob (off+i*7) 7=some x∧CeR st.h c x:=by
 obtain⟨cs,hc,a⟩:=a
 rcases RdS.form a hw with ⟨h1,h2,h3⟩ | ⟨n,off,cp,ob,h1,h2,h3,h4,h5,h6⟩
 ·exact .inl ⟨h1,List.length_eq_zero_iff.1 h2⟩
 ·refine .inr ⟨n,off,cp,ob,h1,h2,h3,h4,h5,fun i o ho=> ?_⟩
  have hi:i<l.length:=(List.getElem?_eq_some_iff.1 ho).1
  exact⟨_,rdOb_part h6 (i:=i*7) (j:=7) (by omega),hc.at ho⟩
attribute [go_sem] wrap64' hget_hset' rdCells_bind rdCell_bind rdOb_cells rdOb_buf rdOb_ro rdOb_glob rdOb1_cells rdOb1_buf rdOb1_ro rdOb1_glob wrCells hget_cons hset_cons fresults resVals resVal Ob.A Ob.v
end Go.Ev

/- More functions of the library as entries: Compare, HasPrefix, HasSuffix, ToUpper of strings; FormatBool. -/
namespace Go.Ev
open Go Go.RowKit
variable {X : Cx} {D : ChkD} {T : Tab} {st : St}
namespace B
def E_strings_Compare:Entry:=fun args st=>match args with
 | [.str a,.str b]=>some (.int .i64 (Lib.compareBytes a b),st)
 | _=>none
def E_strconv_FormatBool:Entry:=fun args st=>match args with
 | [.bool b]=>some (.str (if b=true then [116,114,117,101]else [102,97,108,115,101]),st)
 | _=>none
def E_strings_ToUpper:Entry:=fun args st=>match args with
 | [.str s]=>if s.length≤140737488355328∧s.all (fun b=>decide (b.toNat<128))=true then some (.str (Lib.toUpperA s),st)else none
 | _=>none
end B
theorem compare_entry {f:Nat} (hb:bodyB X.P (X.φ f)=true)
  (h:∀(a b:ByteArray) (w:World),Calls X.P (X.φ f) #[.string a,.string b] w fun e w'=>e= .returned (.int .i64 (Lib.compareBytes a.data.toList b.data.toList))∧w'=w):EntryOK D X f B.E_strings_Compare:=by
 refine entry_of_calls hb fun args st v st' hF=> ?_
 unfold B.E_strings_Compare at hF
 split at hF
 case h_2=>cases hF
 cases hF
 refine⟨rfl,fun N us hus=> ?_⟩
 obtain⟨u0,us0,rfl,h0,u1,us1,rfl,h1,rfl⟩:=hus
 cases h0
 cases h1
 refine⟨_,rfl,fun w=> ?_⟩
 refine(h ⟨_⟩ ⟨_⟩ w).mono fun e w' ⟨h1,h2⟩=>⟨by simpa using h1,?_⟩
 subst h2
 exact Below.refl _ _
theorem formatBool_eq (b:Bool):Lib.formatBool b=if b=true then [116,114,117,101]else [102,97,108,115,101]:=by cases b <;> decide
theorem formatBool_entry {f:Nat} (hb:bodyB X.P (X.φ f)=true)
  (h:∀(b:Bool) (w:World),Calls X.P (X.φ f) #[.bool b] w fun e w'=>e= .returned (.string ⟨(Lib.formatBool b).toArray⟩)∧w'=w):EntryOK D X f B.E_strconv_FormatBool:=by
 refine entry_of_calls hb fun args st v st' hF=> ?_
 unfold B.E_strconv_FormatBool at hF
 split at hF
 case h_2=>cases hF
 cases hF
 refine⟨rfl,fun N us hus=> ?_⟩
 obtain⟨u0,us0,rfl,h0,rfl⟩:=hus
 cases h0
 refine⟨_,rfl,fun w=> ?_⟩
 refine(h _ w).mono fun e w' ⟨h1,h2⟩=>⟨by rw[h1,formatBool_eq],?_⟩
 subst h2
 exact Below.refl _ _
theorem toUpper_entry {f:Nat} (hb:bodyB X.P (X.φ f)=true)
  (h:∀(s:ByteArray) (w:World),s.size≤140737488355328→(∀(j:Nat) (b:UInt8),s.data.toList[j]? =some b→b.toNat<128)→Calls X.P (X.φ f) #[.string s] w fun e w'=>e= .returned (.string ⟨(Lib.toUpperA s.data.toList).toArray⟩)∧Below w.heap.size w w'):EntryOK D X f B.E_strings_ToUpper:=by
 refine entry_of_calls hb fun args st v st' hF=> ?_
 unfold B.E_strings_ToUpper at hF
 split at hF
 case h_2=>cases hF
 split at hF
 case isFalse=>cases hF
 rename_i hc
 cases hF
 refine⟨rfl,fun N us hus=> ?_⟩
 obtain⟨u0,us0,rfl,h0,rfl⟩:=hus
 cases h0
 refine⟨_,rfl,fun w=> ?_⟩
 refine(h ⟨_⟩ w (by simpa [ByteArray.size] using hc.1) (fun j b hj=> ?_)).mono fun e w' ⟨h1,h2⟩=>⟨by simpa using h1,h2⟩
 have:=List.all_eq_true.1 hc.2 b (List.mem_of_getElem? hj)
 simpa using this
end Go.Ev
