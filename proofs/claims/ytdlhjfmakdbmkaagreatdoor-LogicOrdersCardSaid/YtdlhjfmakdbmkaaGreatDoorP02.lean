/- New blocks do what the model's do. -/
import Derived.Test.YtdlhjfmakdbmkaaGreatDoorP01
import Derived.Lib.UnsafeStr
import Derived.RangeFuncRecord
set_option linter.unusedSimpArgs false
set_option linter.unusedVariables false
set_option linter.unusedSectionVars false
namespace Go.Ev
open Go
variable {X : Cx} {N N' N'' : Nu} {D : Mc}
theorem HR.drawn {h:Heap} {w:World} (hr:HR D X N h w) (k:Nat):HR D X N h {w with drawn:=k}:=
 ⟨fun n o ho=>(hr.Um n o ho).Zd (.refl N) (Nat.le_refl _) (fun _ _=>rfl),hr.sep⟩
theorem Gd.drawn (N:Nu) (h:Heap) (w:World) (k:Nat):Gd N h w N h {w with drawn:=k}:=
 ⟨.refl N,Nat.le_refl _,rfl,rfl,rfl,fun _ _ _=>rfl,fun n o a h1 h2=> .inl ⟨n,o,a,h1,h2,rfl,id⟩⟩
theorem Zm9 (n:Nat):unfz (0,0) n:=fun i _ h=>by omega
theorem Fg {t e:TypeId} (h:Zci X t e=true):X.P.underlying t=some (.slice e):=by
 unfold Zci at h
 split at h
 ·rename_i e' he;simp only[beq_iff_eq]at h;rw[he,h]
 ·cases h
theorem Zry (z:List Value):∀(n:Nat),((List.range (n*z.length)).map fun i=>z[i % z.length]!)=(List.replicate n z).flatten
 | 0=>by simp
 | n+1=>by
   rw[List.replicate_succ',List.flatten_append,←Zry z n,Nat.succ_mul,List.range_add,List.map_append,List.map_map]
   congr 1
   simp only[List.flatten_cons,List.flatten_nil,List.append_nil]
   apply List.ext_getElem?
   intro i
   by_cases hi:i<z.length
   ·simp only[List.getElem?_map,List.getElem?_range hi,Option.map_some,Function.comp]
    rw[Nat.mul_comm,Nat.mul_add_mod,Nat.mod_eq_of_lt hi,List.getElem?_eq_getElem hi,List.getElem!_eq_getElem?_getD,List.getElem?_eq_getElem hi]
    rfl
   ·rw[List.getElem?_eq_none (by simpa using Nat.le_of_not_lt hi),List.getElem?_eq_none (Nat.le_of_not_lt hi)]
theorem VRs.Bn {zs:List AV} {us:List Value} (h:VRs X N zs us):∀n,VRs X N (Bn zs n) (List.replicate n us).flatten
 | 0=>by simp[Ev.Bn];rfl
 | n+1=>by
   rw[List.replicate_succ,List.flatten_cons]
   exact h.append (VRs.Bn h n)
theorem Zag {t:TypeId} {zs:List AV} (h:Zaf X t zs=true):∃i z,X.P.info? t=some i∧i.zero=some z∧∀N,VRs X N zs z.cells.toList:=by
 unfold Zaf at h
 split at h
 ·rename_i i hi
  split at h
  ·rename_i z hz;exact⟨i,z,hi,hz,fun N=>Cm _ _ h⟩
  ·cases h
 ·cases h
theorem Zgp {n:Int} (h1: -9223372036854775808≤n) (h2:n≤9223372036854775807):IntKind.i64.wrap n=n:=by
 rw[←Lw];simp only[wrp];rw[if_pos ⟨h1,h2⟩]
theorem Zdk {t n:Nat} (h:Zdj X t n=true):∃i,X.P.info? t=some i∧i.bytes=n:=by
 unfold Zdj at h
 split at h
 ·rename_i i hi;exact⟨i,hi,by simpa using h⟩
 ·cases h
theorem Zhf {t n:Nat} (h:Mx X t n=true):∃i,X.P.info? t=some i∧i.size=n:=by
 unfold Mx at h
 split at h
 ·rename_i i hi;exact⟨i,hi,by simpa using h⟩
 ·cases h
theorem Zam {h:Heap} {w:World} (hr:HR D X N h w) {n:Nat} (hn:N.ρ n=none) {ty:Nat} {loc:Bool} {cs:List AV} {us:Array Value} (hv:VRs X N cs us.toList):
  HR D X (N.add n ⟨w.heap.size,0,none⟩ 0) ((n,.cells ty loc cs)::h) {w with heap:=w.heap.push (.cells us (X.τ ty) (0,0))}∧
   Gd N h w (N.add n ⟨w.heap.size,0,none⟩ 0) ((n,.cells ty loc cs)::h) {w with heap:=w.heap.push (.cells us (X.τ ty) (0,0))}:=
 hr.new hn ⟨w.heap.size,us,(0,0),by simp[Nu.add],by simp,hv.mono (Nu.Zcx hn) _,Zm9 _⟩
theorem Zu4 {h:Heap} {w:World} (hr:HR D X N h w) {n:Nat} (hn:N.ρ n=none):
  HR D X (N.add n ⟨w.heap.size,0,none⟩ 0) ((n,.map [])::h) {w with heap:=w.heap.push (.map #[] 0)}∧
   Gd N h w (N.add n ⟨w.heap.size,0,none⟩ 0) ((n,.map [])::h) {w with heap:=w.heap.push (.map #[] 0)}:=by
 refine hr.new hn ?_
 refine⟨w.heap.size,#[],0,by simp[Nu.add],by simp,?_,fun e he=>by simp at he⟩
 simp only[U0]
theorem Zpz {o:Oper} {m:NO} {v:AV} {ob:Qb} {ev:AO→AV} {r:Operand→Value} {h:Heap} {w:World} {n:Nat} (hc:chkN X o.op m=true) (he:Evs X N ev r) (hk:∀v,r (.const v)=v) (hr:HR D X N h w)
  (hn:N.ρ n=none) (hv:NO.run ev n m=some (v,ob)):
  ∃N' u w',(execOp r o).run X.P w= .ok (.value u) w'∧VR X N' v u∧HR D X N' ((n,ob)::h) w'∧Gd N h w N' ((n,ob)::h) w'∧∀m,m≠n→N'.ρ m=N.ρ m:=by
 have hadd:∀a k m,m≠n→(N.add n a k).ρ m=N.ρ m:=fun a k m hm=>by simp[Nu.add,hm]
 have hnew:∀a k,(N.add n a k).ρ n=some a:=fun a k=>by simp[Nu.add]
 unfold chkN at hc
 split at hc <;> (first | (cases hc;done) | skip) <;> rename_i hop <;> (try simp only[bool_and,beq_iff_eq]at hc)
 ·
  rename_i t ty l zs
  obtain⟨rfl,hz⟩:=hc
  obtain⟨i,z,hi,hz,hzs⟩:=Zag hz
  cases hv
  obtain⟨h1,h2⟩:=Zam hr hn (ty:=ty) (loc:=l) (hzs N)
  exact⟨_,.pointer (some ⟨w.heap.size,0,none⟩),_,by simp[execOp,hop,Instr.alloc,zeroValue,typeInfo,hi,hz,newVar,newRow],⟨_,hnew _ _,by simp⟩,h1,h2,hadd _ _⟩
 ·
  rename_i t x ty l a
  obtain⟨rfl,hx⟩:=hc
  simp only[NO.run]at hv
  split at hv
  ·rename_i hnb
   cases hv
   obtain⟨h1,h2⟩:=Zam hr hn (ty:=ty) (loc:=l) ((he _ _ hx).Zsy hnb)
   exact⟨_,.pointer (some ⟨w.heap.size,0,none⟩),_,by simp[execOp,hop,Instr.box,newVar,newRow],⟨_,hnew _ _,by simp⟩,h1,h2,hadd _ _⟩
  ·cases hv
 ·
  rename_i t len ps ty len' zs qs
  obtain⟨ht,rfl,hc⟩:=hc
  have hd:=Fg ht
  split at hc
  ·rename_i k hk
   simp only[bool_and,decide_eq_true_eq]at hc
   obtain⟨hlim,hz,hp⟩:=hc
   split at hz
   ·rename_i us hus
    have hv0:=Cm (N:=N) _ _ hz
    simp only[NO.run]at hv
    split at hv
    ·rename_i cs hcs
     cases hv
     unfold Zvg at hus
     cases hi:X.P.info? (X.τ ty)with
     | none=>rw[hi]at hus;cases hus
     | some i=>
       rw[hi]at hus
       simp only at hus
       cases hiz:i.zero with
       | none=>rw[hiz]at hus;cases hus
       | some z=>
         rw[hiz]at hus
         cases hus
         have hsz:k=i.size:=by
          unfold cells? at hk;rw[hi]at hk;cases hk;rfl
         obtain⟨us',hf,hv1⟩:=O8 he (us:=(Array.range (len*k)).map (z.cells[· % z.cells.size]!)) hv0 hp hcs
         obtain⟨h1,h2⟩:=Zam hr hn (ty:=ty) (loc:=false) hv1
         refine⟨_,.slice (some ⟨w.heap.size,0,none⟩) len len,_,?_,⟨_,_,hnew _ _,by simp,Nat.le_refl _,rfl⟩,h1,h2,hadd _ _⟩
         have hs:(sizeOf (X.τ ty)).run X.P w= .ok k w:=by simp[sizeOf,typeInfo,hi,hsz]
         simp only[execOp,hop,Instr.buildSlice,Sem.run_bind,run_underlying hd,Result.andThen_ok,hs,if_neg (show¬(len*k > 2 ^ 24)by omega),Sem.run_pure]
         have e:len*k=0→(Array.map (fun _=>(default:Value)) (Array.range (len*k)))=Array.map (fun x=>z.cells[x % z.cells.size]!) (Array.range (len*k)):=by
          intro h0;simp[h0]
         simp only[newRow]
         simp
         split
         ·rename_i h0
          simp only[e (by simpa using h0),hf]
          simp
         ·simp[zeroValue,typeInfo,hi,hiz,hf]
    ·cases hv
   ·cases hz
  ·cases hc
 ·
  rename_i t l c ty es bytes zs l' c'
  obtain⟨ht,hes,hby,hz,hzl,hl,hcc⟩:=hc
  have hd:=Fg ht
  obtain⟨i,hi,hbytes⟩:=Zdk hby
  obtain⟨i1,hi1,hsize⟩:=Zhf hes
  rw[hi]at hi1;cases hi1
  obtain⟨i2,z,hi2,hiz,hzs⟩:=Zag hz
  rw[hi]at hi2;cases hi2
  simp only[NO.run]at hv
  split at hv
  ·rename_i k1 p k2 q hp hq
   split at hv
   ·rename_i hcond
    obtain⟨hl0,hlc,hcb,hc47,hzes⟩:=hcond
    cases hv
    have h1:=he _ _ hl
    have h2:=he _ _ hcc
    rw[hp]at h1;rw[hq]at h2
    simp only[VR]at h1 h2
    have hq0:0≤q:=by omega
    obtain⟨qn,rfl⟩:=Int.eq_ofNat_of_zero_le hq0
    obtain⟨pn,rfl⟩:=Int.eq_ofNat_of_zero_le hl0
    have hw1:=Zgp (n:=(pn:Int)) (by omega) (by omega)
    have hw2:=Zgp (n:=(qn:Int)) (by omega) (by omega)
    have hzlen:=(hzs N).length
    rw[hzes]at hzlen
    simp only[Array.length_toList]at hzlen
    have hcells:VRs X N (Bn zs qn) ((Array.range (qn*es)).map (z.cells[· % z.cells.size]!)).toList:=by
     have:=(hzs N).Bn qn
     rw[←Zry]at this
     simp only[Array.length_toList]at this
     simp only[Array.toList_map,Array.toList_range]
     rw[hzlen]
     have hm:(List.range (qn*z.cells.size)).map (fun i=>z.cells.toList[i % z.cells.size]!)=(List.range (qn*z.cells.size)).map (fun x=>z.cells[x % z.cells.size]!):=
      List.map_congr_left (fun i _=>by
       rw[List.getElem!_eq_getElem?_getD,Array.getElem?_toList,getElem!_def]
       cases z.cells[i % z.cells.size]? <;> rfl)
     rw[←hm]
     exact this
    obtain⟨g1,g2⟩:=Zam hr hn (ty:=ty) (loc:=false) hcells
    refine⟨_,.slice (some ⟨w.heap.size,0,none⟩) pn qn,_,?_,⟨⟨w.heap.size,0,none⟩,qn,hnew _ _,by simp,by omega,by simp⟩,g1,g2,hadd _ _⟩
    have htl:∀n:Int,0≤n→n≤qn→(decide (n<0) || decide ((i.bytes:Int)*n > 2 ^ 48))=false:=by
     intro n hn0 hnq
     simp only[Bool.or_eq_false_iff,decide_eq_false_iff_not,Int.not_lt,gt_iff_lt]
     refine⟨by omega,?_⟩
     rw[hbytes]
     have:(bytes:Int)*n≤(bytes:Int)*qn:=Int.mul_le_mul_of_nonneg_left hnq (by omega)
     rw[Int.mul_comm]at hcb
     have h48:(2:Int) ^ 48=281474976710656:=by decide
     omega
    have e:qn*es=0→(Array.map (fun _=>(default:Value)) (Array.range (qn*es)))=Array.map (fun x=>z.cells[x % z.cells.size]!) (Array.range (qn*es)):=by
     intro h0;simp[h0]
    have hs:(sizeOf (X.τ ty)).run X.P w= .ok es w:=by simp[sizeOf,typeInfo,hi,hsize]
    have hti:(typeInfo (X.τ ty)).run X.P w= .ok i w:=by simp[typeInfo,hi]
    have hnl:(decide ((qn:Int)<0) || decide ((i.bytes:Int)*qn > 2 ^ 48) || decide ((pn:Int)<0) || decide ((pn:Int) > qn))=false:=by
     rw[htl qn (by omega) (by omega)]
     simp only[Bool.false_or,Bool.or_eq_false_iff,decide_eq_false_iff_not,Int.not_lt,gt_iff_lt]
     exact⟨by omega,by omega⟩
    simp only[execOp,hop,Instr.makeSlice,h1,h2,Sem.run_bind,run_underlying hd,Result.andThen_ok,asInt,asIntOf,Sem.run_pure,hti,hw1,hw2,hnl,Bool.false_eq_true,if_false,run_askRoom,Int.toNat_natCast,hs,newRow]
    simp
    split
    ·rename_i h0
     simp only[e (by simpa using h0)]
    ·simp[zeroValue,typeInfo,hi,hiz]
   ·cases hv
  ·cases hv
 ·
  cases hv
  obtain⟨g1,g2⟩:=Zu4 hr hn
  exact⟨_,.map (some w.heap.size),_,by simp[execOp,hop,Instr.makeMap],⟨_,hnew ⟨w.heap.size,0,none⟩ 0,rfl⟩,g1,g2,hadd _ _⟩
 ·
  cases hv
  obtain⟨g1,g2⟩:=Zu4 hr hn
  split at hc
  ·rename_i hd
   exact⟨_,.map (some w.heap.size),_,by simp[execOp,hop,Instr.makeMap,run_underlying hd,hk,asInt,asIntOf],⟨_,hnew ⟨w.heap.size,0,none⟩ 0,rfl⟩,g1,g2,hadd _ _⟩
  ·cases hc
 ·
  rename_i t x a
  obtain⟨hs,hx⟩:=hc
  have hd:=A6 hs
  have h1:=he _ _ hx
  simp only[NO.run]at hv
  split at hv
  case h_2=>cases hv
  rename_i s hn'
  cases hv
  rw[hn']at h1;simp only[VR]at h1
  obtain⟨g1,g2⟩:=hr.new hn (obj:= .stringIter ⟨s.toArray⟩ 0) (k:=0) (o:= .iter s 0) ⟨w.heap.size,by simp[Nu.add],by simp⟩
  exact⟨_,.pointer (some ⟨w.heap.size,0,none⟩),_,by simp[execOp,hop,h1,Instr.range,run_underlying hd],⟨_,hnew _ _,by simp⟩,g1,g2,hadd _ _⟩
 ·
  rename_i s d x ty a
  obtain⟨hs,hd,hel,hx⟩:=hc
  have h1:=he _ _ hx
  have hs:=A6 hs
  obtain⟨e,he1,he2⟩:=P9 hd
  have hel:=Fg hel
  rw[he1]at hel
  cases hel
  simp only[NO.run]at hv
  split at hv
  ·rename_i l hl
   cases hv
   rw[hl]at h1
   simp only[VR]at h1
   have hsz:(⟨l.toArray⟩:ByteArray).size=l.length:=by simp[ByteArray.size]
   let q:Question:= .appendCap l.length 0 (X.τ ty)
   let cp:=q.cut (w.tape w.drawn q)
   have hcp:l.length≤cp:=by
    show l.length≤l.length+_
    omega
   let us:Array Value:=(l.map fun b=>Value.int .u8 b.toNat).toArray++Array.replicate (cp - l.length) (.int .u8 0)
   have hus:us.size=cp:=by simp[us];omega
   let w0:World:={w with drawn:=w.drawn+1}
   have hr0:HR D X N h w0:=hr.drawn _
   have hcells:∀l:List UInt8,VRs X (N.add n ⟨w.heap.size,0,none⟩ cp) (l.map fun b=> .int .u8 b.toNat) (l.map fun b=>Value.int .u8 b.toNat):=by
    intro l
    induction l with
    | nil=>exact rfl
    | cons b l ih=>exact⟨_,_,rfl,rfl,ih⟩
   have hnewo:Bt D X (N.add n ⟨w0.heap.size,0,none⟩ cp) {w0 with heap:=w0.heap.push (.cells us (X.τ ty) (us.size,us.size+1))} n (.buf ty 1 (l.map fun b=> .int .u8 b.toNat)):=by
    refine⟨w0.heap.size,us,(us.size,us.size+1),by simp[Nu.add],by simp,?_,?_,?_,?_⟩
    ·rw[hus];simp[Nu.add]
    ·rw[hus];simpa using hcp
    ·have:us.toList.take (l.map fun b=>(AV.int .u8 b.toNat)).length=l.map fun b=>Value.int .u8 b.toNat:=by
      simp[us]
     rw[this]
     exact hcells l
    ·intro i hi hh;omega
   obtain⟨g1,g2⟩:=hr0.new hn hnewo
   refine⟨_,.slice (some ⟨w.heap.size,0,none⟩) l.length cp,_,?_,⟨⟨w.heap.size,0,none⟩,cp,hnew _ _,by simp,hcp,rfl,by simp[Nu.add]⟩,g1,(Gd.drawn N h w _).trans g2,hadd _ _⟩
   have hconv:(convert s d (.string ⟨l.toArray⟩)).run X.P w= .ok (.slice (some ⟨w.heap.size,0,none⟩) l.length cp) {w0 with heap:=w0.heap.push (.cells us (X.τ ty) (us.size,us.size+1))}:=by
    simp only[convert,Sem.run_bind,run_underlying hs,run_underlying he1,Result.andThen_ok,run_underlying he2,Conv.stringToBytes,hsz,run_choose]
    have hf:(Question.appendCap l.length 0 (X.τ ty)).forced=false:=rfl
    have hmap:Array.map (fun b:UInt8=>Value.int .u8 b.toNat) l.toArray=(l.map fun b=>Value.int .u8 b.toNat).toArray:=by simp
    simp only[hf,Bool.false_eq_true,if_false,Result.andThen_ok,newRow,Sem.run_bind,run_newObj,Sem.run_pure,markStringish,run_shape,hmap]
    have hsh:({w0 with heap:=w0.heap.push (.cells us (X.τ ty))}:World).shape? w.heap.size=some (X.τ ty,us.size):=by
     simp[World.shape?,w0]
    rw[show ({heap:=w.heap.push (.cells ((l.map fun b=>Value.int .u8 b.toNat).toArray++Array.replicate (cp - l.length) (.int .u8 0)) (X.τ ty)),tape:=w.tape,drawn:=w.drawn+1,os:=w.os,output:=w.output}:World).shape? w.heap.size=some (X.τ ty,us.size)from hsh]
    simp only[run_freeze,Result.andThen_ok]
    congr 1
    simp only[World.freeze]
    rw[if_neg (by omega)]
    congr 1
    apply Array.ext_getElem?
    intro k
    rw[Array.getElem?_modify,Array.getElem?_push,Array.getElem?_push]
    by_cases e:w.heap.size=k
    ·subst e
     simp[w0,us]
     rfl
    ·have e':¬k=w.heap.size:=fun h=>e h.symm
     rw[if_neg e,if_neg e',if_neg (by simpa [w0] using e')]
   simp[execOp,hop,h1,hconv]
  ·cases hv
end Go.Ev

/- Stores, appends, copies, writes into maps do what the model's do. -/
namespace Go.Ev
open Go
variable {X : Cx} {N N' N'' : Nu} {D : Mc}
theorem A5 {h:Heap} {w:World} (hr:HR D X N h w) {es k:Nat} {x:AV} {u:Value} {vs:List AV} (hx:VR X N x u) (hs:Vl h es x=some (k,vs)):
  ∃us,(Builtin.lenOf u).run X.P w= .ok k w∧VRs X N vs us∧us.length=k*es∧∀m,m≤k→∀w':World,w'.heap=w.heap→(Builtin.firstCells es m u).run X.P w'= .ok (us.take (m*es)).toArray w':=by
 unfold Vl at hs
 split at hs
 ·cases hs
  simp only[VR]at hx;subst hx
  exact⟨[],by simp[Builtin.lenOf],rfl,by simp,fun m hm w' hw'=>by simp[Builtin.firstCells]⟩
 ·rename_i n o ln c
  simp only[Option.map_eq_some_iff]at hs
  obtain⟨cs,hcs,hk⟩:=hs
  cases hk
  obtain⟨ad,cp,hρ,rfl,_⟩:=hx
  obtain⟨ad',us,h2,h3,h4,h5⟩:=Lj hr hcs
  rw[hρ]at h2;cases h2
  refine⟨us,by simp[Builtin.lenOf],h3,h4,fun m hm w' hw'=> ?_⟩
  simp only[Builtin.firstCells]
  have hl:(us.take (m*es)).length=m*es:=by
   rw[List.length_take,h4]
   exact Nat.min_eq_left (Nat.mul_le_mul_right _ hm)
  have:=Un (P:=X.P) (a:=ad) (off:=o) (us:=us.take (m*es)) (w:=w') (fun j u hj=>by
   have:=h5 j u (by
    rw[List.getElem?_take]at hj
    split at hj
    ·exact hj
    ·cases hj)
   simp only[World.cell?,hw']at this⊢
   exact this)
  rw[hl]at this
  exact this
 ·rename_i s
  split at hs
  case isFalse=>cases hs
  rename_i hes1
  cases hs
  simp only[VR]at hx;subst hx
  subst hes1
  have hsz:(⟨s.toArray⟩:ByteArray).size=s.length:=by simp[ByteArray.size]
  refine⟨s.map fun b=> .int .u8 b.toNat,by simp[Builtin.lenOf,hsz],?_,by simp,fun m hm w' hw'=> ?_⟩
  ·induction s with
   | nil=>exact rfl
   | cons b s ih=>exact⟨_,_,rfl,rfl,ih (by simp[ByteArray.size])⟩
  ·simp only[Builtin.firstCells,Sem.run_pure]
   congr 1
   apply Array.ext'
   simp[ByteArray.data_extract,List.map_take]
 ·cases hs
theorem Zxk {o:Oper} {t:TypeId} {a x:Operand} {sz:Nat} {a' x':AO} {ev:AO→AV} {r:Operand→Value} {st st':St} {w:World} {v:AV} {call:AV→List AV→St→Option (AV×St)}
  (hop:o.op= .store t a x) (hs:Mx X t sz=true) (ha:Jt X a' a=true) (hx:Jt X x' x=true) (he:Evs X N ev r) (hr:SR D X N st w)
  (hv:WO.run call ev st (.store sz a' x')=some (v,st')):
  ∃w',(execOp r o).run X.P w= .ok .skip w'∧v= .bot∧SR D X N st' w'∧Gd N st.h w N st'.h w'∧st'.nx=st.nx:=by
 simp only[WO.run]at hv
 split at hv
 ·rename_i n off hn
  split at hv
  ·rename_i hlen
   simp only[Option.map_eq_some_iff]at hv
   obtain⟨h',hw,hp⟩:=hv
   cases hp
   have h1:=he _ _ ha
   rw[hn]at h1
   obtain⟨ad,hρ,h1⟩:=h1
   have hnb:(ev x').nb=true:=by
    unfold Jy at hw
    cases hxv:ev x' <;> first | rfl | skip
    exfalso
    split at hw <;> first | (cases hw;done) | skip
    all_goals
     split at hw
     ·rename_i hc
      have:=hc.2
      rw[hxv]at this
      simp[Yg,AV.sc]at this
     ·cases hw
   have hcs:=(he _ _ hx).Zsy hnb
   obtain⟨b,w',hb,hrun,g1,g2⟩:=Ih hr.hr hcs hw
   rw[hρ]at hb;cases hb
   refine⟨w',?_,rfl,⟨g1,hr.fresh⟩,g2,rfl⟩
   have hsz:(r x).cells.size=sz:=by
    have:=hcs.length
    simp only[Array.length_toList]at this
    omega
   simp only[Nat.zero_add]at h1
   simp[execOp,hop,h1,Instr.storeAt,Instr.sureAddr,storeVar,N4 hs,hsz,hrun]
  ·cases hv
 ·cases hv
theorem Zzv {o:Oper} {args:Array Operand} {argTypes:Array TypeId} {es:Nat} {d s:AO} {ev:AO→AV} {r:Operand→Value} {st st':St} {w:World} {v:AV} {call:AV→List AV→St→Option (AV×St)}
  (hop:o.op= .call {callee:= .builtin .copy,args,argTypes})
  (ht:(match argTypes[0]? with | some t=>(match X.P.underlying t with | some (.slice e)=>Mx X e es | _=>false) | none=>false)=true)
  (ha:Wy X [d,s] args.toList=true) (he:Evs X N ev r) (hr:SR D X N st w)
  (hv:WO.run call ev st (.copy es d s)=some (v,st')):
  ∃u w',(execOp r o).run X.P w= .ok (.value u) w'∧VR X N v u∧SR D X N st' w'∧Gd N st.h w N st'.h w'∧st'.nx=st.nx:=by
 obtain⟨xd,xs,rfl,hd,hs⟩:∃xd xs,args= #[xd,xs]∧Jt X d xd=true∧Jt X s xs=true:=by
  obtain⟨l⟩:=args
  match l,ha with
  | [x,y],h=>simp[Wy]at h;exact⟨x,y,rfl,h.1,h.2⟩
  | [],h=>simp[Wy]at h
  | [_],h=>simp[Wy]at h
  | _::_::_::_,h=>simp[Wy]at h
 have hcall:∀u w',(Builtin.copy_ argTypes o.type #[r xd,r xs]).run X.P w= .ok u w'→(execOp r o).run X.P w= .ok (.value u) w':=by
  intro u w' hu
  simp[execOp,hop,resolve,invoke,builtin,hu]
 split at ht
 ·rename_i t hat
  split at ht
  ·rename_i e hde
   simp only[WO.run]at hv
   split at hv
   ·cases hv
   ·rename_i k new hsrc
    obtain⟨us,hlen,hnew,husl,hfirst⟩:=A5 hr.hr (he _ _ hs) hsrc
    have h1:=he _ _ hd
    split at hv
    ·rename_i hn
     cases hv
     rw[hn]at h1;simp only[VR]at h1
     have hf:=hfirst 0 (Nat.zero_le _) w rfl
     refine⟨.int .i64 0,w,hcall _ _ ?_,by simp[VR],hr,.refl _ _ _,rfl⟩
     simp[Builtin.copy_,hat,h1,run_underlying hde,N4 ht,hlen,hf,goInt]
    ·rename_i n off ln c hn
     simp only[Option.map_eq_some_iff]at hv
     obtain⟨h',hw,hp⟩:=hv
     cases hp
     rw[hn]at h1
     obtain⟨ad,cp,hρ,h1,_⟩:=h1
     have hf:=hfirst (min k ln) (Nat.min_le_left _ _) w rfl
     obtain⟨b,w',hb,hrun,g1,g2⟩:=Ih hr.hr (hnew.take (min k ln*es)) hw
     rw[hρ]at hb;cases hb
     simp only[Nat.zero_add]at h1
     refine⟨.int .i64 (min k ln:Nat),w',hcall _ _ ?_,by simp[VR],⟨g1,hr.fresh⟩,g2,rfl⟩
     simp[Builtin.copy_,hat,h1,run_underlying hde,N4 ht,hlen,hf,goInt,hrun]
    ·cases hv
  ·cases ht
 ·cases ht
theorem Zmt (n:Nat) (hn:256≤n):∀(r c:Nat),c≤2*n→Builtin.growBy n r c≤2*n
 | 0,c,h=>h
 | r+1,c,h=>by
   simp only[Builtin.growBy]
   split
   ·exact h
   ·exact Zmt n hn r _ (by omega)
theorem nextslicecap_le {n c:Nat} (h:c<n):Builtin.nextslicecap n c≤2*n:=by
 unfold Builtin.nextslicecap
 split
 ·omega
 ·split
  ·omega
  ·exact Zmt n (by omega) 4 c (by omega)
theorem Zkx {sT:TypeId} {argTypes:Array TypeId} {ty e es bytes k:Nat} {i:TypeInfo} {z:Value} {base:Option Addr} {len c:Nat} {x:Value} {old new:Array Value} {w:World}
  (h0:argTypes[0]? =some sT) (hd:X.P.underlying sT=some (.slice e)) (hn:Zge X argTypes[1]? =true) (hi:X.P.info? e=some i) (hsz:i.size=es) (hby:i.bytes=bytes) (hz:i.zero=some z)
  (hlen:(Builtin.lenOf x).run X.P w= .ok k w) (hold:∀w',w'.heap=w.heap→(Builtin.firstCells es len (.slice base len c)).run X.P w'= .ok old w')
  (hnew:∀w',w'.heap=w.heap→(Builtin.firstCells es k x).run X.P w'= .ok new w')
  (hgt:c<len+k) (hb1:(len+k)*bytes≤35184372088832) (hb2:len+k≤35184372088832):
  ∃cp,len+k≤cp∧(Builtin.append_ argTypes ty #[.slice base len c,x]).run X.P w= .ok (.slice (some ⟨w.heap.size,0,none⟩) (len+k) cp)
   {w with drawn:=w.drawn+1,heap:=w.heap.push (.cells (old++new++Builtin.zeroCells z.cells (cp - (len+k))) e)}:=by
 let q:Question:= .appendCap (len+k) c e
 refine⟨q.cut (w.tape w.drawn q),by show len+k≤len+k+_;omega,?_⟩
 have hs:(sizeOf e).run X.P w= .ok es w:=by simp[sizeOf,typeInfo,hi,hsz]
 obtain⟨xT,hx,hxd⟩:∃xT,argTypes[1]? =some xT∧∃d,X.P.underlying xT=some d∧∀k,d≠.int k:=by
  unfold Zge at hn
  split at hn
  ·rename_i t ht
   split at hn
   ·cases hn
   ·cases hn
   ·rename_i h1 h2
    cases hd':X.P.underlying t with
    | none=>exact(h2 hd').elim
    | some d=>exact⟨t,ht,d,hd',fun k e=>h1 k (by rw[hd',e])⟩
  ·cases hn
 obtain⟨dx,hdx,hni⟩:=hxd
 have hm:(match dx with | .int _=>true | _=>false)=false:=by cases dx <;> first | rfl | exact absurd rfl (hni _)
 have hcap:¬(Builtin.nextslicecap (len+k) c*i.bytes > 2 ^ 48):=by
  have h1:=nextslicecap_le hgt
  have h2:Builtin.nextslicecap (len+k) c*i.bytes≤2*(len+k)*bytes:=by rw[hby];exact Nat.mul_le_mul_right _ h1
  rw[Nat.mul_assoc]at h2
  omega
 have hmax:¬(((len+k:Nat):Int) > IntKind.i64.max):=by
  simp[IntKind.max,IntKind.signed,IntKind.bits];omega
 have hti:(typeInfo e).run X.P w= .ok i w:=by simp[typeInfo,hi]
 have hw':∀(w':World),(zeroValue e).run X.P w'= .ok z w':=fun w'=>by simp[zeroValue,typeInfo,hi,hz]
 have hti':∀(w':World),(typeInfo e).run X.P w'= .ok i w':=fun w'=>by simp[typeInfo,hi]
 have hqf:q.forced=false:=rfl
 simp only[Builtin.append_,h0,hx,List.getElem?_toArray,List.getElem?_cons_zero,List.getElem?_cons_succ,Sem.run_bind,run_underlying hd,Result.andThen_ok,hs,run_underlying hdx,Sem.run_pure]
 have hng:¬(len+k≤c):=by omega
 have hf:(Question.appendCap (len+k) c e).forced=false:=rfl
 have ho:=hold {w with drawn:=w.drawn+1} rfl
 have hn2:=hnew {w with drawn:=w.drawn+1} rfl
 simp only[Bool.false_eq_true,if_false,if_true,Bool.not_false,Sem.run_bind,hlen,Result.andThen_ok,hng,hmax,false_and,hti,hcap,run_choose,hf,hti',run_askRoom,ho,hn2,hw',newRow,run_newObj,Sem.run_pure]
 rfl
theorem run_append_room {sT:TypeId} {argTypes:Array TypeId} {ty e es k:Nat} {i:TypeInfo} {base:Option Addr} {len c:Nat} {x:Value} {new:Array Value} {w w':World}
  (h0:argTypes[0]? =some sT) (hd:X.P.underlying sT=some (.slice e)) (hn:Zge X argTypes[1]? =true) (hi:X.P.info? e=some i) (hsz:i.size=es)
  (hlen:(Builtin.lenOf x).run X.P w= .ok k w) (hnew:(Builtin.firstCells es k x).run X.P w= .ok new w) (hle:len+k≤c)
  (hst:(match base with | some a=>storeCells (a.add (len*es)) new.toList | none=>pure ():Sem Unit).run X.P w= .ok () w'):
  (Builtin.append_ argTypes ty #[.slice base len c,x]).run X.P w= .ok (.slice base (len+k) c) w':=by
 have hs:(sizeOf e).run X.P w= .ok es w:=by simp[sizeOf,typeInfo,hi,hsz]
 obtain⟨xT,hx,hxd⟩:∃xT,argTypes[1]? =some xT∧∃d,X.P.underlying xT=some d∧∀k,d≠.int k:=by
  unfold Zge at hn
  split at hn
  ·rename_i t ht
   split at hn
   ·cases hn
   ·cases hn
   ·rename_i h1 h2
    cases hd':X.P.underlying t with
    | none=>exact(h2 hd').elim
    | some d=>exact⟨t,ht,d,hd',fun k e=>h1 k (by rw[hd',e])⟩
  ·cases hn
 obtain⟨dx,hdx,hni⟩:=hxd
 simp only[Builtin.append_,h0,hx,List.getElem?_toArray,List.getElem?_cons_zero,List.getElem?_cons_succ,Sem.run_bind,run_underlying hd,Result.andThen_ok,hs,run_underlying hdx,Sem.run_pure,
  Bool.false_eq_true,if_false,if_true,Bool.not_false,hlen,hle,hnew]
 cases base with
 | none=>simp only[Sem.run_pure]at hst⊢;cases hst;rfl
 | some a=>simp only at hst⊢;rw[Sem.run_bind,hst];rfl
theorem Zaao {st:St} {w:World} (hr:SR D X N st w) {ty es cp:Nat} {cs:List AV} {us:Array Value} (hsz:us.size=cp*es) (hle:cs.length≤us.size) (hcs:VRs X N cs (us.toList.take cs.length)):
  SR D X (N.add st.nx ⟨w.heap.size,0,none⟩ cp) ⟨(st.nx,.buf ty es cs)::st.h,st.nx+1⟩ {w with drawn:=w.drawn+1,heap:=w.heap.push (.cells us (X.τ ty))}∧
   Gd N st.h w (N.add st.nx ⟨w.heap.size,0,none⟩ cp) ((st.nx,.buf ty es cs)::st.h) {w with drawn:=w.drawn+1,heap:=w.heap.push (.cells us (X.τ ty))}:=by
 have hn:=hr.fresh st.nx (Nat.le_refl _)
 have hr0:=hr.hr.drawn (w.drawn+1)
 obtain⟨g1,g2⟩:=hr0.new (n:=st.nx) (k:=cp) (obj:= .cells us (X.τ ty)) (o:= .buf ty es cs) hn
  ⟨w.heap.size,us,(0,0),by simp[Nu.add],by simp,by simp[Nu.add,hsz],hle,hcs.mono (Nu.Zcx hn) _,Zm9 _⟩
 refine⟨⟨g1,fun n hn'=> ?_⟩,(Gd.drawn N st.h w _).trans g2⟩
 have:n≠st.nx:=by simp only at hn';omega
 simp only[Nu.add,if_neg this]
 exact hr.fresh n (by simp only at hn';omega)
theorem Gd.sub {h h' h'':Heap} {w w':World} (g:Gd N h w N' h' w') (hs:∀n o,Zh h'' n=some o→Zh h' n=some o):Gd N h w N' h'' w':=
 ⟨g.le,g.size,g.tape,g.os,g.output,g.frame,fun n o a h1 h2=>g.has n o a (hs _ _ h1) h2⟩
theorem Ze8:∀(vs us:List Value) (o:Nat),o+vs.length≤us.length→(Uz us o vs).take (o+vs.length)=us.take o++vs
 | [],us,o,_=>by simp[Uz]
 | v::vs,us,o,h=>by
   simp only[List.length_cons]at h
   simp only[Uz,List.length_cons]
   have:=Ze8 vs (us.set o v) (o+1) (by simp;omega)
   rw[show o+(vs.length+1)=o+1+vs.length by omega,this]
   rw[List.take_set,List.take_succ_eq_append_getElem (by omega)]
   rw[List.set_append_right _ _ (by simp;omega)]
   simp[Nat.min_eq_left (show o≤us.length by omega)]
theorem Zvi {o:Oper} {args:Array Operand} {argTypes:Array TypeId} {ty es bytes:Nat} {zs:List AV} {s x:AO} {ev:AO→AV} {r:Operand→Value} {st st':St} {w:World} {v:AV}
  (hop:o.op= .call {callee:= .builtin .append,args,argTypes})
  (ht:(match argTypes[0]? with | some t=>Zci X t (X.τ ty) | none=>false)=true) (hn:Zge X argTypes[1]? =true) (hs:Mx X (X.τ ty) es=true) (hb:Zdj X (X.τ ty) bytes=true)
  (hz:Zaf X (X.τ ty) zs=true) (hzl:zs.length=es) (ha:Wy X [s,x] args.toList=true) (he:Evs X N ev r) (hr:SR D X N st w)
  (hv:Vf ty es bytes st (ev s) (ev x)=some (v,st')):
  ∃N' u w',(execOp r o).run X.P w= .ok (.value u) w'∧VR X N' v u∧SR D X N' st' w'∧Gd N st.h w N' st'.h w'∧st.nx≤st'.nx∧∀n,n<st.nx→N'.ρ n=N.ρ n:=by
 obtain⟨xs,xx,rfl,hcs,hcx⟩:∃xd xs,args= #[xd,xs]∧Jt X s xd=true∧Jt X x xs=true:=by
  obtain⟨l⟩:=args
  match l,ha with
  | [x,y],h=>simp[Wy]at h;exact⟨x,y,rfl,h.1,h.2⟩
  | [],h=>simp[Wy]at h
  | [_],h=>simp[Wy]at h
  | _::_::_::_,h=>simp[Wy]at h
 have hcall:∀u w',(Builtin.append_ argTypes o.type #[r xs,r xx]).run X.P w= .ok u w'→(execOp r o).run X.P w= .ok (.value u) w':=by
  intro u w' hu
  simp[execOp,hop,resolve,invoke,builtin,hu]
 split at ht
 case h_2=>cases ht
 rename_i sT h0
 have hd:=Fg ht
 obtain⟨i,hi,hsz⟩:=Zhf hs
 obtain⟨i1,hi1,hby⟩:=Zdk hb
 rw[hi]at hi1;cases hi1
 obtain⟨i2,z,hi2,hiz,hzs⟩:=Zag hz
 rw[hi]at hi2;cases hi2
 have hzc:z.cells.size=es:=by
  have:=(hzs N).length
  simp only[Array.length_toList]at this
  omega
 have hzn:∀m,(Builtin.zeroCells z.cells m).size=m*es:=fun m=>by simp[Builtin.zeroCells,hzc]
 unfold Vf at hv
 split at hv
 ·cases hv
 ·rename_i k new hsrc
  obtain⟨us,hlen,hnew,husl,hfirst⟩:=A5 hr.hr (he _ _ hcx) hsrc
  have hfull:∀w':World,w'.heap=w.heap→(Builtin.firstCells es k (r xx)).run X.P w'= .ok us.toArray w':=by
   intro w' hw'
   have:=hfirst k (Nat.le_refl _) w' hw'
   rwa[List.take_of_length_le (by omega)]at this
  have hnl:=hnew.length
  have h1:=he _ _ hcs
  have grow:∀(base:Option Addr) (len c:Nat) (old:List AV) (os:List Value),r xs= .slice base len c→VRs X N old os→os.length=len*es→
    (∀w':World,w'.heap=w.heap→(Builtin.firstCells es len (.slice base len c)).run X.P w'= .ok os.toArray w')→c<len+k→(len+k)*bytes≤35184372088832→len+k≤35184372088832→
    ∃N' u w',(execOp r o).run X.P w= .ok (.value u) w'∧VR X N' (.slice st.nx 0 (len+k) .full) u∧SR D X N' ⟨(st.nx,.buf ty es (old++new))::st.h,st.nx+1⟩ w'∧
     Gd N st.h w N' ((st.nx,.buf ty es (old++new))::st.h) w'∧∀n,n<st.nx→N'.ρ n=N.ρ n:=by
   intro base len c old os hrx hold hosl hof hlt hb1 hb2
   obtain⟨cp,hcp,hrun⟩:=Zkx (ty:=o.type) h0 hd hn hi hsz hby hiz hlen hof hfull hlt hb1 hb2
   have htot:(os.toArray++us.toArray++Builtin.zeroCells z.cells (cp - (len+k))).size=cp*es:=by
    simp only[Array.size_append,hzn,List.size_toArray,hosl,husl]
    rw[←Nat.add_mul,←Nat.add_mul]
    congr 1
    omega
   have hol:=hold.length
   have hlen2:(old++new).length=(len+k)*es:=by simp[hol,hnl,hosl,husl,Nat.add_mul]
   obtain⟨g1,g2⟩:=Zaao hr (ty:=ty) (es:=es) (cp:=cp) (cs:=old++new) htot
    (by rw[htot,hlen2];exact Nat.mul_le_mul_right _ hcp)
    (by
      have:(os.toArray++us.toArray++Builtin.zeroCells z.cells (cp - (len+k))).toList.take (old++new).length=os++us:=by
       simp only[Array.toList_append]
       rw[List.take_append_of_le_length (by simp[hol,hnl])]
       rw[List.take_of_length_le (by simp[hol,hnl])]
      rw[this]
      exact hold.append hnew)
   refine⟨_,_,_,hcall _ _ (by rw[hrx];exact hrun),⟨⟨w.heap.size,0,none⟩,cp,by simp[Nu.add],by simp,hcp,rfl,by simp[Nu.add]⟩,g1,g2,fun n hn=> ?_⟩
   simp[Nu.add,Nat.ne_of_lt hn]
  split at hv
  ·
   rename_i hsn
   rw[hsn]at h1;simp only[VR]at h1
   split at hv
   ·rename_i hk
    cases hv
    subst hk
    have:=run_append_room (ty:=o.type) (base:=none) (len:=0) (c:=0) h0 hd hn hi hsz hlen (hfull w rfl) (Nat.le_refl _) (w':=w) rfl
    exact⟨N,.slice none 0 0,w,hcall _ _ (by rw[h1];exact this),by simp[VR],hr,.refl _ _ _,Nat.le_refl _,fun _ _=>rfl⟩
   ·split at hv
    ·rename_i hk hb
     cases hv
     obtain⟨N',u,w',a1,a2,a3,a4,a5⟩:=grow none 0 0 [] [] h1 rfl (by simp) (fun w' _=>by simp[Builtin.firstCells]) (by omega) (by simpa using hb.1) (by simpa using hb.2)
     simp only[Nat.zero_add,List.nil_append]at a2 a3 a4
     exact⟨N',u,w',a1,a2,a3,a4,by simp,a5⟩
    ·cases hv
  ·rename_i n off len cap hsn
   rw[hsn]at h1
   obtain⟨ad,c,hρ,h1,hle,hcap⟩:=h1
   split at hv
   ·rename_i hbd
    split at hv
    ·
     rename_i cc
     simp only at hcap
     subst hcap
     split at hv
     ·rename_i hroom
      simp only[Option.map_eq_some_iff]at hv
      obtain⟨h',hw,hp⟩:=hv
      cases hp
      obtain⟨b,w',hb,hrun,g1,g2⟩:=Ih hr.hr hnew hw
      rw[hρ]at hb;cases hb
      have:=run_append_room (ty:=o.type) (base:=some ⟨b,0+off,none⟩) (len:=len) (c:=c) h0 hd hn hi hsz hlen (hfull w rfl) hroom (w':=w') (by
       simp only[add_plain]
       rw[Nat.zero_add]
       exact hrun)
      exact⟨N,_,w',hcall _ _ (by rw[h1];exact this),⟨_,_,hρ,rfl,hroom,rfl⟩,⟨g1,hr.fresh⟩,g2,Nat.le_refl _,fun _ _=>rfl⟩
     ·rename_i hroom
      split at hv
      ·rename_i old hold
       cases hv
       obtain⟨ad',os,h2,h3,h4,h5⟩:=Lj hr.hr hold
       rw[hρ]at h2;cases h2
       obtain⟨N',u,w',a1,a2,a3,a4,a5⟩:=grow _ len c old os h1 h3 h4 (fun w' hw'=>by
        have:=Un (P:=X.P) (a:=ad) (off:=off) (us:=os) (w:=w') (fun j u hj=>by
         have:=h5 j u hj
         simp only[World.cell?,hw']at this⊢
         exact this)
        rw[h4]at this
        simpa [Builtin.firstCells] using this) (by omega) hbd.1 hbd.2
       exact⟨N',u,w',a1,a2,a3,a4,by simp,a5⟩
      ·cases hv
    ·
     simp only at hcap
     obtain⟨ho0,hcκ⟩:=hcap
     split at hv
     ·rename_i ty' es' cs hg
      split at hv
      ·rename_i hcond
       obtain⟨_,rfl,rfl,hcl,hsc⟩:=hcond
       subst ho0
       obtain⟨b,bs,fz,hb1,hb2,hb3,hb4,hb5,hb6⟩:=hr.hr.Um _ _ hg
       rw[hρ]at hb1
       cases hb1
       split at hv
       ·rename_i hk
        cases hv
        subst hk
        have:=run_append_room (ty:=o.type) (base:=some ⟨b,0+0,none⟩) (len:=len) (c:=c) h0 hd hn hi hsz hlen (hfull w rfl) (by omega) (w':=w) (by
         have:us=[]:=List.eq_nil_of_length_eq_zero (by simpa using husl)
         subst this
         rfl)
        exact⟨N,_,w,hcall _ _ (by rw[h1];exact this),by rw[hsn];exact⟨_,_,hρ,rfl,by simpa using hle,rfl,hcκ⟩,hr,.refl _ _ _,Nat.le_refl _,fun _ _=>rfl⟩
       ·rename_i hk
        cases hv
        have hdelsub:∀m o,Zh (Ub st.h n) m=some o→Zh st.h m=some o:=by
         intro m o ho
         rw[Kj]at ho
         split at ho
         ·cases ho
         ·exact ho
        by_cases hroom:len+k≤c
        ·have hone:∀v∈us,v.oneCell'=true:=by
          intro v hvm
          obtain⟨i,hi,rfl⟩:=List.getElem_of_mem hvm
          have hi':i<new.length:=by omega
          exact((L5.1 hnew).2 i new[i] us[i] (List.getElem?_eq_getElem hi') (List.getElem?_eq_getElem hi)).Zpb (List.all_eq_true.1 hsc _ (List.getElem_mem hi'))
         have hroom2:len*es'+us.length≤bs.size:=by
          rw[husl,←Nat.add_mul,hb3,←hcκ]
          exact Nat.mul_le_mul_right _ hroom
         have hrun:=G3 (P:=X.P) (len*es') us bs w 0 hb2 hb6 (by omega) hone
         have happ:=run_append_room (ty:=o.type) (base:=some ⟨b,0+0,none⟩) (len:=len) (c:=c) h0 hd hn hi hsz hlen (hfull w rfl) hroom (by
          simp only[add_plain]
          rw[show (0:Nat)+0+len*es'=len*es' by omega]
          exact hrun)
         have hnx:=hr.fresh st.nx (Nat.le_refl _)
         have hLe:N.Le (N.add st.nx ⟨b,0,none⟩ c):=Nu.Zcx hnx
         have hold:∀m,m≠st.nx→(N.add st.nx ⟨b,0,none⟩ c).ρ m=N.ρ m:=fun m hm=>by simp[Nu.add,hm]
         have hnewρ:(N.add st.nx ⟨b,0,none⟩ c).ρ st.nx=some ⟨b,0,none⟩:=by simp[Nu.add]
         have hget':∀m o,Zh ((st.nx,Qb.buf ty' es' (cs++new))::Ub st.h n) m=some o→
           (m=st.nx∧o= .buf ty' es' (cs++new))∨(m≠st.nx∧m≠n∧Zh st.h m=some o):=by
          intro m o ho
          simp only[Zh]at ho
          split at ho
          ·rename_i e;cases ho;exact .inl ⟨e.symm,rfl⟩
          ·rename_i e
           rw[Kj]at ho
           split at ho
           ·cases ho
           ·rename_i e2;exact .inr ⟨fun h=>e h.symm,fun h=>e2 h.symm,ho⟩
         have hlen2:(cs++new).length=len*es'+us.length:=by simp[hcl,hnl]
         refine⟨N.add st.nx ⟨b,0,none⟩ c,_,_,hcall _ _ (by rw[h1];exact happ),⟨_,_,hnewρ,rfl,hroom,rfl,by simp[Nu.add]⟩,⟨⟨?_,?_⟩,?_⟩,?_,by simp,fun m hm=>hold m (Nat.ne_of_lt hm)⟩
         ·intro m o ho
          rcases hget' m o ho with ⟨rfl,rfl⟩ | ⟨hm1,hm2,hg2⟩
          ·refine⟨b,_,fz,hnewρ,Zdz (Ji hb2),?_,?_,?_,?_⟩
           ·simp[Ut,Nu.add,hb3,←hcκ]
           ·simp only[List.size_toArray,Ut,Array.length_toList];omega
           ·rw[hlen2]
            simp only[Nat.add_zero]
            rw[Ze8 _ _ _ (by simpa using hroom2),←hcl]
            exact(hb5.append hnew).mono hLe _
           ·simpa [Ut] using hb6
          ·refine(hr.hr.Um m o hg2).Zd hLe (by simp[Th]) (fun a ha=>Fj ?_)
           intro e
           exact hm2 (hr.hr.sep n m _ _ _ a hg hg2 rfl hρ ha (by simpa using e.symm)).symm
         ·intro m m' p q a c' hp hq hpo ha hc' hac
          rcases hget' m p hp with ⟨rfl,rfl⟩ | ⟨hm1,hm2,hg2⟩
          ·rcases hget' m' q hq with ⟨rfl,rfl⟩ | ⟨hm1',hm2',hg2'⟩
           ·rfl
           ·exfalso
            rw[hnewρ]at ha;cases ha
            rw[hold _ hm1']at hc'
            exact hm2' (hr.hr.sep n m' _ _ _ c' hg hg2' rfl hρ hc' hac).symm
          ·rw[hold _ hm1]at ha
           rcases hget' m' q hq with ⟨rfl,rfl⟩ | ⟨hm1',hm2',hg2'⟩
           ·exfalso
            rw[hnewρ]at hc';cases hc'
            exact hm2 (hr.hr.sep m n _ _ a _ hg2 hg hpo ha hρ hac)
           ·rw[hold _ hm1']at hc'
            exact hr.hr.sep m m' _ _ a c' hg2 hg2' hpo ha hc' hac
         ·intro m hm
          simp only at hm
          rw[hold m (by omega)]
          exact hr.fresh m (by omega)
         ·refine⟨hLe,by simp[Th],rfl,rfl,rfl,fun k hk hno=>Fj ?_,fun m p a hp ha=> .inl ?_⟩
          ·rintro rfl
           exact hno ⟨n,_,_,hg,rfl,hρ,rfl⟩
          ·rcases hget' m p hp with ⟨rfl,rfl⟩ | ⟨hm1,hm2,hg2⟩
           ·rw[hnewρ]at ha;cases ha
            exact⟨n,_,_,hg,hρ,rfl,fun _=>rfl⟩
           ·rw[hold _ hm1]at ha
            exact⟨m,p,a,hg2,ha,rfl,id⟩
        ·obtain⟨N',u,w',a1,a2,a3,a4,a5⟩:=grow _ len c cs (bs.toList.take cs.length) h1 hb5 (by simp;omega) (fun w' hw'=>by
          have:=Un (P:=X.P) (a:=⟨b,0,none⟩) (off:=0) (us:=bs.toList.take cs.length) (w:=w') (fun j u hj=>by
           rw[List.getElem?_take]at hj
           split at hj
           ·rw[Array.getElem?_toList]at hj
            have:=cell?_of (i:=0+(0+j)) hb2
            simp only[World.cell?,hw']at this⊢
            rw[this];simpa using hj
           ·cases hj)
          rw[List.length_take,Nat.min_eq_left (by simpa using hb4),hcl]at this
          rw[hcl]
          simpa [Builtin.firstCells] using this) (by omega) hbd.1 hbd.2
         have hsub:∀m o,Zh ((st.nx,.buf ty' es' (cs++new))::Ub st.h n) m=some o→Zh ((st.nx,Qb.buf ty' es' (cs++new))::st.h) m=some o:=by
          intro m o ho
          simp only[Zh]at ho⊢
          split at ho
          ·rename_i e;rw[if_pos e];exact ho
          ·rename_i e;rw[if_neg e];exact hdelsub _ _ ho
         exact⟨N',u,w',a1,a2,⟨a3.hr.weaken hsub,a3.fresh⟩,a4.sub hsub,by simp,a5⟩
      ·cases hv
     ·cases hv
    ·cases hv
   ·cases hv
  ·cases hv
end Go.Ev

/- Writes into maps; and all operations that are no calls, together. -/
namespace Go.Ev
open Go
variable {X : Cx} {N N' N'' : Nu} {D : Mc}
theorem Zr1 {kk:Kd} {k a:AV} {u v:Value} (hk:VR X N k u) (ha:VR X N a v) (h:Qo kk k a=some true) (n:Nat):Instr.sameBits n v u=true:=by
 unfold Qo at h
 split at h <;> first | (cases h;done) | skip
 ·simp only[VR]at hk ha;subst hk;subst ha
  simp only[Option.some.injEq,beq_iff_eq]at h;subst h
  simp[Instr.sameBits]
 ·simp only[VR]at hk ha;subst hk;subst ha
  split at h
  ·rename_i hkk
   obtain⟨rfl,rfl⟩:=hkk
   simp only[Option.some.injEq,decide_eq_true_eq]at h;subst h
   simp[Instr.sameBits]
  ·cases h
 ·simp only[VR]at hk ha;subst hk;subst ha
  simp only[Option.some.injEq,G5]at h;subst h
  simp only[Instr.sameBits]
  rename_i x
  show (x.toArray == x.toArray)=true
  simp
theorem Zrd {kk:Kd} {k v:AV} {u x:Value} {d:TypeDesc} {t:TypeId} (ht:Zh6 X t kk=true) (hd:X.P.underlying t=some d) (hk:VR X N k u) (hx:VR X N v x):
  ∀{es es':List (AV×AV)} {ms:List MapEntry} (j:Nat),U0 X N es ms→Mb kk k v es=some es'→
   (∃i e,Instr.findNow d u ms j=some (some (j+i,e.val))∧ms[i]? =some e∧(∀n,Instr.sameBits n e.key u=true)∧U0 X N es' (ms.modify i fun e=>{e with key:=u,val:=x}))∨
   (Instr.findNow d u ms j=some none∧∀c,U0 X N es' (ms++[{key:=u,val:=x,born:=c}]))
 | [],es',ms,j,h,hm=>by
   simp only[U0]at h;subst h
   simp only[Mb]at hm
   split at hm
   ·cases hm
    exact .inr ⟨rfl,fun c=>⟨_,[],rfl,hk,hx,rfl⟩⟩
   ·cases hm
 | (a,b)::es,es',ms,j,h,hm=>by
   obtain⟨e,er,rfl,h1,h2,h3⟩:=h
   simp only[Mb]at hm
   split at hm
   ·rename_i hc
    cases hm
    refine .inl ⟨0,e,by simp[Instr.findNow,Ei ht hd hk h1 hc],rfl,fun n=>Zr1 hk h1 hc n,?_⟩
    exact⟨{e with key:=u,val:=x},er,by simp,hk,hx,h3⟩
   ·rename_i hc
    split at hm
    ·rename_i r hr
     cases hm
     rcases Zrd ht hd hk hx (j+1) h3 hr with ⟨i,e',h4,h5,h6,h7⟩ | ⟨h4,h5⟩
     ·refine .inl ⟨i+1,e',?_,by simpa using h5,h6,?_⟩
      ·simp[Instr.findNow,Ei ht hd hk h1 hc,h4];omega
      ·exact⟨e,_,by simp,h1,h2,h7⟩
     ·refine .inr ⟨by simp[Instr.findNow,Ei ht hd hk h1 hc,h4],fun c=>⟨e,_,rfl,h1,h2,h5 c⟩⟩
    ·cases hm
   ·cases hm
theorem Zcb {st st':St} {w:World} {t kt et:TypeId} {kk:Kd} {m k v:AV} {um uk uv:Value} {n:Nat} {es es':List (AV×AV)} (hd:X.P.underlying t=some (.map kt et)) (hkt:Zh6 X kt kk=true)
  (hm:VR X N m um) (hk:VR X N k uk) (hv:VR X N v uv) (hr:SR D X N st w) (hmn:m= .map n) (hg:Zh st.h n=some (.map es)) (hi:Mb kk k v es=some es')
  (hst:st'=⟨Z7 st.h n (.map es'),st.nx⟩):
  ∃w',(Instr.mapUpdate t um uk uv).run X.P w= .ok () w'∧SR D X N st' w'∧Gd N st.h w N st'.h w':=by
 subst hmn hst
 obtain⟨ad,hρ,rfl⟩:=hm
 obtain⟨b,mes,clk,hb1,hb2,hb3,hb4⟩:=hr.hr.Um _ _ hg
 rw[hρ]at hb1
 cases hb1
 have hgo:(getObj b).run X.P w= .ok (.map mes clk) w:=by simp[getObj,Sem.run,hb2]
 have hso:∀o,(setObj b o).run X.P w= .ok () {w with heap:=w.heap.setIfInBounds b o}:=fun o=>by simp[setObj,Sem.run,hb2]
 obtain⟨dk,hdk⟩:∃dk,X.P.underlying kt=some dk:=by
  unfold Zh6 at hkt
  split at hkt <;> first | exact⟨_,‹_›⟩ | cases hkt
 have hck:=fun e=>Tv hkt e uk 9999 w
 have fin:∀ms' clk',U0 X N es' ms'.toList→(∀e∈ms'.toList,e.born<clk')→HR D X N (Z7 st.h n (.map es')) {w with heap:=w.heap.setIfInBounds b (.map ms' clk')}∧Gd N st.h w N (Z7 st.h n (.map es')) {w with heap:=w.heap.setIfInBounds b (.map ms' clk')}:=by
  intro ms' clk' hms hborn
  refine HR.put hr.hr hg rfl hρ (by simp) rfl rfl rfl (fun q hq=> ?_) ⟨b,ms',clk',hρ,?_,hms,hborn⟩
  ·rw[Array.getElem?_setIfInBounds,if_neg (fun e=>hq e.symm)]
  ·simp[Ji hb2]
 rcases Zrd hkt hdk hk hv 0 hb3 hi with ⟨i,e,h4,h5,h6,h7⟩ | ⟨h4,h5⟩
 ·have h5':mes[i]? =some e:=by rw[←Array.getElem?_toList];exact h5
  obtain⟨g1,g2⟩:=fin (mes.modify i fun e=>{e with key:=uk,val:=uv}) clk (by rw[Array.toList_modify];exact h7) (fun e he=>by
   rw[Array.toList_modify]at he
   obtain⟨j,hj⟩:=List.mem_iff_getElem?.1 he
   rw[List.getElem?_modify]at hj
   cases hq:mes.toList[j]? with
   | none=>rw[hq]at hj;simp at hj
   | some q=>
     rw[hq]at hj
     have hb:=hb4 q (List.mem_of_getElem? hq)
     split at hj <;> simp at hj <;> subst hj <;> exact hb)
  refine⟨_,?_,⟨g1,hr.fresh⟩,g2⟩
  simp only[Nat.zero_add]at h4
  have hsb:=h6 10000
  simp[Instr.mapUpdate,run_underlying hd,hgo,hck,Instr.findKey,run_underlying hdk,h4,h5',Instr.keyThatStays,hsb,hso]
 ·obtain⟨g1,g2⟩:=fin (mes.push {key:=uk,val:=uv,born:=clk}) (clk+1) (by simpa using h5 clk) (fun e he=>by
   rw[Array.toList_push]at he
   rcases List.mem_append.1 he with he | he
   ·have:=hb4 e he;omega
   ·simp at he;subst he;simp)
  refine⟨_,?_,⟨g1,hr.fresh⟩,g2⟩
  simp[Instr.mapUpdate,run_underlying hd,hgo,hck,Instr.findKey,run_underlying hdk,h4,hso]
theorem run_loadBytes {P:Program} {w:World}:∀{cs:List AV} {us:List Value} {l:List UInt8} {a:Addr} {acc:ByteArray},VRs X N cs us→W4 cs=some l→
  (∀j u,us[j]? =some u→w.cell? (a.add j)=some u)→(loadBytes a acc us.length).run P w= .ok ⟨acc.data++l.toArray⟩ w
 | [],us,l,a,acc,hv,hl,hc=>by
   simp only[VRs]at hv
   subst hv
   simp only[W4,Option.some.injEq]at hl
   subst hl
   simp[loadBytes]
 | c::cs,us,l,a,acc,hv,hl,hc=>by
   obtain⟨u,ur,rfl,h1,h2⟩:=hv
   unfold W4 at hl
   split at hl
   ·rename_i hn;cases hn
   ·rename_i n r hn
    cases hn
    split at hl
    case h_2=>cases hl
    rename_i l' hl'
    cases hl
    simp only[VR]at h1
    subst h1
    have h0:w.cell? a=some (.int .u8 n):=by
     have:=hc 0 _ rfl
     simpa [Addr.add] using this
    have ih:=run_loadBytes (P:=P) (acc:=acc.push (UInt8.ofNat n.toNat)) h2 hl' (a:=a.add 1) (fun j y hy=>by
     have:=hc (j+1) y (by simpa using hy)
     have e:(a.add 1).add j=a.add (j+1):=by
      unfold Addr.add
      by_cases hj:j=0
      ·subst hj;simp
      ·simp[hj];omega
     rw[e];exact this)
    simp only[List.length_cons,loadBytes,Sem.run_bind,run_load,h0,Result.andThen]
    have e:n.toNat.toUInt8=UInt8.ofNat n.toNat:=rfl
    rw[e,ih]
    congr 1
    apply ByteArray.ext
    simp[ByteArray.push]
   ·cases hl
theorem Zvz {w:World} {a:Addr} {n k:Nat} (h:k≠a.block):(w.freeze a n).heap[k]? =w.heap[k]? :=by
 unfold World.freeze
 split
 ·rfl
 ·simp only[Array.getElem?_modify]
  rw[if_neg (fun e=>h e.symm)]
theorem Zn8 (w:World) (a:Addr) (n:Nat):(w.freeze a n).heap.size=w.heap.size∧(w.freeze a n).tape=w.tape∧(w.freeze a n).os=w.os∧(w.freeze a n).output=w.output:=by
 unfold World.freeze
 split <;> simp
theorem Zxj {o:Oper} {x:Operand} {a:AO} {ev:AO→AV} {r:Operand→Value} {st st':St} {w:World} {v:AV} {call:AV→List AV→St→Option (AV×St)}
  (hop:o.op= .next x true) (ha:Jt X a x=true) (he:Evs X N ev r) (hr:SR D X N st w) (hv:WO.run call ev st (.Sf a)=some (v,st')):
  ∃u w',(execOp r o).run X.P w= .ok (.value u) w'∧VR X N v u∧SR D X N st' w'∧Gd N st.h w N st'.h w'∧st'.nx=st.nx:=by
 have h1:=he _ _ ha
 simp only[WO.run]at hv
 split at hv
 case h_2=>cases hv
 rename_i n off hn
 split at hv
 case h_2=>cases hv
 rename_i s pos hg
 split at hv
 case isFalse=>cases hv
 rename_i ho
 subst ho
 rw[hn]at h1
 obtain⟨ad,hρ,h1⟩:=h1
 obtain⟨b,hb1,hb2⟩:=hr.hr.Um _ _ hg
 rw[hρ]at hb1
 cases hb1
 split at hv
 ·rename_i hlt
  cases hv
  have hlt':pos<(⟨s.toArray⟩:ByteArray).size:=by simpa [ByteArray.size] using hlt
  have hbl:=Ji hb2
  obtain⟨g1,g2⟩:=HR.put (w':={w with heap:=w.heap.setIfInBounds b (.stringIter ⟨s.toArray⟩ (pos+(G4 s pos).2))}) (o:= .iter s (pos+(G4 s pos).2)) hr.hr hg rfl hρ (by simp) rfl rfl rfl
   (fun k hk=>by rw[Array.getElem?_setIfInBounds,if_neg (fun e=>hk e.symm)]) ⟨b,hρ,by simp[hbl]⟩
  refine⟨.tuple #[.bool true,.int .i64 pos,.int .i32 (Utf8.decode ⟨s.toArray⟩ pos).1],_,?_,⟨_,rfl,_,_,rfl,rfl,_,_,rfl,rfl,_,_,rfl,rfl,rfl⟩,⟨g1,hr.fresh⟩,g2,rfl⟩
  simp only[execOp,hop,h1]
  simp[Instr.next,getObj,setObj,Sem.run_bind,Sem.run,hb2,Result.andThen,hlt',goInt,G4]
 ·rename_i hlt
  cases hv
  have hlt':¬pos<(⟨s.toArray⟩:ByteArray).size:=by simpa [ByteArray.size] using hlt
  refine⟨.tuple #[.bool false],w,?_,⟨_,rfl,_,_,rfl,rfl,rfl⟩,hr,.refl _ _ _,rfl⟩
  simp only[execOp,hop,h1]
  simp[Instr.next,getObj,Sem.run,hb2,hlt']
theorem Zzw {o:Oper} {args:Array Operand} {argTypes:Array TypeId} {ty:Nat} {p l:AO} {ev:AO→AV} {r:Operand→Value} {st st':St} {w:World} {v:AV} {call:AV→List AV→St→Option (AV×St)}
  (hop:o.op= .call {callee:= .builtin .unsafeString,args,argTypes})
  (ht:(match argTypes[0]? with | some t=>(match X.P.underlying t with | some (.pointer e)=>e == X.τ ty && X.P.cellsOf e == 1 | _=>false) | none=>false)=true)
  (ha:Wy X [p,l] args.toList=true) (he:Evs X N ev r) (hr:SR D X N st w)
  (hv:WO.run call ev st (.Zmh ty p l)=some (v,st')):
  ∃u w',(execOp r o).run X.P w= .ok (.value u) w'∧VR X N v u∧SR D X N st' w'∧Gd N st.h w N st'.h w'∧st'.nx=st.nx:=by
 obtain⟨xp,xl,rfl,hp,hl⟩:∃xd xs,args= #[xd,xs]∧Jt X p xd=true∧Jt X l xs=true:=by
  obtain⟨q⟩:=args
  match q,ha with
  | [x,y],h=>simp[Wy]at h;exact⟨x,y,rfl,h.1,h.2⟩
  | [],h=>simp[Wy]at h
  | [_],h=>simp[Wy]at h
  | _::_::_::_,h=>simp[Wy]at h
 have hcall:∀u w',(Builtin.unsafeString_ argTypes o.type #[r xp,r xl]).run X.P w= .ok u w'→(execOp r o).run X.P w= .ok (.value u) w':=by
  intro u w' hu
  simp[execOp,hop,resolve,invoke,builtin,hu]
 split at ht
 case h_2=>cases ht
 rename_i pt hat
 split at ht
 case h_2=>cases ht
 rename_i e hd
 simp only[bool_and,beq_iff_eq]at ht
 obtain⟨rfl,hc1⟩:=ht
 have h1:=he _ _ hp
 have h2:=he _ _ hl
 have hmax:IntKind.i64.max=9223372036854775807:=rfl
 simp only[WO.run]at hv
 split at hv
 ·rename_i k hn hk
  split at hv
  case isFalse=>cases hv
  rename_i hk0
  subst hk0
  cases hv
  rw[hn]at h1;rw[hk]at h2
  simp only[VR]at h1 h2
  refine⟨.string .empty,w,hcall _ _ ?_,by simp only[VR];rfl,hr,.refl _ _ _,rfl⟩
  rw[h1,h2]
  have hdef:Builtin.unsafeString_ argTypes o.type #[.pointer none,.int .i64 0]=
    (do
      let n←asInt (.int .i64 0)
      let some pt:=argTypes[0]? | stuck "unsafe.String: no argument types"
      if n<0 then runtimePanic (.error "unsafe.String: len out of range")
      if n > IntKind.i64.max then unsupported (.unsafePointer "String: a length above the largest int")
      if n=0 then pure (.string .empty)
      else runtimePanic (.error "unsafe.String: ptr is nil and len is not zero")):=rfl
  rw[hdef]
  simp[asInt,asIntOf,hmax,hat]
 ·rename_i n off k hn hk
  split at hv
  case h_2=>cases hv
  rename_i ty' es cs hg
  split at hv
  case isFalse=>cases hv
  rename_i hcs
  obtain⟨rfl,rfl,rfl,hlen,rfl,hle⟩:=hcs
  simp only[Option.map_eq_some_iff]at hv
  obtain⟨s,hs,hsv⟩:=hv
  cases hsv
  rw[hn]at h1;rw[hk]at h2
  obtain⟨ad,hρ,h1⟩:=h1
  simp only[VR]at h2
  obtain⟨b,us,fz,hb1,hb2,hb3,hb4,hb5,hb6⟩:=hr.hr.Um _ _ hg
  rw[hρ]at hb1
  cases hb1
  obtain⟨q1,q2,q3,q4⟩:=Zn8 w ⟨b,0,none⟩ cs.length
  obtain⟨g1,g2⟩:=HR.kill (w':=w.freeze ⟨b,0,none⟩ cs.length) hr.hr hg rfl hρ q1 q2 q3 q4 (fun k hk=>Zvz hk)
  refine⟨.string ⟨s.toArray⟩,w.freeze ⟨b,0,none⟩ cs.length,hcall _ _ ?_,by simp[VR],⟨g1,hr.fresh⟩,g2,rfl⟩
  have hlt:(us.toList.take cs.length).length=cs.length:=by simp;omega
  have hlb:=run_loadBytes (P:=X.P) (w:=w) (a:=⟨b,0,none⟩) (acc:= .empty) hb5 hs (fun j u hj=>by
   rw[List.getElem?_take]at hj
   split at hj
   ·rw[add_plain,Nat.zero_add,cell?_of hb2];simpa using hj
   ·cases hj)
  rw[hlt]at hlb
  have hsh:w.shape? b=some (X.τ ty',us.size):=by simp[World.shape?,hb2]
  have hlies:=Lib.liesAt_bytes (P:=X.P) hc1 (us.size / X.P.cellsOf (X.τ ty')) cs.length (by rw[hc1];simpa using hb4)
  rw[h1,h2]
  have hdef:Builtin.unsafeString_ argTypes o.type #[.pointer (some ⟨b,0+0,none⟩),.int .i64 cs.length]=
    (do
      let n←asInt (.int .i64 cs.length)
      let some pt:=argTypes[0]? | stuck "unsafe.String: no argument types"
      if n<0 then runtimePanic (.error "unsafe.String: len out of range")
      if n > IntKind.i64.max then unsupported (.unsafePointer "String: a length above the largest int")
      if n=0 then pure (.string .empty)
      else if←variablesAt ⟨b,0,none⟩ (←elemOf pt) n.toNat then do
       let s←loadBytes ⟨b,0,none⟩ .empty n.toNat
       freeze ⟨b,0,none⟩ n.toNat
       pure (.string s)
      else unsupported (.unsafePointer "String: not so many bytes at ptr")):=rfl
  rw[hdef]
  have h63:¬(9223372036854775807:Int)<(cs.length:Int):=by omega
  have hneg:¬(cs.length:Int)<0:=by omega
  have h0:cs.length≠0:=by omega
  simp[asInt,asIntOf,hmax,hat,h63,hneg,h0,variablesAt,hsh,elemOf,run_underlying hd,hlies,hlb]
 ·cases hv
def WO.calls:WO→Bool
 | .call .. =>true
 | _=>false
def MO.calls:MO→Bool
 | .w o=>o.calls
 | _=>false
def Zro:Next→Option Value
 | .value u=>some u
 | .skip=>some undef
 | _=>none
theorem Zxc {o:Oper} {m:MO} {v:AV} {ev:AO→AV} {r:Operand→Value} {st st':St} {w:World} {call:AV→List AV→St→Option (AV×St)} (hc:Zvo X o.op m=true) (hnc:m.calls=false)
  (he:Evs X N ev r) (hk:∀v,r (.const v)=v) (hgl:∀g,r (.global g)= .pointer (some ⟨g,0,none⟩)) (hr:SR D X N st w) (hv:MO.run call ev st m=some (v,st')):
  ∃N' nx u w',(execOp r o).run X.P w= .ok nx w'∧Zro nx=some u∧VR X N' v u∧SR D X N' st' w'∧Gd N st.h w N' st'.h w'∧st.nx≤st'.nx∧∀n,n<st.nx→N'.ρ n=N.ρ n:=by
 cases m with
 | p p=>
   simp only[MO.run]at hv
   split at hv
   ·rename_i x hx
    cases hv
    obtain⟨u,h1,h2⟩:=Zxf (N:=N) hc he hx w
    exact⟨N,_,u,w,h1,rfl,h2,hr,.refl _ _ _,Nat.le_refl _,fun _ _=>rfl⟩
   ·cases hv
 | r p=>
   simp only[MO.run]at hv
   split at hv
   ·rename_i x hx
    cases hv
    obtain⟨u,h1,h2⟩:=Zxg hc he hgl hr.hr hx
    exact⟨N,_,u,w,h1,rfl,h2,hr,.refl _ _ _,Nat.le_refl _,fun _ _=>rfl⟩
   ·cases hv
 | n p=>
   simp only[MO.run]at hv
   split at hv
   ·rename_i x b hx
    cases hv
    obtain⟨N',u,w',h1,h2,h3,h4,h5⟩:=Zpz hc he hk hr.hr (hr.fresh _ (Nat.le_refl _)) hx
    refine⟨N',_,u,w',h1,rfl,h2,⟨h3,fun m hm=> ?_⟩,h4,by simp,fun m hm=>h5 m (by omega)⟩
    simp only at hm
    rw[h5 m (by omega)]
    exact hr.fresh m (by omega)
   ·cases hv
 | w p=>
   simp only[Zvo]at hc
   unfold chkW at hc
   split at hc <;> (first | (cases hc;done) | skip) <;> rename_i hop <;> (try simp only[bool_and,beq_iff_eq]at hc)
   ·obtain⟨h1,h2,h3⟩:=hc
    obtain⟨w',g1,rfl,g3,g4,g5⟩:=Zxk (call:=call) hop h1 h2 h3 he hr hv
    exact⟨N,_,undef,w',g1,rfl,trivial,g3,g4,by omega,fun _ _=>rfl⟩
   ·obtain⟨h1,h2,h3,h4,h5,h6,h7⟩:=hc
    obtain⟨N',u,w',g1,g2,g3,g4,g5,g6⟩:=Zvi hop h1 h2 h3 h4 h5 h6 h7 he hr hv
    exact⟨N',_,u,w',g1,rfl,g2,g3,g4,g5,g6⟩
   ·obtain⟨h1,h2⟩:=hc
    obtain⟨u,w',g1,g2,g3,g4,g5⟩:=Zzv (call:=call) hop h1 h2 he hr hv
    exact⟨N,_,u,w',g1,rfl,g2,g3,g4,by omega,fun _ _=>rfl⟩
   ·rename_i t m k v' kk m' k' v''
    obtain⟨h1,h2,h3,h4⟩:=hc
    split at h1
    ·rename_i kt et hd
     simp only[MO.run,WO.run]at hv
     split at hv
     ·rename_i n hn
      split at hv
      ·rename_i es hg
       simp only[Option.map_eq_some_iff]at hv
       obtain⟨es',hes,hp⟩:=hv
       cases hp
       obtain⟨w',g1,g2,g3⟩:=Zcb hd h1 (he _ _ h2) (he _ _ h3) (he _ _ h4) hr hn hg hes rfl
       exact⟨N,.skip,undef,w',by simp[execOp,hop,g1],rfl,trivial,g2,g3,Nat.le_refl _,fun _ _=>rfl⟩
      ·cases hv
     ·cases hv
    ·cases h1
   ·rename_i t m k v' kk m' k' v''
    obtain⟨h1,h2,h3,h4⟩:=hc
    split at h1
    ·rename_i kt et hd
     simp only[MO.run,WO.run]at hv
     split at hv
     ·rename_i n hn
      split at hv
      ·rename_i es hg
       simp only[Option.map_eq_some_iff]at hv
       obtain⟨es',hes,hp⟩:=hv
       cases hp
       obtain⟨w',g1,g2,g3⟩:=Zcb hd h1 (he _ _ h2) (he _ _ h3) (he _ _ h4) hr hn hg hes rfl
       exact⟨N,.skip,undef,w',by simp[execOp,hop,g1],rfl,trivial,g2,g3,Nat.le_refl _,fun _ _=>rfl⟩
      ·cases hv
     ·cases hv
    ·cases h1
   ·cases hnc
   ·obtain⟨u,w',g1,g2,g3,g4,g5⟩:=Zxj (call:=call) hop hc he hr hv
    exact⟨N,_,u,w',g1,rfl,g2,g3,g4,by omega,fun _ _=>rfl⟩
   ·obtain⟨h1,h2⟩:=hc
    obtain⟨u,w',g1,g2,g3,g4,g5⟩:=Zzw (call:=call) hop h1 h2 he hr hv
    exact⟨N,_,u,w',g1,rfl,g2,g3,g4,by omega,fun _ _=>rfl⟩
end Go.Ev

/- Steps of the model's machine, for a frame that may be a round of a loop over a function. -/
namespace Go.Ev
open Go
def Fr (b:Frame) (t:Array Value) (d:List Deferred) (todo:List Item):Frame:={b with tmps:=t,defers:=d,todo,mode:= .run}
def evT (t:Array Value):Operand→Value
 | .tmp i=>t.getD i undef
 | .const v=>v
 | .global g=> .pointer (some ⟨g,0,none⟩)
 | .func f=> .func (.func f) #[] #[]
theorem Zne (b:Frame) (t:Array Value) (d:List Deferred) (todo:List Item):(Fr b t d todo).eval=evT t:=by
 funext x;cases x <;> rfl
def B4 (t:Array Value):Option Nat→Value→Array Value
 | none,_=>t
 | some d,v=>t.setIfInBounds d v
section
variable {P : Program} {b : Frame} {t : Array Value} {d : List Deferred} {k : List Item} {cs : List Frame} {w : World}
theorem Zuw:step P (lone (Fr b t d (.code .skip::k)) cs w)= .next (lone (Fr b t d k) cs w):=
 step_lone_go (by simp[stepG,stepG.exec,Fr])
theorem Zx3 {l:Nat}:step P (lone (Fr b t d (.code (.label l)::k)) cs w)= .next (lone (Fr b t d k) cs w):=
 step_lone_go (by simp[stepG,stepG.exec,Fr])
theorem Zjb {i:Nat}:step P (lone (Fr b t d (.inBlock i::k)) cs w)= .next (lone (Fr b t d k) cs w):=
 step_lone_go (by simp[stepG,stepG.exec,Fr])
theorem Ztj {c:Code}:step P (lone (Fr b t d (.inScope c::k)) cs w)= .next (lone (Fr b t d k) cs w):=
 step_lone_go (by simp[stepG,stepG.exec,Fr])
theorem Pb {x y:Code}:step P (lone (Fr b t d (.code (.seq x y)::k)) cs w)= .next (lone (Fr b t d (.code x:: .code y::k)) cs w):=
 step_lone_go (by simp[stepG,stepG.exec,Fr])
theorem Zii {c:Operand} {x y:Code} {q:Bool} (h:evT t c= .bool q):
  step P (lone (Fr b t d (.code (.cond c x y)::k)) cs w)= .next (lone (Fr b t d (.code (if q then x else y)::k)) cs w):=
 step_lone_go (by
  have:=congrFun (Zne b t d (.code (.cond c x y)::k)) c
  simp only[Fr]at this
  simp[stepG,stepG.exec,Fr,this,h])
theorem T9 {i:Nat} {c:Code}:step P (lone (Fr b t d (.code (.block i c)::k)) cs w)= .next (lone (Fr b t d (.code c:: .inBlock i::k)) cs w):=
 step_lone_go (by simp[stepG,stepG.exec,Fr])
theorem Zjd {c:Code}:step P (lone (Fr b t d (.code (.scope c)::k)) cs w)= .next (lone (Fr b t d (.code c:: .inScope c::k)) cs w):=
 step_lone_go (by simp[stepG,stepG.exec,Fr])
theorem Pa {c:Code}:step P (lone (Fr b t d (.code (.loop c)::k)) cs w)= .next (lone (Fr b t d (.code c:: .inLoop c::k)) cs w):=
 step_lone_go (by simp[stepG,stepG.exec,Fr])
theorem Zms {c:Code}:step P (lone (Fr b t d (.inLoop c::k)) cs w)= .next (lone (Fr b t d (.code c:: .inLoop c::k)) cs w):=
 step_lone_go (by simp[stepG,stepG.exec,Fr])
theorem Zuv {i:Nat} {k':List Item} (h:exitTo i k=some k'):step P (lone (Fr b t d (.code (.exit i)::k)) cs w)= .next (lone (Fr b t d k') cs w):=
 step_lone_go (by simp[stepG,stepG.exec,Fr,h])
theorem Ip {i:Nat} {ops:Array Oper}:
  step P (lone (Fr b t d (.code (.region i ops false)::k)) cs w)= .next (lone (Fr b t d (.inRegion ops (List.range ops.size)::k)) cs w):=
 step_lone_go (by simp[stepG,stepG.exec,Fr])
theorem Zjc {i:Nat} {ops:Array Oper}:
  step P (lone (Fr b t d (.code (.region i ops true)::k)) cs w)=
   .next (lone (Fr b t d (.inRegion ops (Region.schedule (P.follows .mixedOrders) ops (w.tape w.drawn (.order b.fn i)))::k)) cs {w with drawn:=w.drawn+1}):=
 step_lone_go (by simp[stepG,stepG.exec,Fr,choose,Sem.run,Question.forced,Question.cut])
theorem X8 {ops:Array Oper}:step P (lone (Fr b t d (.inRegion ops []::k)) cs w)= .next (lone (Fr b t d k) cs w):=
 step_lone_go (by simp[stepG,stepG.exec,Fr])
theorem Zfb (ops:Array Oper) (i:Nat) (rest:List Nat) (v:Value):
  (Fr b t d (.inRegion ops (i::rest)::k)).finish v=Fr b (B4 t ((ops[i]?).bind (·.dst)) v) d (.inRegion ops rest::k):=by
 cases h:(ops[i]?).bind (·.dst) <;> simp[Frame.finish,Fr,B4,h]
theorem Ztk {ops:Array Oper} {i:Nat} {rest:List Nat} {o:Oper} (ho:ops[i]? =some o) (h:Region.wanted o (yielded ops t)=false):
  step P (lone (Fr b t d (.inRegion ops (i::rest)::k)) cs w)= .next (lone (Fr b (B4 t o.dst undef) d (.inRegion ops rest::k)) cs w):=by
 have hf:=Zfb (b:=b) (t:=t) (d:=d) (k:=k) ops i rest undef
 rw[ho]at hf
 simp only[Option.bind_some]at hf
 rw[←hf]
 exact step_lone_go (by simp[stepG,stepG.exec,Fr,ho,h])
theorem Zth {ops:Array Oper} {i:Nat} {rest:List Nat} {o:Oper} (ho:ops[i]? =some o) (hw:Region.wanted o (yielded ops t)=true) (hd:∀c,o.op≠.defer c):
  stepG P true {frame:=Fr b t d (.inRegion ops (i::rest)::k),callers:=cs,status:= .running,dying:=none} w=
   stepG.apply P true (Fr b t d (.inRegion ops (i::rest)::k)) cs none (execOp (evT t) o) w:=by
 have he:=Zne b t d (.inRegion ops (i::rest)::k)
 simp only[Fr]at he
 simp only[Fr]
 cases hro:b.roundOf with
 | none=>
   rw[hro]at he
   simp[stepG,stepG.exec,stepG.oper,Frame.oper?,ho,hw,he]
 | some l=>
   rw[hro]at he
   simp only[stepG,stepG.exec,stepG.oper,Frame.oper?,ho,hw,he,Option.map_some,Option.getD_some,if_true]
   cases hop:o.op <;> first | rfl | exact absurd hop (hd _)
theorem Mr {ops:Array Oper} {i:Nat} {rest:List Nat} {o:Oper} {nx:Next} {u:Value} {w':World} (ho:ops[i]? =some o) (hw:Region.wanted o (yielded ops t)=true) (hd:∀c,o.op≠.defer c)
  (hr:(execOp (evT t) o).run P w= .ok nx w') (hu:Zro nx=some u):
  step P (lone (Fr b t d (.inRegion ops (i::rest)::k)) cs w)= .next (lone (Fr b (B4 t o.dst u) d (.inRegion ops rest::k)) cs w'):=by
 have hf:=Zfb (b:=b) (t:=t) (d:=d) (k:=k) ops i rest u
 rw[ho]at hf
 simp only[Option.bind_some]at hf
 rw[←hf]
 refine step_lone_go ?_
 rw[Zth ho hw hd]
 cases nx <;> simp only[Zro]at hu <;> first | (cases hu;done) | skip
 ·cases hu;simp[stepG.apply,hr]
 ·cases hu;simp[stepG.apply,hr]
theorem Zqr {ops:Array Oper} {i:Nat} {rest:List Nat} {o:Oper} {g:FuncId} {us:Array Value} {w':World} (ho:ops[i]? =some o) (hw:Region.wanted o (yielded ops t)=true) (hd:∀c,o.op≠.defer c)
  (hr:(execOp (evT t) o).run P w= .ok (.enter g us) w'):
  step P (lone (Fr b t d (.inRegion ops (i::rest)::k)) cs w)= .next (lone (Frame.enter P g us .normal) (Fr b t d (.inRegion ops (i::rest)::k)::cs) w'):=by
 refine step_lone_go ?_
 rw[Zth ho hw hd]
 simp[stepG.apply,hr,Fr]
theorem Zqs {ops:Array Oper} {i:Nat} {rest:List Nat} {o:Oper} {l:Nat} {g:FuncId} {us:Array Value} {a c:Code} {w':World} (ho:ops[i]? =some o) (hw:Region.wanted o (yielded ops t)=true) (hd:∀c,o.op≠.defer c)
  (hr:(execOp (evT t) o).run P w= .ok (.round l g us a c) w'):
  step P (lone (Fr b t d (.inRegion ops (i::rest)::k)) cs w)= .next (lone (Frame.round l g us a c .normal) (Fr b t d (.inRegion ops (i::rest)::k)::cs) w'):=by
 refine step_lone_go ?_
 rw[Zth ho hw hd]
 simp[stepG.apply,hr,Fr]
theorem Zx2 (hb:b.roundOf=none):step P (lone (Fr b t d []) cs w)= .next (lone {Fr b t d []with mode:= .returning} cs w):=
 step_lone_go (by simp[stepG,stepG.exec,Fr,hb])
theorem Zx4 (hb:b.roundOf=none):step P (lone (Fr b t d (.code .ret::k)) cs w)= .next (lone {Fr b t d (.code .ret::k)with mode:= .returning} cs w):=
 step_lone_go (by simp[stepG,stepG.exec,Fr,hb])
theorem Zn5 {l:Nat} {c:Frame} {r:Loop} (hb:b.roundOf=some l) (hk:b.kind= .normal) (hl:w.heap[l]? =some (.loop r)):
  step P (lone (Fr b t d []) (c::cs) w)= .next (lone (c.finish (.bool true)) cs {w with heap:=w.heap.setIfInBounds l (.loop {r with state:= .ready,pending:=none})}):=by
 refine step_lone_go ?_
 have he:(Instr.endRound l none).run P w= .ok (.bool true) {w with heap:=w.heap.setIfInBounds l (.loop {r with state:= .ready,pending:=none})}:=by
  simp[Instr.endRound,Instr.getLoop,getObj,setObj,Sem.run,hl]
 simp[stepG,stepG.exec,Fr,hb,he,doReturn,hk]
theorem Zn6 {l:Nat} {c:Frame} {r:Loop} (hb:b.roundOf=some l) (hk:b.kind= .normal) (hl:w.heap[l]? =some (.loop r)):
  step P (lone (Fr b t d (.code .ret::k)) (c::cs) w)= .next (lone (c.finish (.bool false)) cs {w with heap:=w.heap.setIfInBounds l (.loop {r with state:= .done,pending:=some .ret})}):=by
 refine step_lone_go ?_
 have he:(Instr.endRound l (some .ret)).run P w= .ok (.bool false) {w with heap:=w.heap.setIfInBounds l (.loop {r with state:= .done,pending:=some .ret})}:=by
  simp[Instr.endRound,Instr.getLoop,getObj,setObj,Sem.run,hl]
 simp[stepG,stepG.exec,Fr,hb,he,doReturn,hk]
theorem Zlq {l i:Nat} {c:Frame} {r:Loop} (hb:b.roundOf=some l) (hk:b.kind= .normal) (hl:w.heap[l]? =some (.loop r)) (hx:exitTo i k=none):
  step P (lone (Fr b t d (.code (.exit i)::k)) (c::cs) w)= .next (lone (c.finish (.bool false)) cs {w with heap:=w.heap.setIfInBounds l (.loop {r with state:= .done,pending:=some (.exit i)})}):=by
 refine step_lone_go ?_
 have he:(Instr.endRound l (some (.exit i))).run P w= .ok (.bool false) {w with heap:=w.heap.setIfInBounds l (.loop {r with state:= .done,pending:=some (.exit i)})}:=by
  simp[Instr.endRound,Instr.getLoop,getObj,setObj,Sem.run,hl]
 simp[stepG,stepG.exec,Fr,hb,he,doReturn,hk,hx]
theorem Zlp {l:Nat} {r:Loop} (hb:b.roundOf=some l) (hl:w.heap[l]? =some (.loop r)) (hr:r.state= .ready):
  step P (lone (Fr b t d (.beginRound::k)) cs w)= .next (lone (Fr b t d k) cs {w with heap:=w.heap.setIfInBounds l (.loop {r with state:= .busy})}):=by
 refine step_lone_go ?_
 have he:(Instr.beginRound l).run P w= .ok () {w with heap:=w.heap.setIfInBounds l (.loop {r with state:= .busy})}:=by
  simp[Instr.beginRound,Instr.getLoop,getObj,setObj,Sem.run,hl,hr]
 simp[stepG,stepG.exec,Fr,hb,stepG.apply,he,Frame.finish]
theorem Zje {r:Nat} {todo:List Item} (hr:w.heap[r]? =some (.deferred (some []))):
  step P (lone {Fr b t ({target:= .collected r,args:= #[]}::d) todo with mode:= .returning} cs w)=
   .next (lone {Fr b t d todo with mode:= .returning} cs {w with heap:=w.heap.setIfInBounds r (.deferred none)}):=by
 refine step_lone_go ?_
 have he:(Instr.takeDeferred r).run P w= .ok [] {w with heap:=w.heap.setIfInBounds r (.deferred none)}:=by
  simp[Instr.takeDeferred,getObj,setObj,Sem.run,hr]
 simp[stepG,unwind,Fr,he]
theorem Zvx {c:Frame} {fn:Func} {v:Value} {todo:List Item} (hk:b.kind= .normal) (hf:P.funcs[b.fn]? =some fn) (hr:(results fn t).run P w= .ok v w):
  step P (lone {Fr b t [] todo with mode:= .returning} (c::cs) w)= .next (lone (c.finish v) cs w):=by
 refine step_lone_go ?_
 simp[stepG,unwind,Fr,hf,hr,doReturn,hk]
end
end Go.Ev

/- The evaluator's code does what the model's machine does: regions and calls. -/
namespace Go.Ev
open Go
variable {X : Cx} {N N' N'' : Nu} {D : Mc}
def Ec (B:Nat) (d:List Deferred) (w:World):Prop:=
 ∃rs:List Nat,d=rs.map (fun r=>{target:= .collected r,args:= #[]})∧rs.Nodup∧∀r∈rs,B≤r∧w.heap[r]? =some (.deferred (some []))
theorem HR.Zgf {h:Heap} {w:World} (hr:HR D X N h w) {b:Nat} {q:Option (List Deferred)} (hb:w.heap[b]? =some (.deferred q)):¬Own N h b:=by
 rintro⟨n,o,a,hg,ho,ha,rfl⟩
 have:=hr.Um n o hg
 cases o with
 | cells ty l cs=>obtain⟨b,us,fz,h1,h2,_⟩:=this;rw[h1]at ha;cases ha;rw[h2]at hb;cases hb
 | buf ty es cs=>obtain⟨b,us,fz,h1,h2,_⟩:=this;rw[h1]at ha;cases ha;rw[h2]at hb;cases hb
 | ro cs=>cases ho
 | map es=>obtain⟨b,mes,clk,h1,h2,_⟩:=this;rw[h1]at ha;cases ha;rw[h2]at hb;cases hb
 | Wz g cs=>cases ho
 | iter s pos=>obtain⟨b,h1,h2⟩:=this;rw[h1]at ha;cases ha;rw[h2]at hb;cases hb
 | loop st env ps assign body=>obtain⟨b,l,S,h1,h2,_⟩:=this;rw[h1]at ha;cases ha;rw[h2]at hb;cases hb
theorem Ec.Zd {B:Nat} {d:List Deferred} {h h':Heap} {w w':World} (hd:Ec B d w) (hr:HR D X N h w) (g:Gd N h w N' h' w'):Ec B d w':=by
 obtain⟨rs,h1,h2,h3⟩:=hd
 refine⟨rs,h1,h2,fun r hr'=>⟨(h3 r hr').1,?_⟩⟩
 have:=(h3 r hr').2
 rw[g.frame r (Ji this) (hr.Zgf this),this]
def Oj (P:Program) (s:Sem Next) (w:World) (c:Frame) (cs:List Frame) (u:Value) (w':World):Prop:=
 ∃nx w1,s.run P w= .ok nx w1∧((Zro nx=some u∧w1=w')∨
  (∃g us,nx= .enter g us∧Steps P (lone (Frame.enter P g us .normal) (c::cs) w1) (lone (c.finish u) cs w'))∨
  (∃l g us a e,nx= .round l g us a e∧Steps P (lone (Frame.round l g us a e .normal) (c::cs) w1) (lone (c.finish u) cs w')))
abbrev Qx:=AV→List AV→St→Option (AV×St)
abbrev ExF:=Zv→Env→St→Option (Ex×Env×St)
def Dx (u:Value) (us:Array Value):Sem Next:=do let d←Deferred.ofValue u us;invoke d.target d.args
def Oi (D:Mc) (X:Cx) (call:Qx):Prop:=
 ∀f args st v st',call f args st=some (v,st')→∀N w uf us,SR D X N st w→VR X N f uf→VRs X N args us→∀c cs,
  ∃N' u w',VR X N' v u∧SR D X N' st' w'∧Gd N st.h w N' st'.h w'∧st.nx≤st'.nx∧(∀n,n<st.nx→N'.ρ n=N.ρ n)∧Oj X.P (Dx uf us.toArray) w c cs u w'
def Zng (P:Program) (b:Frame) (k:List Item) (cs:List Frame) (M:Machine) (t:Array Value) (d:List Deferred) (w:World):Ex→Prop
 | .norm=>Steps P M (lone (Fr b t d k) cs w)
 | .exit i=>∃k2 M',exitTo i k2=exitTo i k∧Steps P M M'∧step P M'=step P (lone (Fr b t d (.code (.exit i)::k2)) cs w)
 | .ret=>∃k2 M',Steps P M M'∧step P M'=step P (lone (Fr b t d (.code .ret::k2)) cs w)
def Ok (D:Mc) (X:Cx) (ex:ExF):Prop:=
 ∀c code S e st x e' st',ex c e st=some (x,e',st')→Dd D X S c code=true→∀N b t d k cs w B,Kr X N e t→S≤t.size→SR D X N st w→Ec B d w→B≤w.heap.size→
  (b.roundOf=none∨V2 c=true)→
  ∃N' t' d' w',Kr X N' e' t'∧t'.size=t.size∧SR D X N' st' w'∧Gd N st.h w N' st'.h w'∧st.nx≤st'.nx∧(∀n,n<st.nx→N'.ρ n=N.ρ n)∧Ec B d' w'∧(V2 c=true→d'=d)∧
   ∀M,step X.P M=step X.P (lone (Fr b t d (.code code::k)) cs w)→Zng X.P b k cs M t' d' w' x
theorem Zfh {e:Env} {t:Array Value} (h:Kr X N e t):Evs X N (AO.ev e) (evT t):=by
 intro a x hc
 cases a with
 | t n=>
   cases x <;> simp[Jt]at hc
   subst hc
   exact h n
 | k v=>
   cases x with
   | tmp=>simp[Jt]at hc
   | const c=>simp only[Jt]at hc;exact Znm _ _ hc
   | global g=>simp[Jt]at hc
   | func g=>
     unfold Jt at hc
     split at hc <;> first | (simp_all;done) | skip
     ·simp only[beq_iff_eq]at hc
      rename_i heq1 heq2
      cases heq1
      cases heq2
      subst hc
      exact⟨#[],#[],rfl,rfl,rfl⟩
theorem Kr.put {e:Env} {t:Array Value} (h:Kr X N e t) {dst:Option Nat} {v:AV} {u:Value} (hd:∀d,dst=some d→d<t.size) (hv:VR X N v u):Kr X N (Vm e dst v) (B4 t dst u):=by
 cases dst with
 | none=>exact h
 | some d=>
   intro i
   simp only[Vm,R5,Zl,B4]
   by_cases he:d=i
   ·subst he
    rw[if_pos rfl]
    have:=hd d rfl
    simp[Array.getD,this]
    exact hv
   ·rw[if_neg he]
    have:=h i
    simp only[Array.getD_eq_getD_getElem?]at this⊢
    rw[Array.getElem?_setIfInBounds_ne he]
    exact this
theorem Xe (t:Array Value) (dst:Option Nat) (u:Value):(B4 t dst u).size=t.size:=by
 cases dst <;> simp[B4]
theorem Zi0 {c:Call} {m:MO} (h:m≠.p .stuck):Zvo X (.defer c) m=false:=by
 cases m with
 | p o=>cases o <;> first | rfl | exact absurd rfl h
 | r o=>cases o <;> rfl
 | n o=>cases o <;> rfl
 | w o=>cases o <;> rfl
theorem Zgn {e:Env} {t:Array Value} (h:Kr X N e t) {ops:Array Oper} {g:Option (Nat×Bool)} {o:Oper} (hg:chkG ops g o.guard=true) {b:Bool} (hw:wanted e g=some b):
  Region.wanted o (yielded ops t)=b:=by
 unfold Region.wanted
 cases ho:o.guard with
 | none=>
   rw[ho]at hg
   cases g with
   | none=>cases hw;rfl
   | some p=>cases hg
 | some p=>
   obtain⟨j,want⟩:=p
   rw[ho]at hg
   cases g with
   | none=>cases hg
   | some q=>
     obtain⟨tt,bb⟩:=q
     simp only[chkG,bool_and,beq_iff_eq]at hg
     obtain⟨rfl,hd⟩:=hg
     simp only[wanted]at hw
     split at hw
     ·rename_i c hc
      cases hw
      have:=h tt
      rw[hc]at this
      simp only[VR]at this
      have Zh:t[tt]? =some (.bool c):=by
       rw[Array.getD_eq_getD_getElem?]at this
       cases hq:t[tt]? with
       | none=>rw[hq]at this;cases this
       | some v=>rw[hq]at this;simp only[Option.getD_some]at this;rw[this]
      simp only[yielded,hd,Option.bind_some,Zh]
      rw[Bool.eq_iff_iff];simp
     ·rename_i c hc
      cases hw
      have:=h tt
      rw[hc]at this
      obtain⟨us,hus, -⟩:=this
      have Zh:∀bb,t[tt]?≠some (.bool bb):=by
       intro bb hq
       rw[Array.getD_eq_getD_getElem?,hq]at hus
       cases hus
      simp only[yielded,hd,Option.bind_some]
      rfl
     ·cases hw
theorem Zdb {call:Qx} (hcall:Oi D X call) {S:Nat} {ops:Array Oper} {i:Nat} {o:Oper} {mi:MI} {e e':Env} {st st':St} (hv:mi.run call e st=some (e',st')) (hc:Zqc X S ops mi o=true) (ho:ops[i]? =some o)
  {t:Array Value} {w:World} (he:Kr X N e t) (hs:S≤t.size) (hr:SR D X N st w) (b:Frame) (d:List Deferred) (rest:List Nat) (k:List Item) (cs:List Frame):
  ∃N' t' w',Kr X N' e' t'∧t'.size=t.size∧SR D X N' st' w'∧Gd N st.h w N' st'.h w'∧st.nx≤st'.nx∧(∀n,n<st.nx→N'.ρ n=N.ρ n)∧
   Steps X.P (lone (Fr b t d (.inRegion ops (i::rest)::k)) cs w) (lone (Fr b t' d (.inRegion ops rest::k)) cs w'):=by
 simp only[Zqc,bool_and,beq_iff_eq]at hc
 obtain⟨hdst,hlt,hg,hm⟩:=hc
 have hd:∀q,mi.dst=some q→q<t.size:=by
  intro q hq
  rw[←hdst,hq]at hlt
  have hlt':q<S:=by simpa using hlt
  omega
 have hdef:mi.op≠.p .stuck→∀c,o.op≠.defer c:=by
  intro hns c e
  rw[e,Zi0 hns]at hm
  cases hm
 unfold MI.run at hv
 split at hv
 ·rename_i hw
  have hwant:=Zgn he hg hw
  split at hv
  ·rename_i v st1 hrun
   cases hv
   have hns:mi.op≠.p .stuck:=by
    intro e
    rw[e]at hrun
    cases hrun
   have hdef:=hdef hns
   by_cases hcl:mi.op.calls=true
   ·
    cases hop:mi.op with
    | p p=>rw[hop]at hcl;cases hcl
    | r p=>rw[hop]at hcl;cases hcl
    | n p=>rw[hop]at hcl;cases hcl
    | w p=>
      rw[hop]at hcl hrun hm
      cases p with
      | call f args=>
        simp only[MO.run,WO.run]at hrun
        simp only[Zvo]at hm
        unfold chkW at hm
        split at hm <;> first | (cases hm;done) | (rename_i heq;cases heq;done) | skip
        rename_i f0 args0 ats f' args' hop2 heq
        cases heq
        simp only[bool_and]at hm
        have hev:=Zfh he
        obtain⟨N',u,w',h1,h2,h3,h4,h5,nx,w1,h6,h7⟩:=hcall _ _ _ _ _ hrun N w _ _ hr (hev _ _ hm.1) (hev.list hm.2) (Fr b t d (.inRegion ops (i::rest)::k)) cs
        have hexec:(execOp (evT t) o).run X.P w= .ok nx w1:=by
         simp only[execOp,hop2,resolve]
         have:(args0.toList.map (evT t)).toArray=args0.map (evT t):=by
          apply Array.ext';simp
         rw[this]at h6
         exact h6
        have hfin:(Fr b t d (.inRegion ops (i::rest)::k)).finish u=Fr b (B4 t o.dst u) d (.inRegion ops rest::k):=by
         rw[Zfb,ho];rfl
        refine⟨N',B4 t mi.dst u,w',(he.mono h3.le).put hd h1,Xe _ _ _,h2,h3,h4,h5,?_⟩
        rw[hdst]
        rcases h7 with ⟨hu,rfl⟩ | ⟨g,us,rfl,hst⟩ | ⟨l,g,us,a,c,rfl,hst⟩
        ·exact .one (Mr ho hwant hdef hexec hu)
        ·rw[←hfin];exact .head (Zqr ho hwant hdef hexec) hst
        ·rw[←hfin];exact .head (Zqs ho hwant hdef hexec) hst
      | _=>cases hcl
   ·have hcl:mi.op.calls=false:=by simpa using hcl
    obtain⟨N',nx,u,w',h1,h2,h3,h4,h5,h6,h7⟩:=Zxc hm hcl (Zfh he) (fun _=>rfl) (fun _=>rfl) hr hrun
    exact⟨N',B4 t mi.dst u,w',(he.mono h5.le).put hd h3,Xe _ _ _,h4,h5,h6,h7,by rw[hdst];exact .one (Mr ho hwant hdef h1 h2)⟩
  ·cases hv
 ·rename_i hw
  cases hv
  have hwant:=Zgn he hg hw
  exact⟨N,B4 t mi.dst undef,w,he.put hd ⟨_,rfl,rfl⟩,Xe _ _ _,hr,.refl _ _ _,Nat.le_refl _,fun _ _=>rfl,by rw[hdst];exact .one (Ztk ho hwant)⟩
 ·cases hv
theorem Zao {call:Qx} (hcall:Oi D X call) {S:Nat} {ops:Array Oper} (b:Frame) (d:List Deferred) (k:List Item) (cs:List Frame):
  ∀(is:List MI) (i:Nat) (os:List Oper) (N:Nu) (e e':Env) (st st':St) (t:Array Value) (w:World),Ko call is e st=some (e',st')→Tw X S ops is os=true→ops.toList.drop i=os→
   Kr X N e t→S≤t.size→SR D X N st w→
   ∃N' t' w',Kr X N' e' t'∧t'.size=t.size∧SR D X N' st' w'∧Gd N st.h w N' st'.h w'∧st.nx≤st'.nx∧(∀n,n<st.nx→N'.ρ n=N.ρ n)∧
    Steps X.P (lone (Fr b t d (.inRegion ops (List.range' i os.length)::k)) cs w) (lone (Fr b t' d (.inRegion ops []::k)) cs w')
 | [],i,os,N,e,e',st,st',t,w,hv,hc,hd,he,hs,hr=>by
   cases os with
   | cons=>simp[Tw]at hc
   | nil=>
     cases hv
     exact⟨N,t,w,he,rfl,hr,.refl _ _ _,Nat.le_refl _,fun _ _=>rfl,.refl _ _⟩
 | mi::is,i,os,N,e,e',st,st',t,w,hv,hc,hd,he,hs,hr=>by
   cases os with
   | nil=>simp[Tw]at hc
   | cons o os=>
     simp only[Tw,bool_and]at hc
     simp only[Ko]at hv
     split at hv
     ·rename_i e1 st1 h1
      have ho:ops[i]? =some o:=by
       rw[←Array.getElem?_toList]
       have:=congrArg List.head? hd
       rw[List.head?_drop]at this
       exact this
      have hd':ops.toList.drop (i+1)=os:=by
       have:=congrArg List.tail hd
       rw[List.tail_drop]at this
       exact this
      obtain⟨N1,t1,w1,a1,a2,a3,a4,a5,a6,a7⟩:=Zdb hcall h1 hc.1 ho he hs hr b d (List.range' (i+1) os.length) k cs
      obtain⟨N2,t2,w2,b1,b2,b3,b4,b5,b6,b7⟩:=Zao hcall b d k cs is (i+1) os N1 e1 e' st1 st' t1 w1 hv hc.2 hd' a1 (by omega) a3
      refine⟨N2,t2,w2,b1,by omega,b3,a4.trans b4,by omega,fun n hn=>by rw[b6 n (by omega),a6 n hn],?_⟩
      rw[List.length_cons,List.range'_succ]
      exact a7.trans b7
     ·cases hv
end Go.Ev

/- Calls: a function's body, a round of a loop over a function. -/
namespace Go.Ev
open Go
variable {X : Cx} {N N' N'' : Nu} {D : Mc}
theorem Ziv:∀(vs:List AV) (i t:Nat),Zl (V0 i vs) t=if i≤t then vs.getD (t - i) .bot else .bot
 | [],i,t=>by simp[V0,Zl]
 | v::vs,i,t=>by
   simp only[V0,Zl]
   by_cases e:i=t
   ·subst e;simp
   ·rw[if_neg e,Ziv vs (i+1) t]
    by_cases h:i≤t
    ·rw[if_pos h,if_pos (by omega),show t - i=(t - (i+1))+1 by omega]
     simp
    ·rw[if_neg h,if_neg (by omega)]
theorem Kr.args {vs:List AV} {us:Array Value} (h:VRs X N vs us.toList) (k:Nat):Kr X N (V0 0 vs) (us++Array.replicate k undef):=by
 intro t
 rw[Ziv,if_pos (Nat.zero_le _),Nat.sub_zero]
 obtain⟨hl,hi⟩:=L5.1 h
 simp only[Array.length_toList]at hl
 by_cases ht:t<vs.length
 ·have h2:t<us.size:=by omega
  have:(us++Array.replicate k undef).getD t undef=us[t]:=by
   simp[Array.getD_eq_getD_getElem?,Array.getElem?_append,h2]
  rw[this]
  refine hi t _ _ ?_ ?_
  ·rw[List.getD_eq_getElem?_getD,List.getElem?_eq_getElem ht];simp
  ·simp[h2]
 ·rw[List.getD_eq_getElem?_getD,List.getElem?_eq_none (by omega)]
  trivial
theorem Kr.bind:∀{ps:List Nat} {e:Env} {t:Array Value} {vs:List AV} {us:List Value},Kr X N e t→VRs X N vs us→(∀p∈ps,p<t.size)→
  Kr X N (L6 e ps vs) ((ps.zip us).foldl (fun t p=>t.setIfInBounds p.1 p.2) t)
 | [],e,t,vs,us,he,hv,hp=>by simpa [L6] using he
 | p::ps,e,t,vs,us,he,hv,hp=>by
   cases vs with
   | nil=>simp only[VRs]at hv;subst hv;simpa [L6] using he
   | cons v vs=>
     obtain⟨u,ur,rfl,h1,h2⟩:=hv
     simp only[L6,List.zip_cons_cons,List.foldl_cons]
     refine Kr.bind (t:=t.setIfInBounds p u) ?_ h2 (fun q hq=>by simpa using hp q (List.mem_cons_of_mem _ hq))
     exact he.put (dst:=some p) (fun d hd=>by cases hd;exact hp p List.mem_cons_self) h1
def Zfg (X:Cx):Zdc→ResultVar→Bool
 | .t n,.tmp m=>n == m
 | .cell n sz,.cell m t=>n == m && Zpr X t sz
 | _,_=>false
def Dy (X:Cx):List Zdc→List ResultVar→Bool
 | [],[]=>true
 | r::rs,q::qs=>Zfg X r q && Dy X rs qs
 | _,_=>false
def rv (t:Array Value):ResultVar→Sem Value
 | .tmp n=>pure (t.getD n undef)
 | .cell a ty=>do loadVar ty (←asAddr (t.getD a undef))
theorem Zt7 (fn:Func) (t:Array Value):results fn t=(do let vs←fn.results.mapM (rv t);pure (if h:vs.size=1 then vs[0]else .tuple vs)):=by
 unfold results
 congr 1
theorem Zpl {h:Heap} {w:World} (hr:HR D X N h w) {e:Env} {t:Array Value} (he:Kr X N e t) {r:Zdc} {q:ResultVar} (hc:Zfg X r q=true) {v:AV} (hv:Jk h e r=some v):
  ∃u,(rv t q).run X.P w= .ok u w∧VR X N v u:=by
 cases r with
 | t n=>
   cases q with
   | tmp m=>simp only[Zfg,beq_iff_eq]at hc;subst hc;cases hv;exact⟨_,rfl,he n⟩
   | cell=>simp[Zfg]at hc
 | cell n sz=>
   cases q with
   | tmp=>simp[Zfg]at hc
   | cell m ty=>
     simp only[Zfg,bool_and,beq_iff_eq]at hc
     obtain⟨rfl,hz⟩:=hc
     simp only[Jk]at hv
     have h1:=he n
     cases sz with
     | none=>
       simp only[RO.run,AO.ev]at hv
       split at hv
       ·rename_i k off hn
        rw[hn]at h1
        obtain⟨ad,hρ,h1⟩:=h1
        obtain⟨ad',u,h2,h3,h4⟩:=Ze1 hr hv
        rw[hρ]at h2;cases h2
        refine⟨u,?_,h3⟩
        simp[rv,h1,asAddr,loadVar,Bo hz,h4]
       ·cases hv
     | some k=>
       simp only[RO.run,AO.ev]at hv
       split at hv
       ·rename_i k2 off hn
        rw[hn]at h1
        obtain⟨ad,hρ,h1⟩:=h1
        simp only[Option.map_eq_some_iff]at hv
        obtain⟨cs,hcs,rfl⟩:=hv
        obtain⟨ad',us,h2,h3,h4,h5⟩:=Lj hr hcs
        rw[hρ]at h2;cases h2
        obtain⟨z1,z2⟩:=Bp hz w
        have hl:=Un (P:=X.P) h5
        refine⟨.agg us.toArray,?_,us.toArray,rfl,h3⟩
        simp[rv,h1,asAddr,loadVar,z1,z2,←h4,hl]
       ·cases hv
theorem Zb8 {h:Heap} {w:World} (hr:HR D X N h w) {e:Env} {t:Array Value} (he:Kr X N e t):∀{rs:List Zdc} {qs:List ResultVar} {vs:List AV},Dy X rs qs=true→Qn h e rs=some vs→
  ∃us,(qs.mapM (rv t)).run X.P w= .ok us w∧VRs X N vs us
 | [],qs,vs,hc,hv=>by
   cases qs with
   | nil=>cases hv;exact⟨[],rfl,rfl⟩
   | cons=>simp[Dy]at hc
 | r::rs,qs,vs,hc,hv=>by
   cases qs with
   | nil=>simp[Dy]at hc
   | cons q qs=>
     simp only[Dy,bool_and]at hc
     simp only[Qn]at hv
     split at hv
     ·rename_i v vs' h1 h2
      cases hv
      obtain⟨u,g1,g2⟩:=Zpl hr he hc.1 h1
      obtain⟨us,g3,g4⟩:=Zb8 hr he hc.2 h2
      refine⟨u::us,?_,u,us,rfl,g2,g4⟩
      rw[List.mapM_cons,Sem.run_bind,g1,Result.andThen_ok,Sem.run_bind,g3]
      rfl
     ·cases hv
theorem Zca {h:Heap} {w:World} (hr:HR D X N h w) {e:Env} {t:Array Value} (he:Kr X N e t) {rs:List Zdc} {fn:Func} {v:AV} (hc:Dy X rs fn.results.toList=true) (hv:Zt h e rs=some v):
  ∃u,(results fn t).run X.P w= .ok u w∧VR X N v u:=by
 unfold Zt at hv
 have key:∀vs,Qn h e rs=some vs→∃us:List Value,VRs X N vs us∧(results fn t).run X.P w= .ok (if h:us.toArray.size=1 then us.toArray[0]else .tuple us.toArray) w:=by
  intro vs hvs
  obtain⟨us,g1,g2⟩:=Zb8 hr he hc hvs
  refine⟨us,g2,?_⟩
  rw[Zt7,Sem.run_bind,Array.mapM_eq_mapM_toList,Sem.run_map,g1]
  rfl
 split at hv
 ·rename_i v' hvs
  cases hv
  obtain⟨us,g1,g2⟩:=key _ hvs
  obtain⟨u,ur,rfl,h1,h2⟩:=g1
  simp only[VRs]at h2
  subst h2
  exact⟨u,g2,h1⟩
 ·rename_i vs hne hvs
  cases hv
  obtain⟨us,g1,g2⟩:=key _ hvs
  have hl:=g1.length
  have hne1:us.toArray.size≠1:=by
   intro e
   simp only[List.size_toArray]at e
   match vs,hl,hne with
   | [x],_,hne=>exact hne x rfl
   | [],hl,_=>simp at hl;omega
   | _::_::_,hl,_=>simp at hl;omega
  rw[dif_neg hne1]at g2
  exact⟨_,g2,us.toArray,rfl,g1⟩
 ·cases hv
theorem Zcm {l:List Nat}:∀{h:Heap} {n:Nat} {o:Qb},Zh (Dq l h) n=some o→Zh h n=some o
 | [],n,o,hh=>by cases hh
 | (m,p)::h,n,o,hh=>by
   simp only[Dq]at hh
   split at hh
   ·rename_i hm
    have ih:=Zcm hh
    simp only[Zh]
    by_cases e:m=n
    ·exfalso
     subst e
     have:∀h:Heap,Zh (Dq l h) m=none:=by
      intro h
      induction h with
      | nil=>rfl
      | cons p h ih=>
        obtain⟨q,o⟩:=p
        simp only[Dq]
        split
        ·exact ih
        ·rename_i hq
         simp only[Zh]
         rw[if_neg (by rintro rfl;exact hq hm)]
         exact ih
     rw[this]at hh
     cases hh
    ·rw[if_neg e];exact ih
   ·simp only[Zh]at hh⊢
    split at hh
    ·rename_i e;rw[if_pos e];exact hh
    ·rename_i e;rw[if_neg e];exact Zcm hh
theorem Zea {c:Nat} {h:Heap} {n:Nat} {o:Qb} (hh:Zh (Zb c h) n=some o):Zh h n=some o:=by
 unfold Zb at hh
 split at hh
 ·exact hh
 ·exact Zcm hh
end Go.Ev

/- Calls, by the level below. -/
namespace Go.Ev
open Go
variable {X : Cx} {N N' N'' : Nu} {D : Mc}
def Vp (D:Mc) (X:Cx) (f:Nat) (F:Entry):Prop:=
 ∀args st v st',F args st=some (v,st')→∀N w us,SR D X N st w→VRs X N args us→∀c cs,
  ∃N' u w',VR X N' v u∧SR D X N' st' w'∧Gd N st.h w N' st'.h w'∧st.nx≤st'.nx∧(∀n,n<st.nx→N'.ρ n=N.ρ n)∧Oj X.P (callFunc (X.φ f) us.toArray) w c cs u w'
structure Zdd (D:Mc) (X:Cx) (T:Tab):Prop where
 fn:∀f mf,T.en f=none→T.fn f=some mf→∃fn c S,X.P.funcs[X.φ f]? =some fn∧fn.body=some c∧(fn.name == "runtime.NumGoroutine")=false∧S≤fn.ntmps∧
  Dd D X S mf.body c=true∧Dy X mf.results fn.results.toList=true
 en:∀f F,T.en f=some F→Vp D X f F
theorem P6 {b:Frame} {t:Array Value} {todo:List Item} {cs:List Frame} {h:Heap} {B:Nat}:
  ∀(rs:List Nat) (w:World),HR D X N h w→rs.Nodup→(∀r∈rs,B≤r∧w.heap[r]? =some (.deferred (some [])))→
   ∃w',Steps X.P (lone {Fr b t (rs.map fun r=>{target:= .collected r,args:= #[]}) todo with mode:= .returning} cs w) (lone {Fr b t [] todo with mode:= .returning} cs w')∧
    HR D X N h w'∧w'.heap.size=w.heap.size∧w'.tape=w.tape∧w'.os=w.os∧w'.output=w.output∧∀k,k<B→w'.heap[k]? =w.heap[k]?
 | [],w,hr,_,_=>⟨w,.refl _ _,hr,rfl,rfl,rfl,rfl,fun _ _=>rfl⟩
 | r::rs,w,hr,hn,hd=>by
   obtain⟨hB,hh⟩:=hd r List.mem_cons_self
   let w1:World:={w with heap:=w.heap.setIfInBounds r (.deferred none)}
   have hne:∀k,k≠r→w1.heap[k]? =w.heap[k]? :=fun k hk=>by
    show (w.heap.setIfInBounds r _)[k]? =_
    rw[Array.getElem?_setIfInBounds,if_neg (fun e=>hk e.symm)]
   have hr1:HR D X N h w1:=by
    refine⟨fun n o ho=>(hr.Um n o ho).Zd (.refl N) (by simp[w1]) (fun a ha=>hne _ ?_),hr.sep⟩
    intro e
    have hb:w.heap[a.block]? =some (.deferred (some [])):=by rw[e];exact hh
    have:=hr.Um n o ho
    cases o with
    | cells ty l cs=>obtain⟨b,us,fz,h1,h2,_⟩:=this;rw[h1]at ha;cases ha;rw[h2]at hb;cases hb
    | buf ty es cs=>obtain⟨b,us,fz,h1,h2,_⟩:=this;rw[h1]at ha;cases ha;rw[h2]at hb;cases hb
    | ro cs=>obtain⟨b,h1,⟨us,t,fz,h2⟩,_⟩:=this;rw[h1]at ha;cases ha;rw[h2]at hb;cases hb
    | map es=>obtain⟨b,mes,clk,h1,h2,_⟩:=this;rw[h1]at ha;cases ha;rw[h2]at hb;cases hb
    | Wz g cs=>obtain⟨us,t,fz,h1,h2,_⟩:=this;rw[h1]at ha;cases ha;rw[h2]at hb;cases hb
    | iter s pos=>obtain⟨b,h1,h2⟩:=this;rw[h1]at ha;cases ha;rw[h2]at hb;cases hb
    | loop st env ps assign body=>obtain⟨b,l,S,h1,h2,_⟩:=this;rw[h1]at ha;cases ha;rw[h2]at hb;cases hb
   rw[List.nodup_cons]at hn
   obtain⟨w',s1,s2,s3,s4,s5,s6,s7⟩:=P6 (b:=b) (t:=t) (todo:=todo) (cs:=cs) (B:=B) rs w1 hr1 hn.2 (fun q hq=>by
    refine⟨(hd q (List.mem_cons_of_mem _ hq)).1,?_⟩
    rw[hne q (by rintro rfl;exact hn.1 hq)]
    exact(hd q (List.mem_cons_of_mem _ hq)).2)
   refine⟨w',.head (Zje hh) s1,s2,by rw[s3];simp[w1],s4,s5,s6,fun k hk=> ?_⟩
   rw[s7 k hk]
   exact hne k (by omega)
theorem Zll {ex:ExF} {T:Tab} (hx:Ok D X ex) (hT:Zdd D X T) {f:Nat} {args:List AV} {st st':St} {v:AV} (hv:W1 T ex f args st=some (v,st')) {w:World} {us:List Value} (hr:SR D X N st w)
  (ha:VRs X N args us) (c:Frame) (cs:List Frame):
  ∃N' u w',VR X N' v u∧SR D X N' st' w'∧Gd N st.h w N' st'.h w'∧st.nx≤st'.nx∧(∀n,n<st.nx→N'.ρ n=N.ρ n)∧Oj X.P (callFunc (X.φ f) us.toArray) w c cs u w':=by
 unfold W1 at hv
 split at hv
 ·rename_i F hF
  exact hT.en f F hF args st v st' hv N w us hr ha c cs
 ·rename_i hen
  split at hv
  ·cases hv
  ·rename_i mf hmf
   obtain⟨fn,code,S,hf,hbody,hname,hS,hchk,hres⟩:=hT.fn f mf hen hmf
   split at hv
   case isFalse=>cases hv
   let b:Frame:={(default:Frame)with fn:=X.φ f,kind:= .normal}
   let t0:Array Value:=us.toArray++Array.replicate (fn.ntmps - us.toArray.size) undef
   have hcf:(callFunc (X.φ f) us.toArray).run X.P w= .ok (.enter (X.φ f) us.toArray) w:=by
    have hname':¬fn.name= "runtime.NumGoroutine" :=by simpa using hname
    simp[callFunc,hf,hname',hbody]
   have henter:Frame.enter X.P (X.φ f) us.toArray .normal=Fr b t0 [] [.code code]:=by
    simp[Frame.enter,Fr,hf,hbody,b,t0];rfl
   have hsize:S≤t0.size:=by simp[t0];omega
   have fin:∀(x:Ex) (e':Env) (st1:St),ex mf.body (V0 0 args) st=some (x,e',st1)→(x= .norm∨x= .ret)→∀v,Zt st1.h e' mf.results=some v→
     ∃N' u w',VR X N' v u∧SR D X N' ⟨Zb st.nx st1.h,st1.nx⟩ w'∧Gd N st.h w N' (Zb st.nx st1.h) w'∧st.nx≤st1.nx∧(∀n,n<st.nx→N'.ρ n=N.ρ n)∧Oj X.P (callFunc (X.φ f) us.toArray) w c cs u w':=by
    intro x e' st1 hex hxr v hv
    obtain⟨N1,t1,d1,w1,a1,a2,a3,a4,a5,a6,a7,_,a9⟩:=hx mf.body code S (V0 0 args) st x e' st1 hex hchk N b t0 [] [] (c::cs) w w.heap.size (Kr.args ha _) hsize hr ⟨[],rfl,List.nodup_nil,by simp⟩ (Nat.le_refl _) (.inl rfl)
    have a9:=a9 _ rfl
    obtain⟨rs,rfl,hrn,hrd⟩:=a7
    obtain⟨todo,hret⟩:∃todo,Steps X.P (lone (Fr b t0 [] [.code code]) (c::cs) w) (lone {Fr b t1 (rs.map fun r=>{target:= .collected r,args:= #[]}) todo with mode:= .returning} (c::cs) w1):=by
     rcases hxr with rfl | rfl
     ·exact⟨[],Steps.trans a9 (.one (Zx2 rfl))⟩
     ·obtain⟨k2,M',hk2,hk3⟩:=a9
      exact⟨_,Steps.trans hk2 (.one (hk3.trans (Zx4 rfl)))⟩
    obtain⟨w2,b1,b2,b3,b4,b5,b6,b7⟩:=P6 (b:=b) (t:=t1) (todo:=todo) (cs:=c::cs) (B:=w.heap.size) rs w1 a3.hr hrn hrd
    obtain⟨u,r1,r2⟩:=Zca b2 a1 hres hv
    refine⟨N1,u,w2,r2,⟨b2.weaken (fun n o ho=>Zea ho),a3.fresh⟩,?_,a5,a6,.enter (X.φ f) us.toArray,w,hcf,.inr (.inl ⟨_,_,rfl,?_⟩)⟩
    ·refine⟨a4.le,by rw[b3];exact a4.size,b4.trans a4.tape,b5.trans a4.os,b6.trans a4.output,fun k hk hn=>by rw[b7 k hk];exact a4.frame k hk hn,fun n o a h1 h2=>a4.has n o a (Zea h1) h2⟩
    ·rw[henter]
     exact Steps.trans hret (Steps.trans b1 (.one (Zvx rfl hf r1)))
   split at hv
   ·rename_i e' st1 hex
    split at hv
    ·rename_i v' hv'
     cases hv
     exact fin _ _ _ hex (.inl rfl) _ hv'
    ·cases hv
   ·rename_i e' st1 hex
    split at hv
    ·rename_i v' hv'
     cases hv
     exact fin _ _ _ hex (.inr rfl) _ hv'
    ·cases hv
   ·cases hv
end Go.Ev

/- Rounds of loops over functions; calls by value. -/
namespace Go.Ev
open Go
variable {X : Cx} {N N' N'' : Nu} {D : Mc}
theorem I7 {h:Heap} {w:World} (hr:HR D X N h w) {n:Nat} {st:LSt} {env:Env} {ps:List Nat} {as bd:Zv} (hg:Zh h n=some (.loop st env ps as bd)):
  ∃b l S,N.ρ n=some ⟨b,0,none⟩∧w.heap[b]? =some (.loop l)∧Zzs st l.state l.pending∧Kr X N env l.tmps∧ps=l.params.toList∧
   S≤l.tmps.size∧(∀t∈ps,t<S)∧V2 as=true∧V2 bd=true∧Dd D X S as l.assign=true∧Dd D X S bd l.body=true:=hr.Um _ _ hg
theorem Zev {h:Heap} {w:World} (hr:HR D X N h w) {n b:Nat} {st st2:LSt} {env:Env} {ps:List Nat} {as bd:Zv} {l:Loop} {s:LoopState} {p:Option Code} (hg:Zh h n=some (.loop st env ps as bd))
  (hρ:N.ρ n=some ⟨b,0,none⟩) (hl:w.heap[b]? =some (.loop l)) (hs:Zzs st2 s p):
  HR D X N (Z7 h n (.loop st2 env ps as bd)) {w with heap:=w.heap.setIfInBounds b (.loop {l with state:=s,pending:=p})}∧
   Gd N h w N (Z7 h n (.loop st2 env ps as bd)) {w with heap:=w.heap.setIfInBounds b (.loop {l with state:=s,pending:=p})}:=by
 obtain⟨b',l',S,h1,h2,h3,h4⟩:=I7 hr hg
 rw[hρ]at h1
 cases h1
 rw[hl]at h2
 cases h2
 refine HR.put hr hg rfl hρ (by simp) rfl rfl rfl (fun k hk=> ?_) ?_
 ·rw[Array.getElem?_setIfInBounds,if_neg (fun e=>hk e.symm)]
 ·exact⟨b,{l with state:=s,pending:=p},S,hρ,by simp[Ji hl],hs,h4⟩
theorem Zlm {ex:ExF} (hx:Ok D X ex) {l:Nat} {args:List AV} {st st':St} {v:AV} (hv:N8 ex l args st=some (v,st')) {w:World} {us:List Value} (hr:SR D X N st w)
  (ha:VRs X N args us) {b:Nat} (hρ:N.ρ l=some ⟨b,0,none⟩) (c:Frame) (cs:List Frame):
  ∃N' u w',VR X N' v u∧SR D X N' st' w'∧Gd N st.h w N' st'.h w'∧st.nx≤st'.nx∧(∀n,n<st.nx→N'.ρ n=N.ρ n)∧Oj X.P (Instr.yield b us.toArray) w c cs u w':=by
 unfold N8 at hv
 split at hv
 case h_2=>cases hv
 rename_i env ps as bd hg
 obtain⟨b',r,S,h1,h2,h3,h4,h5,h6,h7,h8,h9,h10,h11⟩:=I7 hr.hr hg
 rw[hρ]at h1
 cases h1
 split at hv
 case isFalse=>cases hv
 rename_i hlen
 split at hv
 case h_2=>cases hv
 rename_i e1 st1 hex1
 split at hv
 case h_2=>cases hv
 rename_i env1 ps1 as1 bd1 hg1
 split at hv
 case h_2=>cases hv
 rename_i x e2 st2 hex2
 split at hv
 case h_2=>cases hv
 rename_i env2 ps2 as2 bd2 hg2
 have hal:=ha.length
 have hps:us.toArray.size=r.params.size:=by simp only[List.size_toArray];rw[h5]at hlen;simpa [←hal] using hlen
 let tm:Array Value:=(r.params.zip us.toArray).foldl (fun tmps (p:Nat×Value)=>tmps.setIfInBounds p.1 p.2) r.tmps
 have hyield:(Instr.yield b us.toArray).run X.P w= .ok (.round b r.fn tm r.assign r.body) w:=by
  rw[run_yield h2 hps]
 let fb:Frame:={fn:=r.fn,tmps:=tm,todo:=[],defers:=[],mode:= .run,kind:= .normal,roundOf:=some b}
 have hround:Frame.round b r.fn tm r.assign r.body .normal=Fr fb tm [] [.code r.assign,.beginRound,.code r.body]:=rfl
 have htm:Kr X N (L6 env ps args) tm:=by
  have:=Kr.bind (ps:=ps) h4 ha (fun p hp=>by have:=h7 p hp;omega)
  have e:tm=(ps.zip us).foldl (fun t p=>t.setIfInBounds p.1 p.2) r.tmps:=by
   simp only[tm]
   rw[←Array.foldl_toList,Array.toList_zip,h5]
  rw[e];exact this
 have htms:tm.size=r.tmps.size:=by
  have:∀(l:List (Nat×Value)) (t:Array Value),(l.foldl (fun t p=>t.setIfInBounds p.1 p.2) t).size=t.size:=by
   intro l
   induction l with
   | nil=>intro t;rfl
   | cons p l ih=>intro t;rw[List.foldl_cons,ih];simp
  simp only[tm]
  rw[←Array.foldl_toList,this]
 obtain⟨N1,t1,d1,w1,a1,a2,a3,a4,a5,a6,a7,a8,a9⟩:=hx as r.assign S _ st .norm e1 st1 hex1 h10 N fb tm [] [.beginRound,.code r.body] (c::cs) w w.heap.size htm (by omega) hr ⟨[],rfl,List.nodup_nil,by simp⟩ (Nat.le_refl _) (.inr h8)
 obtain rfl:=a8 h8
 have a9:=a9 _ rfl
 simp only[Zng]at a9
 obtain⟨b1,r1,S1,i1,i2,i3,i4⟩:=I7 a3.hr hg1
 have hρ1:N1.ρ l=some ⟨b,0,none⟩:=(a4.le _ _ hρ).1
 rw[hρ1]at i1
 cases i1
 obtain⟨j1,j2⟩:=Zev a3.hr hg1 hρ1 i2 (st2:= .busy) (s:= .busy) (p:=r1.pending) rfl
 have hbegin:=Zlp (P:=X.P) (b:=fb) (t:=t1) (d:=[]) (k:=[.code r.body]) (cs:=c::cs) rfl i2 i3.1
 have hsr1:SR D X N1 ⟨Z7 st1.h l (.loop .busy env1 ps1 as1 bd1),st1.nx⟩ {w1 with heap:=w1.heap.setIfInBounds b (.loop {r1 with state:= .busy})}:=⟨j1,a3.fresh⟩
 obtain⟨N2,t2,d2,w2,c1,c2,c3,c4,c5,c6,c7,c8,c9⟩:=hx bd r.body S e1 _ x e2 st2 hex2 h11 N1 fb t1 [] [] (c::cs) _ w.heap.size a1 (by omega) hsr1 ⟨[],rfl,List.nodup_nil,by simp⟩ (by
  have:=a4.size
  simp only[Array.size_setIfInBounds]
  exact this) (.inr h9)
 have c9:=c9 _ rfl
 obtain rfl:=c8 h9
 obtain⟨b2,r2,S2,k1,k2,k3,k4⟩:=I7 c3.hr hg2
 have hρ2:N2.ρ l=some ⟨b,0,none⟩:=(c4.le _ _ hρ1).1
 rw[hρ2]at k1
 cases k1
 have hgd:Gd N st.h w N2 st2.h w2:=a4.trans (j2.trans c4)
 have hpre:Steps X.P (lone (Frame.round b r.fn tm r.assign r.body .normal) (c::cs) w) (lone (Fr fb t1 [] [.code r.body]) (c::cs) {w1 with heap:=w1.heap.setIfInBounds b (.loop {r1 with state:= .busy})}):=by
  rw[hround]
  exact Steps.trans a9 (.one hbegin)
 cases x with
 | norm=>
   cases hv
   obtain⟨m1,m2⟩:=Zev c3.hr hg2 hρ2 k2 (st2:= .ready) (s:= .ready) (p:=none) ⟨rfl,rfl⟩
   refine⟨N2,.bool true,_,rfl,⟨m1,c3.fresh⟩,hgd.trans m2,by simp only at c5⊢;omega,fun n hn=>by rw[c6 n (by simp only;omega),a6 n hn],_,_,hyield,.inr (.inr ⟨_,_,_,_,_,rfl,?_⟩)⟩
   exact Steps.trans hpre (Steps.trans c9 (.one (Zn5 rfl rfl k2)))
 | exit i=>
   cases hv
   obtain⟨m1,m2⟩:=Zev c3.hr hg2 hρ2 k2 (st2:= .done (.exit i)) (s:= .done) (p:=some (.exit i)) ⟨rfl,rfl⟩
   obtain⟨kk,M',hk1,hk2,hk3⟩:=c9
   refine⟨N2,.bool false,_,rfl,⟨m1,c3.fresh⟩,hgd.trans m2,by simp only at c5⊢;omega,fun n hn=>by rw[c6 n (by simp only;omega),a6 n hn],_,_,hyield,.inr (.inr ⟨_,_,_,_,_,rfl,?_⟩)⟩
   exact Steps.trans hpre (Steps.trans hk2 (.one (hk3.trans (Zlq rfl rfl k2 (by rw[hk1];rfl)))))
 | ret=>
   cases hv
   obtain⟨m1,m2⟩:=Zev c3.hr hg2 hρ2 k2 (st2:= .done .ret) (s:= .done) (p:=some .ret) ⟨rfl,rfl⟩
   obtain⟨kk,M',hk2,hk3⟩:=c9
   refine⟨N2,.bool false,_,rfl,⟨m1,c3.fresh⟩,hgd.trans m2,by simp only at c5⊢;omega,fun n hn=>by rw[c6 n (by simp only;omega),a6 n hn],_,_,hyield,.inr (.inr ⟨_,_,_,_,_,rfl,?_⟩)⟩
   exact Steps.trans hpre (Steps.trans hk2 (.one (hk3.trans (Zn6 rfl rfl k2))))
theorem Znz {ex:ExF} {T:Tab} (hx:Ok D X ex) (hT:Zdd D X T):Oi D X (Jb T ex):=by
 intro f args st v st' hv N w uf us hr hf ha c cs
 unfold Jb at hv
 split at hv
 ·rename_i g first cap
  obtain⟨ua,uc,rfl,h1,h2⟩:=hf
  obtain⟨N',u,w',a1,a2,a3,a4,a5,a6⟩:=Zll hx hT hv hr ((h1.append ha).append h2) c cs
  refine⟨N',u,w',a1,a2,a3,a4,a5,?_⟩
  have:Dx (.func (.func (X.φ g)) ua uc) us.toArray=callFunc (X.φ g) (ua.toList++us++uc.toList).toArray:=by
   simp only[Dx,Deferred.ofValue,pure_bind,invoke]
   congr 1
   apply Array.ext'
   simp
  rw[this]
  exact a6
 ·rename_i l
  obtain⟨a,hρ,rfl⟩:=hf
  obtain⟨st0,env,ps,as,bd,hg⟩:∃st0 env ps as bd,Zh st.h l=some (.loop st0 env ps as bd):=by
   unfold N8 at hv
   split at hv
   ·exact⟨_,_,_,_,_,‹_›⟩
   ·cases hv
  obtain⟨b,r,S,h1,_⟩:=I7 hr.hr hg
  rw[hρ]at h1
  cases h1
  obtain⟨N',u,w',a1,a2,a3,a4,a5,a6⟩:=Zlm hx hv hr ha hρ c cs
  refine⟨N',u,w',a1,a2,a3,a4,a5,?_⟩
  have:Dx (.func (.yield b) #[] #[]) us.toArray=Instr.yield b us.toArray:=by
   simp[Dx,Deferred.ofValue,invoke]
  rw[this]
  exact a6
 ·cases hv
end Go.Ev

/- A loop over a map whose rounds leave all as it was. -/
namespace Go.Ev
open Go
variable {X : Cx} {N N' N'' : Nu} {D : Mc}
mutual
theorem VR.back (hl:N.Le N'):∀(x:AV) {u0 u:Value},VR X N x u0→VR X N' x u→VR X N x u
 | .bot,_,_,_,_=>trivial
 | .bool _,_,_,_,h=>h
 | .int _ _,_,_,_,h=>h
 | .str _,_,_,_,h=>h
 | .ptr n o,_,_,⟨a,h1,_⟩,⟨c,h2,h3⟩=>by
   have:=(hl n a h1).1
   rw[this]at h2
   cases h2
   exact⟨a,h1,h3⟩
 | .J8,_,_,_,h=>h
 | .slice n o l c,_,_,⟨a,_,h1,_⟩,⟨a',cp,h2,h3,h4,h5⟩=>by
   have hk:=hl n a h1
   rw[hk.1]at h2
   cases h2
   refine⟨a,cp,h1,h3,h4,?_⟩
   cases c with
   | known k=>exact h5
   | full=>exact⟨h5.1,by rw[←hk.2];exact h5.2⟩
   | unk=>trivial
 | .Zc,_,_,_,h=>h
 | .map n,_,_,⟨a,h1,_⟩,⟨c,h2,h3⟩=>by
   rw[(hl n a h1).1]at h2
   cases h2
   exact⟨a,h1,h3⟩
 | .Vi,_,_,_,h=>h
 | .fn f xs ys,_,_,⟨us0,vs0,_,h1,h2⟩,⟨us,vs,h3,h4,h5⟩=>⟨us,vs,h3,VRs.back hl xs h1 h4,VRs.back hl ys h2 h5⟩
 | .yield n,_,_,⟨a,h1,_⟩,⟨c,h2,h3⟩=>by
   rw[(hl n a h1).1]at h2
   cases h2
   exact⟨a,h1,h3⟩
 | .Jx,_,_,_,h=>h
 | .iface t x,_,_,⟨_,_,h1⟩,⟨u,h2,h3⟩=>⟨u,h2,VR.back hl x h1 h3⟩
 | .K6,_,_,_,h=>h
 | .agg cs,_,_,⟨_,_,h1⟩,⟨us,h2,h3⟩=>⟨us,h2,VRs.back hl cs h1 h3⟩
 | .tuple cs,_,_,⟨_,_,h1⟩,⟨us,h2,h3⟩=>⟨us,h2,VRs.back hl cs h1 h3⟩
theorem VRs.back (hl:N.Le N'):∀(xs:List AV) {us0 us:List Value},VRs X N xs us0→VRs X N' xs us→VRs X N xs us
 | [],_,_,_,h=>h
 | x::xs,_,_,⟨_,_,_,h1,h2⟩,⟨u,ur,h3,h4,h5⟩=>⟨u,ur,h3,VR.back hl x h1 h4,VRs.back hl xs h2 h5⟩
end
theorem Kr.back (hl:N.Le N') {e:Env} {t0 t:Array Value} (h0:Kr X N e t0) (h:Kr X N' e t):Kr X N e t:=fun i=>VR.back hl _ (h0 i) (h i)
theorem U0.back (hl:N.Le N'):∀{es:List (AV×AV)} {ms0 ms:List MapEntry},U0 X N es ms0→U0 X N' es ms→U0 X N es ms
 | [],_,_,_,h=>h
 | (_,_)::_,_,_,⟨_,_,_,h1,h2,h3⟩,⟨e,er,k0,k1,k2,k3⟩=>⟨e,er,k0,VR.back hl _ h1 k1,VR.back hl _ h2 k2,U0.back hl h3 k3⟩
theorem Bt.back (hl:N.Le N') {w0 w:World} {n:Nat} {o:Qb} (h0:Bt D X N w0 n o) (h:Bt D X N' w n o):Bt D X N w n o:=by
 cases o with
 | cells ty l cs=>
   obtain⟨b0,us0,fz0,a1,a2,a3,a4⟩:=h0
   obtain⟨b,us,fz,h1,h2,h3,h4⟩:=h
   rw[(hl _ _ a1).1]at h1
   cases h1
   exact⟨_,us,fz,a1,h2,VRs.back hl _ a3 h3,h4⟩
 | buf ty es cs=>
   obtain⟨b0,us0,fz0,a1,a2,a3,a4,a5,a6⟩:=h0
   obtain⟨b,us,fz,h1,h2,h3,h4,h5,h6⟩:=h
   have hk:=hl _ _ a1
   rw[hk.1]at h1
   cases h1
   exact⟨_,us,fz,a1,h2,by rw[←hk.2];exact h3,h4,VRs.back hl _ a5 h5,h6⟩
 | ro cs=>
   obtain⟨a0,b1,b2,b3⟩:=h0
   obtain⟨a,h1,h2,h3⟩:=h
   rw[(hl _ _ b1).1]at h1
   cases h1
   refine⟨_,b1,h2,fun i x hx=> ?_⟩
   obtain⟨u0,_,hv0⟩:=b3 i x hx
   obtain⟨u,hu,hv⟩:=h3 i x hx
   exact⟨u,hu,VR.back hl _ hv0 hv⟩
 | map es=>
   obtain⟨b0,mes0,clk0,a1,a2,a3,a4⟩:=h0
   obtain⟨b,mes,clk,h1,h2,h3,h4⟩:=h
   rw[(hl _ _ a1).1]at h1
   cases h1
   exact⟨_,mes,clk,a1,h2,U0.back hl a3 h3,h4⟩
 | Wz g cs=>
   obtain⟨us0,t0,fz0,a1,a2,a3⟩:=h0
   obtain⟨us,t,fz,h1,h2,h3⟩:=h
   exact⟨us,t,fz,a1,h2,VRs.back hl _ a3 h3⟩
 | iter s pos=>
   obtain⟨b0,a1,a2⟩:=h0
   obtain⟨b,h1,h2⟩:=h
   rw[(hl _ _ a1).1]at h1
   cases h1
   exact⟨_,a1,h2⟩
 | loop st env ps assign body=>
   obtain⟨b0,l0,S0,a1,a2,a3,a4,a5⟩:=h0
   obtain⟨b,l,S,h1,h2,h3,h4,h5⟩:=h
   rw[(hl _ _ a1).1]at h1
   cases h1
   exact⟨_,l,S,a1,h2,h3,Kr.back hl a4 h4,h5⟩
theorem HR.back (hl:N.Le N') {h:Heap} {w0 w:World} (h0:HR D X N h w0) (h1:HR D X N' h w):HR D X N h w:=
 ⟨fun n o ho=>(h0.Um n o ho).back hl (h1.Um n o ho),h0.sep⟩
theorem Zrn {call:Qx} (hcall:Oi D X call) {S:Nat} {ops:Array Oper} (b:Frame) (d:List Deferred) (k:List Item) (cs:List Frame) (rest:List Nat) (tl:List Oper):
  ∀(is:List MI) (i:Nat) (os:List Oper) (N:Nu) (e e':Env) (st st':St) (t:Array Value) (w:World),Ko call is e st=some (e',st')→Tw X S ops is os=true→ops.toList.drop i=os++tl→
   Kr X N e t→S≤t.size→SR D X N st w→
   ∃N' t' w',Kr X N' e' t'∧t'.size=t.size∧SR D X N' st' w'∧Gd N st.h w N' st'.h w'∧st.nx≤st'.nx∧(∀n,n<st.nx→N'.ρ n=N.ρ n)∧
    Steps X.P (lone (Fr b t d (.inRegion ops (List.range' i os.length++rest)::k)) cs w) (lone (Fr b t' d (.inRegion ops rest::k)) cs w')
 | [],i,os,N,e,e',st,st',t,w,hv,hc,hd,he,hs,hr=>by
   cases os with
   | cons=>simp[Tw]at hc
   | nil=>
     cases hv
     exact⟨N,t,w,he,rfl,hr,.refl _ _ _,Nat.le_refl _,fun _ _=>rfl,.refl _ _⟩
 | mi::is,i,os,N,e,e',st,st',t,w,hv,hc,hd,he,hs,hr=>by
   cases os with
   | nil=>simp[Tw]at hc
   | cons o os=>
     simp only[Tw,bool_and]at hc
     simp only[Ko]at hv
     split at hv
     ·rename_i e1 st1 h1
      have ho:ops[i]? =some o:=by
       rw[←Array.getElem?_toList]
       have:=congrArg List.head? hd
       rw[List.head?_drop]at this
       exact this
      have hd':ops.toList.drop (i+1)=os++tl:=by
       have:=congrArg List.tail hd
       rw[List.tail_drop]at this
       exact this
      obtain⟨N1,t1,w1,a1,a2,a3,a4,a5,a6,a7⟩:=Zdb hcall h1 hc.1 ho he hs hr b d (List.range' (i+1) os.length++rest) k cs
      obtain⟨N2,t2,w2,b1,b2,b3,b4,b5,b6,b7⟩:=Zrn hcall b d k cs rest tl is (i+1) os N1 e1 e' st1 st' t1 w1 hv hc.2 hd' a1 (by omega) a3
      refine⟨N2,t2,w2,b1,by omega,b3,a4.trans b4,by omega,fun n hn=>by rw[b6 n (by omega),a6 n hn],?_⟩
      rw[List.length_cons,List.range'_succ]
      exact a7.trans b7
     ·cases hv
theorem Zwr {P:Program} {w:World} {t kt et:TypeId} {mb clk:Nat} {mes:Array MapEntry} (ht:P.underlying t=some (.map kt et)) (h:w.heap[mb]? =some (.map mes clk)):
  (Instr.range t (.map (some mb))).run P w= .ok (.pointer (some ⟨w.heap.size,0,none⟩)) {w with heap:=w.heap.push (.mapIter (some mb) clk #[] clk)}:=by
 simp[Instr.range,run_underlying ht,getObj,newObj,Sem.run,h]
theorem Zy4 {P:Program} {w:World} {r mb since clk:Nat} {seen:Array Nat} {mes:Array MapEntry} (h1:w.heap[r]? =some (.mapIter (some mb) since seen clk)) (h2:w.heap[mb]? =some (.map mes clk)) (hb:∀e∈mes.toList,e.born<clk) (t:TypeId):
  ∃dr,((Instr.next (.pointer (some ⟨r,0,none⟩)) false t).run P w= .ok (.tuple #[.bool false]) {w with drawn:=dr}∨
   ∃e∈mes.toList,e.born∉seen.toList∧(Instr.next (.pointer (some ⟨r,0,none⟩)) false t).run P w= .ok (.tuple #[.bool true,e.key,e.val]) {w with drawn:=dr,heap:=w.heap.setIfInBounds r (.mapIter (some mb) since (seen.push e.born) clk)}):=by
 have hcond:(!seen.isEmpty && !mes.isEmpty && mes.all (fun e=>decide (e.born≥clk)))=false:=by
  by_cases he:mes= #[]
  ·subst he;simp
  ·have:mes.all (fun e=>decide (e.born≥clk))=false:=by
    obtain⟨e,hm⟩:∃e,e∈mes.toList:=by
     cases hl:mes.toList with
     | nil=>exact absurd (by apply Array.ext';simpa using hl) he
     | cons a l=>exact⟨a,List.mem_cons_self⟩
    have:=hb e hm
    rw[Array.all_eq_false']
    exact⟨e,by simpa using hm,by simp;omega⟩
   simp[this]
 let left:=mes.filter fun e=> !seen.contains e.born
 let cands:=(if(left.filter (fun e=>decide (e.born<since))).isEmpty then #[none]else #[])++(left.filter (fun e=>decide (e.born<since))++left.filter (fun e=>decide (e.born≥since))).map some
 have hpos:0<cands.size:=by
  by_cases ho:(left.filter (fun e=>decide (e.born<since))).isEmpty=true
  ·simp[cands,ho];omega
  ·have:0<(left.filter (fun e=>decide (e.born<since))).size:=by
    rw[Array.isEmpty_iff_size_eq_zero]at ho
    omega
   simp only[cands]
   rw[if_neg ho]
   simp only[Array.size_append,Array.size_map]
   omega
 have Po:∀e,some e∈cands→e∈mes.toList∧e.born∉seen.toList:=by
  intro e he
  have he2:e∈left:=by
   simp only[cands,Array.mem_append,Array.mem_map]at he
   rcases he with he | ⟨x,hx,hxe⟩
   ·split at he <;> simp at he
   ·cases hxe
    rcases hx with hx | hx
    ·exact(Array.mem_filter.1 hx).1
    ·exact(Array.mem_filter.1 hx).1
  have:=Array.mem_filter.1 he2
  exact⟨by simpa using this.1,by simpa using this.2⟩
 obtain⟨i,dr,hi,hch⟩:∃i dr,i<cands.size∧(choose (.mapNext cands.size)).run P w= .ok i {w with drawn:=dr}:=by
  by_cases hf:(Question.mapNext cands.size).forced=true
  ·exact⟨0,w.drawn,hpos,by simp[choose,Sem.run,hf]⟩
  ·refine⟨_,w.drawn+1,Nat.mod_lt (w.tape w.drawn (.mapNext cands.size)) hpos,?_⟩
   simp[choose,Sem.run,hf,Question.cut]
 obtain⟨c,hc⟩:∃c,cands[i]? =some c:=⟨cands[i],by simp[hi]⟩
 refine⟨dr,?_⟩
 have hcm:c∈cands:=Array.mem_of_getElem? hc
 have hnext:(Instr.next (.pointer (some ⟨r,0,none⟩)) false t).run P w=(match c with
   | some e=>(do setObj r (.mapIter (some mb) since (seen.push e.born) clk);pure (.tuple #[.bool true,e.key,e.val]):Sem Value)
   | none=>pure (.tuple #[.bool false])).run P {w with drawn:=dr}:=by
  have hg1:(getObj r).run P w= .ok (.mapIter (some mb) since seen clk) w:=by simp[getObj,Sem.run,h1]
  have hg2:(getObj mb).run P w= .ok (.map mes clk) w:=by simp[getObj,Sem.run,h2]
  simp only[Instr.next,Sem.run_bind,hg1,Result.andThen,hg2,hcond,Bool.false_eq_true,if_false]
  dsimp only[cands,left]at hch hc
  rw[hch]
  dsimp only
  rw[hc]
  cases c <;> rfl
 rw[hnext]
 cases c with
 | none=>exact .inl (by simp)
 | some e=>
   right
   obtain⟨m1,m2⟩:=Po e hcm
   refine⟨e,m1,m2,?_⟩
   simp[setObj,Sem.run,h1]
theorem Zwq {P:Program} {w:World} {r mb since clk b:Nat} {seen:Array Nat} {mes:Array MapEntry} (h1:w.heap[r]? =some (.mapIter (some mb) since (seen.push b) clk)) (h2:w.heap[mb]? =some (.map mes clk)) {e:MapEntry} (he:e∈mes.toList) (hb:e.born=b):
  ∃e'∈mes.toList,(Instr.entry (.pointer (some ⟨r,0,none⟩))).run P w= .ok (.tuple #[e'.key,e'.val]) w:=by
 obtain⟨e',hf⟩:∃e',mes.find? (fun x=>x.born == b)=some e':=by
  cases hq:mes.find? (fun x=>x.born == b)with
  | some x=>exact⟨x,rfl⟩
  | none=>
    rw[Array.find?_eq_none]at hq
    exact absurd (by simpa using hb) (hq e (by simpa using he))
 refine⟨e',by simpa using Array.mem_of_find?_eq_some hf,?_⟩
 simp[Instr.entry,getObj,Sem.run,h1,h2,hf]
theorem Kr.Zd {e:Env} {t:Array Value} (h:Kr X N e t) (l:List Nat):Kr X N (X3 l e) t:=by
 have:∀(l:List Nat) (i:Nat),Zl (l.map fun t=>(t,Zl e t)) i=Zl e i∨Zl (l.map fun t=>(t,Zl e t)) i= .bot:=by
  intro l i
  induction l with
  | nil=>exact .inr rfl
  | cons a l ih=>
    simp only[List.map_cons,Zl]
    by_cases h:a=i
    ·subst h;rw[if_pos rfl];exact .inl rfl
    ·rw[if_neg h];exact ih
 intro i
 rcases this l i with h1 | h1
 ·simp only[X3,h1];exact h i
 ·simp only[X3,h1];trivial
theorem Gd.beside {N0:Nu} {h0 h:Heap} {w0 w w':World} {r:Nat} (g:Gd N0 h0 w0 N h w) (hs:w'.heap.size=w.heap.size) (ht:w'.tape=w.tape) (ho:w'.os=w.os) (hu:w'.output=w.output)
  (hb:∀k,k≠r→w'.heap[k]? =w.heap[k]?) (hr:w0.heap.size≤r):Gd N0 h0 w0 N h w':=
 ⟨g.le,by rw[hs];exact g.size,ht.trans g.tape,ho.trans g.os,hu.trans g.output,fun k hk hn=>by rw[hb k (by omega)];exact g.frame k hk hn,g.has⟩
theorem Zkw {call:Qx} {ex:ExF} {nx more pair:Nat} {post:List MI} {ks:List Nat} {body:Zv} {e:Env} {st:St}:∀{es:List (AV×AV)},rounds call ex nx more pair post ks body e st es=some ()→
  ∀k v,(k,v)∈es→∃e2 st2 e' st',Ko call post (R5 (R5 (R5 e nx (.tuple [.bool true,.bot,.bot])) more (.bool true)) pair (.tuple [k,v])) st=some (e2,st2)∧ex body e2 st2=some (.norm,e',st')∧Ziq ks e e'∧Znf st.h st'.h
 | [],_,k,v,hm=>by cases hm
 | (k0,v0)::es,h,k,v,hm=>by
   simp only[rounds]at h
   split at h
   case h_2=>cases h
   rename_i e2 st2 h1
   split at h
   case h_2=>cases h
   rename_i e' st' h2
   split at h
   case isFalse=>cases h
   rename_i h3
   rcases List.mem_cons.1 hm with heq | hm
   ·cases heq
    exact⟨e2,st2,e',st',h1,h2,h3.1,h3.2⟩
   ·exact Zkw h k v hm
theorem Zv5 (l:List Nat) (e:Env) (i:Nat):Zl (X3 l e) i= .bot∨i∈l:=by
 induction l with
 | nil=>exact .inl rfl
 | cons a l ih=>
   simp only[X3,List.map_cons,Zl]
   by_cases h:a=i
   ·subst h;exact .inr List.mem_cons_self
   ·rw[if_neg h]
    rcases ih with ih | ih
    ·exact .inl ih
    ·exact .inr (List.mem_cons_of_mem _ ih)
theorem U0.mem:∀{es:List (AV×AV)} {ms:List MapEntry},U0 X N es ms→∀e,e∈ms→∃k v,(k,v)∈es∧VR X N k e.key∧VR X N v e.val
 | [],ms,h,e,he=>by simp only[U0]at h;subst h;cases he
 | (k,v)::es,ms,h,e,he=>by
   obtain⟨e0,er,rfl,h1,h2,h3⟩:=h
   rcases List.mem_cons.1 he with rfl | he
   ·exact⟨k,v,List.mem_cons_self,h1,h2⟩
   ·obtain⟨k',v',g1,g2⟩:=U0.mem h3 e he
    exact⟨k',v',List.mem_cons_of_mem _ g1,g2⟩
theorem Kr.Zul (hl:N.Le N') {E e':Env} {t0 t:Array Value} {ks:List Nat} (h0:Kr X N E t0) (hE:∀i,Zl E i= .bot∨i∈ks) (hs:Ziq ks E e') (h:Kr X N' e' t):Kr X N E t:=by
 intro i
 rcases hE i with h1 | h1
 ·rw[h1];trivial
 ·have:=h i
  rw[hs i h1]at this
  exact VR.back hl _ (h0 i) this
theorem Zqo {l:List MapEntry} {p q:MapEntry→Bool} (hpq:∀e,q e=true→p e=true) {e:MapEntry} (he:e∈l) (h1:p e=true) (h2:q e=false):(l.filter q).length<(l.filter p).length:=by
 have mono:∀l:List MapEntry,(l.filter q).length≤(l.filter p).length:=by
  intro l
  induction l with
  | nil=>simp
  | cons a l ih=>
    simp only[List.filter_cons]
    cases hq:q a with
    | true=>rw[hpq a hq];simpa using ih
    | false=>cases hp:p a <;> simp <;> omega
 induction l with
 | nil=>cases he
 | cons a l ih=>
   simp only[List.filter_cons]
   rcases List.mem_cons.1 he with rfl | he
   ·rw[h1,h2]
    have:=mono l
    simp
    omega
   ·have:=ih he
    cases hq:q a with
    | true=>rw[hpq a hq];simpa using this
    | false=>cases hp:p a <;> simp <;> omega
theorem Zrb {ex:ExF} {call:Qx} (hx:Ok D X ex) (hcall:Oi D X call) {S d nx more pair next out:Nat} {post:List MI} {ks:List Nat} {body:Zv} {os2 os3:Array Oper} {r2 r3:Nat} {code:Code}
  (hd:d<S) (hnx:nx<S) (hpair:pair<S) (hrf:V2 body=true) (hn1:nx∉d::ks) (hn2:more∉d::ks) (hcn:Zif X S d nx more os2=true) (hce:Zdn X S d pair post os3=true) (hcb:Dd D X S body code=true)
  {es:List (AV×AV)} {e1:Env} {st:St} {it r mb since clk:Nat} {mes:Array MapEntry} {N:Nu} {N0:Nu} {h0:Heap} {w0:World} {b:Frame} {df:List Deferred} {k:List Item} {cs:List Frame} {B:Nat}
  (hro:rounds call ex nx more pair post (d::ks) body ((d,.ptr it 0)::X3 ks e1) st es=some ()) (hit:N.ρ it=some ⟨r,0,none⟩) (hents:U0 X N es mes.toList) (hborn:∀e∈mes.toList,e.born<clk)
  (hfr:∀n,st.nx≤n→N.ρ n=none) (hnr:∀n o a,Zh st.h n=some o→N.ρ n=some a→a.block≠r) (hnm:¬Own N st.h mb) (hr0:w0.heap.size≤r) (hmr:mb≠r):
  ∀(μ:Nat) (t:Array Value) (w:World) (seen:Array Nat),(mes.toList.filter fun e=> !seen.toList.contains e.born).length<μ→Kr X N ((d,.ptr it 0)::X3 ks e1) t→S≤t.size→HR D X N st.h w→Gd N0 h0 w0 N st.h w→Ec B df w→B≤w.heap.size→
   w.heap[r]? =some (.mapIter (some mb) since seen clk)→w.heap[mb]? =some (.map mes clk)→
   ∃t' w',Kr X N ((d,.ptr it 0)::X3 ks e1) t'∧t'.size=t.size∧HR D X N st.h w'∧Gd N0 h0 w0 N st.h w'∧Ec B df w'∧
    ∀M,step X.P M=step X.P (lone (Fr b t df (.code (.loop (.seq (.region r2 os2 false) (.seq (.cond (.tmp more) .skip (.exit out)) (.block next (.seq (.region r3 os3 false) code))))):: .inBlock out::k)) cs w)→Steps X.P M (lone (Fr b t' df k) cs w'):=by
 obtain⟨o0,r0,ho0,hc0⟩:∃o0 r0,os2.toList=o0::r0∧(o0.dst=some nx∧o0.guard=none∧o0.op= .next (.tmp d) false∧Tw X S os2 [⟨some more,none,.p (.Zq 0 (.t nx))⟩] r0=true):=by
  unfold Zif at hcn
  split at hcn
  case h_2=>cases hcn
  rename_i o0 r0 h
  simp only[bool_and,beq_iff_eq,Option.isNone_iff_eq_none]at hcn
  obtain⟨a1,a2,a3,a4⟩:=hcn
  refine⟨o0,r0,h,a1,a2,?_,a4⟩
  split at a3
  ·rename_i i hop;simp only[beq_iff_eq]at a3;subst a3;exact hop
  ·cases a3
 obtain⟨p0,q0,hp0,hd0⟩:∃p0 q0,os3.toList=p0::q0∧(p0.dst=some pair∧p0.guard=none∧p0.op= .entry (.tmp d)∧Tw X S os3 post q0=true):=by
  unfold Zdn at hce
  split at hce
  case h_2=>cases hce
  rename_i p0 q0 h
  simp only[bool_and,beq_iff_eq,Option.isNone_iff_eq_none]at hce
  obtain⟨a1,a2,a3,a4⟩:=hce
  refine⟨p0,q0,h,a1,a2,?_,a4⟩
  split at a3
  ·rename_i i hop;simp only[beq_iff_eq]at a3;subst a3;exact hop
  ·cases a3
 have hall:=Zkw hro
 obtain⟨E,hE⟩:∃E:Env,E=(d,.ptr it 0)::X3 ks e1:=⟨_,rfl⟩
 have hEd:Zl E d= .ptr it 0:=by rw[hE];simp[Zl]
 have hEn:∀i,Zl E i= .bot∨i∈d::ks:=by
  intro i
  rw[hE]
  simp only[Zl]
  by_cases h:d=i
  ·subst h;exact .inr List.mem_cons_self
  ·rw[if_neg h]
   exact(Zv5 ks e1 i).imp id (fun h=>List.mem_cons_of_mem _ h)
 rw[←hE]at hall⊢
 clear hro hE
 intro μ
 induction μ with
 | zero=>intro t w seen hμ;omega
 | succ μ ih=>
   intro t w seen hμ he hs hr hg hdf hB hir himb
   have hsz:=Ji hir
   have hdv:evT t (.tmp d)= .pointer (some ⟨r,0,none⟩):=by
    have:=he d
    rw[hEd]at this
    obtain⟨a,h1,h2⟩:=this
    rw[hit]at h1
    cases h1
    exact h2
   have ho0':os2[0]? =some o0:=by rw[←Array.getElem?_toList,ho0];rfl
   have hw0:∀t',Region.wanted o0 (yielded os2 t')=true:=fun t'=>by unfold Region.wanted;rw[hc0.2.1]
   have hdef0:∀c,o0.op≠.defer c:=fun c=>by rw[hc0.2.2.1];simp
   have hsize2:List.range os2.size=0::List.range' 1 r0.length:=by
    rw[←Array.length_toList,ho0,List.length_cons,List.range_eq_range',List.range'_succ]
   have hp0':os3[0]? =some p0:=by rw[←Array.getElem?_toList,hp0];rfl
   have hw1:∀t',Region.wanted p0 (yielded os3 t')=true:=fun t'=>by unfold Region.wanted;rw[hd0.2.1]
   have hdef1:∀c,p0.op≠.defer c:=fun c=>by rw[hd0.2.2.1];simp
   have hsize3:List.range os3.size=0::List.range' 1 q0.length:=by
    rw[←Array.length_toList,hp0,List.length_cons,List.range_eq_range',List.range'_succ]
   have hnr':¬Own N st.h r:=fun⟨n,o,a,h1,_,h3,h4⟩=>hnr n o a h1 h3 h4
   obtain⟨dr,hnext⟩:=Zy4 (P:=X.P) hir himb hborn o0.type
   have second:∀(q:Bool) (xs:List AV) (u:Value) (wA:World),VR X N (.tuple (.bool q::xs)) u→HR D X N st.h wA→
     ∃t2 w2,Kr X N (R5 (R5 E nx (.tuple (.bool q::xs))) more (.bool q)) t2∧t2.size=t.size∧HR D X N st.h w2∧Gd N st.h wA N st.h w2∧
      Steps X.P (lone (Fr b (B4 t (some nx) u) df (.inRegion os2 (List.range' 1 r0.length)::(.code (.seq (.cond (.tmp more) .skip (.exit out)) (.block next (.seq (.region r3 os3 false) code))):: .inLoop (.seq (.region r2 os2 false) (.seq (.cond (.tmp more) .skip (.exit out)) (.block next (.seq (.region r3 os3 false) code)))):: .inBlock out::k))) cs wA)
       (lone (Fr b t2 df (.inRegion os2 []::(.code (.seq (.cond (.tmp more) .skip (.exit out)) (.block next (.seq (.region r3 os3 false) code))):: .inLoop (.seq (.region r2 os2 false) (.seq (.cond (.tmp more) .skip (.exit out)) (.block next (.seq (.region r3 os3 false) code)))):: .inBlock out::k))) cs w2):=by
    intro q xs u wA hu hrA
    have he1:Kr X N (Vm E (some nx) (.tuple (.bool q::xs))) (B4 t (some nx) u):=he.put (fun x hx=>by cases hx;omega) hu
    have hrun:Ko call [⟨some more,none,.p (.Zq 0 (.t nx))⟩] (Vm E (some nx) (.tuple (.bool q::xs))) st=some (R5 (R5 E nx (.tuple (.bool q::xs))) more (.bool q),st):=by
     simp[Ko,MI.run,wanted,MO.run,PO.run,AO.ev,Vm,R5,Zl]
    obtain⟨N1,t2,w2,a1,a2,a3,a4,a5,a6,a7⟩:=Zao hcall b df (.code (.seq (.cond (.tmp more) .skip (.exit out)) (.block next (.seq (.region r3 os3 false) code))):: .inLoop (.seq (.region r2 os2 false) (.seq (.cond (.tmp more) .skip (.exit out)) (.block next (.seq (.region r3 os3 false) code)))):: .inBlock out::k) cs
     _ 1 r0 N _ _ st st (B4 t (some nx) u) wA hrun hc0.2.2.2 (by rw[ho0];rfl) he1 (by rw[Xe];exact hs) ⟨hrA,hfr⟩
    have hmore:more<(B4 t (some nx) u).size:=by
     have:=hc0.2.2.2
     cases r0 with
     | nil=>simp[Tw]at this
     | cons o1 r1=>
       simp only[Tw,bool_and,Zqc,beq_iff_eq]at this
       obtain⟨hdst,hlt,_⟩:=this.1
       rw[←hdst]at hlt
       have hlt':more<S:=by simpa using hlt
       rw[Xe]
       omega
    have he2:Kr X N (Vm (Vm E (some nx) (.tuple (.bool q::xs))) (some more) (.bool q)) (B4 (B4 t (some nx) u) (some more) (.bool q)):=he1.put (fun x hx=>by cases hx;exact hmore) rfl
    refine⟨t2,w2,Kr.back a4.le he2 a1,by rw[a2,Xe],HR.back a4.le hrA a3.hr,⟨.refl N,a4.size,a4.tape,a4.os,a4.output,a4.frame,fun n o a h1 h2=> .inl ⟨n,o,a,h1,h2,rfl,id⟩⟩,a7⟩
   have hmv:∀{q:Bool} {xs:List AV} {t2:Array Value},Kr X N (R5 (R5 E nx (.tuple (.bool q::xs))) more (.bool q)) t2→evT t2 (.tmp more)= .bool q:=by
    intro q xs t2 h
    have:=h more
    simp only[R5,Zl,if_pos]at this
    exact this
   rcases hnext with hnext | ⟨en,hen,hens,hnext⟩
   ·
    have hex0:(execOp (evT t) o0).run X.P w= .ok (.value (.tuple #[.bool false])) {w with drawn:=dr}:=by
     simp only[execOp,hc0.2.2.1,hdv]
     simp[hnext]
    obtain⟨t2,w2,b1,b2,b3,b4,b5⟩:=second false [] (.tuple #[.bool false]) {w with drawn:=dr} ⟨_,rfl,_,_,rfl,rfl,rfl⟩ (hr.drawn dr)
    have g2:=(hg.trans (Gd.drawn N st.h w dr)).trans b4
    refine⟨t2,w2,Kr.Zul (.refl N) he hEn (fun i hi=> ?_) b1,b2,b3,g2,(hdf.Zd hr (Gd.drawn N st.h w dr)).Zd (hr.drawn dr) b4,fun M hM=> ?_⟩
    ·have e1:nx≠i:=fun h=>hn1 (h▸hi)
     have e2:more≠i:=fun h=>hn2 (h▸hi)
     simp only[R5,Zl,if_neg e1,if_neg e2]
    ·refine .head (hM.trans Pa) (.head Pb (.head Ip ?_))
     rw[hsize2]
     refine .head (Mr ho0' (hw0 _) hdef0 hex0 rfl) ?_
     rw[hc0.1]
     refine Steps.trans b5 (.head X8 (.head Pb (.head (Zii (hmv b1)) ?_)))
     simp only[Bool.false_eq_true,if_false]
     exact .one (Zuv (by simp[exitTo]))
   ·
    obtain⟨wA,hwA⟩:∃wA:World,wA={w with drawn:=dr,heap:=w.heap.setIfInBounds r (.mapIter (some mb) since (seen.push en.born) clk)}:=⟨_,rfl⟩
    have hne:∀q,q≠r→wA.heap[q]? =w.heap[q]? :=fun q hq=>by
     rw[hwA]
     show (w.heap.setIfInBounds _ _)[q]? =_
     rw[Array.getElem?_setIfInBounds,if_neg (fun e=>hq e.symm)]
    have hszA:wA.heap.size=w.heap.size:=by rw[hwA];simp
    have hirA:wA.heap[r]? =some (.mapIter (some mb) since (seen.push en.born) clk):=by
     rw[hwA]
     show (w.heap.setIfInBounds _ _)[r]? =_
     rw[Array.getElem?_setIfInBounds,if_pos rfl,if_pos hsz]
    have himbA:wA.heap[mb]? =some (.map mes clk):=by rw[hne mb hmr];exact himb
    have hrA:HR D X N st.h wA:=⟨fun n o ho=>(hr.Um n o ho).Zd (.refl N) (by omega) (fun a ha=>hne _ (hnr n o a ho ha)),hr.sep⟩
    have hgA:Gd N0 h0 w0 N st.h wA:=hg.beside (r:=r) hszA (by rw[hwA]) (by rw[hwA]) (by rw[hwA]) hne hr0
    have hdA:Ec B df wA:=by
     obtain⟨rs,q1,q2,q3⟩:=hdf
     refine⟨rs,q1,q2,fun x hx=>⟨(q3 x hx).1,?_⟩⟩
     rw[hne x ?_]
     ·exact(q3 x hx).2
     ·rintro rfl
      have:=(q3 _ hx).2
      rw[hir]at this
      cases this
    have hex0:(execOp (evT t) o0).run X.P w= .ok (.value (.tuple #[.bool true,en.key,en.val])) wA:=by
     simp only[execOp,hc0.2.2.1,hdv]
     simp[hnext,hwA]
    obtain⟨t2,w2,b1,b2,b3,b4,b5⟩:=second true [.bot,.bot] (.tuple #[.bool true,en.key,en.val]) wA ⟨_,rfl,_,_,rfl,rfl,_,_,rfl,trivial,_,_,rfl,trivial,rfl⟩ hrA
    have hir2:w2.heap[r]? =some (.mapIter (some mb) since (seen.push en.born) clk):=by rw[b4.frame r (by omega) hnr'];exact hirA
    have himb2:w2.heap[mb]? =some (.map mes clk):=by rw[b4.frame mb (Ji himbA) hnm];exact himbA
    obtain⟨en',hen',hentry⟩:=Zwq (P:=X.P) hir2 himb2 hen rfl
    obtain⟨kA,vA,hkv,hvk,hvv⟩:=U0.mem hents en' hen'
    obtain⟨e2,st2,e',st',hpost,hbody,hsame,hkept⟩:=hall kA vA hkv
    have hdv2:evT t2 (.tmp d)= .pointer (some ⟨r,0,none⟩):=by
     have:=b1 d
     have e1:nx≠d:=fun h=>hn1 (h▸List.mem_cons_self)
     have e2:more≠d:=fun h=>hn2 (h▸List.mem_cons_self)
     simp only[R5,Zl,if_neg e1,if_neg e2]at this
     rw[hEd]at this
     obtain⟨a,h1,h2⟩:=this
     rw[hit]at h1
     cases h1
     exact h2
    have hex1:(execOp (evT t2) p0).run X.P w2= .ok (.value (.tuple #[en'.key,en'.val])) w2:=by
     simp only[execOp,hd0.2.2.1,hdv2]
     simp[hentry]
    have he3:Kr X N (Vm (R5 (R5 E nx (.tuple [.bool true,.bot,.bot])) more (.bool true)) (some pair) (.tuple [kA,vA])) (B4 t2 (some pair) (.tuple #[en'.key,en'.val])):=
     b1.put (fun x hx=>by cases hx;omega) ⟨_,rfl,_,_,rfl,hvk,_,_,rfl,hvv,rfl⟩
    obtain⟨N3,t4,w4,c1,c2,c3,c4,c5,c6,c7⟩:=Zao hcall b df (.code code:: .inBlock next:: .inLoop (.seq (.region r2 os2 false) (.seq (.cond (.tmp more) .skip (.exit out)) (.block next (.seq (.region r3 os3 false) code)))):: .inBlock out::k) cs
     _ 1 q0 N _ _ st st2 _ w2 hpost hd0.2.2.2 (by rw[hp0];rfl) he3 (by rw[Xe];omega) ⟨b3,hfr⟩
    rw[Xe]at c2
    have hd4:Ec B df w4:=(hdA.Zd hrA b4).Zd b3 c4
    obtain⟨N5,t5,d5,w5,f1,f2,f3,f4,f5,f6,f7,f8,f9⟩:=hx body code S _ _ _ _ _ hbody hcb N3 b t4 df (.inBlock next:: .inLoop (.seq (.region r2 os2 false) (.seq (.cond (.tmp more) .skip (.exit out)) (.block next (.seq (.region r3 os3 false) code)))):: .inBlock out::k) cs w4 B c1 (by omega) c3 hd4 (Nat.le_trans hB (by have:=b4.size;have:=c4.size;omega)) (.inr hrf)
    have f8:=(f8 hrf).symm
    subst f8
    have g5:=c4.trans f4
    have hr5:HR D X N st.h w5:=HR.back g5.le b3 (f3.hr.weaken (fun n o ho=>hkept n o ho))
    have g5':Gd N st.h w2 N st.h w5:=⟨.refl N,g5.size,g5.tape,g5.os,g5.output,g5.frame,fun n o a h1 h2=> .inl ⟨n,o,a,h1,h2,rfl,id⟩⟩
    have hir5:w5.heap[r]? =some (.mapIter (some mb) since (seen.push en.born) clk):=by rw[g5'.frame r (Ji hir2) hnr'];exact hir2
    have himb5:w5.heap[mb]? =some (.map mes clk):=by rw[g5'.frame mb (Ji himb2) hnm];exact himb2
    have he5:Kr X N E t5:=Kr.Zul g5.le he hEn hsame f1
    have hsz5:=(hgA.trans b4).trans g5'
    obtain⟨t',w',i1,i2,i3,i4,i5,i6⟩:=ih t5 w5 (seen.push en.born) (by
      refine Nat.lt_of_lt_of_le (Zqo (p:=fun e=> !seen.toList.contains e.born) (e:=en) (fun e h=> ?_) hen ?_ ?_) (Nat.le_of_lt_succ hμ)
      ·simp at h⊢;exact h.1
      ·simpa using hens
      ·simp) he5 (by omega) hr5 hsz5 f7 (Nat.le_trans hB (by have:=b4.size;have:=g5'.size;omega)) hir5 himb5
    refine⟨t',w',i1,by omega,i3,i4,i5,fun M hM=> ?_⟩
    have i6:=i6 (lone (Fr b t5 df (.inLoop (.seq (.region r2 os2 false) (.seq (.cond (.tmp more) .skip (.exit out)) (.block next (.seq (.region r3 os3 false) code)))):: .inBlock out::k)) cs w5) (Zms.trans Pa.symm)
    have f9:=f9 _ rfl
    simp only[Zng]at f9
    refine .head (hM.trans Pa) (.head Pb (.head Ip ?_))
    rw[hsize2]
    refine .head (Mr ho0' (hw0 _) hdef0 hex0 rfl) ?_
    rw[hc0.1]
    refine Steps.trans b5 (.head X8 (.head Pb (.head (Zii (hmv b1)) ?_)))
    simp only[if_true]
    refine .head Zuw (.head T9 (.head Pb (.head Ip ?_)))
    rw[hsize3]
    refine .head (Mr hp0' (hw1 _) hdef1 hex1 rfl) ?_
    rw[hd0.1]
    exact Steps.trans c7 (.head X8 (Steps.trans f9 (.head Zjb i6)))
theorem Bt.Ztu {w:World} {n:Nat} {o:Qb} (h:Bt D X N w n o):∃a,N.ρ n=some a:=by
 cases o with
 | cells ty l cs=>obtain⟨b,us,fz,h1,_⟩:=h;exact⟨_,h1⟩
 | buf ty es cs=>obtain⟨b,us,fz,h1,_⟩:=h;exact⟨_,h1⟩
 | ro cs=>obtain⟨a,h1,_⟩:=h;exact⟨_,h1⟩
 | map es=>obtain⟨b,mes,clk,h1,_⟩:=h;exact⟨_,h1⟩
 | Wz g cs=>obtain⟨us,t,fz,h1,_⟩:=h;exact⟨_,h1⟩
 | iter s pos=>obtain⟨b,h1,_⟩:=h;exact⟨_,h1⟩
 | loop st env ps assign body=>obtain⟨b,l,S,h1,_⟩:=h;exact⟨_,h1⟩
theorem Zrv {ex:ExF} {call:Qx} (hx:Ok D X ex) (hcall:Oi D X call) {S d nx more pair next out:Nat} {pre post:List MI} {mo:AO} {ks:List Nat} {body:Zv} {os os2 os3:Array Oper} {r1 r2 r3:Nat} {code:Code}
  (hd:d<S) (hnx:nx<S) (hpair:pair<S) (hrf:V2 body=true) (hn1:nx∉d::ks) (hn2:more∉d::ks) (hcr:Zi1 X S pre mo d os=true) (hcn:Zif X S d nx more os2=true) (hce:Zdn X S d pair post os3=true) (hcb:Dd D X S body code=true)
  {e e1:Env} {st st1:St} {n:Nat} {es:List (AV×AV)} (hpre:Ko call pre e st=some (e1,st1)) (hmo:mo.ev e1= .map n) (hmap:Zh st1.h n=some (.map es))
  (hro:rounds call ex nx more pair post (d::ks) body ((d,.ptr st1.nx 0)::X3 ks e1) ⟨Ub st1.h n,st1.nx+1⟩ es=some ())
  {N:Nu} {b:Frame} {t:Array Value} {df:List Deferred} {k:List Item} {cs:List Frame} {w:World} {B:Nat} (he:Kr X N e t) (hs:S≤t.size) (hr:SR D X N st w) (hdf:Ec B df w) (hB:B≤w.heap.size):
  ∃N' t' w',Kr X N' ((d,.ptr st1.nx 0)::X3 ks e1) t'∧t'.size=t.size∧SR D X N' ⟨Ub st1.h n,st1.nx+1⟩ w'∧Gd N st.h w N' (Ub st1.h n) w'∧st.nx≤st1.nx+1∧(∀n,n<st.nx→N'.ρ n=N.ρ n)∧Ec B df w'∧
   ∀M,step X.P M=step X.P (lone (Fr b t df (.code (.seq (.region r1 os false) (.block out (.loop (.seq (.region r2 os2 false) (.seq (.cond (.tmp more) .skip (.exit out)) (.block next (.seq (.region r3 os3 false) code)))))))::k)) cs w)→Steps X.P M (lone (Fr b t' df k) cs w'):=by
 unfold Zi1 at hcr
 simp only[bool_and]at hcr
 obtain⟨hcp,hcl⟩:=hcr
 split at hcl
 case h_2=>cases hcl
 rename_i o hlast
 simp only[bool_and,beq_iff_eq,Option.isNone_iff_eq_none]at hcl
 obtain⟨hdst,hgu,hop⟩:=hcl
 split at hop
 case h_2=>cases hop
 rename_i tt xo hopr
 simp only[bool_and]at hop
 obtain⟨hxo,hty⟩:=hop
 split at hty
 case h_2=>cases hty
 rename_i kt et hty'
 have hne:os.toList≠[]:=by intro h;rw[h]at hlast;cases hlast
 have hsplit:os.toList=os.toList.dropLast++[o]:=by
  have h1:=List.dropLast_concat_getLast hne
  rw[List.getLast?_eq_some_getLast hne]at hlast
  rw[←Option.some.inj hlast]
  exact h1.symm
 obtain⟨L,hL⟩:∃L,L=os.toList.dropLast:=⟨_,rfl⟩
 rw[←hL]at hsplit hcp
 obtain⟨N1,t1,w1,a1,a2,a3,a4,a5,a6,a7⟩:=Zrn hcall b df (.code (.block out (.loop (.seq (.region r2 os2 false) (.seq (.cond (.tmp more) .skip (.exit out)) (.block next (.seq (.region r3 os3 false) code))))))::k) cs [L.length] [o] pre 0 L N e e1 st st1 t w hpre hcp (by rw[List.drop_zero];exact hsplit) he hs hr
 have ho:os[L.length]? =some o:=by
  rw[←Array.getElem?_toList,hsplit]
  simp
 have hrange:List.range os.size=List.range' 0 L.length++[L.length]:=by
  rw[←Array.length_toList,hsplit,List.length_append,List.length_singleton,List.range_eq_range',List.range'_concat]
  simp
 have hmv:=Zfh a1 _ _ hxo
 rw[hmo]at hmv
 obtain⟨ad,hρ,hval⟩:=hmv
 obtain⟨mb,mes,clk,m1,m2,m3,m4⟩:=a3.hr.Um _ _ hmap
 rw[hρ]at m1
 cases m1
 simp only at hval
 have hrun:=Zwr (P:=X.P) hty' m2
 obtain⟨wR,hwR⟩:∃wR:World,wR={w1 with heap:=w1.heap.push (.mapIter (some mb) clk #[] clk)}:=⟨_,rfl⟩
 rw[←hwR]at hrun
 have hexo:(execOp (evT t1) o).run X.P w1= .ok (.value (.pointer (some ⟨w1.heap.size,0,none⟩))) wR:=by
  simp only[execOp,hopr,hval]
  simp[hrun]
 have hold:∀q,q<w1.heap.size→wR.heap[q]? =w1.heap[q]? :=fun q hq=>by rw[hwR];exact Gv w1 _ hq
 have hszR:wR.heap.size=w1.heap.size+1:=by rw[hwR];simp
 have hfresh:=a3.fresh st1.nx (Nat.le_refl _)
 obtain⟨N2,hN2⟩:∃N2,N2=N1.add st1.nx ⟨w1.heap.size,0,none⟩ 0:=⟨_,rfl⟩
 have hle:N1.Le N2:=by rw[hN2];exact Nu.Zcx hfresh
 have hρ2:∀m a,N1.ρ m=some a→N2.ρ m=some a:=fun m a h=>(hle m a h).1
 have hsub:∀m o,Zh (Ub st1.h n) m=some o→Zh st1.h m=some o∧m≠n:=by
  intro m o ho
  rw[Kj]at ho
  split at ho
  ·cases ho
  ·rename_i h;exact⟨ho,fun e=>h e.symm⟩
 have hnm:∀m o a,Zh st1.h m=some o→N2.ρ m=some a→N1.ρ m=some a:=by
  intro m o a h1 h2
  obtain⟨a',h3⟩:=(a3.hr.Um m o h1).Ztu
  rw[hρ2 m a' h3]at h2
  rw[h3,h2]
 have hr2:HR D X N2 (Ub st1.h n) wR:=by
  refine⟨fun m o ho=>(a3.hr.Um m o (hsub m o ho).1).Zd hle (by omega) (fun a ha=>hold _ ((a3.hr.Um m o (hsub m o ho).1).lt ha)),fun m m' o p a c h1 h2 h3 h4 h5 h6=> ?_⟩
  exact a3.hr.sep m m' o p a c (hsub _ _ h1).1 (hsub _ _ h2).1 h3 (hnm _ _ _ (hsub _ _ h1).1 h4) (hnm _ _ _ (hsub _ _ h2).1 h5) h6
 have g1:Gd N1 st1.h w1 N2 (Ub st1.h n) wR:=
  ⟨hle,by omega,by rw[hwR],by rw[hwR],by rw[hwR],fun q hq _=>hold q hq,fun m o a h1 h2=> .inl ⟨m,o,a,(hsub _ _ h1).1,hnm _ _ _ (hsub _ _ h1).1 h2,rfl,id⟩⟩
 have g2:=a4.trans g1
 have hitN:N2.ρ st1.nx=some ⟨w1.heap.size,0,none⟩:=by rw[hN2];simp[Nu.add]
 have hE:Kr X N2 ((d,.ptr st1.nx 0)::X3 ks e1) (B4 t1 (some d) (.pointer (some ⟨w1.heap.size,0,none⟩))):=
  (Kr.Zd (a1.mono hle) ks).put (dst:=some d) (v:= .ptr st1.nx 0) (fun x hx=>by cases hx;omega) ⟨_,hitN,rfl⟩
 have hfr2:∀m,st1.nx+1≤m→N2.ρ m=none:=by
  intro m hm
  rw[hN2]
  simp only[Nu.add]
  rw[if_neg (by omega)]
  exact a3.fresh m (by omega)
 have hsz1:=a4.size
 obtain⟨t',w',i1,i2,i3,i4,i5,i6⟩:=Zrb (b:=b) (k:=k) (cs:=cs) (r2:=r2) (r3:=r3) (next:=next) (out:=out) (B:=B) (df:=df) hx hcall hd hnx hpair hrf hn1 hn2 hcn hce hcb hro hitN (U0.mono hle m3) m4 hfr2
  (fun m o a h1 h2=>Nat.ne_of_lt ((a3.hr.Um m o (hsub _ _ h1).1).lt (hnm _ _ _ (hsub _ _ h1).1 h2)))
  (fun⟨m,o,a,h1,h2,h3,h4⟩=>(hsub _ _ h1).2 (a3.hr.sep m n o _ a _ (hsub _ _ h1).1 hmap h2 (hnm _ _ _ (hsub _ _ h1).1 h3) hρ h4))
  (w0:=w) (r:=w1.heap.size) (since:=clk) hsz1 (Nat.ne_of_lt (Ji m2)) ((mes.toList.filter fun e=> !(#[]:Array Nat).toList.contains e.born).length+1) (B4 t1 (some d) (.pointer (some ⟨w1.heap.size,0,none⟩))) wR #[] (Nat.lt_succ_self _) hE (by rw[Xe];omega) hr2 g2
  ((hdf.Zd hr.hr a4).Zd a3.hr g1) (by omega) (by rw[hwR];simp) (by rw[hold _ (Ji m2)];exact m2)
 rw[Xe]at i2
 refine⟨N2,t',w',i1,by omega,⟨i3,hfr2⟩,i4,by omega,fun m hm=> ?_,i5,fun M hM=> ?_⟩
 ·rw[hN2]
  simp only[Nu.add]
  rw[if_neg (by omega)]
  exact a6 m hm
 ·refine .head (hM.trans Pb) (.head Ip ?_)
  rw[hrange]
  refine Steps.trans a7 (.head (Mr ho (by unfold Region.wanted;rw[hgu]) (fun c=>by rw[hopr];simp) hexo rfl) ?_)
  rw[hdst]
  exact .head X8 (.head T9 (i6 _ rfl))
end Go.Ev
