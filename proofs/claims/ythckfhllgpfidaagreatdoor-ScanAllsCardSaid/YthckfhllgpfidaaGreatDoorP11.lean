/- A table of the library beside what the arguments named. -/
import Derived.Test.YthckfhllgpfidaaGreatDoorP07
import Derived.Test.YthckfhllgpfidaaGreatDoorP10
import Derived.Test.YthckfhllgpfidaaGreatDoorP03
import Derived.Test.YthckfhllgpfidaaGreatDoorP08
import Derived.Test.YthckfhllgpfidaaGreatDoorProg
import Derived.Shelf.Strings.Builder1
import Derived.Shelf.Strings.Builder2
import Derived.Shelf.Strings.OnBuilder
import Derived.Shelf.Small.Utf8
import Derived.Shelf.Small.Strs
import Derived.Shelf.Strings.BuilderF
import Derived.Shelf.Strings.BuilderK
import Derived.Shelf.Strings.Builder2Cap
import Derived.Shelf.Strconv.Itoa0
import Derived.Shelf.Strconv.Itoa1
import Derived.Shelf.LaysM
import Derived.Shelf.Strconv.Itoa2
import Derived.Shelf.Strconv.Itoa3
import Derived.Shelf.Strings.Search1
import Derived.Shelf.Strings.Search2
import Derived.Shelf.Strings.Cut
import Derived.Shelf.Strings.Shaped
import Derived.Shelf.Strings.Prefix
import Derived.Shelf.Strings.Runes
import Derived.Shelf.Strings.IndexAny
import Derived.Shelf.Strings.AsciiSet
import Derived.Shelf.Strings.IndexAnyAll
import Derived.Shelf.Bits.Mul64
import Derived.Shelf.Strings.Repeat
import Derived.Shelf.Strings.BuilderCap
set_option linter.unusedSimpArgs false
set_option linter.unusedVariables false
set_option linter.unusedSectionVars false
namespace Go.Ev
open Go Go.RowKit Go.ChangeShapes Go.WideShapes Go.Deep Go.Joins
theorem Zacd {X:Cx} {w:World} {N:Nu} {st:St} {o:Z7} {a:Addr} (h:SR H4 X N st w) (how:∀b,¬Own N st.h b) (ho:o.own=false) (hobj:Ig H4 X (N.add st.nx a 0) w st.nx o):
  SR H4 X (N.add st.nx a 0) ⟨(st.nx,o)::st.h,st.nx+1⟩ w∧(∀b,¬Own (N.add st.nx a 0) ((st.nx,o)::st.h) b)∧N.Le (N.add st.nx a 0):=by
 have hle:N.Le (N.add st.nx a 0):=Nu.Zdd (h.fresh _ (Nat.le_refl _))
 have hold:∀m,m≠st.nx→(N.add st.nx a 0).ρ m=N.ρ m:=fun m hm=>by simp[Nu.add,hm]
 have hown:∀b,¬Own (N.add st.nx a 0) ((st.nx,o)::st.h) b:=by
  rintro b ⟨n,p,x,h1,h2,h3,h4⟩
  by_cases e:n=st.nx
  ·subst e
   rw[Ze,if_pos rfl]at h1
   injection h1 with h1
   subst h1
   rw[ho]at h2
   cases h2
  ·rw[Ze,if_neg (fun x=>e x.symm)]at h1
   exact how b ⟨n,p,x,h1,h2,by rw[←hold n e];exact h3,h4⟩
 refine⟨⟨⟨?_,?_⟩,?_⟩,hown,hle⟩
 ·intro n p h1
  by_cases e:n=st.nx
  ·subst e
   rw[Ze,if_pos rfl]at h1
   injection h1 with h1
   subst h1
   exact hobj
  ·rw[Ze,if_neg (fun x=>e x.symm)]at h1
   exact Ig.Zi hle (Nat.le_refl _) (fun _ _=>rfl) (h.hr.Wj n p h1)
 ·intro n m o1 p1 x y h1 h2 h3 h4 h5 h6
  exact absurd ⟨n,o1,x,h1,h3,h4,rfl⟩ (hown x.block)
 ·intro n hn
  rw[hold n (by simp only at hn;omega)]
  exact h.fresh n (by simp only at hn;omega)
theorem Zx1 {X:Cx} {w:World} {N:Nu} {n k:Nat} {name:String} (hname:X.P.globalNamed name=some (X.γ k)) (h:Lib.TabIs X.P w name .u64 Lib.pow10Tab):Ig H4 X (N.add n ⟨X.γ k,0,none⟩ 0) w n (.By k Ay):=by
 unfold Lib.TabIs World.var? at h
 rw[hname]at h
 simp only[Option.bind_some]at h
 split at h
 ·rename_i cs t fz hc
  refine⟨cs,t,fz,by simp[Nu.add],hc,?_⟩
  injection h with h
  rw[h]
  exact Zsb _
 ·cases h
theorem wf_u16 {n:Int} (h:(Lit.int .u16 n).wf=true):0≤n∧n<65536:=by
 simp[Lit.wf,IntKind.min,IntKind.max,IntKind.signed,IntKind.bits]at h
 omega
theorem Zacf {X:Cx} {w:World} {N:Nu} {st:St} {k:Nat} {name:String} (hname:X.P.globalNamed name=some (X.γ k)) (h:Lib.TabIs X.P w name .u64 Lib.pow10Tab) (hr:SR H4 X N st w) (how:∀b,¬Own N st.h b):
  ∃N':Nu,SR H4 X N' ⟨(st.nx,.By k Ay)::st.h,st.nx+1⟩ w∧(∀b,¬Own N' ((st.nx,.By k Ay)::st.h) b)∧N.Le N':=
 ⟨_,Zacd hr how rfl (Zx1 hname h)⟩
theorem Zaci {st:St} {o:Z7} (h:st.Wf) (hp:0<st.nx):St.Wf ⟨(st.nx,o)::st.h,st.nx+1⟩:=(Ext.new h o).wf
end Go.Ev

/- A slice of drafts among the arguments. -/
namespace Go.Ev
open Go Go.RowKit Go.ChangeShapes Go.WideShapes Go.Deep Go.Joins
theorem Zvc {l:List Dra} {i:Nat} {x:AV} (h:(Zbz l)[i]? =some x):∃d,l[i / 3]? =some d∧(Zfm d)[i % 3]? =some x:=by
 have hi:i<(Zbz l).length:=(List.getElem?_eq_some_iff.1 h).1
 rw[Zfn]at hi
 obtain⟨d,hd⟩:∃d,l[i / 3]? =some d:=⟨_,List.getElem?_eq_getElem (by omega)⟩
 refine⟨d,hd,?_⟩
 rw[←Zi8 hd,List.getElem?_take,if_pos (by omega),List.getElem?_drop,show i / 3*3+i % 3=i by omega]
 exact h
section
variable {H : Type} {enc : TypeId × Value → H} {P : Program} {w : World} {base : Nat} {spare : Nat → Bool} {held : Bool}
theorem Zpu {td:TypeId} {f0 f1 f2:Field} (hs:P.underlying td=some (.struct #[f0,f1,f2])) (o0:f0.offset=0) (o1:f1.offset=1) (o2:f2.offset=2) (c0:P.cellsOf f0.type=1) (c1:P.cellsOf f1.type=1) (c2:P.cellsOf f2.type=1) (hC:P.cellsOf td=3)
  (h0:P.underlying f0.type=some (.int .u8)) (h1:P.underlying f1.type=some (.int .i32)) (h2:P.underlying f2.type=some .string) {fuel:Nat} {cs:List Value} {x:DataW H×List MemPlace} (h:DataW.trod enc P w base spare held fuel td cs=some x):
  ∃(d:Dra) (s:ByteArray),d.ok∧d.t=s.data.toList∧cs=[.int .u8 (d.k:Int),.int .i32 d.n,.string s]:=by
 obtain⟨xs,n,_,_,hl,hxl,hel⟩:=DataW.trod_struct hs h
 rw[hC]at hl
 match cs,hl with
 | [a,b,c],_=>
   have e0:=hel 0 f0 rfl
   have e1:=hel 1 f1 rfl
   have e2:=hel 2 f2 rfl
   rw[o0,c0]at e0
   rw[o1,c1]at e1
   rw[o2,c2]at e2
   obtain⟨y0,hy0⟩:∃y,xs[0]? =some y:=⟨_,List.getElem?_eq_getElem (by rw[hxl];show 0<3;omega)⟩
   obtain⟨y1,hy1⟩:∃y,xs[1]? =some y:=⟨_,List.getElem?_eq_getElem (by rw[hxl];show 1<3;omega)⟩
   obtain⟨y2,hy2⟩:∃y,xs[2]? =some y:=⟨_,List.getElem?_eq_getElem (by rw[hxl];show 2<3;omega)⟩
   rw[hy0]at e0
   rw[hy1]at e1
   rw[hy2]at e2
   simp only[List.drop_zero,List.take_succ_cons,List.take_zero,List.drop_succ_cons]at e0 e1 e2
   obtain⟨k,k0,_,wk⟩:=DataW.trod_int h0 e0
   obtain⟨m,m0,_,wm⟩:=DataW.trod_int h1 e1
   obtain⟨s,s0,_,ws⟩:=DataW.trod_string h2 e2
   simp only[List.cons.injEq,and_true]at k0 m0 s0
   subst k0 m0 s0
   have wk':=wf_u8 wk
   have wm':=wf_i32 wm
   obtain⟨k,rfl⟩:=Int.eq_ofNat_of_zero_le wk'.1
   have hml:maxLen≤9223372036854775807:=by decide
   exact⟨⟨k,m,s.data.toList⟩,s,⟨by show k<256;omega,wm'.1,wm'.2,by show s.data.toList.length<_;rw[Array.length_toList];exact Nat.lt_of_le_of_lt (Nat.le_trans ws hml) (by decide)⟩,rfl,rfl⟩
theorem Zpw {X:Cx} {r:Reach} {b0:Nat} {td tsl:TypeId} {f0 f1 f2:Field} {v:Value} {d:DataW H} {p:List MemPlace} (hP:X.P=P) (hs:P.underlying td=some (.struct #[f0,f1,f2])) (o0:f0.offset=0) (o1:f1.offset=1) (o2:f2.offset=2) (c0:P.cellsOf f0.type=1) (c1:P.cellsOf f1.type=1) (c2:P.cellsOf f2.type=1) (hC:P.cellsOf td=3)
  (h0:P.underlying f0.type=some (.int .u8)) (h1:P.underlying f1.type=some (.int .i32)) (h2:P.underlying f2.type=some .string) (hsl:P.underlying tsl=some (.slice td))
  (hv:Value.okWide P w r b0 tsl v) (h:DataW.Trod enc P w base spare held tsl v d p):
  ∃(N:Nu) (st:St) (sv:AV) (l:List Dra),SR H4 X N st w∧st.Wf∧(∀b,¬Own N st.h b)∧InD st.h sv l∧VR X N sv v∧(st=⟨[],3⟩∨∃cs,st=I1 cs):=by
 obtain⟨a0,len0,cap0,rfl⟩:=okWide_slice hsl hv
 obtain⟨fuel,hf⟩:=h
 rcases open_slice hsl hf with ⟨hcs,_⟩ | ⟨a,len,cap,m,n2,D,Pl,hcs,hba,hl,hm,hmm,_,hel⟩
 ·simp[Value.cells]at hcs
  obtain⟨rfl,rfl,rfl⟩:=hcs
  exact⟨Nu.none,⟨[],3⟩,.Zk,[],Zaam 3 w,Zwn 3,Zx4,⟨.inl ⟨rfl,rfl,rfl⟩,fun d hd=>by cases hd⟩,rfl,.inl rfl⟩
 ·simp[Value.cells]at hcs
  obtain⟨rfl,rfl,rfl⟩:=hcs
  have hcell:Cell.okWide P w r b0 tsl (.slice (some a) len0 cap0):=by
   simpa only[Value.okWide,hsl] using hv
  have hhas:a.spot=none∧∃us tt fz,w.heap[a.block]? =some (.cells us tt fz):=by
   simp only[Cell.okWide,hsl,Cell.ok,World.has]at hcell
   obtain⟨_,_,_,h3,row,cells,h4,_⟩:=hcell
   refine⟨h3,?_⟩
   unfold World.shape? at h4
   split at h4
   ·exact⟨_,_,_,by assumption⟩
   ·cases h4
  obtain⟨hsp,us,tt,fz,hheap⟩:=hhas
  obtain⟨blk,off,spot⟩:=a
  simp only at hsp
  subst hsp
  have hmlen:len0≤m:=by rw[hmm];split <;> omega
  have hdr:∀j,j<len0→∃d:Dra,d.ok∧∀i x,(Zfm d)[i]? =some x→∃u,w.cell? ⟨blk,off+(j*3+i),none⟩=some u∧VR X (Zg1 ⟨blk,off,none⟩) x u:=by
   intro j hj
   obtain⟨cs',h3,h4⟩:=hel j (by omega)
   rw[hC]at h3
   obtain⟨d,s,hd,ht,rfl⟩:=Zpu hs o0 o1 o2 c0 c1 c2 hC h0 h1 h2 h4
   refine⟨d,hd,fun i x hx=> ?_⟩
   obtain⟨_,_,h9⟩:=World.cells?_some h3
   have hi:i<3:=by
    have:=(List.getElem?_eq_some_iff.1 hx).1
    simpa [Zfm] using this
   have h10:=h9 i hi
   rw[Deep.add_add]at h10
   have hcell2:w.cell? ⟨blk,off+(j*3+i),none⟩=[Value.int .u8 (d.k:Int),.int .i32 d.n,.string s][i]? :=by
    unfold Addr.add at h10
    split at h10
    ·rename_i hj0;rw[hj0];exact h10
    ·exact h10
   have:i=0∨i=1∨i=2:=by omega
   rcases this with rfl | rfl | rfl
   ·simp[Zfm]at hx
    subst hx
    exact⟨_,hcell2,rfl⟩
   ·simp[Zfm]at hx
    subst hx
    exact⟨_,hcell2,rfl⟩
   ·simp[Zfm]at hx
    subst hx
    exact⟨_,hcell2,by rw[ht];simp[VR]⟩
  obtain⟨f,hff⟩:=Deep.choose_lt (α:=Dra) (p:=fun j d=>d.ok∧∀i x,(Zfm d)[i]? =some x→∃u,w.cell? ⟨blk,off+(j*3+i),none⟩=some u∧VR X (Zg1 ⟨blk,off,none⟩) x u) hdr
  let l:List Dra:=(List.range len0).map f
  have hll:l.length=len0:=by simp[l]
  have hxs:(Zbz l).length=len0*3:=by rw[Zfn,hll]
  refine⟨Zg1 ⟨blk,off,none⟩,I1 (Zbz l),.slice 2 0 len0 .unk,l,?_,Zyk _,Zz2,⟨.inr ⟨2,0,.unk,by rw[hll],?_⟩,?_⟩,?_,.inr ⟨_,rfl⟩⟩
  ·refine Zace hheap (fun i x hx=> ?_)
   obtain⟨d,hd,hx⟩:=Zvc hx
   have hi:i / 3<len0:=by rw[←hll];exact(List.getElem?_eq_some_iff.1 hd).1
   have hd2:d=f (i / 3):=by
    simp[l,hi]at hd
    exact hd.symm
   subst hd2
   have:=(hff (i / 3) hi).2 (i % 3) x hx
   rw[show i / 3*3+i % 3=i by omega]at this
   exact this
  ·simp only[Z1,I1,Zh,if_pos,Nat.zero_add]
   rw[if_pos (by omega),List.drop_zero,List.take_of_length_le (by omega)]
  ·intro d hd
   obtain⟨j,hj,rfl⟩:=List.mem_map.1 hd
   exact(hff j (List.mem_range.1 hj)).1
  ·exact⟨⟨blk,off,none⟩,cap0,rfl,rfl,hl,trivial⟩
end
end Go.Ev

/- A closed call run by the kernel: what it answers, and that what was there stays. -/
namespace Go.Ev
open Go
variable {T : Tab}
def Zij:List Nat→Bool
 | []=>true
 | n::r=> !Oo n r && Zij r
def Zt3 (k:Nat):List Nat→Bool
 | []=>true
 | n::r=>decide (n<k) && Zt3 k r
def okSt (k:Nat) (s:St):Bool:=Zij (s.h.map (·.1)) && (Zt3 s.nx (s.h.map (·.1)) && decide (k≤s.nx))
theorem Zjo {n:Nat}:∀{l:List Nat},Oo n l=false→n∉l
 | [],_=>by simp
 | m::l,h=>by
   simp only[Oo]at h
   split at h
   ·cases h
   ·rename_i e
    simp only[List.mem_cons,not_or]
    exact⟨fun h=>e h.symm,Zjo h⟩
theorem Zb5:∀{l:List Nat},Zij l=true→l.Nodup
 | [],_=>List.nodup_nil
 | n::l,h=>by
   simp only[Zij,Bool.and_eq_true,Bool.not_eq_true']at h
   exact List.nodup_cons.2 ⟨Zjo h.1,Zb5 h.2⟩
theorem Zmk {k:Nat}:∀{l:List Nat},Zt3 k l=true→∀n∈l,n<k
 | [],_,n,hn=>by cases hn
 | m::l,h,n,hn=>by
   simp only[Zt3,Bool.and_eq_true,decide_eq_true_eq]at h
   rcases List.mem_cons.1 hn with rfl | hn
   ·exact h.1
   ·exact Zmk h.2 n hn
theorem Zz0 {k:Nat} {s:St} (h:okSt k s=true):s.Wf∧k≤s.nx:=by
 simp only[okSt,Bool.and_eq_true,decide_eq_true_eq]at h
 refine⟨⟨fun n o ho=>Zmk h.2.1 n ?_,Zb5 h.1⟩,h.2.2⟩
 exact List.mem_map.2 ⟨(n,o),Zqb ho,rfl⟩
def Zxr (k:Nat) (r:Option (Ex×Env×St)):Option (AV×Bool×List (Option Z7)):=
 match r with
 | some (.ret,e,s)=>some (Zb e 0,okSt k s,(List.range k).map (Zh s.h))
 | _=>none
theorem Ziz {f n:Nat} {mf:Z8} (hen:T.en f=none) (hf:T.fn f=some mf) (h0:mf.Zex=0) (hr:mf.results=[.t 0]) {st:St} {v:AV}
  (h:Zxr st.nx (exec T n mf.body [] st)=some (v,true,(List.range st.nx).map (Zh st.h))):Jg (call T (.fn f [] []) [] st) fun v' s=>v'=v∧Ext st s:=by
 refine Q3 hen hf (by simp[h0]) ?_
 cases hx:exec T n mf.body [] st with
 | none=>rw[hx]at h;cases h
 | some p=>
   obtain⟨x,e,s⟩:=p
   rw[hx]at h
   cases x with
   | norm=>cases h
   | exit i=>cases h
   | ret=>
     simp only[Zxr,Option.some.injEq,Prod.mk.injEq]at h
     obtain⟨hv,hs,hk⟩:=h
     obtain⟨hwf,hnx⟩:=Zz0 hs
     have hrun:run T mf.body (Ul 0 ([]++[]++[])) st=some (.ret,e,s):=Wh.2 ⟨n,hx⟩
     rw[hrun]
     refine⟨.inr rfl,v,by rw[hr];simp[Zg,Zm,Zr,hv],rfl,?_⟩
     have x1:Ext st s:=⟨hnx,hwf,fun m hm=>by
      have:=congrArg (fun l=>l[m]?) hk
      simp only[List.getElem?_map,List.getElem?_range hm,Option.map_some,Option.some.injEq]at this
      exact this⟩
     exact x1.Zp
end Go.Ev

/- The functions that the law ScanAlls reaches: their numbers, and the check of each body, printed by a program of this work. -/
namespace Go.Ev.ScanAlls
open Go Go.Proofs Go.Ev
def phiT:NT:=(.node (.node (.node (.node (.node (.node (.node (.node .nil 63 95 .nil) 64 43 .nil) 65 57 (.node .nil 66 65 .nil)) 67 56 (.node (.node (.node .nil 68 66 .nil) 69 118
 .nil) 70 59 (.node .nil 71 73 .nil))) 72 69 (.node (.node (.node (.node .nil 74 40 .nil) 75 124 .nil) 76 125 (.node .nil 77 126 .nil)) 78 75 (.node (.node .nil 79 76 .nil) 80 77 (.node
 .nil 81 78 .nil)))) 82 94 (.node (.node (.node (.node (.node .nil 83 44 .nil) 84 84 .nil) 85 58 (.node .nil 86 131 .nil)) 87 132 (.node (.node (.node .nil 88 96 .nil) 89 97 .nil) 90
 98 (.node .nil 91 25 .nil))) 92 24 (.node (.node (.node (.node .nil 93 74 .nil) 94 48 .nil) 95 137 (.node .nil 96 138 .nil)) 97 139 (.node (.node .nil 98 140 .nil) 99 141 (.node .nil
 100 142 .nil))))) 101 112 (.node (.node (.node (.node (.node (.node .nil 102 113 .nil) 103 114 .nil) 104 115 (.node .nil 105 42 .nil)) 106 147 (.node (.node (.node .nil 107 148 .nil)
 108 127 .nil) 109 46 (.node .nil 110 110 .nil))) 111 111 (.node (.node (.node (.node .nil 112 156 .nil) 113 159 .nil) 114 160 (.node .nil 115 161 .nil)) 116 162 (.node (.node .nil 117
 168 .nil) 118 79 (.node .nil 119 171 .nil)))) 120 178 (.node (.node (.node (.node (.node .nil 121 179 .nil) 122 172 .nil) 123 82 (.node .nil 127 35 .nil)) 128 38 (.node (.node (.node
 .nil 129 20 .nil) 130 36 .nil) 132 71 (.node .nil 133 72 .nil))) 134 67 (.node (.node (.node (.node .nil 135 68 .nil) 136 108 .nil) 137 107 (.node .nil 138 109 .nil)) 139 129 (.node
 (.node .nil 140 157 .nil) 141 158 (.node .nil 142 173 .nil)))))) 143 174 (.node (.node (.node (.node (.node (.node (.node .nil 144 175 .nil) 145 176 .nil) 146 177 (.node .nil 147 185
 .nil)) 148 183 (.node (.node (.node .nil 149 182 .nil) 151 4 .nil) 157 10 (.node .nil 158 11 .nil))) 159 12 (.node (.node (.node (.node .nil 160 13 .nil) 161 14 .nil) 162 15 (.node
 .nil 163 16 .nil)) 164 17 (.node (.node .nil 165 18 .nil) 166 19 (.node .nil 168 22 .nil)))) 169 23 (.node (.node (.node (.node (.node .nil 170 27 .nil) 171 28 .nil) 172 29 (.node .nil
 173 30 .nil)) 174 31 (.node (.node (.node .nil 175 32 .nil) 176 33 .nil) 177 34 (.node .nil 178 37 .nil))) 179 39 (.node (.node (.node (.node .nil 180 41 .nil) 182 51 .nil) 183 52 (.node
 .nil 184 53 .nil)) 185 54 (.node (.node .nil 186 55 .nil) 187 60 (.node .nil 188 61 .nil))))) 189 62 (.node (.node (.node (.node (.node (.node .nil 190 63 .nil) 191 64 .nil) 192 70
 (.node .nil 193 85 .nil)) 194 86 (.node (.node (.node .nil 195 87 .nil) 196 88 .nil) 197 89 (.node .nil 198 90 .nil))) 199 91 (.node (.node (.node (.node .nil 200 92 .nil) 201 93 .nil)
 202 99 (.node .nil 203 100 .nil)) 204 101 (.node (.node .nil 205 102 .nil) 206 103 (.node .nil 207 104 .nil)))) 208 105 (.node (.node (.node (.node (.node .nil 209 119 .nil) 210 120
 .nil) 211 121 (.node .nil 212 122 .nil)) 213 123 (.node (.node (.node .nil 214 133 .nil) 215 134 .nil) 216 135 (.node .nil 217 136 .nil))) 218 149 (.node (.node (.node (.node .nil 219
 150 .nil) 220 151 .nil) 221 152 (.node .nil 222 153 .nil)) 223 154 (.node (.node .nil 224 155 .nil) 225 169 (.node .nil 226 170 .nil)))))))
def tauT:NT:=(.node (.node (.node (.node (.node (.node (.node (.node .nil 0 0 .nil) 1 1 (.node .nil 2 2 .nil)) 3 3 (.node (.node .nil 4 4 .nil) 5 5 (.node .nil 6 6 .nil))) 7 7 (.node
 (.node (.node .nil 8 8 .nil) 9 9 (.node .nil 10 10 .nil)) 11 11 (.node (.node .nil 12 12 .nil) 13 13 .nil))) 14 14 (.node (.node (.node (.node .nil 15 15 .nil) 16 16 (.node .nil 17
 17 .nil)) 18 18 (.node (.node .nil 19 19 .nil) 20 20 .nil)) 21 21 (.node (.node (.node .nil 25 23 .nil) 27 95 (.node .nil 28 56 .nil)) 30 28 (.node (.node .nil 31 41 .nil) 34 33 .nil))))
 35 22 (.node (.node (.node (.node (.node .nil 37 102 .nil) 42 62 (.node .nil 43 93 .nil)) 45 110 (.node (.node .nil 48 199 .nil) 79 90 (.node .nil 80 91 .nil))) 81 92 (.node (.node
 (.node .nil 82 49 .nil) 83 50 (.node .nil 84 51 .nil)) 85 94 (.node (.node .nil 86 52 .nil) 87 53 .nil))) 88 54 (.node (.node (.node (.node .nil 89 55 .nil) 102 117 (.node .nil 103
 118 .nil)) 104 119 (.node (.node .nil 105 120 .nil) 106 121 .nil)) 107 122 (.node (.node (.node .nil 108 89 .nil) 110 84 (.node .nil 112 203 .nil)) 114 115 (.node (.node .nil 115 116
 .nil) 116 129 .nil))))) 117 213 (.node (.node (.node (.node (.node (.node .nil 118 170 .nil) 120 141 (.node .nil 121 219 .nil)) 122 220 (.node (.node .nil 123 221 .nil) 124 222 (.node
 .nil 125 223 .nil))) 126 224 (.node (.node (.node .nil 127 225 .nil) 128 226 (.node .nil 129 227 .nil)) 130 228 (.node (.node .nil 131 229 .nil) 132 230 .nil))) 133 26 (.node (.node
 (.node (.node .nil 134 27 .nil) 135 85 (.node .nil 136 86 .nil)) 137 97 (.node (.node .nil 139 139 .nil) 140 103 .nil)) 141 106 (.node (.node (.node .nil 146 34 .nil) 147 82 (.node
 .nil 149 142 .nil)) 150 143 (.node (.node .nil 151 144 .nil) 152 72 .nil)))) 153 109 (.node (.node (.node (.node (.node .nil 154 111 .nil) 155 112 (.node .nil 156 113 .nil)) 157 114
 (.node (.node .nil 158 87 .nil) 159 123 (.node .nil 160 146 .nil))) 161 67 (.node (.node (.node .nil 162 148 .nil) 163 149 (.node .nil 164 150 .nil)) 165 151 (.node (.node .nil 166
 152 .nil) 167 125 .nil))) 168 126 (.node (.node (.node (.node .nil 169 127 .nil) 170 59 (.node .nil 171 44 .nil)) 172 164 (.node (.node .nil 173 165 .nil) 174 166 .nil)) 175 167 (.node
 (.node (.node .nil 176 168 .nil) 177 131 (.node .nil 178 140 .nil)) 179 174 (.node (.node .nil 180 186 .nil) 181 187 .nil)))))) 182 188 (.node (.node (.node (.node (.node (.node (.node
 .nil 183 189 .nil) 184 190 (.node .nil 185 192 .nil)) 186 193 (.node (.node .nil 187 194 .nil) 188 195 (.node .nil 189 196 .nil))) 190 197 (.node (.node (.node .nil 191 198 .nil) 192
 128 (.node .nil 193 204 .nil)) 194 205 (.node (.node .nil 195 207 .nil) 196 208 .nil))) 197 209 (.node (.node (.node (.node .nil 198 210 .nil) 199 211 (.node .nil 200 212 .nil)) 201
 214 (.node (.node .nil 202 215 .nil) 203 218 .nil)) 204 73 (.node (.node (.node .nil 205 74 .nil) 206 75 (.node .nil 208 43 .nil)) 209 45 (.node (.node .nil 213 58 .nil) 214 105 .nil))))
 215 108 (.node (.node (.node (.node (.node .nil 218 134 .nil) 219 135 (.node .nil 220 136 .nil)) 221 137 (.node (.node .nil 222 138 .nil) 228 145 (.node .nil 233 169 .nil))) 234 171
 (.node (.node (.node .nil 235 172 .nil) 236 173 (.node .nil 244 200 .nil)) 245 201 (.node (.node .nil 246 202 .nil) 251 216 .nil))) 252 217 (.node (.node (.node (.node .nil 253 24 .nil)
 254 25 (.node .nil 255 29 .nil)) 256 30 (.node (.node .nil 257 31 .nil) 258 32 .nil)) 259 35 (.node (.node (.node .nil 260 36 .nil) 261 37 (.node .nil 262 38 .nil)) 263 39 (.node (.node
 .nil 264 40 .nil) 265 42 .nil))))) 266 46 (.node (.node (.node (.node (.node (.node .nil 267 47 .nil) 268 48 (.node .nil 269 57 .nil)) 270 60 (.node (.node .nil 271 61 .nil) 272 63
 (.node .nil 273 64 .nil))) 274 65 (.node (.node (.node .nil 275 66 .nil) 276 68 (.node .nil 277 69 .nil)) 278 70 (.node (.node .nil 279 71 .nil) 280 76 .nil))) 281 77 (.node (.node
 (.node (.node .nil 282 78 .nil) 283 79 (.node .nil 284 80 .nil)) 285 81 (.node (.node .nil 286 83 .nil) 287 88 .nil)) 288 96 (.node (.node (.node .nil 289 98 .nil) 290 99 (.node .nil
 291 100 .nil)) 292 101 (.node (.node .nil 293 104 .nil) 294 107 .nil)))) 295 124 (.node (.node (.node (.node (.node .nil 296 130 .nil) 297 132 (.node .nil 298 133 .nil)) 299 153 (.node
 (.node .nil 300 154 .nil) 301 155 (.node .nil 302 156 .nil))) 303 157 (.node (.node (.node .nil 304 158 .nil) 305 159 (.node .nil 306 160 .nil)) 307 161 (.node (.node .nil 308 162 .nil)
 309 163 .nil))) 310 175 (.node (.node (.node (.node .nil 311 176 .nil) 312 177 (.node .nil 313 178 .nil)) 314 179 (.node (.node .nil 315 180 .nil) 316 181 .nil)) 317 182 (.node (.node
 (.node .nil 318 183 .nil) 319 184 (.node .nil 320 185 .nil)) 321 206 (.node (.node .nil 322 231 .nil) 323 232 .nil)))))))
def gamT:NT:=(.node (.node (.node .nil 0 0 .nil) 4 1 .nil) 5 2 (.node .nil 6 3 .nil))
noncomputable def cx:Cx:=⟨Tryz.prog,phiT.get,tauT.get,gamT.get⟩
theorem Zoe:Qc cx 63 B.Ni:=Zq (by kernel_rfl) Tryz.func95 (by kernel_rfl)
theorem Zbf:Qc cx 64 B.Qb:=Zq (by kernel_rfl) Tryz.func43 (by kernel_rfl)
theorem Zs7:Qc cx 65 B.Bf:=Zq (by kernel_rfl) Tryz.func57 (by kernel_rfl)
theorem Zen:Qc cx 66 B.Ua:=Zq (by kernel_rfl) Tryz.func65 (by kernel_rfl)
theorem Zlk:Qc cx 67 B.Y2:=Zq (by kernel_rfl) Tryz.func56 (by kernel_rfl)
theorem Ai:Qc cx 68 B.Jf:=Zq (by kernel_rfl) Tryz.func66 (by kernel_rfl)
theorem Zll:Qc cx 69 B.G5:=Zq (by kernel_rfl) Tryz.func118 (by kernel_rfl)
theorem Aj:Qc cx 70 B.Vd:=Zq (by kernel_rfl) Tryz.func59 (by kernel_rfl)
theorem Zqi:Qc cx 71 B.Zaj:=Zq (by kernel_rfl) Tryz.func73 (by kernel_rfl)
theorem Zcy:Qc cx 72 B.Uv:=Zq (by kernel_rfl) Tryz.func69 (by kernel_rfl)
theorem Zqh:Qc cx 74 B.N8:=Zq (by kernel_rfl) Tryz.func40 (by kernel_rfl)
theorem Zbl:Qc cx 75 B.V0:=Zq (by kernel_rfl) Tryz.func124 (by kernel_rfl)
theorem Zbk:Qc cx 76 B.Vz:=Zq (by kernel_rfl) Tryz.func125 (by kernel_rfl)
theorem Sd:Qc cx 77 B.Yx:=Zq (by kernel_rfl) Tryz.func126 (by kernel_rfl)
theorem Zc0:Qc cx 78 B.Kh:=Zq (by kernel_rfl) Tryz.func75 (by kernel_rfl)
theorem Zc4:Qc cx 79 B.Ju:=Zq (by kernel_rfl) Tryz.func76 (by kernel_rfl)
theorem Zei:Qc cx 80 B.Zu:=Zq (by kernel_rfl) Tryz.func77 (by kernel_rfl)
theorem Zcr:Qc cx 81 B.Y9:=Zq (by kernel_rfl) Tryz.func78 (by kernel_rfl)
theorem Zlo:Qc cx 82 B.Ll:=Zq (by kernel_rfl) Tryz.func94 (by kernel_rfl)
theorem Zf0:Qc cx 83 B.Kz:=Zq (by kernel_rfl) Tryz.func44 (by kernel_rfl)
theorem Zcv:Qc cx 85 B.Qs:=Zq (by kernel_rfl) Tryz.func58 (by kernel_rfl)
theorem Zes:Qc cx 86 B.Jr:=Zq (by kernel_rfl) Tryz.func131 (by kernel_rfl)
theorem Zf2:Qc cx 87 B.La:=Zq (by kernel_rfl) Tryz.func132 (by kernel_rfl)
theorem Zhy:Qc cx 88 B.Kc:=Zq (by kernel_rfl) Tryz.func96 (by kernel_rfl)
theorem Zbg:Qc cx 89 B.Vu:=Zq (by kernel_rfl) Tryz.func97 (by kernel_rfl)
theorem Zc2:Qc cx 90 B.K8:=Zq (by kernel_rfl) Tryz.func98 (by kernel_rfl)
theorem Cj:Qc cx 91 B.Jk:=Zq (by kernel_rfl) Tryz.func25 (by kernel_rfl)
theorem F6:Qc cx 92 B.Ki:=Zq (by kernel_rfl) Tryz.func24 (by kernel_rfl)
theorem Zql:Qc cx 93 B.Ya:=Zq (by kernel_rfl) Tryz.func74 (by kernel_rfl)
theorem Zbs:Qc cx 94 B.strings_HasPrefix:=Zq (by kernel_rfl) Tryz.func48 (by kernel_rfl)
theorem Zqj:Qc cx 95 B.N9:=Zq (by kernel_rfl) Tryz.func137 (by kernel_rfl)
theorem Al:Qc cx 96 B.Q7:=Zq (by kernel_rfl) Tryz.func138 (by kernel_rfl)
theorem Zls:Qc cx 97 B.strings_Cut:=Zq (by kernel_rfl) Tryz.func139 (by kernel_rfl)
theorem Sj:Qc cx 98 B.strings_ContainsAny:=Zq (by kernel_rfl) Tryz.func140 (by kernel_rfl)
theorem Zln:Qc cx 99 B.G7:=Zq (by kernel_rfl) Tryz.func141 (by kernel_rfl)
theorem Zog:Qc cx 100 B.L9:=Zq (by kernel_rfl) Tryz.func142 (by kernel_rfl)
theorem Zc1:Qc cx 101 B.Uw:=Zq (by kernel_rfl) Tryz.func112 (by kernel_rfl)
theorem Zct:Qc cx 102 B.K7:=Zq (by kernel_rfl) Tryz.func113 (by kernel_rfl)
theorem Zcu:Qc cx 103 B.Uu:=Zq (by kernel_rfl) Tryz.func114 (by kernel_rfl)
theorem Zcq:Qc cx 104 B.Kg:=Zq (by kernel_rfl) Tryz.func115 (by kernel_rfl)
theorem Zhx:Qc cx 105 B.Ky:=Zq (by kernel_rfl) Tryz.func42 (by kernel_rfl)
theorem Zbm:Qc cx 106 B.V1:=Zq (by kernel_rfl) Tryz.func147 (by kernel_rfl)
theorem Zer:Qc cx 107 B.Jq:=Zq (by kernel_rfl) Tryz.func148 (by kernel_rfl)
theorem Zc3:Qc cx 108 B.Ux:=Zq (by kernel_rfl) Tryz.func127 (by kernel_rfl)
theorem Ck:Qc cx 109 B.Kl:=Zq (by kernel_rfl) Tryz.func46 (by kernel_rfl)
theorem Zvq:Qc cx 110 B.Gj:=Zq (by kernel_rfl) Tryz.func110 (by kernel_rfl)
theorem Zqk:Qc cx 111 B.Ra:=Zq (by kernel_rfl) Tryz.func111 (by kernel_rfl)
theorem Zof:Qc cx 112 B.L6:=Zq (by kernel_rfl) Tryz.func156 (by kernel_rfl)
theorem Oq:Qc cx 113 B.Yc:=Zq (by kernel_rfl) Tryz.func159 (by kernel_rfl)
theorem Zoi:Qc cx 114 B.Gy:=Zq (by kernel_rfl) Tryz.func160 (by kernel_rfl)
theorem Zhz:Qc cx 115 B.Ml:=Zq (by kernel_rfl) Tryz.func161 (by kernel_rfl)
theorem Zlp:Qc cx 116 B.Xb:=Zq (by kernel_rfl) Tryz.func162 (by kernel_rfl)
theorem Zlm:Qc cx 117 B.G6:=Zq (by kernel_rfl) Tryz.func168 (by kernel_rfl)
theorem Zjv:Qc cx 119 B.W9:=Zq (by kernel_rfl) Tryz.func171 (by kernel_rfl)
theorem Zc9:Qc cx 120 B.Jw:=Zq (by kernel_rfl) Tryz.func178 (by kernel_rfl)
theorem Se:Qc cx 121 B.Yy:=Zq (by kernel_rfl) Tryz.func179 (by kernel_rfl)
theorem Zqm:Qc cx 122 B.Cy:=Zq (by kernel_rfl) Tryz.func172 (by kernel_rfl)
theorem Iv:Qc cx 123 B.stringslite_HasPrefix:=Zq (by kernel_rfl) Tryz.func82 (by kernel_rfl)
theorem F5:Qc cx 127 B.Z0:=Zq (by kernel_rfl) Tryz.func35 (by kernel_rfl)
theorem Zs6:Qc cx 128 B.Aq:=Zq (by kernel_rfl) Tryz.func38 (by kernel_rfl)
theorem Zcz:Qc cx 129 B.Z4:=Zq (by kernel_rfl) Tryz.func20 (by kernel_rfl)
theorem Zem:Qc cx 130 B.Jc:=Zq (by kernel_rfl) Tryz.func36 (by kernel_rfl)
theorem Zoh:Qc cx 133 B.O5:=Zq (by kernel_rfl) Tryz.func72 (by kernel_rfl)
theorem Ak:Qc cx 134 B.J7:=Zq (by kernel_rfl) Tryz.func67 (by kernel_rfl)
theorem Zcs:Qc cx 135 B.Va:=Zq (by kernel_rfl) Tryz.func68 (by kernel_rfl)
theorem Zjw:Qc cx 136 B.Hx:=Zq (by kernel_rfl) Tryz.func108 (by kernel_rfl)
theorem Am:Qc cx 137 B.Ma:=Zq (by kernel_rfl) Tryz.func107 (by kernel_rfl)
theorem Zoj:Qc cx 138 B.O6:=Zq (by kernel_rfl) Tryz.func109 (by kernel_rfl)
theorem Zjx:Qc cx 139 B.Co:=Zq (by kernel_rfl) Tryz.func129 (by kernel_rfl)
theorem Zeu:Qc cx 140 B.stringslite_Cut:=Zq (by kernel_rfl) Tryz.func157 (by kernel_rfl)
theorem Zdc:Qc cx 141 B.strings_IndexAny:=Zq (by kernel_rfl) Tryz.func158 (by kernel_rfl)
theorem Zbt:Qc cx 143 B.Ku:=Zq (by kernel_rfl) Tryz.func174 (by kernel_rfl)
theorem Cm:Qc cx 144 B.strings_shouldUseASCIISet:=Zq (by kernel_rfl) Tryz.func175 (by kernel_rfl)
theorem Ot:Qc cx 145 B.strings_makeASCIISet:=Zq (by kernel_rfl) Tryz.func176 (by kernel_rfl)
theorem Cl:Qc cx 146 B.Jl:=Zq (by kernel_rfl) Tryz.func177 (by kernel_rfl)
theorem F7:Qc cx 147 B.Q2:=Zq (by kernel_rfl) Tryz.func185 (by kernel_rfl)
theorem Zef:Qc cx 148 B.bytealg_Cutover:=Zq (by kernel_rfl) Tryz.func183 (by kernel_rfl)
theorem Sa:Qc cx 151 B.Uh:=Zq (by kernel_rfl) Tryz.func4 (by kernel_rfl)
theorem Zcp:Qc cx 157 B.Ut:=Zq (by kernel_rfl) Tryz.func10 (by kernel_rfl)
theorem Zqn:Qc cx 158 B.Mm:=Zq (by kernel_rfl) Tryz.func11 (by kernel_rfl)
theorem Zeo:Qc cx 159 B.K1:=Zq (by kernel_rfl) Tryz.func12 (by kernel_rfl)
theorem Zbh:Qc cx 160 B.Vv:=Zq (by kernel_rfl) Tryz.func13 (by kernel_rfl)
theorem Zc5:Qc cx 161 B.Uy:=Zq (by kernel_rfl) Tryz.func14 (by kernel_rfl)
theorem Zs8:Qc cx 162 B.R6:=Zq (by kernel_rfl) Tryz.func15 (by kernel_rfl)
theorem Zf1:Qc cx 163 B.X5:=Zq (by kernel_rfl) Tryz.func16 (by kernel_rfl)
theorem Zep:Qc cx 164 B.Ke:=Zq (by kernel_rfl) Tryz.func17 (by kernel_rfl)
theorem Zok:Qc cx 165 B.O8:=Zq (by kernel_rfl) Tryz.func18 (by kernel_rfl)
theorem Zqo:Qc cx 166 B.Zas:=Zq (by kernel_rfl) Tryz.func19 (by kernel_rfl)
theorem Zco:Qc cx 168 B.N4:=Zq (by kernel_rfl) Tryz.func22 (by kernel_rfl)
theorem Dl:Qc cx 169 B.Yg:=Zq (by kernel_rfl) Tryz.func23 (by kernel_rfl)
theorem Zcn:Qc cx 170 B.Nz:=Zq (by kernel_rfl) Tryz.func27 (by kernel_rfl)
theorem Zeh:Qc cx 171 B.Ge:=Zq (by kernel_rfl) Tryz.func28 (by kernel_rfl)
theorem Zeg:Qc cx 172 B.Gc:=Zq (by kernel_rfl) Tryz.func29 (by kernel_rfl)
theorem Zbd:Qc cx 173 B.M5:=Zq (by kernel_rfl) Tryz.func30 (by kernel_rfl)
theorem Zdb:Qc cx 174 B.U2:=Zq (by kernel_rfl) Tryz.func31 (by kernel_rfl)
theorem Zbr:Qc cx 175 B.V4:=Zq (by kernel_rfl) Tryz.func32 (by kernel_rfl)
theorem Zeq:Qc cx 176 B.Wr:=Zq (by kernel_rfl) Tryz.func33 (by kernel_rfl)
theorem Zc8:Qc cx 177 B.Zv:=Zq (by kernel_rfl) Tryz.func34 (by kernel_rfl)
theorem Zlr:Qc cx 178 B.Nr:=Zq (by kernel_rfl) Tryz.func37 (by kernel_rfl)
theorem Zqp:Qc cx 180 B.Zat:=Zq (by kernel_rfl) Tryz.func41 (by kernel_rfl)
theorem Zet:Qc cx 182 B.Jt:=Zq (by kernel_rfl) Tryz.func51 (by kernel_rfl)
theorem Zol:Qc cx 183 B.Eh:=Zq (by kernel_rfl) Tryz.func52 (by kernel_rfl)
theorem Ap:Qc cx 184 B.Vh:=Zq (by kernel_rfl) Tryz.func53 (by kernel_rfl)
theorem Zjy:Qc cx 185 B.Mb:=Zq (by kernel_rfl) Tryz.func54 (by kernel_rfl)
theorem An:Qc cx 186 B.Vf:=Zq (by kernel_rfl) Tryz.func55 (by kernel_rfl)
theorem Zc7:Qc cx 187 B.Qn:=Zq (by kernel_rfl) Tryz.func60 (by kernel_rfl)
theorem Sb:Qc cx 188 B.Kn:=Zq (by kernel_rfl) Tryz.func61 (by kernel_rfl)
theorem Zcw:Qc cx 189 B.Vb:=Zq (by kernel_rfl) Tryz.func62 (by kernel_rfl)
theorem Zc6:Qc cx 190 B.Ve:=Zq (by kernel_rfl) Tryz.func63 (by kernel_rfl)
theorem Zbi:Qc cx 191 B.Vw:=Zq (by kernel_rfl) Tryz.func64 (by kernel_rfl)
theorem Zh0:Qc cx 192 B.Mn:=Zq (by kernel_rfl) Tryz.func70 (by kernel_rfl)
theorem Ao:Qc cx 193 B.Vg:=Zq (by kernel_rfl) Tryz.func85 (by kernel_rfl)
theorem Zbq:Qc cx 194 B.Q1:=Zq (by kernel_rfl) Tryz.func86 (by kernel_rfl)
theorem Zbn:Qc cx 195 B.Kt:=Zq (by kernel_rfl) Tryz.func87 (by kernel_rfl)
theorem Sf:Qc cx 196 B.Kq:=Zq (by kernel_rfl) Tryz.func88 (by kernel_rfl)
theorem Zda:Qc cx 197 B.U1:=Zq (by kernel_rfl) Tryz.func89 (by kernel_rfl)
theorem Si:Qc cx 198 B.Y0:=Zq (by kernel_rfl) Tryz.func90 (by kernel_rfl)
theorem Zbp:Qc cx 199 B.V3:=Zq (by kernel_rfl) Tryz.func91 (by kernel_rfl)
theorem Zbo:Qc cx 200 B.Yq:=Zq (by kernel_rfl) Tryz.func92 (by kernel_rfl)
theorem Sg:Qc cx 201 B.Yz:=Zq (by kernel_rfl) Tryz.func93 (by kernel_rfl)
theorem Zej:Qc cx 202 B.Wq:=Zq (by kernel_rfl) Tryz.func99 (by kernel_rfl)
theorem Zel:Qc cx 203 B.V9:=Zq (by kernel_rfl) Tryz.func100 (by kernel_rfl)
theorem Zek:Qc cx 204 B.V8:=Zq (by kernel_rfl) Tryz.func101 (by kernel_rfl)
theorem Zbe:Qc cx 205 B.J0:=Zq (by kernel_rfl) Tryz.func102 (by kernel_rfl)
theorem Zcx:Qc cx 206 B.Vc:=Zq (by kernel_rfl) Tryz.func103 (by kernel_rfl)
theorem Zbj:Qc cx 207 B.Vx:=Zq (by kernel_rfl) Tryz.func104 (by kernel_rfl)
theorem Sc:Qc cx 208 B.Jy:=Zq (by kernel_rfl) Tryz.func105 (by kernel_rfl)
theorem Zqq:Qc cx 209 B.Yd:=Zq (by kernel_rfl) Tryz.func119 (by kernel_rfl)
theorem Sh:Qc cx 210 B.Qx:=Zq (by kernel_rfl) Tryz.func120 (by kernel_rfl)
theorem Zlh:Qc cx 211 B.G2:=Zq (by kernel_rfl) Tryz.func121 (by kernel_rfl)
theorem Zfz:Qc cx 212 B.X4:=Zq (by kernel_rfl) Tryz.func122 (by kernel_rfl)
theorem Zlq:Qc cx 213 B.Nq:=Zq (by kernel_rfl) Tryz.func123 (by kernel_rfl)
theorem It:Qc cx 214 B.Qk:=Zq (by kernel_rfl) Tryz.func133 (by kernel_rfl)
theorem Zed:Qc cx 215 B.Wp:=Zq (by kernel_rfl) Tryz.func134 (by kernel_rfl)
theorem Iu:Qc cx 216 B.Ql:=Zq (by kernel_rfl) Tryz.func135 (by kernel_rfl)
theorem Zee:Qc cx 217 B.Q5:=Zq (by kernel_rfl) Tryz.func136 (by kernel_rfl)
theorem B4:Qc cx 218 B.J2:=Zq (by kernel_rfl) Tryz.func149 (by kernel_rfl)
theorem Zlj:Qc cx 219 B.Ur:=Zq (by kernel_rfl) Tryz.func150 (by kernel_rfl)
theorem Zhv:Qc cx 220 B.Vj:=Zq (by kernel_rfl) Tryz.func151 (by kernel_rfl)
theorem Zju:Qc cx 221 B.W4:=Zq (by kernel_rfl) Tryz.func152 (by kernel_rfl)
theorem B5:Qc cx 222 B.J3:=Zq (by kernel_rfl) Tryz.func153 (by kernel_rfl)
theorem Zcm:Qc cx 223 B.Kf:=Zq (by kernel_rfl) Tryz.func154 (by kernel_rfl)
theorem Zod:Qc cx 224 B.Nc:=Zq (by kernel_rfl) Tryz.func155 (by kernel_rfl)
theorem Zhw:Qc cx 225 B.Xh:=Zq (by kernel_rfl) Tryz.func169 (by kernel_rfl)
theorem Zli:Qc cx 226 B.G3:=Zq (by kernel_rfl) Tryz.func170 (by kernel_rfl)
def fnT:FT:=(.node (.node (.node (.node (.node (.node (.node (.node .nil 63 B.Ni .nil) 64 B.Qb .nil) 65 B.Bf (.node .nil 66 B.Ua .nil))
 67 B.Y2 (.node (.node (.node .nil 68 B.Jf .nil) 69 B.G5 .nil) 70 B.Vd (.node .nil 71 B.Zaj .nil))) 72 B.Uv (.node
 (.node (.node (.node .nil 74 B.N8 .nil) 75 B.V0 .nil) 76 B.Vz (.node .nil 77 B.Yx .nil)) 78 B.Kh (.node (.node .nil
 79 B.Ju .nil) 80 B.Zu (.node .nil 81 B.Y9 .nil)))) 82 B.Ll (.node (.node (.node (.node (.node .nil 83 B.Kz .nil) 85 B.Qs
 .nil) 86 B.Jr (.node .nil 87 B.La .nil)) 88 B.Kc (.node (.node .nil 89 B.Vu .nil) 90 B.K8 (.node .nil 91 B.Jk
 .nil))) 92 B.Ki (.node (.node (.node (.node .nil 93 B.Ya .nil) 94 B.strings_HasPrefix .nil) 95 B.N9 (.node .nil 96 B.Q7 .nil)) 97 B.strings_Cut
 (.node (.node .nil 98 B.strings_ContainsAny .nil) 99 B.G7 (.node .nil 100 B.L9 .nil))))) 101 B.Uw (.node (.node (.node (.node (.node (.node .nil 102 B.K7
 .nil) 103 B.Uu .nil) 104 B.Kg (.node .nil 105 B.Ky .nil)) 106 B.V1 (.node (.node .nil 107 B.Jq .nil) 108 B.Ux
 (.node .nil 109 B.Kl .nil))) 110 B.Gj (.node (.node (.node (.node .nil 111 B.Ra .nil) 112 B.L6 .nil) 113 B.Yc (.node .nil
 114 B.Gy .nil)) 115 B.Ml (.node (.node .nil 116 B.Xb .nil) 117 B.G6 (.node .nil 119 B.W9 .nil)))) 120 B.Jw (.node (.node
 (.node (.node (.node .nil 121 B.Yy .nil) 122 B.Cy .nil) 123 B.stringslite_HasPrefix (.node .nil 127 B.Z0 .nil)) 128 B.Aq (.node (.node
 .nil 129 B.Z4 .nil) 130 B.Jc (.node .nil 133 B.O5 .nil))) 134 B.J7 (.node (.node (.node (.node .nil 135 B.Va .nil) 136
 B.Hx .nil) 137 B.Ma (.node .nil 138 B.O6 .nil)) 139 B.Co (.node (.node .nil 140 B.stringslite_Cut .nil) 141 B.strings_IndexAny (.node .nil
 143 B.Ku .nil)))))) 144 B.strings_shouldUseASCIISet (.node (.node (.node (.node (.node (.node (.node .nil 145 B.strings_makeASCIISet .nil) 146 B.Jl
 .nil) 147 B.Q2 (.node .nil 148 B.bytealg_Cutover .nil)) 151 B.Uh (.node (.node (.node .nil 157 B.Ut .nil) 158 B.Mm .nil) 159
 B.K1 (.node .nil 160 B.Vv .nil))) 161 B.Uy (.node (.node (.node (.node .nil 162 B.R6 .nil) 163 B.X5 .nil) 164 B.Ke
 (.node .nil 165 B.O8 .nil)) 166 B.Zas (.node (.node .nil 168 B.N4 .nil) 169 B.Yg (.node .nil 170 B.Nz .nil)))) 171
 B.Ge (.node (.node (.node (.node (.node .nil 172 B.Gc .nil) 173 B.M5 .nil) 174 B.U2 (.node .nil 175 B.V4 .nil))
 176 B.Wr (.node (.node .nil 177 B.Zv .nil) 178 B.Nr (.node .nil 180 B.Zat .nil))) 182 B.Jt (.node (.node (.node (.node .nil 183
 B.Eh .nil) 184 B.Vh .nil) 185 B.Mb (.node .nil 186 B.Vf .nil)) 187 B.Qn (.node (.node .nil 188 B.Kn
 .nil) 189 B.Vb (.node .nil 190 B.Ve .nil))))) 191 B.Vw (.node (.node (.node (.node (.node (.node .nil 192 B.Mn .nil) 193 B.Vg
 .nil) 194 B.Q1 (.node .nil 195 B.Kt .nil)) 196 B.Kq (.node (.node .nil 197 B.U1 .nil) 198 B.Y0 (.node .nil
 199 B.V3 .nil))) 200 B.Yq (.node (.node (.node (.node .nil 201 B.Yz .nil) 202 B.Wq .nil) 203 B.V9 (.node .nil
 204 B.V8 .nil)) 205 B.J0 (.node (.node .nil 206 B.Vc .nil) 207 B.Vx (.node .nil 208 B.Jy .nil)))) 209 B.Yd
 (.node (.node (.node (.node (.node .nil 210 B.Qx .nil) 211 B.G2 .nil) 212 B.X4 (.node .nil 213 B.Nq .nil)) 214 B.Qk
 (.node (.node .nil 215 B.Wp .nil) 216 B.Ql (.node .nil 217 B.Q5 .nil))) 218 B.J2 (.node (.node (.node (.node .nil 219
 B.Ur .nil) 220 B.Vj .nil) 221 B.W4 (.node .nil 222 B.J3 .nil)) 223 B.Kf (.node (.node .nil 224 B.Nc .nil) 225
 B.Xh (.node .nil 226 B.G3 .nil)))))))
theorem Zzk:fnT.All (Qc cx):=⟨⟨⟨⟨⟨⟨⟨⟨trivial,Zoe,trivial⟩,Zbf,trivial⟩,Zs7,⟨trivial,Zen,trivial⟩⟩,Zlk,⟨⟨⟨trivial,
 Ai,trivial⟩,Zll,trivial⟩,Aj,⟨trivial,Zqi,trivial⟩⟩⟩,Zcy,⟨⟨⟨⟨trivial,Zqh,trivial⟩,Zbl,
 trivial⟩,Zbk,⟨trivial,Sd,trivial⟩⟩,Zc0,⟨⟨trivial,Zc4,trivial⟩,Zei,⟨trivial,Zcr,
 trivial⟩⟩⟩⟩,Zlo,⟨⟨⟨⟨⟨trivial,Zf0,trivial⟩,Zcv,trivial⟩,Zes,⟨trivial,Zf2,trivial⟩⟩,Zhy,⟨⟨trivial,
 Zbg,trivial⟩,Zc2,⟨trivial,Cj,trivial⟩⟩⟩,F6,⟨⟨⟨⟨trivial,Zql,trivial⟩,Zbs,
 trivial⟩,Zqj,⟨trivial,Al,trivial⟩⟩,Zls,⟨⟨trivial,Sj,trivial⟩,Zln,⟨trivial,Zog,trivial⟩⟩⟩⟩⟩,Zc1,
 ⟨⟨⟨⟨⟨⟨trivial,Zct,trivial⟩,Zcu,trivial⟩,Zcq,⟨trivial,Zhx,trivial⟩⟩,Zbm,⟨⟨trivial,Zer,
 trivial⟩,Zc3,⟨trivial,Ck,trivial⟩⟩⟩,Zvq,⟨⟨⟨⟨trivial,Zqk,trivial⟩,Zof,trivial⟩,Oq,⟨trivial,
 Zoi,trivial⟩⟩,Zhz,⟨⟨trivial,Zlp,trivial⟩,Zlm,⟨trivial,Zjv,trivial⟩⟩⟩⟩,Zc9,⟨⟨⟨⟨⟨trivial,Se,
 trivial⟩,Zqm,trivial⟩,Iv,⟨trivial,F5,trivial⟩⟩,Zs6,⟨⟨trivial,Zcz,trivial⟩,Zem,⟨trivial,
 Zoh,trivial⟩⟩⟩,Ak,⟨⟨⟨⟨trivial,Zcs,trivial⟩,Zjw,trivial⟩,Am,⟨trivial,Zoj,trivial⟩⟩,Zjx,
 ⟨⟨trivial,Zeu,trivial⟩,Zdc,⟨trivial,Zbt,trivial⟩⟩⟩⟩⟩⟩,Cm,⟨⟨⟨⟨⟨⟨⟨trivial,Ot,trivial⟩,
 Cl,trivial⟩,F7,⟨trivial,Zef,trivial⟩⟩,Sa,⟨⟨⟨trivial,Zcp,trivial⟩,Zqn,
 trivial⟩,Zeo,⟨trivial,Zbh,trivial⟩⟩⟩,Zc5,⟨⟨⟨⟨trivial,Zs8,trivial⟩,Zf1,trivial⟩,Zep,⟨trivial,
 Zok,trivial⟩⟩,Zqo,⟨⟨trivial,Zco,trivial⟩,Dl,⟨trivial,Zcn,trivial⟩⟩⟩⟩,Zeh,⟨⟨⟨⟨⟨trivial,
 Zeg,trivial⟩,Zbd,trivial⟩,Zdb,⟨trivial,Zbr,trivial⟩⟩,Zeq,⟨⟨trivial,Zc8,trivial⟩,
 Zlr,⟨trivial,Zqp,trivial⟩⟩⟩,Zet,⟨⟨⟨⟨trivial,Zol,trivial⟩,Ap,trivial⟩,Zjy,⟨trivial,An,
 trivial⟩⟩,Zc7,⟨⟨trivial,Sb,trivial⟩,Zcw,⟨trivial,Zc6,trivial⟩⟩⟩⟩⟩,Zbi,⟨⟨⟨⟨⟨⟨trivial,Zh0,
 trivial⟩,Ao,trivial⟩,Zbq,⟨trivial,Zbn,trivial⟩⟩,Sf,⟨⟨trivial,Zda,trivial⟩,Si,
 ⟨trivial,Zbp,trivial⟩⟩⟩,Zbo,⟨⟨⟨⟨trivial,Sg,trivial⟩,Zej,trivial⟩,Zel,⟨trivial,Zek,
 trivial⟩⟩,Zbe,⟨⟨trivial,Zcx,trivial⟩,Zbj,⟨trivial,Sc,trivial⟩⟩⟩⟩,Zqq,⟨⟨⟨⟨⟨trivial,Sh,
 trivial⟩,Zlh,trivial⟩,Zfz,⟨trivial,Zlq,trivial⟩⟩,It,⟨⟨trivial,Zed,trivial⟩,Iu,⟨trivial,
 Zee,trivial⟩⟩⟩,B4,⟨⟨⟨⟨trivial,Zlj,trivial⟩,Zhv,trivial⟩,Zju,⟨trivial,B5,trivial⟩⟩,
 Zcm,⟨⟨trivial,Zod,trivial⟩,Zhw,⟨trivial,Zli,trivial⟩⟩⟩⟩⟩⟩⟩
def enT:Nat→Option Entry:=fun k=>if k=179 then some B.X1 else if k=132 then some B.X0 else if k=84 then some B.Ud else if k=118 then some B.M8 else if k=142 then some B.Ue else none
def tab:Tab:=⟨fnT.get,enT⟩
theorem Zfx:B.Sv tab:=⟨rfl⟩
theorem Zfw:B.Su tab:=⟨rfl⟩
theorem Wg:B.Yt tab:=⟨rfl⟩
theorem Zfq:B.Sn tab:=⟨rfl⟩
theorem P7:B.Rr tab:=⟨rfl⟩
theorem D5:B.Wz tab:=⟨rfl,rfl⟩
theorem Ps:B.D3 tab:=⟨rfl,rfl⟩
theorem Za2:B.B9 tab:=⟨rfl,rfl⟩
theorem Za3:B.Fa tab:=⟨rfl,rfl⟩
theorem Oh:B.Wy tab:=⟨rfl,rfl⟩
theorem Tu:B.Gn tab:=⟨rfl,rfl⟩
theorem T4:B.Ln tab:=⟨rfl,rfl⟩
theorem Rt:B.Vt tab:=⟨rfl,rfl⟩
theorem Zjm:B.I9 tab:=⟨rfl,rfl,Wg⟩
theorem Om:B.Nb tab:=⟨rfl,rfl⟩
theorem Dx:B.Ry tab:=⟨rfl,rfl,Wg⟩
theorem U8:B.Vi tab:=⟨rfl,rfl⟩
theorem Vl:B.K2 tab:=⟨rfl,rfl⟩
theorem Fk:B.Ga tab:=⟨rfl,rfl⟩
theorem We:B.Ys tab:=⟨rfl,rfl⟩
theorem P1:B.Rm tab:=⟨rfl,rfl⟩
theorem Pm:B.Rz tab:=⟨rfl,rfl,Dx⟩
theorem Ad:B.Ct tab:=⟨rfl,rfl⟩
theorem Lk:B.Uk tab:=⟨rfl,rfl,Zfq⟩
theorem T8:B.Gt tab:=⟨rfl,rfl⟩
theorem Hq:B.Mf tab:=⟨rfl,rfl⟩
theorem Dg:B.Lq tab:=⟨rfl,rfl,Hq⟩
theorem Za4:B.My tab:=⟨rfl,rfl,Vl⟩
theorem Za6:B.Hi tab:=⟨rfl,rfl⟩
theorem Za5:B.Hh tab:=⟨rfl,rfl⟩
theorem Pt:B.Rg tab:=⟨rfl,rfl⟩
theorem Ty:B.Gr tab:=⟨rfl,rfl⟩
theorem G4:B.Wc tab:=⟨rfl,rfl⟩
theorem X8:B.Y5 tab:=⟨rfl,rfl⟩
theorem Zhr:B.Fy tab:=⟨rfl,rfl⟩
theorem T6:B.Lp tab:=⟨rfl,rfl⟩
theorem Tv:B.Gp tab:=⟨rfl,rfl⟩
theorem Tw:B.Gq tab:=⟨rfl,rfl⟩
theorem Ts:B.Gl tab:=⟨rfl,rfl⟩
theorem T7:B.Lr tab:=⟨rfl,rfl,Hq⟩
theorem Rs:B.W1 tab:=⟨rfl,rfl⟩
theorem Hr:B.W0 tab:=⟨rfl,rfl⟩
theorem Zfu:B.Ss tab:=⟨rfl,rfl⟩
theorem D6:B.M0 tab:=⟨rfl,rfl⟩
theorem Ch:B.Y4 tab:=⟨rfl,rfl⟩
theorem Fj:B.R8 tab:=⟨rfl,rfl⟩
theorem Zfr:B.Cz tab:=⟨rfl,rfl,Wg⟩
theorem Ci:B.Jj tab:=⟨rfl,rfl⟩
theorem Tl:B.D9 tab:=⟨rfl,rfl⟩
theorem B3:B.G1 tab:=⟨rfl,rfl⟩
theorem Zbb:B.Fe tab:=⟨rfl,rfl,P7⟩
theorem Zjj:B.I8 tab:=⟨rfl,rfl⟩
theorem Zd7:B.Dv tab:=⟨rfl,rfl⟩
theorem Zhq:B.Em tab:=⟨rfl,rfl⟩
theorem Zho:B.Fw tab:=⟨rfl,rfl⟩
theorem Dk:B.M3 tab:=⟨rfl,rfl⟩
theorem F3:B.Lx tab:=⟨rfl,rfl⟩
theorem Dj:B.Yf tab:=⟨rfl,rfl⟩
theorem Di:B.U4 tab:=⟨rfl,rfl⟩
theorem Im:B.Wd tab:=⟨rfl,rfl,Di⟩
theorem Zhm:B.Fu tab:=⟨rfl,rfl⟩
theorem Zld:B.Sq tab:=⟨rfl,rfl⟩
theorem Bc:B.Xf tab:=⟨rfl,rfl⟩
theorem Za1:B.B8 tab:=⟨rfl,rfl⟩
theorem Za7:B.Hj tab:=⟨rfl,rfl,Oh,Tu,T4⟩
theorem Ag:B.Lw tab:=⟨rfl,rfl,Rt,Zjm,Om⟩
theorem L5:B.Vk tab:=⟨rfl,rfl,Vl⟩
theorem Zba:B.Mz tab:=⟨rfl,rfl,Vl⟩
theorem Vm:B.Ye tab:=⟨rfl,rfl,Lk⟩
theorem H7:B.Lj tab:=⟨rfl,rfl,Lk⟩
theorem Ba:B.X2 tab:=⟨rfl,rfl,L5⟩
theorem Ik:B.Wb tab:=⟨rfl,rfl,Vl,Za4,Za6,Za5,Pt⟩
theorem Tx:B.Lm tab:=⟨rfl,rfl,Vl,Ty⟩
theorem Aa:B.Lt tab:=⟨rfl,rfl,L5⟩
theorem P2:B.Rn tab:=⟨rfl,rfl,We,Zhr⟩
theorem Oi:B.E4 tab:=⟨rfl,rfl,Ad⟩
theorem T5:B.Gs tab:=⟨rfl,rfl,T6⟩
theorem D4:B.Kr tab:=⟨rfl,rfl,Tv⟩
theorem Tt:B.Gm tab:=⟨rfl,rfl,D4,Tw,Ts,Fk⟩
theorem Pu:B.Rh tab:=⟨rfl,rfl,T7,Dg⟩
theorem Px:B.Rj tab:=⟨rfl,rfl,G4⟩
theorem Zjk:B.Zdo tab:=⟨rfl,rfl,Zfu⟩
theorem Zaz:B.Hf tab:=⟨rfl,rfl,Zfr⟩
theorem P5:B.Rq tab:=⟨rfl,rfl,B3⟩
theorem Zht:B.F0 tab:=⟨rfl,rfl,Zbb⟩
theorem P0:B.Xs tab:=⟨rfl,rfl,Rs,Zho,D6⟩
theorem Tn:B.Gk tab:=⟨rfl,rfl,Tl⟩
theorem F2:B.Lv tab:=⟨rfl,rfl,Di,Im⟩
theorem Zd5:B.R9 tab:=⟨rfl,rfl,Zhm⟩
theorem Zfs:B.C5 tab:=⟨rfl,rfl,Zld⟩
theorem P6:B.Uf tab:=⟨rfl,rfl,Wg,Bc,Za1⟩
theorem T9:B.Ls tab:=⟨rfl,rfl,Za7⟩
theorem Zlf:B.Zgj tab:=⟨rfl,rfl,Vm,H7,U8⟩
theorem Zla:B.Zgh tab:=⟨rfl,rfl,Vm,U8⟩
theorem Ea:B.Yr tab:=⟨rfl,rfl,T5,T8,D4,Tt⟩
theorem Og:B.Wx tab:=⟨rfl,rfl,Hq,Pu,Dg⟩
theorem Za8:B.Hk tab:=⟨rfl,rfl,Ba,Ea⟩
theorem Zft:B.Sr tab:=⟨rfl,rfl,Vm,Zjk,U8⟩
theorem Zck:B.Nw tab:=⟨rfl,rfl,Rs,P0,D6⟩
theorem Za0:B.Hg tab:=⟨rfl,rfl,Tn,Tl⟩
theorem Ae:B.Cb tab:=⟨rfl,rfl,F2,Zjj,Zd7,Zhq,Ad⟩
theorem Pk:B.El tab:=⟨rfl,rfl,Zd5⟩
theorem Zjh:B.I7 tab:=⟨rfl,rfl,Zfs⟩
theorem Ah:B.Gv tab:=⟨rfl,rfl,P6,Dk,F3,Dj⟩
theorem Df:B.Lo tab:=⟨rfl,rfl,Fk,Ea,Ba⟩
theorem Zji:B.Zdn tab:=⟨rfl,rfl,Zft,Oi⟩
theorem Dh:B.Lu tab:=⟨rfl,rfl,Df⟩
theorem Pw:B.Ri tab:=⟨rfl,rfl,Px,G4,Dh⟩
theorem Zhn:B.Fv tab:=⟨rfl,rfl,Rs,Zck⟩
theorem Bz:B.Vq tab:=⟨rfl,rfl,Ch,Pk,Fj⟩
theorem B2:B.Vs tab:=⟨rfl,rfl,Ci,Pk,Fj⟩
theorem Zb2:B.Fb tab:=⟨rfl,rfl,Zjh⟩
theorem Ir:B.Mt tab:=⟨rfl,rfl,Ah⟩
theorem Zhp:B.Fx tab:=⟨rfl,rfl,Ae⟩
theorem Bb:B.Kw tab:=⟨rfl,rfl,L5,Df⟩
theorem Ab:B.Je tab:=⟨rfl,rfl,Og,Dh,Ik,Tx,Aa,Pw,Za8⟩
theorem Zhl:B.Ft tab:=⟨rfl,rfl,Bz,Zaz⟩
theorem Zci:B.Eb tab:=⟨rfl,rfl,B2,Za0⟩
theorem Pz:B.Rl tab:=⟨rfl,rfl,P5,Zb2,Hr⟩
theorem Py:B.Rk tab:=⟨rfl,rfl,Zht,Zb2,Hr⟩
theorem Il:B.Mp tab:=⟨rfl,rfl,Ir,Zhp,Ae⟩
theorem Pv:B.Xr tab:=⟨rfl,rfl,Bb⟩
theorem Za9:B.Hl tab:=⟨rfl,rfl,Zba,Ab⟩
theorem Ac:B.Ca tab:=⟨rfl,rfl,Pz,Py,Il⟩
theorem Zlb:B.So tab:=⟨rfl,rfl,Pm,Ac⟩
theorem Zcj:B.Nv tab:=⟨rfl,rfl,Za9⟩
theorem Zn9:B.Zcc tab:=⟨rfl,rfl,Pm,Ac⟩
theorem Zlc:B.Sp tab:=⟨rfl,rfl,Ad,Zlb⟩
theorem F1:B.E3 tab:=⟨rfl,rfl,Zlc⟩
theorem Mj:B.Li tab:=⟨rfl,rfl,F1⟩
theorem Zd6:B.Zcb tab:=⟨rfl,rfl,F1,Zfw,Zji,Zla⟩
theorem Ol:B.Na tab:=⟨rfl,rfl,Zhn,Mj⟩
theorem Io:B.Mq tab:=⟨rfl,rfl,Mj⟩
theorem Af:B.Gu tab:=⟨rfl,rfl,X8,Mj,Zhl,Zci⟩
theorem Iq:B.Ms tab:=⟨rfl,rfl,X8,Mj⟩
theorem P3:B.Ro tab:=⟨rfl,rfl,X8,Rt,Dx,Mj⟩
theorem Ip:B.Mr tab:=⟨rfl,rfl,We,Mj⟩
theorem Zjl:B.Zdp tab:=⟨rfl,rfl,Zd6,Zfx⟩
theorem Zle:B.Zgi tab:=⟨rfl,rfl,F1,Zlf,Zd6⟩
theorem Zfv:B.Hm tab:=⟨rfl,rfl,Ol,We,P1,Io,Af,Iq,P3⟩
theorem Ok:B.M9 tab:=⟨rfl,rfl,P2,Ip,We⟩
theorem P4:B.Rp tab:=⟨rfl,rfl,Zfv,Ok,Rt,Dx,Zn9⟩
theorem Zb3:B.Fc tab:=⟨rfl,rfl,Ag,P4⟩
theorem Zd8:B.Gb tab:=⟨rfl,rfl,Zb3⟩
theorem Zhs:B.Fz tab:=⟨rfl,rfl,Zd8⟩
theorem Oj:B.C6 tab:=⟨rfl,rfl,Zhs⟩
theorem Tp:B.C3 tab:=⟨rfl,rfl,Oj,D5⟩
theorem To:B.C0 tab:=⟨rfl,rfl,Oj⟩
theorem Tq:B.C4 tab:=⟨rfl,rfl,Ps,Tp,Za2,Za3,Zb3,Zjl,Zle,To⟩
theorem Ij:B.Mo tab:=⟨rfl,rfl,Tq,Pv,T9,Oj,Zcj,D5⟩
theorem Zwp (ok179:Ww H4 cx 179 B.X1) (ok132:Ww H4 cx 132 B.X0) (ok84:Ww H4 cx 84 B.Ud) (ok118:Ww H4 cx 118 B.M8) (ok142:Ww H4 cx 142 B.Ue):Zdr H4 cx tab:=Zym Zzk (fun f F h=>by
 simp only[enT]at h
 by_cases e179:f=179
 ·subst e179;simp only[if_true,Option.some.injEq]at h;subst h;exact ok179
 rw[if_neg e179]at h
 by_cases e132:f=132
 ·subst e132;simp only[if_true,Option.some.injEq]at h;subst h;exact ok132
 rw[if_neg e132]at h
 by_cases e84:f=84
 ·subst e84;simp only[if_true,Option.some.injEq]at h;subst h;exact ok84
 rw[if_neg e84]at h
 by_cases e118:f=118
 ·subst e118;simp only[if_true,Option.some.injEq]at h;subst h;exact ok118
 rw[if_neg e118]at h
 by_cases e142:f=142
 ·subst e142;simp only[if_true,Option.some.injEq]at h;subst h;exact ok142
 rw[if_neg e142]at h
 cases h)
end Go.Ev.ScanAlls

/- DERIVED: THE SHELF's CONTRACTS AT THIS DUMP, IN PLAIN WORDS (tools/lay-plain.mjs out of 'EvScanShelf.lean', which tools/lay-shelf.mjs wrote): THE SAME DECLARATIONS UNDER THE SAME NAMES: 'import', 'namespace', 'open', 'def', 'theorem' AND NOTHING ELSE: no command of the shelf's: FOR A HAND-IN. Each laying: the table of numbers ('.._ren') and one theorem, a field a fact of the dump's own or the kernel's comparison; each contract: ONE APPLICATION. -/
namespace Go.Proofs
open Go.Shelf
def Tryz.Zgz:Go.Shelf.Ren:=⟨fun | 156=>39 | 165=>49 | 166=>23 | 169=>24 | 240=>46 | 241=>83 | 276=>79 | 277=>116 | n=>n,fun | 31=>58 | 9=>9 | 3=>3 | 4=>4 | 0=>0 | 20=>20 | 72=>51 | 76=>54 | 70=>49 | 37=>22 | 75=>53 | 127=>89 | 164=>115 | 5=>5 | 80=>56 | n=>n,fun | n=>n⟩
theorem Tryz.Zuh:Go.Proofs.Lays.n156 Tryz.prog Tryz.Zgz:={
 mixed:=by kernel_rfl
 f156:=Tryz.func39.trans (congrArg some (by kernel_rfl))
 f165:=Tryz.func49.trans (congrArg some (by kernel_rfl))
 f166:=Tryz.func23.trans (congrArg some (by kernel_rfl))
 f169:=Tryz.func24.trans (congrArg some (by kernel_rfl))
 f240:=Tryz.func46.trans (congrArg some (by kernel_rfl))
 f241:=Tryz.func83.trans (congrArg some (by kernel_rfl))
 f276:=Tryz.func79.trans (congrArg some (by kernel_rfl))
 f277:=Tryz.func116.trans (congrArg some (by kernel_rfl))
 t0:=Tryz.underlying0
 a0:=Tryz.isAgg0
 z0:=Tryz.sizeOf0
 v0:=Tryz.zeroValue0
 t3:=Tryz.underlying3
 a3:=Tryz.isAgg3
 z3:=Tryz.sizeOf3
 v3:=Tryz.zeroValue3
 t4:=Tryz.underlying4
 a4:=Tryz.isAgg4
 z4:=Tryz.sizeOf4
 v4:=Tryz.zeroValue4
 t9:=Tryz.underlying9
 a9:=Tryz.isAgg9
 z9:=Tryz.sizeOf9
 v9:=Tryz.zeroValue9
 t20:=Tryz.underlying20
 a20:=Tryz.isAgg20
 z20:=Tryz.sizeOf20
 v20:=Tryz.zeroValue20
 t31:=Tryz.underlying58
 a31:=Tryz.isAgg58
 z31:=Tryz.sizeOf58
 v31:=Tryz.zeroValue58
 t37:=Tryz.underlying22
 a37:=Tryz.isAgg22
 z37:=Tryz.sizeOf22
 v37:=Tryz.zeroValue22
 t70:=Tryz.underlying49
 a70:=Tryz.isAgg49
 z70:=Tryz.sizeOf49
 v70:=Tryz.zeroValue49
 t72:=Tryz.underlying51
 a72:=Tryz.isAgg51
 z72:=Tryz.sizeOf51
 v72:=Tryz.zeroValue51
 t75:=Tryz.underlying53
 a75:=Tryz.isAgg53
 z75:=Tryz.sizeOf53
 v75:=Tryz.zeroValue53
 t76:=Tryz.underlying54
 a76:=Tryz.isAgg54
 z76:=Tryz.sizeOf54
 v76:=Tryz.zeroValue54
 t127:=Tryz.underlying89
 a127:=Tryz.isAgg89
 z127:=Tryz.sizeOf89
 v127:=Tryz.zeroValue89
 t164:=Tryz.underlying115
 a164:=Tryz.isAgg115
 z164:=Tryz.sizeOf115
 v164:=Tryz.zeroValue115}
theorem Tryz.B7:Builder.Extra Tryz.prog Tryz.Zgz:={
 sizeBuilder:=by kernel_rfl
 liesBuilder:=by kernel_rfl
 t5:=Tryz.underlying5
 a5:=Tryz.isAgg5
 z5:=Tryz.sizeOf5
 v5:=Tryz.zeroValue5
 infoByte:=by kernel_rfl
 cellsByte:=by kernel_rfl
 sizeByte:=by kernel_rfl
 neB5:=by decide}
open Go.RowKit in
theorem Tryz.strings_Join_none (a:Option Addr) (c:Nat) (sep:ByteArray) (w:World):
  Calls Tryz.prog 39 #[.slice a 0 c,.string sep] w fun e w'=>e= .returned (.string ⟨#[]⟩)∧w'=w:=Any.strings_Join_none Tryz.Zuh Tryz.B7 a c sep w
open Go.RowKit in
theorem Tryz.strings_Join (bk o c:Nat) (xs:List ByteArray) (sep:ByteArray) (w:World) (hcells:∀(j:Nat) x,xs[j]? =some x→w.cell? ⟨bk,o+j,none⟩=some (.string x)) (hbk:bk<w.heap.size) (hN:xs.length≤140737488355328) (hcap:xs.length≤c) (hlen:(Lib.join (xs.map (·.data.toList)) sep.data.toList).length≤140737488355328):
  Calls Tryz.prog 39 #[.slice (some ⟨bk,o,none⟩) xs.length c,.string sep] w fun e w'=>e= .returned (.string ⟨(Lib.join (xs.map (·.data.toList)) sep.data.toList).toArray⟩)∧Below w.heap.size w w':=Any.strings_Join Tryz.Zuh Tryz.B7 bk o c xs sep w hcells hbk hN hcap hlen
def Tryz.Zqr:Go.Shelf.Ren:=⟨fun | 137=>84 | 217=>117 | 266=>130 | n=>n,fun | 9=>9 | 5=>5 | 3=>3 | n=>n,fun | n=>n⟩
theorem Tryz.Zzt:Go.Proofs.Lays.n137 Tryz.prog Tryz.Zqr:={
 mixed:=by kernel_rfl
 f137:=Tryz.func84.trans (congrArg some (by kernel_rfl))
 f217:=Tryz.func117.trans (congrArg some (by kernel_rfl))
 f266:=Tryz.func130.trans (congrArg some (by kernel_rfl))
 t3:=Tryz.underlying3
 a3:=Tryz.isAgg3
 z3:=Tryz.sizeOf3
 v3:=Tryz.zeroValue3
 t5:=Tryz.underlying5
 a5:=Tryz.isAgg5
 z5:=Tryz.sizeOf5
 v5:=Tryz.zeroValue5
 t9:=Tryz.underlying9
 a9:=Tryz.isAgg9
 z9:=Tryz.sizeOf9
 v9:=Tryz.zeroValue9}
open Go.RowKit in
theorem Tryz.strings_IndexByte (s:ByteArray) (c:Int) (w:World):
  Calls Tryz.prog 84 #[.string s,.int .u8 c] w fun e w'=>e= .returned (.int .i64 (Lib.indexByte s.data.toList c.toNat.toUInt8))∧w'=w:=Any.strings_IndexByte Tryz.Zzt s c w
def Tryz.Zom:Go.Shelf.Ren:=⟨fun | 171=>71 | 243=>106 | 246=>128 | 283=>143 | 284=>144 | 285=>145 | 286=>146 | 129=>164 | 317=>163 | 318=>165 | 319=>166 | 320=>167 | 337=>180 | 338=>181 | n=>n,fun | 3=>3 | 9=>9 | 2=>2 | 4=>4 | 171=>169 | 0=>0 | 53=>120 | 37=>22 | 5=>5 | 173=>172 | 212=>201 | 51=>117 | 20=>20 | 213=>202 | 46=>90 | 232=>216 | 233=>217 | n=>n,fun | 17=>1 | 18=>2 | 19=>3 | n=>n⟩
theorem Tryz.Zxq:Go.Proofs.LaysM.n171 Tryz.prog Tryz.Zom:={
 mixed:=by kernel_rfl
 f129:=Tryz.func164.trans (congrArg some (by kernel_rfl))
 f171:=Tryz.func71.trans (congrArg some (by kernel_rfl))
 f243:=Tryz.func106.trans (congrArg some (by kernel_rfl))
 f246:=Tryz.func128.trans (congrArg some (by kernel_rfl))
 f283:=Tryz.func143.trans (congrArg some (by kernel_rfl))
 f284:=Tryz.func144.trans (congrArg some (by kernel_rfl))
 f285:=Tryz.func145.trans (congrArg some (by kernel_rfl))
 f286:=Tryz.func146.trans (congrArg some (by kernel_rfl))
 f317:=Tryz.func163.trans (congrArg some (by kernel_rfl))
 f318:=Tryz.func165.trans (congrArg some (by kernel_rfl))
 f319:=Tryz.func166.trans (congrArg some (by kernel_rfl))
 f320:=Tryz.func167.trans (congrArg some (by kernel_rfl))
 f337:=Tryz.func180.trans (congrArg some (by kernel_rfl))
 f338:=Tryz.func181.trans (congrArg some (by kernel_rfl))
 t0:=Tryz.underlying0
 a0:=Tryz.isAgg0
 z0:=Tryz.sizeOf0
 v0:=Tryz.zeroValue0
 t2:=Tryz.underlying2
 a2:=Tryz.isAgg2
 z2:=Tryz.sizeOf2
 v2:=Tryz.zeroValue2
 t3:=Tryz.underlying3
 a3:=Tryz.isAgg3
 z3:=Tryz.sizeOf3
 v3:=Tryz.zeroValue3
 t4:=Tryz.underlying4
 a4:=Tryz.isAgg4
 z4:=Tryz.sizeOf4
 v4:=Tryz.zeroValue4
 t5:=Tryz.underlying5
 a5:=Tryz.isAgg5
 z5:=Tryz.sizeOf5
 v5:=Tryz.zeroValue5
 t9:=Tryz.underlying9
 a9:=Tryz.isAgg9
 z9:=Tryz.sizeOf9
 v9:=Tryz.zeroValue9
 t20:=Tryz.underlying20
 a20:=Tryz.isAgg20
 z20:=Tryz.sizeOf20
 v20:=Tryz.zeroValue20
 t37:=Tryz.underlying22
 a37:=Tryz.isAgg22
 z37:=Tryz.sizeOf22
 v37:=Tryz.zeroValue22
 t46:=Tryz.underlying90
 a46:=Tryz.isAgg90
 z46:=Tryz.sizeOf90
 v46:=Tryz.zeroValue90
 t51:=Tryz.underlying117
 a51:=Tryz.isAgg117
 z51:=Tryz.sizeOf117
 v51:=Tryz.zeroValue117
 t53:=Tryz.underlying120
 a53:=Tryz.isAgg120
 z53:=Tryz.sizeOf120
 v53:=Tryz.zeroValue120
 t171:=Tryz.underlying169
 a171:=Tryz.isAgg169
 z171:=Tryz.sizeOf169
 v171:=Tryz.zeroValue169
 t173:=Tryz.underlying172
 a173:=Tryz.isAgg172
 z173:=Tryz.sizeOf172
 v173:=Tryz.zeroValue172
 t212:=Tryz.underlying201
 a212:=Tryz.isAgg201
 z212:=Tryz.sizeOf201
 v212:=Tryz.zeroValue201
 t213:=Tryz.underlying202
 a213:=Tryz.isAgg202
 z213:=Tryz.sizeOf202
 t232:=Tryz.underlying216
 a232:=Tryz.isAgg216
 z232:=Tryz.sizeOf216
 v232:=Tryz.zeroValue216
 t233:=Tryz.underlying217
 a233:=Tryz.isAgg217
 z233:=Tryz.sizeOf217
 v233:=Tryz.zeroValue217
 g17:=by kernel_rfl
 g18:=by kernel_rfl
 g19:=by kernel_rfl
 i0:=by kernel_rfl
 i2:=by kernel_rfl
 i3:=by kernel_rfl
 i4:=by kernel_rfl
 i5:=by kernel_rfl
 i9:=by kernel_rfl
 i20:=by kernel_rfl
 i37:=by kernel_rfl
 i46:=by kernel_rfl
 i51:=by kernel_rfl
 i53:=by kernel_rfl
 i171:=by kernel_rfl
 i173:=by kernel_rfl
 i212:=by kernel_rfl
 i232:=by kernel_rfl
 i233:=by kernel_rfl
 m17:=by kernel_rfl
 m18:=by kernel_rfl
 m19:=by kernel_rfl}
open Go.RowKit Go.Sort Go.Lib in
theorem Tryz.strconv_Itoa (n:Int) (h0: -9223372036854775808≤n) (h1:n≤9223372036854775807) (w:World) (htab:Lib.TabIs Tryz.prog w "internal/strconv.uint64pow10" .u64 Lib.pow10Tab):
  Calls Tryz.prog 71 #[.int .i64 n] w fun e w'=>e= .returned (.string ⟨(Lib.itoa n).toArray⟩)∧∃k os,w'=grow (w.drewN k) os:=Any.strconv_Itoa Tryz.Zxq n h0 h1 w htab
def Tryz.Zqs:Go.Shelf.Ren:=⟨fun | 219=>173 | 217=>117 | 225=>182 | 224=>183 | 267=>184 | 266=>130 | 314=>186 | n=>n,fun | 9=>9 | 3=>3 | 4=>4 | 5=>5 | 46=>90 | 146=>118 | 51=>117 | n=>n,fun | 1=>0 | n=>n⟩
theorem Tryz.Zzu:Go.Proofs.Lays.n219 Tryz.prog Tryz.Zqs:={
 mixed:=by kernel_rfl
 f217:=Tryz.func117.trans (congrArg some (by kernel_rfl))
 f219:=Tryz.func173.trans (congrArg some (by kernel_rfl))
 f224:=Tryz.func183.trans (congrArg some (by kernel_rfl))
 f225:=Tryz.func182.trans (congrArg some (by kernel_rfl))
 f266:=Tryz.func130.trans (congrArg some (by kernel_rfl))
 f267:=Tryz.func184.trans (congrArg some (by kernel_rfl))
 f314:=Tryz.func186.trans (congrArg some (by kernel_rfl))
 t3:=Tryz.underlying3
 a3:=Tryz.isAgg3
 z3:=Tryz.sizeOf3
 v3:=Tryz.zeroValue3
 t4:=Tryz.underlying4
 a4:=Tryz.isAgg4
 z4:=Tryz.sizeOf4
 v4:=Tryz.zeroValue4
 t5:=Tryz.underlying5
 a5:=Tryz.isAgg5
 z5:=Tryz.sizeOf5
 v5:=Tryz.zeroValue5
 t9:=Tryz.underlying9
 a9:=Tryz.isAgg9
 z9:=Tryz.sizeOf9
 v9:=Tryz.zeroValue9
 t46:=Tryz.underlying90
 a46:=Tryz.isAgg90
 z46:=Tryz.sizeOf90
 v46:=Tryz.zeroValue90
 t51:=Tryz.underlying117
 a51:=Tryz.isAgg117
 z51:=Tryz.sizeOf117
 v51:=Tryz.zeroValue117
 t146:=Tryz.underlying118
 a146:=Tryz.isAgg118
 z146:=Tryz.sizeOf118
 v146:=Tryz.zeroValue118
 g1:=by kernel_rfl}
open Go.RowKit Go.Lib in
theorem Tryz.stringslite_Index_one (s:ByteArray) (c:UInt8) (w:World):
  Calls Tryz.prog 173 #[.string s,.string ⟨#[c]⟩] w fun e w'=>e= .returned (.int .i64 (Lib.indexByte s.data.toList c))∧w'=w:=Any.stringslite_Index_one Tryz.Zzu s c w
end Go.Proofs
