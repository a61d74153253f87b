/- What a decoder reads, told. -/
import Derived.Test.YthckfhllgpfidaaGreatDoorP07
import Derived.Lib.Join
set_option linter.unusedSimpArgs false
set_option linter.unusedVariables false
set_option linter.unusedSectionVars false
namespace Go.Ev
open Go
variable {T : Tab} {st : St}
theorem EndD.set {σ:Type} {stepF:σ→UInt8→Option (Bool×σ)} {out:σ→List UInt8} {x0:σ} {s:List UInt8} {st0:St} {n:Nat} {s':St} {o o':AObj} (h:EndD stepF out x0 s st0 n s') (hw:s'.Wf) (hl:hget s'.h (n+9)=some o) (ho:Safe o):EndD stepF out x0 s st0 n ⟨hset s'.h (n+9) o',s'.nx⟩:=by
 obtain⟨x,k,h1,h2,h3,h4,h5,h6,h7,h8,h9⟩:=h
 exact⟨x,k,h1,h2,h3,h4,h5.frm (Frm.set hw hl) hw (by intro m hm;simp at hm;subst hm;exact⟨by omega,fun o2 h=>by rw[hl]at h;cases h;exact ho⟩),(hget_hset_ne hl (by omega)).trans h6,(hget_hset_ne hl (by omega)).trans h7,(hget_hset_ne hl (by omega)).trans h8,(hget_hset_ne hl (by omega)).trans h9⟩
theorem BadD.set {σ:Type} {stepF:σ→UInt8→Option (Bool×σ)} {x0:σ} {s:List UInt8} {n:Nat} {s':St} {o o':AObj} (h:BadD stepF x0 s n s') (hl:hget s'.h (n+9)=some o):BadD stepF x0 s n ⟨hset s'.h (n+9) o',s'.nx⟩:=by
 obtain⟨h1,h2,h3,h4⟩:=h
 exact⟨h1,(hget_hset_ne hl (by omega)).trans h2,(hget_hset_ne hl (by omega)).trans h3,(hget_hset_ne hl (by omega)).trans h4⟩
theorem readLoop_half (H:B.H_ascii_read_ascii_half T) {st0 st sA:St} (hx:Ext st0 st) {p:Nat} {σ:Type} {I:σ→St→Prop} {out:σ→List UInt8} {stepF:σ→UInt8→Option (Bool×σ)} {x0:σ} (hd:Dec T st0 p (st.nx+5) 215 218 I out stepF) (hp:p<st.nx) (hp0:st0.nx≤p) {s:List UInt8} (hs:s.length≤65536)
  {E:Env} {assign:MCode} (has:assign= .seq (.reg [⟨some 12,none,.p (.mov (.t 22))⟩]) (.reg [⟨some 13,none,.p (.mov (.t 23))⟩])) (hI:I x0 sA) (ho0:out x0=[]) (hK:Keeps (kR1 st.nx p 218 302 303 215 s) sA) (hat:hget sA.h (st.nx+7)=some (cO 0)) (hl:hget sA.h (st.nx+9)=some (.loop .ready E [22,23] assign B.ascii_read_ascii_half_l0)) (hA:sA.nx=st.nx+10)
  (g4:eget E 4= .ptr st.nx 0) (g5:eget E 5= .ptr (st.nx+1) 0) (g6:eget E 6= .ptr (st.nx+2) 0) (g7:eget E 7= .ptr (st.nx+3) 0) (g8:eget E 8= .ptr (st.nx+4) 0) (g10:eget E 10= .ptr (st.nx+6) 0) (g11:eget E 11= .ptr (st.nx+7) 0)
  {Q:St→Prop}
  (hQ:∀s1,Ext st0 s1→(hget s1.h (st.nx+9)=some (.loop .ready E [22,23] assign B.ascii_read_ascii_half_l0)∧runD stepF x0 s 0=none∧hget s1.h (st.nx+2)=some (.cells 9 true [.str []])∧hget s1.h (st.nx+3)=some (cO 0)∧hget s1.h (st.nx+4)=some (.cells 30 true [.int .i64 0])∧hget s1.h (st.nx+7)=some (cO 0))∨
    (hget s1.h (st.nx+9)=some (.loop (.done (.exit 0)) E [22,23] assign B.ascii_read_ascii_half_l0)∧EndD stepF out x0 s st0 st.nx s1)∨(hget s1.h (st.nx+9)=some (.loop (.done .ret) E [22,23] assign B.ascii_read_ascii_half_l0)∧BadD stepF x0 s st.nx s1)→Q s1):
  CRes (call T (.fn 225 [] [.ptr (st.nx+8) 0]) [.yield (st.nx+9)] sA) fun _ s'=>Q s':=by
 have hxn:=hx.nx
 have hOsafe:∀z,Safe (.loop z E [22,23] assign B.ascii_read_ascii_half_l0):=fun z=>safe_loop _ _ _ _ _
 refine solid_yields H.ascii_solid.ascii_solid_1 hs
  (fun i s1=>hget s1.h (st.nx+9)=some (.loop .ready E [22,23] assign B.ascii_read_ascii_half_l0)∧Keeps (kR1 st.nx p 218 302 303 215 s) s1∧hget s1.h (st.nx+7)=some (cO 0)∧∃x,I x s1∧runD stepF x0 s 0=runD stepF x (s.drop i) i∧(out x).length≤4*i)
  (fun s1=>Ext st0 s1∧((hget s1.h (st.nx+9)=some (.loop (.done (.exit 0)) E [22,23] assign B.ascii_read_ascii_half_l0)∧EndD stepF out x0 s st0 st.nx s1)∨(hget s1.h (st.nx+9)=some (.loop (.done .ret) E [22,23] assign B.ascii_read_ascii_half_l0)∧BadD stepF x0 s st.nx s1)))
  ?_ ?_ ?_ ?_ ?_ ⟨hl,hK,hat,x0,hI,by simp,by simp[ho0]⟩ ?_
 ·rintro i s1 ⟨_,_,_,x,hIx,_⟩;exact(hd.ext _ _ hIx).wf
 ·rintro i s1 ⟨_,h2,_⟩;exact h2 _ _ (by simp[kR1])
 ·rintro i s1 s2 ⟨h1,h2,h3,x,hIx,h4,h5⟩ hx2
  have hw:=(hd.ext _ _ hIx).wf
  exact⟨hx2.get hw h1,h2.ext hx2 hw,hx2.get hw h3,x,hd.frm _ _ _ _ hIx (hx2.fr []) (by simp),h4,h5⟩
 ·rintro i s1 c hc hb ⟨h1,h2,h3,x,hIx,h4,h5⟩
  have hil:i<s.length:=by
   rcases Nat.lt_or_ge i s.length with h | h
   ·exact h
   ·rw[List.getElem?_eq_none h]at hc;cases hc
  obtain⟨c',hc',hdr⟩:=idx_some hil
  rw[hc]at hc'
  cases hc'
  rw[hdr,runD,if_pos hb]at h4
  exact⟨h1,h2,h3,x,hIx,h4,by omega⟩
 ·rintro i s1 c hc hb ⟨h1,h2,h3,x,hIx,h4,h5⟩
  refine cres_yield h1 rfl ?_
  have hw:=(hd.ext _ _ hIx).wf
  have f1:=Frm.set hw h1 (o:= .loop .busy E [22,23] assign B.ascii_read_ascii_half_l0)
  have hI2:=hd.frm _ _ _ _ hIx f1 (by intro m hm;simp at hm;subst hm;exact⟨by omega,by omega,by omega,fun o ho=>by rw[h1]at ho;cases ho;exact hOsafe _⟩)
  have hK2:Keeps (kR1 st.nx p 218 302 303 215 s) ⟨hset s1.h (st.nx+9) (.loop .busy E [22,23] assign B.ascii_read_ascii_half_l0),s1.nx⟩:=h2.frm f1 hw (by
   intro m o hm h
   obtain⟨_,hh⟩:=kR1_safe m o hm
   simp at h
   omega)
  have hat2:=(hget_hset_ne (m:=st.nx+7) (o:= .loop .busy E [22,23] assign B.ascii_read_ascii_half_l0) h1 (by omega)).trans h3
  have hl2:=hget_hset_self (o:= .loop .busy E [22,23] assign B.ascii_read_ascii_half_l0) h1
  have hr:=fun(e:Env) k4 k5 k6 k7 k8 k10 k11 k12 k13=>readRound_half hd hp (by omega) hs hc hb (hOsafe .busy) hI2 hK2 hat2 hl2 h4 h5 (e:=e) k4 k5 k6 k7 k8 k10 k11 k12 k13
  subst has
  simp[go_sem]
  refine⟨h1,?_⟩
  refine(hr _ (by simp[go_sem,g4]) (by simp[go_sem,g5]) (by simp[go_sem,g6]) (by simp[go_sem,g7]) (by simp[go_sem,g8]) (by simp[go_sem,g10]) (by simp[go_sem,g11]) (by simp[go_sem]) (by simp[go_sem])).mono ?_
  rintro r e' s2 ⟨m9,y2,hcase⟩
  refine⟨m9,?_⟩
  rcases hcase with ⟨rfl,k1,k2,x',k3,k4,k5⟩ | ⟨rfl,k1⟩ | ⟨rfl,k1⟩
  ·have f2:=Frm.set y2.wf m9 (o:= .loop .ready E [22,23] (.seq (.reg [⟨some 12,none,.p (.mov (.t 22))⟩]) (.reg [⟨some 13,none,.p (.mov (.t 23))⟩])) B.ascii_read_ascii_half_l0)
   refine .inl ⟨rfl,hget_hset_self m9,k1.frm f2 y2.wf (by
    intro m o hm h
    obtain⟨_,hh⟩:=kR1_safe m o hm
    simp at h
    omega),(hget_hset_ne m9 (by omega)).trans k2,x',hd.frm _ _ _ _ k3 f2 (by intro m hm;simp at hm;subst hm;exact⟨by omega,by omega,by omega,fun o ho=>by rw[m9]at ho;cases ho;exact hOsafe _⟩),k4,k5⟩
  ·exact .inr ⟨rfl,y2.setNew m9 (by omega),.inl ⟨hget_hset_self m9,k1.set y2.wf m9 (hOsafe _)⟩⟩
  ·exact .inr ⟨rfl,y2.setNew m9 (by omega),.inr ⟨hget_hset_self m9,k1.set m9⟩⟩
 ·intro s1 h
  have hlt:∀m,m<st.nx+10→hget (dropLoc sA.nx s1.h) m=hget s1.h m:=fun m hm=>hget_dropLoc_lt (by omega)
  rcases h with ⟨h1,h2,h3,x,hIx,h4,h5⟩ | ⟨y,⟨h1,x,k,a1,a2,a3,a4,a5,a6,a7,a8,a9⟩ | ⟨h1,a1,a2,a3,a4⟩⟩
  ·refine hQ _ ((hd.ext _ _ hIx).dropGe (by omega)) (.inl ⟨by rw[hlt _ (by omega)];exact h1,by rw[h4,List.drop_length];rfl,?_⟩)
   simp only
   rw[hlt _ (by omega),hlt _ (by omega),hlt _ (by omega),hlt _ (by omega)]
   exact⟨h2 _ _ (by simp[kR1]),h2 _ _ (by simp[kR1]),h2 _ _ (by simp[kR1]),h3⟩
  ·refine hQ _ (y.dropGe (by omega)) (.inr (.inl ⟨by rw[hlt _ (by omega)];exact h1,x,k,a1,a2,a3,a4,a5.dropLoc y.wf,?_⟩))
   simp only
   rw[hlt _ (by omega),hlt _ (by omega),hlt _ (by omega),hlt _ (by omega)]
   exact⟨a6,a7,a8,a9⟩
  ·refine hQ _ (y.dropGe (by omega)) (.inr (.inr ⟨by rw[hlt _ (by omega)];exact h1,a1,?_⟩))
   simp only
   rw[hlt _ (by omega),hlt _ (by omega),hlt _ (by omega)]
   exact⟨a2,a3,a4⟩
theorem store3 {st0 s3:St} {n:Nat} (y:Ext st0 s3) (h:st0.nx≤n) {u v w:AV} (q6:hget s3.h (n+2)=some (.cells 9 true [u])) (q7:hget s3.h (n+3)=some (.cells 3 true [v])) (q8:hget s3.h (n+4)=some (.cells 30 true [w])) (a:List UInt8) (b c:Int):
  ∃h1 h2 h3,wrCells s3.h (n+2) 0 [.str a]=some h1∧wrCells h1 (n+3) 0 [.int .i64 b]=some h2∧wrCells h2 (n+4) 0 [.int .i64 c]=some h3∧rdCell h3 (n+2) 0=some (.str a)∧rdCell h3 (n+3) 0=some (.int .i64 b)∧rdCell h3 (n+4) 0=some (.int .i64 c)∧Ext st0 ⟨h3,s3.nx⟩∧
   (∀m,m≠n+2→m≠n+3→m≠n+4→hget h3 m=hget s3.h m)∧(∀m,m≠n+2→hget h1 m=hget s3.h m):=by
 have y6:=y.setNew q6 (o:= .cells 9 true [.str a]) (by omega)
 have p7:=(hget_hset_ne (o:= .cells 9 true [.str a]) q6 (show n+2≠n+3 by omega)).trans q7
 have y7:=y6.setNew p7 (o:= .cells 3 true [.int .i64 b]) (by omega)
 have p8:=(hget_hset_ne (o:= .cells 3 true [.int .i64 b]) p7 (show n+3≠n+4 by omega)).trans ((hget_hset_ne (o:= .cells 9 true [.str a]) q6 (show n+2≠n+4 by omega)).trans q8)
 have y8:=y7.setNew p8 (o:= .cells 30 true [.int .i64 c]) (by omega)
 have z2:=(hget_hset_ne (o:= .cells 30 true [.int .i64 c]) p8 (show n+4≠n+2 by omega)).trans ((hget_hset_ne (o:= .cells 3 true [.int .i64 b]) p7 (show n+3≠n+2 by omega)).trans (hget_hset_self (o:= .cells 9 true [.str a]) q6))
 have z3:=(hget_hset_ne (o:= .cells 30 true [.int .i64 c]) p8 (show n+4≠n+3 by omega)).trans (hget_hset_self (o:= .cells 3 true [.int .i64 b]) p7)
 have z4:=hget_hset_self (o:= .cells 30 true [.int .i64 c]) p8
 refine⟨_,_,_,wr_one q6 rfl,wr_one p7 rfl,wr_one p8 rfl,rd_one z2,rd_one z3,rd_one z4,y8,fun m h2 h3 h4=> ?_,fun m h2=> ?_⟩
 ·rw[hget_hset_ne p8 (by omega),hget_hset_ne p7 (by omega),hget_hset_ne q6 (by omega)]
 ·rw[hget_hset_ne q6 (by omega)]
theorem read_half (H:B.H_ascii_read_ascii_half T) {st0:St} (hx:Ext st0 st) {p:Nat} {σ:Type} {I:σ→St→Prop} {out:σ→List UInt8} {stepF:σ→UInt8→Option (Bool×σ)} {x0:σ} (hd:Dec T st0 p (st.nx+5) 215 218 I out stepF) (hp:p<st.nx) (hp0:st0.nx≤p)
  (h0:∀s,Ext st s→hget s.h (st.nx+5)=some (.cells 35 false [.nilslice])→I x0 s) (ho0:out x0=[]) {s:List UInt8} (hs:s.length<1000000000000):
  CRes (call T (.fn 214 [] []) [.str s,.ptr p 0,.fn 215 [] []] st) fun v s'=>v=toU (readT stepF out x0 s)∧Ext st0 s':=by
 refine call_res H.e H.f rfl ?_
 have hxe:=hx.wf
 have a4:Ext st ⟨(st.nx+4,AObj.cells 30 true [.int .i64 0])::(st.nx+3,.cells 3 true [.int .i64 0])::(st.nx+2,.cells 9 true [.str []])::(st.nx+1,.cells 303 true [.fn 215 [] []])::(st.nx,.cells 302 true [.ptr p 0])::st.h,st.nx+5⟩:=by
  have a0:=Ext.new hxe (.cells 302 true [.ptr p 0])
  have a1:=a0.trans (Ext.new a0.wf (.cells 303 true [.fn 215 [] []]))
  have a2:=a1.trans (Ext.new a1.wf (.cells 9 true [.str []]))
  have a3:=a2.trans (Ext.new a2.wf (.cells 3 true [.int .i64 0]))
  have a4:=a3.trans (Ext.new a3.wf (.cells 30 true [.int .i64 0]))
  simpa only[Nat.add_assoc,Nat.reduceAdd] using a4
 have a8:Ext st ⟨(st.nx+7,cO 0)::(st.nx+6,AObj.cells 310 true [.fn 218 [] [.ptr (st.nx+5) 0]])::(st.nx+5,.cells 35 false [.nilslice])::(st.nx+4,AObj.cells 30 true [.int .i64 0])::(st.nx+3,.cells 3 true [.int .i64 0])::(st.nx+2,.cells 9 true [.str []])::(st.nx+1,.cells 303 true [.fn 215 [] []])::(st.nx,.cells 302 true [.ptr p 0])::st.h,st.nx+8⟩:=by
  have a5:=a4.trans (Ext.new a4.wf (.cells 35 false [.nilslice]))
  have a6:=a5.trans (Ext.new a5.wf (.cells 310 true [.fn 218 [] [.ptr (st.nx+5) 0]]))
  have a7:=a6.trans (Ext.new a6.wf (cO 0))
  simpa only[Nat.add_assoc,Nat.reduceAdd] using a7
 obtain⟨RT,hRT⟩:∃RT,RT=readT stepF out x0 s:=⟨_,rfl⟩
 rw[←hRT]
 unfold readT at hRT
 by_cases h:65536<s.length
 ·have h':(65536:Int)<s.length:=by omega
  rw[if_pos h]at hRT
  subst hRT
  simp[B.ascii_read_ascii_half,go_sem,NO.run,WO.run,RO.run,Nat.add_assoc,h,h',wrCells,hget_cons,hset_cons,splice,rdCell,fresults,resVals,resVal,toU]
  have g4:hget ((st.nx+4,AObj.cells 30 true [.int .i64 0])::(st.nx+3,.cells 3 true [.int .i64 0])::(st.nx+2,.cells 9 true [.str []])::(st.nx+1,.cells 303 true [.fn 215 [] []])::(st.nx,.cells 302 true [.ptr p 0])::st.h) (st.nx+4)=some (.cells 30 true [.int .i64 0]):=by simp[hget_cons]
  have y:=a4.setNew (st:=st) g4 (o:= .cells 30 true [.int .i64 3]) (by omega)
  simp[hset_cons]at y
  exact(hx.trans y).dropGe hx.nx
 ·have h':¬(65536:Int)<s.length:=by omega
  rw[if_neg h]at hRT
  simp[B.ascii_read_ascii_half,go_sem,NO.run,WO.run,RO.run,Nat.add_assoc,h,h',wrCells,hget_cons,hset_cons,splice,rdCell]
  refine solid_call H.ascii_solid a8.wf ?_
  simp[go_sem]
  refine res_rangeFunc ?_
  have a9:=a8.trans (Ext.new a8.wf (.cells 9 false [.str s]))
  simp only[Nat.add_assoc,Nat.reduceAdd]at a9
  simp only[Nat.add_assoc,Nat.reduceAdd]
  generalize hE:([(21,AV.fn 225 [] [AV.ptr (st.nx+8) 0]),(20,AV.str s),(11,AV.ptr (st.nx+7) 0),(10,AV.ptr (st.nx+6) 0),(19,AV.fn 218 [] [AV.ptr (st.nx+5) 0]),(9,AV.ptr (st.nx+5) 0),(18,AV.bool false),(17,AV.int IntKind.i64 ↑s.length),(16,AV.str s),(8,AV.ptr (st.nx+4) 0),(7,AV.ptr (st.nx+3) 0),(6,AV.ptr (st.nx+2) 0),(5,AV.ptr (st.nx+1) 0),(4,AV.ptr st.nx 0),(0,AV.str s),(1,AV.ptr p 0),(2,AV.fn 215 [] [])]:Env)=E
  have g21:AO.ev E (.t 21)= .fn 225 [] [.ptr (st.nx+8) 0]:=by rw[←hE];simp[go_sem]
  have g4:eget E 4= .ptr st.nx 0:=by rw[←hE];simp[go_sem]
  have g5:eget E 5= .ptr (st.nx+1) 0:=by rw[←hE];simp[go_sem]
  have g6:eget E 6= .ptr (st.nx+2) 0:=by rw[←hE];simp[go_sem]
  have g7:eget E 7= .ptr (st.nx+3) 0:=by rw[←hE];simp[go_sem]
  have g8:eget E 8= .ptr (st.nx+4) 0:=by rw[←hE];simp[go_sem]
  have g9:eget E 9= .ptr (st.nx+5) 0:=by rw[←hE];simp[go_sem]
  have g10:eget E 10= .ptr (st.nx+6) 0:=by rw[←hE];simp[go_sem]
  have g11:eget E 11= .ptr (st.nx+7) 0:=by rw[←hE];simp[go_sem]
  clear hE
  rw[g21]
  generalize has:((MCode.reg [{dst:=some 12,guard:=none,op:=MO.p (PO.mov (AO.t 22))}]).seq (MCode.reg [{dst:=some 13,guard:=none,op:=MO.p (PO.mov (AO.t 23))}]))=assign
  have aA:=a9.trans (Ext.new a9.wf (.loop .ready E [22,23] assign B.ascii_read_ascii_half_l0))
  simp only[Nat.add_assoc,Nat.reduceAdd]at aA
  have hxn:=hx.nx
  refine(readLoop_half H hx hd hp hp0 (by omega) has.symm (h0 _ aA (by simp[hget_cons])) ho0 ?_ (by simp[hget_cons]) (by simp[hget_cons]) rfl g4 g5 g6 g7 g8 g10 g11
   (Q:=fun s1=>Ext st0 s1∧((hget s1.h (st.nx+9)=some (.loop .ready E [22,23] assign B.ascii_read_ascii_half_l0)∧runD stepF x0 s 0=none∧hget s1.h (st.nx+2)=some (.cells 9 true [.str []])∧hget s1.h (st.nx+3)=some (cO 0)∧hget s1.h (st.nx+4)=some (.cells 30 true [.int .i64 0])∧hget s1.h (st.nx+7)=some (cO 0))∨
   (hget s1.h (st.nx+9)=some (.loop (.done (.exit 0)) E [22,23] assign B.ascii_read_ascii_half_l0)∧EndD stepF out x0 s st0 st.nx s1)∨(hget s1.h (st.nx+9)=some (.loop (.done .ret) E [22,23] assign B.ascii_read_ascii_half_l0)∧BadD stepF x0 s st.nx s1))) (fun s1 h1 h2=>⟨h1,h2⟩)).mono ?_
  ·intro m o hm
   simp only[kR1,List.mem_cons,Prod.mk.injEq,List.not_mem_nil,or_false]at hm
   rcases hm with ⟨rfl,rfl⟩ | ⟨rfl,rfl⟩ | ⟨rfl,rfl⟩ | ⟨rfl,rfl⟩ | ⟨rfl,rfl⟩ | ⟨rfl,rfl⟩ | ⟨rfl,rfl⟩ <;> simp[hget_cons,cO]
  ·rintro _ s1 ⟨y,hcase⟩
   have hdl:∀m,m≠st.nx+9→hget (hdel s1.h (st.nx+9)) m=hget s1.h m:=fun m hm=>by rw[hget_hdel,if_neg (by omega)]
   have yd:∀o,hget s1.h (st.nx+9)=some o→Ext st0 ⟨hdel s1.h (st.nx+9),s1.nx⟩:=fun o ho=>y.frm (Frm.hdel y.wf _) (by intro m hm;simp at hm;omega)
   rcases hcase with ⟨hl,hn,k2,k3,k4,k7⟩ | ⟨hl,x,k,b1,b2,b3,b4,b5,b6,b7,b8,b9⟩ | ⟨hl,hn,k2,k3,k4⟩
   ·refine .inl ⟨hl,?_⟩
    rw[hn]at hRT
    simp only at hRT
    subst hRT
    have y1:=yd _ hl
    obtain⟨h1,h2,h3,w1,w2,w3,r1,r2,r3,y2,_⟩:=store3 (n:=st.nx) y1 (by omega) ((hdl _ (by omega)).trans k2) ((hdl _ (by omega)).trans k3) ((hdl _ (by omega)).trans k4) [] 0 5
    have r7:=rd_one ((hdl (st.nx+7) (by omega)).trans k7)
    simp[go_sem,RO.run,WO.run,g6,g7,g8,g9,g11,r7,w1,w2,w3,B.ascii_read_ascii_half,fresults,resVals,resVal,r1,r2,r3,toU]
    exact y2.dropGe hx.nx
   ·refine .inr ⟨_,hl,?_⟩
    rw[b1]at hRT
    simp only at hRT
    have y1:=yd _ hl
    have B1:Bx st0 ⟨hdel s1.h (st.nx+9),s1.nx⟩ (st.nx+5) (out x):=b5.frm (Frm.hdel y.wf _) y.wf (by intro m hm;simp at hm;subst hm;exact⟨by omega,fun o ho=>by rw[hl]at ho;cases ho;exact safe_loop _ _ _ _ _⟩)
    have q2:=(hdl (st.nx+2) (by omega)).trans b7
    have q3:=(hdl (st.nx+3) (by omega)).trans b8
    have q4:=(hdl (st.nx+4) (by omega)).trans b9
    have q7:=(hdl (st.nx+7) (by omega)).trans b6
    generalize hS:(⟨hdel s1.h (st.nx+9),s1.nx⟩:St)=s3 at y1 B1⊢
    rw[show hdel s1.h (st.nx+9)=s3.h by rw[←hS]]at q2 q3 q4 q7
    clear hS hdl yd b5 b6 b7 b8 b9 hl y
    obtain⟨_,v,v1,v2,v3⟩:=B1
    have r9:=rd_one v1
    have r7:=rd_one q7
    have hk0:¬(k:Int)=0:=by omega
    have hk0':¬k=0:=by omega
    have main:∀vv:AV,v=vv→RO.run (fun a=>match a with | .t 38=>vv | _=> .bot) s3.h (.b2s (.t 38))=some (.str (out x)):=fun vv h=>by subst h;exact v2.b2s rfl
    have fin:∀(e:Env),eget e 6= .ptr (st.nx+2) 0→eget e 7= .ptr (st.nx+3) 0→eget e 8= .ptr (st.nx+4) 0→eget e 11= .ptr (st.nx+7) 0→True:=fun _ _ _ _ _=>trivial
    have hb:=bounded_tells H.ascii_bounded y1.wf (s:=out x)
    have hform:(v= .nilslice∧out x=[])∨∃n,v= .slice n 0 (out x).length .full∧rdCells s3.h n 0 (out x).length=some (u8s (out x)):=by
     rcases v2.form with h | ⟨n,h1,h2,_⟩
     ·exact .inl h
     ·exact .inr ⟨n,h1,h2⟩
    clear v1 v2 v3 main fin
    generalize out x=o at*
    have tail:∀(K:AV→St→Prop),(∀s5,Ext s3 s5→K (.tuple [.str (if 65536<o.length then []else o),.int .i64 (if 65536<o.length then 3 else 0)]) s5)→CRes (call T (.fn 220 [] []) [.str o] s3) K:=fun K h=>hb.use h
    clear hb
    have steps:∀s5,Ext s3 s5→Ext st0 s5∧hget s5.h (st.nx+2)=some (.cells 9 true [.str []])∧hget s5.h (st.nx+3)=some (cO 0)∧hget s5.h (st.nx+4)=some (.cells 30 true [.int .i64 0])∧hget s5.h (st.nx+7)=some (cO k):=fun s5 x5=>
     ⟨y1.trans x5,x5.get y1.wf q2,x5.get y1.wf q3,x5.get y1.wf q4,x5.get y1.wf q7⟩
    by_cases hlong:65536<o.length
    ·rw[if_pos hlong]at hRT
     subst hRT
     have done:∀s5,Ext s3 s5→∃h1 h2 h3,wrCells s5.h (st.nx+2) 0 [.str []]=some h1∧wrCells h1 (st.nx+3) 0 [.int .i64 0]=some h2∧wrCells h2 (st.nx+4) 0 [.int .i64 3]=some h3∧rdCell h3 (st.nx+2) 0=some (.str [])∧rdCell h3 (st.nx+3) 0=some (.int .i64 0)∧rdCell h3 (st.nx+4) 0=some (.int .i64 3)∧Ext st0 ⟨h3,s5.nx⟩:=fun s5 x5=>by
      obtain⟨z1,z2,z3,z4,z5⟩:=steps s5 x5
      obtain⟨h1,h2,h3,w1,w2,w3,r1,r2,r3,y2,_⟩:=store3 (n:=st.nx) z1 (by omega) z2 z3 z4 [] 0 3
      exact⟨h1,h2,h3,w1,w2,w3,r1,r2,r3,y2⟩
     rcases hform with ⟨e1,e2⟩ | ⟨n,e1,e2⟩
     ·rw[e2]at hlong;simp at hlong
     ·subst e1
      simp[go_sem,RO.run,g9,g11,r7,r9,hk0,hk0',e2,toBytes_u8s]
      refine tail _ fun s5 x5=> ?_
      obtain⟨h1,h2,h3,w1,w2,w3,r1,r2,r3,y2⟩:=done s5 x5
      simp[go_sem,WO.run,g6,g7,g8,g11,hlong,w1,w2,w3,B.ascii_read_ascii_half,fresults,resVals,resVal,RO.run,r1,r2,r3,toU]
      exact y2.dropGe hx.nx
    ·rw[if_neg hlong]at hRT
     subst hRT
     have done:∀s5,Ext s3 s5→rdCell s5.h (st.nx+7) 0=some (.int .i64 (k:Int))∧∃h1 h2 h3,wrCells s5.h (st.nx+2) 0 [.str o]=some h1∧rdCell h1 (st.nx+7) 0=some (.int .i64 (k:Int))∧wrCells h1 (st.nx+3) 0 [.int .i64 (k:Int)]=some h2∧wrCells h2 (st.nx+4) 0 [.int .i64 0]=some h3∧rdCell h3 (st.nx+2) 0=some (.str o)∧rdCell h3 (st.nx+3) 0=some (.int .i64 (k:Int))∧rdCell h3 (st.nx+4) 0=some (.int .i64 0)∧Ext st0 ⟨h3,s5.nx+6⟩:=fun s5 x5=>by
      obtain⟨z1,z2,z3,z4,z5⟩:=steps s5 x5
      obtain⟨h1,h2,h3,w1,w2,w3,r1,r2,r3,y2,_,y3⟩:=store3 (n:=st.nx) z1 (by omega) z2 z3 z4 o (k:Int) 0
      exact⟨rd_one z5,h1,h2,h3,w1,rd_one ((y3 _ (by omega)).trans z5),w2,w3,r1,r2,r3,y2.trans (Ext.aside y2.wf 6)⟩
     have rest:∀s5,Ext s3 s5→∀e:Env,True:=fun _ _ _=>trivial
     rcases hform with ⟨e1,e2⟩ | ⟨n,e1,e2⟩
     ·subst e1
      subst e2
      simp[go_sem,RO.run,g9,g11,r7,r9,hk0,hk0']
      refine tail _ fun s5 x5=> ?_
      obtain⟨r5,h1,h2,h3,w1,rh1,w2,w3,r1,r2,r3,y2⟩:=done s5 x5
      simp[go_sem,WO.run,reI,g6,g7,g8,g11,r5,rh1,w1,w2,w3,B.ascii_read_ascii_half,fresults,resVals,resVal,RO.run,r1,r2,r3,toU]
      exact⟨rfl,y2.dropGe hx.nx⟩
     ·subst e1
      simp[go_sem,RO.run,g9,g11,r7,r9,hk0,hk0',e2,toBytes_u8s]
      refine tail _ fun s5 x5=> ?_
      obtain⟨r5,h1,h2,h3,w1,rh1,w2,w3,r1,r2,r3,y2⟩:=done s5 x5
      simp[go_sem,WO.run,reI,g6,g7,g8,g11,hlong,r5,rh1,w1,w2,w3,B.ascii_read_ascii_half,fresults,resVals,resVal,RO.run,r1,r2,r3,toU]
      exact⟨rfl,y2.dropGe hx.nx⟩
   ·refine .inr ⟨_,hl,?_⟩
    rw[hn]at hRT
    simp only at hRT
    subst hRT
    have y1:=yd _ hl
    have r2:=rd_one ((hdl (st.nx+2) (by omega)).trans k2)
    have r3:=rd_one ((hdl (st.nx+3) (by omega)).trans k3)
    have r4:=rd_one ((hdl (st.nx+4) (by omega)).trans k4)
    simp[go_sem,RO.run,g6,g7,g8,B.ascii_read_ascii_half,fresults,resVals,resVal,r2,r3,r4,toU]
    exact y1.dropGe hx.nx
end Go.Ev

/- ascii.Unhex told. -/
namespace Go.Ev
open Go
variable {T : Tab} {st : St}
def hexStep (x:List Nat×Bool) (c:UInt8):Option (Bool×(List Nat×Bool)):=
 if c=62 then some (true,(x.1,true))else if nibV c<0 then none else some (false,(x.1++[(nibV c).toNat],false))
def hexOut (x:List Nat×Bool):List UInt8:=if x.2=true then prs x.1 else prs (x.1.take (x.1.length / 2*2))
def hexI (st0:St) (p q:Nat) (x:List Nat×Bool) (s:St):Prop:=
 Ext st0 s∧st0.nx≤p∧p≠q∧Bx st0 s q (hexOut x)∧(∀d∈x.1,d<16)∧∃(hi:Nat) (odd:Bool),hget s.h p=some (.cells 301 false [.int .i64 (hi:Int),.bool odd])∧hi<16∧x.2=false∧((odd=true∧x.1.length % 2=1∧∃l,x.1=l++[hi])∨(odd=false∧x.1.length % 2=0))
theorem hex_nums (h n:Nat) (hh:h<16) (hn:n<16):IntKind.u8.wrap (ishl .i64 (h:Int) 4)=(((UInt8.ofNat (16*h)).toNat:Nat):Int)∧IntKind.u8.wrap (ior .i64 (ishl .i64 (h:Int) 4) (n:Int))=(((UInt8.ofNat (16*h+n)).toNat:Nat):Int):=by
 have h0:(List.range 16).all (fun h=>(List.range 16).all fun n=>decide (IntKind.u8.wrap (ishl .i64 ((h:Nat):Int) 4)=(((UInt8.ofNat (16*h)).toNat:Nat):Int)) && decide (IntKind.u8.wrap (ior .i64 (ishl .i64 ((h:Nat):Int) 4) ((n:Nat):Int))=(((UInt8.ofNat (16*h+n)).toNat:Nat):Int)))=true:=by kernel_rfl
 have:=List.all_eq_true.1 (List.all_eq_true.1 h0 h (List.mem_range.2 hh)) n (List.mem_range.2 hn)
 simpa using this
theorem take_even {l:List Nat} (h:l.length % 2=0):l.take (l.length / 2*2)=l:=List.take_of_length_le (by omega)
theorem take_odd {l:List Nat} {a:Nat} (h:(l++[a]).length % 2=1):(l++[a]).take ((l++[a]).length / 2*2)=l∧l.length % 2=0:=by
 simp only[List.length_append,List.length_singleton]at h⊢
 have h2:(l.length+1) / 2*2=l.length:=by omega
 rw[h2,List.take_left]
 exact⟨rfl,by omega⟩
theorem prs_one {l:List Nat} {a:Nat} (h:l.length % 2=0):prs (l++[a])=prs l++[UInt8.ofNat (16*a)]:=by
 have h1:=prs_odd (l++[a]) (by simp;omega)
 rw[List.append_assoc]at h1
 have h2:=prs_snoc l a 0 h
 simp only[List.cons_append,List.nil_append]at h1
 rw[←h1,h2];rfl
theorem p_safe (a b:AV) (h:(∃o,b= .bool o)∨b= .niliface):Safe (.cells 301 false [a,b]):=⟨fun t l e=>by
 injection e with _ _ e
 match l,e with
 | [c,d],e=>simp[u8s]at e;rcases h with ⟨o,h⟩ | h <;> simp[h]at e,fun t e c h=>by cases h⟩
theorem prs_length:∀l:List Nat,(prs l).length=(l.length+1) / 2
 | []=>rfl
 | [x]=>by simp[prs]
 | x::y::r=>by have:=prs_length r;simp only[prs,List.length_cons,this];omega
theorem hexOut_len (l:List Nat) (b:Bool):(hexOut (l,b)).length=if b=true then(l.length+1) / 2 else l.length / 2:=by
 cases b with
 | true=>simp[hexOut,prs_length]
 | false=>simp only[hexOut,Bool.false_eq_true,if_false,prs_length,List.length_take];omega
theorem hexDec (H:B.H_ascii_half_take T) (H1:B.H_ascii_read_ascii_half_1 T) {st0:St} {p q:Nat}:Dec T st0 p q 215 218 (hexI st0 p q) hexOut hexStep where
 ext:=fun x s h=>h.1
 bx:=fun x s h=>h.2.2.2.1
 frm:=fun x s s' S ⟨h1,h2,h3,h4,h5,hi,odd,h6,h7,h8,h9⟩ f hS=>
  ⟨h1.frm f (fun m hm=>(hS m hm).1),h2,h3,h4.frm f h1.wf (fun m hm=>⟨(hS m hm).2.2.1,(hS m hm).2.2.2⟩),h5,hi,odd,f.get h1.wf h6 (fun hm=>(hS p hm).2.1 rfl),h7,h8,h9⟩
 loc:=fun x s c hc ⟨h1,h2,h3,h4,h5,hi,odd,h6,h7,h8,h9⟩=>⟨h1.dropGe hc,h2,h3,h4.dropLoc h1.wf,h5,hi,odd,hget_dropLoc_keep h1.wf h6 rfl,h7,h8,h9⟩
 len:=by
  intro x c b x' h
  obtain⟨l,bb⟩:=x
  unfold hexStep at h
  split at h
  ·injection h with h;injection h with h1 h2;subst h2
   rw[hexOut_len,hexOut_len]
   simp only[if_true]
   split <;> omega
  ·split at h
   ·cases h
   ·injection h with h;injection h with h1 h2;subst h2
    rw[hexOut_len,hexOut_len]
    simp only[Bool.false_eq_true,if_false,List.length_append,List.length_singleton]
    split <;> omega
 take:=by
  intro x s c hI hlen
  obtain⟨l,bb⟩:=x
  obtain⟨h1,h2,h3,h4,h5,hi,odd,h6,h7,hbb,h8⟩:=hI
  simp only at hbb
  subst hbb
  have hps:∀a b,Safe (.cells 301 false [.int .i64 a,.bool b]):=fun a b=>p_safe _ _ (.inl ⟨b,rfl⟩)
  refine call_res H.e H.f rfl ?_
  simp[B.ascii_half_take,go_sem]
  refine(nibble_tells H.ascii_nibble h1.wf c).use fun s1 x1=> ?_
  have y1:=h1.trans x1
  have g1:=x1.get h1.wf h6
  have b1:=h4.ext x1 h1.wf
  have r0:rdCell s1.h p 0=some (.int .i64 (hi:Int)):=by simp[rdCell,g1]
  have r1:rdCell s1.h p 1=some (.bool odd):=by simp[rdCell,g1]
  have c62:((c.toNat:Int)=62)↔c=62:=by rw[←UInt8.toNat_inj];simp;omega
  have keep1:∀m o,m≠p→m≠q→hget s.h m=some o→Safe o→hget s1.h m=some o:=fun m o _ _ ho _=>x1.get h1.wf ho
  have ltd:∀m o,hget s.h m=some o→m<s.nx:=fun m o ho=>h1.wf.lt _ _ ho
  have emit:∀(d:UInt8),CRes (call T (.fn 218 [] [.ptr q 0]) [.slice s1.nx 0 1 (.known 1)] ⟨(s1.nx,.cells 5 false [.int .u8 (d.toNat:Int)])::s1.h,s1.nx+1⟩) fun _ s'=>Ext st0 s'∧Bx st0 s' q (hexOut (l,false)++[d])∧(∀n o,n≠q→hget s1.h n=some o→Safe o→hget s'.h n=some o):=by
   intro d
   have xa:=Ext.new y1.wf (.cells 5 false [.int .u8 (d.toNat:Int)])
   refine(emit_half H1 (y1.trans xa) (m:=[d]) (l:=hexOut (l,false)) (.inr ⟨s1.nx,0,_,rfl,rd_all (ty:=5) (l:=false) (by simp[hget_cons,u8s]) rfl⟩) (b1.ext xa y1.wf) (by simp only[List.length_singleton];omega)).mono ?_
   rintro _ s2 ⟨⟨k1,k2⟩,k3⟩
   exact⟨k1,k2,fun n o hn ho hs=>k3 n o hn (xa.get y1.wf ho) hs⟩
  by_cases hc:c=62
  ·have hst:hexStep (l,false) c=some (true,(l,true)):=by simp[hexStep,hc]
   rw[hst]
   simp only
   rcases h8 with ⟨rfl,ho,l',hl'⟩ | ⟨rfl,ho⟩
   ·simp only at ho hl'
    subst hl'
    obtain⟨t1,t2⟩:=take_odd ho
    have hout:hexOut (l'++[hi],true)=hexOut (l'++[hi],false)++[UInt8.ofNat (16*hi)]:=by
     simp only[hexOut,if_true,Bool.false_eq_true,if_false]
     rw[t1,prs_one t2]
    obtain⟨n1,_⟩:=hex_nums hi 0 h7 (by omega)
    rw[hout]
    have em:=emit (UInt8.ofNat (16*hi))
    generalize UInt8.ofNat (16*hi)=d at*
    simp[go_sem,c62,hc,RO.run,NO.run,r1,r0,n1,reps]
    refine em.mono ?_
    rintro _ s2 ⟨k1,k2,k3⟩
    simp[go_sem]
    refine⟨k1.dropGe h1.nx,fun m o hm hq ho hs=> ?_,k2.dropLoc k1.wf⟩
    rw[hget_dropLoc_lt (ltd m o ho)]
    exact k3 m o hq (keep1 m o hm hq ho hs) hs
   ·simp only at ho
    have hout:hexOut (l,true)=hexOut (l,false):=by
     simp only[hexOut,if_true,Bool.false_eq_true,if_false]
     rw[take_even ho]
    rw[hout]
    simp[go_sem,c62,hc,RO.run,r1]
    refine⟨y1.dropGe h1.nx,fun m o hm hq ho hs=> ?_,b1.dropLoc y1.wf⟩
    rw[hget_dropLoc_lt (ltd m o ho)]
    exact keep1 m o hm hq ho hs
  ·by_cases hn:nibV c<0
   ·have hst:hexStep (l,false) c=none:=by simp[hexStep,hc,hn]
    rw[hst]
    simp[go_sem,c62,hc,hn]
    refine⟨y1.dropGe h1.nx,fun m o hm hq ho hs=> ?_⟩
    rw[hget_dropLoc_lt (ltd m o ho)]
    exact keep1 m o hm hq ho hs
   ·obtain⟨n,hnn⟩:=Int.eq_ofNat_of_zero_le (show 0≤nibV c by omega)
    have hn15:=(nibV_le c).2
    obtain⟨L2,hL2⟩:∃L2,L2=l++[n]:=⟨_,rfl⟩
    have hst:hexStep (l,false) c=some (false,(L2,false)):=by simp[hexStep,hc,hnn,hL2]
    rw[hst]
    rw[hnn]at hn hn15⊢
    have hn':¬(n:Int)<0:=hn
    have hb16:∀d∈L2,d<16:=by
     intro d hd
     rw[hL2]at hd
     rcases List.mem_append.1 hd with h | h
     ·exact h5 d h
     ·simp at h;omega
    have hlen2:L2.length=l.length+1:=by rw[hL2];simp
    simp only
    have wrt:∀(s2:St) (o1 o2:Bool),hget s2.h p=some (.cells 301 false [.int .i64 (hi:Int),.bool o1])→wrCells s2.h p 0 [.int .i64 (n:Int)]=some (hset s2.h p (.cells 301 false [.int .i64 (n:Int),.bool o1]))∧wrCells (hset s2.h p (.cells 301 false [.int .i64 (n:Int),.bool o1])) p 1 [.bool o2]=some (hset (hset s2.h p (.cells 301 false [.int .i64 (n:Int),.bool o1])) p (.cells 301 false [.int .i64 (n:Int),.bool o2]))∧rdCell s2.h p 1=some (.bool o1):=by
     intro s2 o1 o2 g
     exact⟨wr_cells g rfl (by simp),wr_cells (hget_hset_self g) rfl (by simp),by simp[rdCell,g]⟩
    have done:∀(s2:St) (o1 o2:Bool) (out:List UInt8),Ext st0 s2→Bx st0 s2 q out→(∀m o,m≠p→m≠q→hget s.h m=some o→Safe o→hget s2.h m=some o)→hget s2.h p=some (.cells 301 false [.int .i64 (hi:Int),.bool o1])→out=hexOut (L2,false)→((o2=true∧L2.length % 2=1)∨(o2=false∧L2.length % 2=0))→
      Ext st0 ⟨dropLoc s.nx (hset (hset s2.h p (.cells 301 false [.int .i64 (n:Int),.bool o1])) p (.cells 301 false [.int .i64 (n:Int),.bool o2])),s2.nx⟩∧(∀m o,¬m=p→¬m=q→hget s.h m=some o→Safe o→hget (dropLoc s.nx (hset (hset s2.h p (.cells 301 false [.int .i64 (n:Int),.bool o1])) p (.cells 301 false [.int .i64 (n:Int),.bool o2]))) m=some o)∧hexI st0 p q (L2,false) ⟨dropLoc s.nx (hset (hset s2.h p (.cells 301 false [.int .i64 (n:Int),.bool o1])) p (.cells 301 false [.int .i64 (n:Int),.bool o2])),s2.nx⟩:=by
     intro s2 o1 o2 out z1 z2 z3 g ho hpar
     have ga:=hget_hset_self (o:= .cells 301 false [.int .i64 (n:Int),.bool o1]) g
     have gb:=hget_hset_self (o:= .cells 301 false [.int .i64 (n:Int),.bool o2]) ga
     have za:=z1.setNew g (o:= .cells 301 false [.int .i64 (n:Int),.bool o1]) h2
     have zb:=za.setNew ga (o:= .cells 301 false [.int .i64 (n:Int),.bool o2]) h2
     have ba:=z2.frm (Frm.set z1.wf g (o:= .cells 301 false [.int .i64 (n:Int),.bool o1])) z1.wf (by intro m hm;simp at hm;subst hm;exact⟨h3,fun o ho=>by rw[g]at ho;cases ho;exact hps _ _⟩)
     have bb:=ba.frm (Frm.set za.wf ga (o:= .cells 301 false [.int .i64 (n:Int),.bool o2])) za.wf (by intro m hm;simp at hm;subst hm;exact⟨h3,fun o ho=>by rw[ga]at ho;cases ho;exact hps _ _⟩)
     refine⟨zb.dropGe h1.nx,fun m o hm hq ho hs=> ?_,zb.dropGe h1.nx,h2,h3,by rw[←ho];exact bb.dropLoc zb.wf,hb16,n,o2,hget_dropLoc_keep zb.wf gb rfl,by omega,rfl,?_⟩
     ·rw[hget_dropLoc_lt (ltd m o ho),hget_hset_ne ga (by omega),hget_hset_ne g (by omega)]
      exact z3 m o hm hq ho hs
     ·rcases hpar with ⟨k1,k2⟩ | ⟨k1,k2⟩
      ·exact .inl ⟨k1,k2,l,hL2⟩
      ·exact .inr ⟨k1,k2⟩
    rcases h8 with ⟨rfl,ho,l',hl'⟩ | ⟨rfl,ho⟩
    ·simp only at ho hl'
     have hout:hexOut (l,false)++[UInt8.ofNat (16*hi+n)]=hexOut (L2,false):=by
      simp only[hexOut,Bool.false_eq_true,if_false]
      rw[take_even (show L2.length % 2=0 by omega),hL2,hl']
      rw[hl']at ho
      obtain⟨t1,t2⟩:=take_odd ho
      rw[t1,List.append_assoc,List.cons_append,List.nil_append,prs_snoc _ _ _ t2]
     obtain⟨_,n1⟩:=hex_nums hi n h7 (by omega)
     have em:=emit (UInt8.ofNat (16*hi+n))
     generalize UInt8.ofNat (16*hi+n)=d at*
     simp[go_sem,c62,hc,hn',RO.run,NO.run,r1,r0,n1,reps]
     refine em.mono ?_
     rintro _ s2 ⟨k1,k2,k3⟩
     have g2:=k3 p _ h3 g1 (hps _ _)
     obtain⟨w1,w2,w3⟩:=wrt s2 true false g2
     simp[go_sem,RO.run,WO.run,w1,w2,w3]
     exact done s2 true false _ k1 k2 (fun m o hm hq ho hs=>k3 m o hq (keep1 m o hm hq ho hs) hs) g2 hout (.inr ⟨rfl,by omega⟩)
    ·simp only at ho
     have hout:hexOut (l,false)=hexOut (L2,false):=by
      simp only[hexOut,Bool.false_eq_true,if_false]
      rw[take_even ho,hL2,(take_odd (l:=l) (a:=n) (by simp;omega)).1]
     obtain⟨w1,w2,w3⟩:=wrt s1 false true g1
     simp[go_sem,c62,hc,hn',RO.run,WO.run,r1,w1,w2,w3]
     exact done s1 false true _ y1 b1 keep1 g1 hout (.inl ⟨rfl,by omega⟩)
theorem runD_hex:∀(s:List UInt8) (i:Nat) (l:List Nat),runD hexStep (l,false) s i=(hexG s i l).map fun p=>((p.1,true),p.2)
 | [],i,l=>rfl
 | c::r,i,l=>by
   unfold runD hexG
   by_cases hb:blankC c=true
   ·have hc:c≠62:=by rintro rfl;revert hb;decide
    rw[if_pos hb,if_neg hc,if_pos hb,runD_hex r]
   ·rw[if_neg hb]
    unfold hexStep
    by_cases hc:c=62
    ·rw[if_pos hc,if_pos hc];rfl
    ·rw[if_neg hc,if_neg hc,if_neg hb]
     by_cases hn:nibV c<0
     ·rw[if_pos hn,if_pos hn];rfl
     ·rw[if_neg hn,if_neg hn]
      exact runD_hex r _ _
theorem hexG_len:∀(s:List UInt8) (i:Nat) (l D:List Nat) (n:Nat),hexG s i l=some (D,n)→D.length≤l.length+s.length
 | [],i,l,D,n,h=>by cases h
 | c::r,i,l,D,n,h=>by
   unfold hexG at h
   split at h
   ·injection h with h;injection h with h1 h2;subst h1;simp
   ·split at h
    ·have:=hexG_len r _ _ _ _ h;simp;omega
    ·split at h
     ·cases h
     ·have:=hexG_len r _ _ _ _ h;simp at this⊢;omega
theorem readT_hex (s:List UInt8):readT hexStep hexOut ([],false) s=hexT s:=by
 unfold readT hexT
 split
 ·rfl
 ·rw[runD_hex]
  cases h:hexG s 0 []with
  | none=>rfl
  | some p=>
    obtain⟨D,n⟩:=p
    have h1:=hexG_len _ _ _ _ _ h
    have h2:=prs_length D
    simp only[Option.map_some,hexOut,if_true]
    rw[if_neg (by simp at h1;omega)]
theorem unhex_tells (H:B.H_ascii_Unhex T) (hwf:st.Wf) {s:List UInt8} (hs:s.length<1000000000000):Tells T st (.fn 211 [] []) [.str s] (toU (hexT s)):=by
 refine tells_of H.e H.f rfl ?_
 have hx:=Ext.new hwf (.cells 301 false [.int .i64 0,.bool false])
 have hg:hget ((st.nx,AObj.cells 301 false [.int .i64 0,.bool false])::st.h) st.nx=some (.cells 301 false [.int .i64 0,.bool false]):=by simp[hget_cons]
 have hr:=read_half H.ascii_read_ascii_half (st0:=st) hx (p:=st.nx) (I:=hexI st st.nx (st.nx+6)) (hexDec H.ascii_half_take H.ascii_read_ascii_half.ascii_read_ascii_half_1) (x0:=([],false)) (Nat.lt_succ_self _) (Nat.le_refl _)
  (fun s1 x1 g1=>⟨hx.trans x1,Nat.le_refl _,by omega,⟨by omega,.nilslice,g1,Grow.nil _ _,by simp[AV.nms]⟩,by simp,0,false,x1.get hx.wf hg,by omega,rfl,.inr ⟨rfl,rfl⟩⟩) rfl hs
 rw[readT_hex]at hr
 simp[B.ascii_Unhex,go_sem,NO.run]
 refine hr.mono ?_
 rintro _ s1 ⟨rfl,x1⟩
 simp[go_sem,toU,x1]
end Go.Ev

/- What a decoder of base 85 reads, told: the same as for digits. -/
namespace Go.Ev
open Go
variable {T : Tab} {st : St}
theorem readRound_tens {st0 st s1:St} {p:Nat} {σ:Type} {I:σ→St→Prop} {out:σ→List UInt8} {stepF:σ→UInt8→Option (Bool×σ)} {x0 x:σ} (hd:Dec T st0 p (st.nx+5) 217 222 I out stepF) (hp:p<st.nx) (h0:st0.nx≤st.nx) {s:List UInt8} (hs:s.length≤65536) {i:Nat} {c:UInt8} (hc:s[i]? =some c) (hb:blankC c=false)
  {O:AObj} (hO:Safe O) (hI:I x s1) (hK:Keeps (kR1 st.nx p 222 308 309 217 s) s1) (hat:hget s1.h (st.nx+7)=some (cO 0)) (hl:hget s1.h (st.nx+9)=some O) (hr:runD stepF x0 s 0=runD stepF x (s.drop i) i) (ho:(out x).length≤4*i)
  {e:Env} (g4:eget e 4= .ptr st.nx 0) (g5:eget e 5= .ptr (st.nx+1) 0) (g6:eget e 6= .ptr (st.nx+2) 0) (g7:eget e 7= .ptr (st.nx+3) 0) (g8:eget e 8= .ptr (st.nx+4) 0) (g10:eget e 10= .ptr (st.nx+6) 0) (g11:eget e 11= .ptr (st.nx+7) 0) (g12:eget e 12= .int .i64 (i:Int)) (g13:eget e 13= .int .u8 (c.toNat:Int)):
  Res (run T B.ascii_read_ascii_tens_l0 e s1) fun r _ s'=>hget s'.h (st.nx+9)=some O∧Ext st0 s'∧
   ((r= .norm∧Keeps (kR1 st.nx p 222 308 309 217 s) s'∧hget s'.h (st.nx+7)=some (cO 0)∧∃x',I x' s'∧runD stepF x0 s 0=runD stepF x' (s.drop (i+1)) (i+1)∧(out x').length≤4*(i+1))∨
    (r= .exit 0∧EndD stepF out x0 s st0 st.nx s')∨(r= .ret∧BadD stepF x0 s st.nx s')):=by
 have hil:i<s.length:=by
  rcases Nat.lt_or_ge i s.length with h | h
  ·exact h
  ·rw[List.getElem?_eq_none h]at hc;cases hc
 obtain⟨c',hc',hdr⟩:=idx_some hil
 rw[hc]at hc'
 cases hc'
 have k4:=rd_one (hK _ _ (by simp[kR1]):hget s1.h st.nx=some (.cells 308 true [.ptr p 0]))
 have k5:=rd_one (hK _ _ (by simp[kR1]):hget s1.h (st.nx+1)=some (.cells 309 true [.fn 217 [] []]))
 have k10:=rd_one (hK _ _ (by simp[kR1]):hget s1.h (st.nx+6)=some (.cells 310 true [.fn 222 [] [.ptr (st.nx+5) 0]]))
 have x1:=hd.ext _ _ hI
 rw[hdr,runD,if_neg (by simp[hb])]at hr
 have ht:=hd.take x s1 c hI (by omega)
 have hlen:=hd.len x c
 have ek:IntKind.i64.wrap ((i:Int)+1)=((i+1:Nat):Int):=wrap64' (by omega) (by omega)
 simp[B.ascii_read_ascii_tens_l0,go_sem,RO.run,g4,g5,g10,g13,k4,k5,k10]
 refine ht.mono ?_
 rintro v s2 ⟨x2,hf,hcase⟩
 have hK2:Keeps (kR1 st.nx p 222 308 309 217 s) s2:=fun m o h=>by
  obtain⟨a1,a2⟩:=kR1_safe m o h
  exact hf m o (by omega) (by omega) (hK m o h) a1
 have hat2:=hf _ _ (by omega) (by omega) hat (safe_loc _ _)
 have hl2:=hf _ _ (by omega) (by omega) hl hO
 cases hst:stepF x c with
 | none=>
   rw[hst]at hcase hr
   subst hcase
   have q6:hget s2.h (st.nx+2)=some (.cells 9 true [.str []]):=hK2 _ _ (by simp[kR1])
   have q7:hget s2.h (st.nx+3)=some (cO 0):=hK2 _ _ (by simp[kR1])
   have q8:hget s2.h (st.nx+4)=some (.cells 30 true [.int .i64 0]):=hK2 _ _ (by simp[kR1])
   have w6:=wr_one (v:= .str []) q6 rfl
   have y6:=x2.setNew q6 (o:= .cells 9 true [.str []]) (by omega)
   have p7:=(hget_hset_ne (o:= .cells 9 true [.str []]) q6 (show st.nx+2≠st.nx+3 by omega)).trans q7
   have w7:=wr_one (v:= .int .i64 0) p7 rfl
   have y7:=y6.setNew p7 (o:=cO 0) (by omega)
   have p8:=(hget_hset_ne (o:=cO 0) p7 (show st.nx+3≠st.nx+4 by omega)).trans ((hget_hset_ne (o:= .cells 9 true [.str []]) q6 (show st.nx+2≠st.nx+4 by omega)).trans q8)
   have w8:=wr_one (v:= .int .i64 5) p8 rfl
   have y8:=y7.setNew p8 (o:= .cells 30 true [.int .i64 5]) (by omega)
   have z9:=(hget_hset_ne (o:= .cells 30 true [.int .i64 5]) p8 (show st.nx+4≠st.nx+9 by omega)).trans ((hget_hset_ne (o:=cO 0) p7 (show st.nx+3≠st.nx+9 by omega)).trans ((hget_hset_ne (o:= .cells 9 true [.str []]) q6 (show st.nx+2≠st.nx+9 by omega)).trans hl2))
   have z2:=(hget_hset_ne (o:= .cells 30 true [.int .i64 5]) p8 (show st.nx+4≠st.nx+2 by omega)).trans ((hget_hset_ne (o:=cO 0) p7 (show st.nx+3≠st.nx+2 by omega)).trans (hget_hset_self q6))
   have z3:=(hget_hset_ne (o:= .cells 30 true [.int .i64 5]) p8 (show st.nx+4≠st.nx+3 by omega)).trans (hget_hset_self (o:=cO 0) p7)
   have z4:=hget_hset_self (o:= .cells 30 true [.int .i64 5]) p8
   simp only[cO]at w7 y7 w8 y8 p8 z9 z2 z3 z4
   simp[go_sem,WO.run,g6,g7,g8,w6,w7,w8]
   exact⟨z9,y8,hr,z2,z3,z4⟩
 | some bx=>
   obtain⟨b,x'⟩:=bx
   rw[hst]at hcase hr
   have hl4:=hlen _ _ hst
   cases b with
   | false=>
     obtain⟨rfl,hI2⟩:=hcase
     simp[go_sem]
     exact⟨hl2,x2,hK2,hat2,x',hI2,hr,by omega⟩
   | true=>
     obtain⟨rfl,hI2⟩:=hcase
     have w11:=wr_one (v:= .int .i64 ((i+1:Nat):Int)) hat2 rfl
     have f11:=Frm.set x2.wf hat2 (o:=cO ((i+1:Nat):Int))
     have q6:hget s2.h (st.nx+2)=some (.cells 9 true [.str []]):=hK2 _ _ (by simp[kR1])
     have q7:hget s2.h (st.nx+3)=some (cO 0):=hK2 _ _ (by simp[kR1])
     have q8:hget s2.h (st.nx+4)=some (.cells 30 true [.int .i64 0]):=hK2 _ _ (by simp[kR1])
     have y11:=x2.setNew hat2 (o:=cO ((i+1:Nat):Int)) (by omega)
     have hB:=hI2.frm f11 x2.wf (by intro m hm;simp at hm;subst hm;exact⟨by omega,fun o ho=>by rw[hat2]at ho;cases ho;exact safe_loc _ _⟩)
     have z9:=(hget_hset_ne (o:=cO ((i+1:Nat):Int)) hat2 (show st.nx+7≠st.nx+9 by omega)).trans hl2
     have z2:=(hget_hset_ne (o:=cO ((i+1:Nat):Int)) hat2 (show st.nx+7≠st.nx+2 by omega)).trans q6
     have z3:=(hget_hset_ne (o:=cO ((i+1:Nat):Int)) hat2 (show st.nx+7≠st.nx+3 by omega)).trans q7
     have z4:=(hget_hset_ne (o:=cO ((i+1:Nat):Int)) hat2 (show st.nx+7≠st.nx+4 by omega)).trans q8
     have z7:=hget_hset_self (o:=cO ((i+1:Nat):Int)) hat2
     obtain⟨w,hw⟩:∃w:Nat,w=i+1:=⟨_,rfl⟩
     rw[←hw]at ek w11 y11 hB z9 z2 z3 z4 z7 hr
     simp[go_sem,WO.run,g11,g12,ek,w11]
     exact⟨z9,y11,x',w,hr,by omega,by omega,by omega,hB,z7,z2,z3,z4⟩
theorem readLoop_tens (H:B.H_ascii_read_ascii_tens T) {st0 st sA:St} (hx:Ext st0 st) {p:Nat} {σ:Type} {I:σ→St→Prop} {out:σ→List UInt8} {stepF:σ→UInt8→Option (Bool×σ)} {x0:σ} (hd:Dec T st0 p (st.nx+5) 217 222 I out stepF) (hp:p<st.nx) (hp0:st0.nx≤p) {s:List UInt8} (hs:s.length≤65536)
  {E:Env} {assign:MCode} (has:assign= .seq (.reg [⟨some 12,none,.p (.mov (.t 22))⟩]) (.reg [⟨some 13,none,.p (.mov (.t 23))⟩])) (hI:I x0 sA) (ho0:out x0=[]) (hK:Keeps (kR1 st.nx p 222 308 309 217 s) sA) (hat:hget sA.h (st.nx+7)=some (cO 0)) (hl:hget sA.h (st.nx+9)=some (.loop .ready E [22,23] assign B.ascii_read_ascii_tens_l0)) (hA:sA.nx=st.nx+10)
  (g4:eget E 4= .ptr st.nx 0) (g5:eget E 5= .ptr (st.nx+1) 0) (g6:eget E 6= .ptr (st.nx+2) 0) (g7:eget E 7= .ptr (st.nx+3) 0) (g8:eget E 8= .ptr (st.nx+4) 0) (g10:eget E 10= .ptr (st.nx+6) 0) (g11:eget E 11= .ptr (st.nx+7) 0)
  {Q:St→Prop}
  (hQ:∀s1,Ext st0 s1→(hget s1.h (st.nx+9)=some (.loop .ready E [22,23] assign B.ascii_read_ascii_tens_l0)∧runD stepF x0 s 0=none∧hget s1.h (st.nx+2)=some (.cells 9 true [.str []])∧hget s1.h (st.nx+3)=some (cO 0)∧hget s1.h (st.nx+4)=some (.cells 30 true [.int .i64 0])∧hget s1.h (st.nx+7)=some (cO 0))∨
    (hget s1.h (st.nx+9)=some (.loop (.done (.exit 0)) E [22,23] assign B.ascii_read_ascii_tens_l0)∧EndD stepF out x0 s st0 st.nx s1)∨(hget s1.h (st.nx+9)=some (.loop (.done .ret) E [22,23] assign B.ascii_read_ascii_tens_l0)∧BadD stepF x0 s st.nx s1)→Q s1):
  CRes (call T (.fn 225 [] [.ptr (st.nx+8) 0]) [.yield (st.nx+9)] sA) fun _ s'=>Q s':=by
 have hxn:=hx.nx
 have hOsafe:∀z,Safe (.loop z E [22,23] assign B.ascii_read_ascii_tens_l0):=fun z=>safe_loop _ _ _ _ _
 refine solid_yields H.ascii_solid.ascii_solid_1 hs
  (fun i s1=>hget s1.h (st.nx+9)=some (.loop .ready E [22,23] assign B.ascii_read_ascii_tens_l0)∧Keeps (kR1 st.nx p 222 308 309 217 s) s1∧hget s1.h (st.nx+7)=some (cO 0)∧∃x,I x s1∧runD stepF x0 s 0=runD stepF x (s.drop i) i∧(out x).length≤4*i)
  (fun s1=>Ext st0 s1∧((hget s1.h (st.nx+9)=some (.loop (.done (.exit 0)) E [22,23] assign B.ascii_read_ascii_tens_l0)∧EndD stepF out x0 s st0 st.nx s1)∨(hget s1.h (st.nx+9)=some (.loop (.done .ret) E [22,23] assign B.ascii_read_ascii_tens_l0)∧BadD stepF x0 s st.nx s1)))
  ?_ ?_ ?_ ?_ ?_ ⟨hl,hK,hat,x0,hI,by simp,by simp[ho0]⟩ ?_
 ·rintro i s1 ⟨_,_,_,x,hIx,_⟩;exact(hd.ext _ _ hIx).wf
 ·rintro i s1 ⟨_,h2,_⟩;exact h2 _ _ (by simp[kR1])
 ·rintro i s1 s2 ⟨h1,h2,h3,x,hIx,h4,h5⟩ hx2
  have hw:=(hd.ext _ _ hIx).wf
  exact⟨hx2.get hw h1,h2.ext hx2 hw,hx2.get hw h3,x,hd.frm _ _ _ _ hIx (hx2.fr []) (by simp),h4,h5⟩
 ·rintro i s1 c hc hb ⟨h1,h2,h3,x,hIx,h4,h5⟩
  have hil:i<s.length:=by
   rcases Nat.lt_or_ge i s.length with h | h
   ·exact h
   ·rw[List.getElem?_eq_none h]at hc;cases hc
  obtain⟨c',hc',hdr⟩:=idx_some hil
  rw[hc]at hc'
  cases hc'
  rw[hdr,runD,if_pos hb]at h4
  exact⟨h1,h2,h3,x,hIx,h4,by omega⟩
 ·rintro i s1 c hc hb ⟨h1,h2,h3,x,hIx,h4,h5⟩
  refine cres_yield h1 rfl ?_
  have hw:=(hd.ext _ _ hIx).wf
  have f1:=Frm.set hw h1 (o:= .loop .busy E [22,23] assign B.ascii_read_ascii_tens_l0)
  have hI2:=hd.frm _ _ _ _ hIx f1 (by intro m hm;simp at hm;subst hm;exact⟨by omega,by omega,by omega,fun o ho=>by rw[h1]at ho;cases ho;exact hOsafe _⟩)
  have hK2:Keeps (kR1 st.nx p 222 308 309 217 s) ⟨hset s1.h (st.nx+9) (.loop .busy E [22,23] assign B.ascii_read_ascii_tens_l0),s1.nx⟩:=h2.frm f1 hw (by
   intro m o hm h
   obtain⟨_,hh⟩:=kR1_safe m o hm
   simp at h
   omega)
  have hat2:=(hget_hset_ne (m:=st.nx+7) (o:= .loop .busy E [22,23] assign B.ascii_read_ascii_tens_l0) h1 (by omega)).trans h3
  have hl2:=hget_hset_self (o:= .loop .busy E [22,23] assign B.ascii_read_ascii_tens_l0) h1
  have hr:=fun(e:Env) k4 k5 k6 k7 k8 k10 k11 k12 k13=>readRound_tens hd hp (by omega) hs hc hb (hOsafe .busy) hI2 hK2 hat2 hl2 h4 h5 (e:=e) k4 k5 k6 k7 k8 k10 k11 k12 k13
  subst has
  simp[go_sem]
  refine⟨h1,?_⟩
  refine(hr _ (by simp[go_sem,g4]) (by simp[go_sem,g5]) (by simp[go_sem,g6]) (by simp[go_sem,g7]) (by simp[go_sem,g8]) (by simp[go_sem,g10]) (by simp[go_sem,g11]) (by simp[go_sem]) (by simp[go_sem])).mono ?_
  rintro r e' s2 ⟨m9,y2,hcase⟩
  refine⟨m9,?_⟩
  rcases hcase with ⟨rfl,k1,k2,x',k3,k4,k5⟩ | ⟨rfl,k1⟩ | ⟨rfl,k1⟩
  ·have f2:=Frm.set y2.wf m9 (o:= .loop .ready E [22,23] (.seq (.reg [⟨some 12,none,.p (.mov (.t 22))⟩]) (.reg [⟨some 13,none,.p (.mov (.t 23))⟩])) B.ascii_read_ascii_tens_l0)
   refine .inl ⟨rfl,hget_hset_self m9,k1.frm f2 y2.wf (by
    intro m o hm h
    obtain⟨_,hh⟩:=kR1_safe m o hm
    simp at h
    omega),(hget_hset_ne m9 (by omega)).trans k2,x',hd.frm _ _ _ _ k3 f2 (by intro m hm;simp at hm;subst hm;exact⟨by omega,by omega,by omega,fun o ho=>by rw[m9]at ho;cases ho;exact hOsafe _⟩),k4,k5⟩
  ·exact .inr ⟨rfl,y2.setNew m9 (by omega),.inl ⟨hget_hset_self m9,k1.set y2.wf m9 (hOsafe _)⟩⟩
  ·exact .inr ⟨rfl,y2.setNew m9 (by omega),.inr ⟨hget_hset_self m9,k1.set m9⟩⟩
 ·intro s1 h
  have hlt:∀m,m<st.nx+10→hget (dropLoc sA.nx s1.h) m=hget s1.h m:=fun m hm=>hget_dropLoc_lt (by omega)
  rcases h with ⟨h1,h2,h3,x,hIx,h4,h5⟩ | ⟨y,⟨h1,x,k,a1,a2,a3,a4,a5,a6,a7,a8,a9⟩ | ⟨h1,a1,a2,a3,a4⟩⟩
  ·refine hQ _ ((hd.ext _ _ hIx).dropGe (by omega)) (.inl ⟨by rw[hlt _ (by omega)];exact h1,by rw[h4,List.drop_length];rfl,?_⟩)
   simp only
   rw[hlt _ (by omega),hlt _ (by omega),hlt _ (by omega),hlt _ (by omega)]
   exact⟨h2 _ _ (by simp[kR1]),h2 _ _ (by simp[kR1]),h2 _ _ (by simp[kR1]),h3⟩
  ·refine hQ _ (y.dropGe (by omega)) (.inr (.inl ⟨by rw[hlt _ (by omega)];exact h1,x,k,a1,a2,a3,a4,a5.dropLoc y.wf,?_⟩))
   simp only
   rw[hlt _ (by omega),hlt _ (by omega),hlt _ (by omega),hlt _ (by omega)]
   exact⟨a6,a7,a8,a9⟩
  ·refine hQ _ (y.dropGe (by omega)) (.inr (.inr ⟨by rw[hlt _ (by omega)];exact h1,a1,?_⟩))
   simp only
   rw[hlt _ (by omega),hlt _ (by omega),hlt _ (by omega)]
   exact⟨a2,a3,a4⟩
theorem read_tens (H:B.H_ascii_read_ascii_tens T) {st0:St} (hx:Ext st0 st) {p:Nat} {σ:Type} {I:σ→St→Prop} {out:σ→List UInt8} {stepF:σ→UInt8→Option (Bool×σ)} {x0:σ} (hd:Dec T st0 p (st.nx+5) 217 222 I out stepF) (hp:p<st.nx) (hp0:st0.nx≤p)
  (h0:∀s,Ext st s→hget s.h (st.nx+5)=some (.cells 35 false [.nilslice])→I x0 s) (ho0:out x0=[]) {s:List UInt8} (hs:s.length<1000000000000):
  CRes (call T (.fn 216 [] []) [.str s,.ptr p 0,.fn 217 [] []] st) fun v s'=>v=toU (readT stepF out x0 s)∧Ext st0 s':=by
 refine call_res H.e H.f rfl ?_
 have hxe:=hx.wf
 have a4:Ext st ⟨(st.nx+4,AObj.cells 30 true [.int .i64 0])::(st.nx+3,.cells 3 true [.int .i64 0])::(st.nx+2,.cells 9 true [.str []])::(st.nx+1,.cells 309 true [.fn 217 [] []])::(st.nx,.cells 308 true [.ptr p 0])::st.h,st.nx+5⟩:=by
  have a0:=Ext.new hxe (.cells 308 true [.ptr p 0])
  have a1:=a0.trans (Ext.new a0.wf (.cells 309 true [.fn 217 [] []]))
  have a2:=a1.trans (Ext.new a1.wf (.cells 9 true [.str []]))
  have a3:=a2.trans (Ext.new a2.wf (.cells 3 true [.int .i64 0]))
  have a4:=a3.trans (Ext.new a3.wf (.cells 30 true [.int .i64 0]))
  simpa only[Nat.add_assoc,Nat.reduceAdd] using a4
 have a8:Ext st ⟨(st.nx+7,cO 0)::(st.nx+6,AObj.cells 310 true [.fn 222 [] [.ptr (st.nx+5) 0]])::(st.nx+5,.cells 35 false [.nilslice])::(st.nx+4,AObj.cells 30 true [.int .i64 0])::(st.nx+3,.cells 3 true [.int .i64 0])::(st.nx+2,.cells 9 true [.str []])::(st.nx+1,.cells 309 true [.fn 217 [] []])::(st.nx,.cells 308 true [.ptr p 0])::st.h,st.nx+8⟩:=by
  have a5:=a4.trans (Ext.new a4.wf (.cells 35 false [.nilslice]))
  have a6:=a5.trans (Ext.new a5.wf (.cells 310 true [.fn 222 [] [.ptr (st.nx+5) 0]]))
  have a7:=a6.trans (Ext.new a6.wf (cO 0))
  simpa only[Nat.add_assoc,Nat.reduceAdd] using a7
 obtain⟨RT,hRT⟩:∃RT,RT=readT stepF out x0 s:=⟨_,rfl⟩
 rw[←hRT]
 unfold readT at hRT
 by_cases h:65536<s.length
 ·have h':(65536:Int)<s.length:=by omega
  rw[if_pos h]at hRT
  subst hRT
  simp[B.ascii_read_ascii_tens,go_sem,NO.run,WO.run,RO.run,Nat.add_assoc,h,h',wrCells,hget_cons,hset_cons,splice,rdCell,fresults,resVals,resVal,toU]
  have g4:hget ((st.nx+4,AObj.cells 30 true [.int .i64 0])::(st.nx+3,.cells 3 true [.int .i64 0])::(st.nx+2,.cells 9 true [.str []])::(st.nx+1,.cells 309 true [.fn 217 [] []])::(st.nx,.cells 308 true [.ptr p 0])::st.h) (st.nx+4)=some (.cells 30 true [.int .i64 0]):=by simp[hget_cons]
  have y:=a4.setNew (st:=st) g4 (o:= .cells 30 true [.int .i64 3]) (by omega)
  simp[hset_cons]at y
  exact(hx.trans y).dropGe hx.nx
 ·have h':¬(65536:Int)<s.length:=by omega
  rw[if_neg h]at hRT
  simp[B.ascii_read_ascii_tens,go_sem,NO.run,WO.run,RO.run,Nat.add_assoc,h,h',wrCells,hget_cons,hset_cons,splice,rdCell]
  refine solid_call H.ascii_solid a8.wf ?_
  simp[go_sem]
  refine res_rangeFunc ?_
  have a9:=a8.trans (Ext.new a8.wf (.cells 9 false [.str s]))
  simp only[Nat.add_assoc,Nat.reduceAdd]at a9
  simp only[Nat.add_assoc,Nat.reduceAdd]
  generalize hE:([(21,AV.fn 225 [] [AV.ptr (st.nx+8) 0]),(20,AV.str s),(11,AV.ptr (st.nx+7) 0),(10,AV.ptr (st.nx+6) 0),(19,AV.fn 222 [] [AV.ptr (st.nx+5) 0]),(9,AV.ptr (st.nx+5) 0),(18,AV.bool false),(17,AV.int IntKind.i64 ↑s.length),(16,AV.str s),(8,AV.ptr (st.nx+4) 0),(7,AV.ptr (st.nx+3) 0),(6,AV.ptr (st.nx+2) 0),(5,AV.ptr (st.nx+1) 0),(4,AV.ptr st.nx 0),(0,AV.str s),(1,AV.ptr p 0),(2,AV.fn 217 [] [])]:Env)=E
  have g21:AO.ev E (.t 21)= .fn 225 [] [.ptr (st.nx+8) 0]:=by rw[←hE];simp[go_sem]
  have g4:eget E 4= .ptr st.nx 0:=by rw[←hE];simp[go_sem]
  have g5:eget E 5= .ptr (st.nx+1) 0:=by rw[←hE];simp[go_sem]
  have g6:eget E 6= .ptr (st.nx+2) 0:=by rw[←hE];simp[go_sem]
  have g7:eget E 7= .ptr (st.nx+3) 0:=by rw[←hE];simp[go_sem]
  have g8:eget E 8= .ptr (st.nx+4) 0:=by rw[←hE];simp[go_sem]
  have g9:eget E 9= .ptr (st.nx+5) 0:=by rw[←hE];simp[go_sem]
  have g10:eget E 10= .ptr (st.nx+6) 0:=by rw[←hE];simp[go_sem]
  have g11:eget E 11= .ptr (st.nx+7) 0:=by rw[←hE];simp[go_sem]
  clear hE
  rw[g21]
  generalize has:((MCode.reg [{dst:=some 12,guard:=none,op:=MO.p (PO.mov (AO.t 22))}]).seq (MCode.reg [{dst:=some 13,guard:=none,op:=MO.p (PO.mov (AO.t 23))}]))=assign
  have aA:=a9.trans (Ext.new a9.wf (.loop .ready E [22,23] assign B.ascii_read_ascii_tens_l0))
  simp only[Nat.add_assoc,Nat.reduceAdd]at aA
  have hxn:=hx.nx
  refine(readLoop_tens H hx hd hp hp0 (by omega) has.symm (h0 _ aA (by simp[hget_cons])) ho0 ?_ (by simp[hget_cons]) (by simp[hget_cons]) rfl g4 g5 g6 g7 g8 g10 g11
   (Q:=fun s1=>Ext st0 s1∧((hget s1.h (st.nx+9)=some (.loop .ready E [22,23] assign B.ascii_read_ascii_tens_l0)∧runD stepF x0 s 0=none∧hget s1.h (st.nx+2)=some (.cells 9 true [.str []])∧hget s1.h (st.nx+3)=some (cO 0)∧hget s1.h (st.nx+4)=some (.cells 30 true [.int .i64 0])∧hget s1.h (st.nx+7)=some (cO 0))∨
   (hget s1.h (st.nx+9)=some (.loop (.done (.exit 0)) E [22,23] assign B.ascii_read_ascii_tens_l0)∧EndD stepF out x0 s st0 st.nx s1)∨(hget s1.h (st.nx+9)=some (.loop (.done .ret) E [22,23] assign B.ascii_read_ascii_tens_l0)∧BadD stepF x0 s st.nx s1))) (fun s1 h1 h2=>⟨h1,h2⟩)).mono ?_
  ·intro m o hm
   simp only[kR1,List.mem_cons,Prod.mk.injEq,List.not_mem_nil,or_false]at hm
   rcases hm with ⟨rfl,rfl⟩ | ⟨rfl,rfl⟩ | ⟨rfl,rfl⟩ | ⟨rfl,rfl⟩ | ⟨rfl,rfl⟩ | ⟨rfl,rfl⟩ | ⟨rfl,rfl⟩ <;> simp[hget_cons,cO]
  ·rintro _ s1 ⟨y,hcase⟩
   have hdl:∀m,m≠st.nx+9→hget (hdel s1.h (st.nx+9)) m=hget s1.h m:=fun m hm=>by rw[hget_hdel,if_neg (by omega)]
   have yd:∀o,hget s1.h (st.nx+9)=some o→Ext st0 ⟨hdel s1.h (st.nx+9),s1.nx⟩:=fun o ho=>y.frm (Frm.hdel y.wf _) (by intro m hm;simp at hm;omega)
   rcases hcase with ⟨hl,hn,k2,k3,k4,k7⟩ | ⟨hl,x,k,b1,b2,b3,b4,b5,b6,b7,b8,b9⟩ | ⟨hl,hn,k2,k3,k4⟩
   ·refine .inl ⟨hl,?_⟩
    rw[hn]at hRT
    simp only at hRT
    subst hRT
    have y1:=yd _ hl
    obtain⟨h1,h2,h3,w1,w2,w3,r1,r2,r3,y2,_⟩:=store3 (n:=st.nx) y1 (by omega) ((hdl _ (by omega)).trans k2) ((hdl _ (by omega)).trans k3) ((hdl _ (by omega)).trans k4) [] 0 5
    have r7:=rd_one ((hdl (st.nx+7) (by omega)).trans k7)
    simp[go_sem,RO.run,WO.run,g6,g7,g8,g9,g11,r7,w1,w2,w3,B.ascii_read_ascii_tens,fresults,resVals,resVal,r1,r2,r3,toU]
    exact y2.dropGe hx.nx
   ·refine .inr ⟨_,hl,?_⟩
    rw[b1]at hRT
    simp only at hRT
    have y1:=yd _ hl
    have B1:Bx st0 ⟨hdel s1.h (st.nx+9),s1.nx⟩ (st.nx+5) (out x):=b5.frm (Frm.hdel y.wf _) y.wf (by intro m hm;simp at hm;subst hm;exact⟨by omega,fun o ho=>by rw[hl]at ho;cases ho;exact safe_loop _ _ _ _ _⟩)
    have q2:=(hdl (st.nx+2) (by omega)).trans b7
    have q3:=(hdl (st.nx+3) (by omega)).trans b8
    have q4:=(hdl (st.nx+4) (by omega)).trans b9
    have q7:=(hdl (st.nx+7) (by omega)).trans b6
    generalize hS:(⟨hdel s1.h (st.nx+9),s1.nx⟩:St)=s3 at y1 B1⊢
    rw[show hdel s1.h (st.nx+9)=s3.h by rw[←hS]]at q2 q3 q4 q7
    clear hS hdl yd b5 b6 b7 b8 b9 hl y
    obtain⟨_,v,v1,v2,v3⟩:=B1
    have r9:=rd_one v1
    have r7:=rd_one q7
    have hk0:¬(k:Int)=0:=by omega
    have hk0':¬k=0:=by omega
    have main:∀vv:AV,v=vv→RO.run (fun a=>match a with | .t 38=>vv | _=> .bot) s3.h (.b2s (.t 38))=some (.str (out x)):=fun vv h=>by subst h;exact v2.b2s rfl
    have fin:∀(e:Env),eget e 6= .ptr (st.nx+2) 0→eget e 7= .ptr (st.nx+3) 0→eget e 8= .ptr (st.nx+4) 0→eget e 11= .ptr (st.nx+7) 0→True:=fun _ _ _ _ _=>trivial
    have hb:=bounded_tells H.ascii_bounded y1.wf (s:=out x)
    have hform:(v= .nilslice∧out x=[])∨∃n,v= .slice n 0 (out x).length .full∧rdCells s3.h n 0 (out x).length=some (u8s (out x)):=by
     rcases v2.form with h | ⟨n,h1,h2,_⟩
     ·exact .inl h
     ·exact .inr ⟨n,h1,h2⟩
    clear v1 v2 v3 main fin
    generalize out x=o at*
    have tail:∀(K:AV→St→Prop),(∀s5,Ext s3 s5→K (.tuple [.str (if 65536<o.length then []else o),.int .i64 (if 65536<o.length then 3 else 0)]) s5)→CRes (call T (.fn 220 [] []) [.str o] s3) K:=fun K h=>hb.use h
    clear hb
    have steps:∀s5,Ext s3 s5→Ext st0 s5∧hget s5.h (st.nx+2)=some (.cells 9 true [.str []])∧hget s5.h (st.nx+3)=some (cO 0)∧hget s5.h (st.nx+4)=some (.cells 30 true [.int .i64 0])∧hget s5.h (st.nx+7)=some (cO k):=fun s5 x5=>
     ⟨y1.trans x5,x5.get y1.wf q2,x5.get y1.wf q3,x5.get y1.wf q4,x5.get y1.wf q7⟩
    by_cases hlong:65536<o.length
    ·rw[if_pos hlong]at hRT
     subst hRT
     have done:∀s5,Ext s3 s5→∃h1 h2 h3,wrCells s5.h (st.nx+2) 0 [.str []]=some h1∧wrCells h1 (st.nx+3) 0 [.int .i64 0]=some h2∧wrCells h2 (st.nx+4) 0 [.int .i64 3]=some h3∧rdCell h3 (st.nx+2) 0=some (.str [])∧rdCell h3 (st.nx+3) 0=some (.int .i64 0)∧rdCell h3 (st.nx+4) 0=some (.int .i64 3)∧Ext st0 ⟨h3,s5.nx⟩:=fun s5 x5=>by
      obtain⟨z1,z2,z3,z4,z5⟩:=steps s5 x5
      obtain⟨h1,h2,h3,w1,w2,w3,r1,r2,r3,y2,_⟩:=store3 (n:=st.nx) z1 (by omega) z2 z3 z4 [] 0 3
      exact⟨h1,h2,h3,w1,w2,w3,r1,r2,r3,y2⟩
     rcases hform with ⟨e1,e2⟩ | ⟨n,e1,e2⟩
     ·rw[e2]at hlong;simp at hlong
     ·subst e1
      simp[go_sem,RO.run,g9,g11,r7,r9,hk0,hk0',e2,toBytes_u8s]
      refine tail _ fun s5 x5=> ?_
      obtain⟨h1,h2,h3,w1,w2,w3,r1,r2,r3,y2⟩:=done s5 x5
      simp[go_sem,WO.run,g6,g7,g8,g11,hlong,w1,w2,w3,B.ascii_read_ascii_tens,fresults,resVals,resVal,RO.run,r1,r2,r3,toU]
      exact y2.dropGe hx.nx
    ·rw[if_neg hlong]at hRT
     subst hRT
     have done:∀s5,Ext s3 s5→rdCell s5.h (st.nx+7) 0=some (.int .i64 (k:Int))∧∃h1 h2 h3,wrCells s5.h (st.nx+2) 0 [.str o]=some h1∧rdCell h1 (st.nx+7) 0=some (.int .i64 (k:Int))∧wrCells h1 (st.nx+3) 0 [.int .i64 (k:Int)]=some h2∧wrCells h2 (st.nx+4) 0 [.int .i64 0]=some h3∧rdCell h3 (st.nx+2) 0=some (.str o)∧rdCell h3 (st.nx+3) 0=some (.int .i64 (k:Int))∧rdCell h3 (st.nx+4) 0=some (.int .i64 0)∧Ext st0 ⟨h3,s5.nx+6⟩:=fun s5 x5=>by
      obtain⟨z1,z2,z3,z4,z5⟩:=steps s5 x5
      obtain⟨h1,h2,h3,w1,w2,w3,r1,r2,r3,y2,_,y3⟩:=store3 (n:=st.nx) z1 (by omega) z2 z3 z4 o (k:Int) 0
      exact⟨rd_one z5,h1,h2,h3,w1,rd_one ((y3 _ (by omega)).trans z5),w2,w3,r1,r2,r3,y2.trans (Ext.aside y2.wf 6)⟩
     have rest:∀s5,Ext s3 s5→∀e:Env,True:=fun _ _ _=>trivial
     rcases hform with ⟨e1,e2⟩ | ⟨n,e1,e2⟩
     ·subst e1
      subst e2
      simp[go_sem,RO.run,g9,g11,r7,r9,hk0,hk0']
      refine tail _ fun s5 x5=> ?_
      obtain⟨r5,h1,h2,h3,w1,rh1,w2,w3,r1,r2,r3,y2⟩:=done s5 x5
      simp[go_sem,WO.run,reI,g6,g7,g8,g11,r5,rh1,w1,w2,w3,B.ascii_read_ascii_tens,fresults,resVals,resVal,RO.run,r1,r2,r3,toU]
      exact⟨rfl,y2.dropGe hx.nx⟩
     ·subst e1
      simp[go_sem,RO.run,g9,g11,r7,r9,hk0,hk0',e2,toBytes_u8s]
      refine tail _ fun s5 x5=> ?_
      obtain⟨r5,h1,h2,h3,w1,rh1,w2,w3,r1,r2,r3,y2⟩:=done s5 x5
      simp[go_sem,WO.run,reI,g6,g7,g8,g11,hlong,r5,rh1,w1,w2,w3,B.ascii_read_ascii_tens,fresults,resVals,resVal,RO.run,r1,r2,r3,toU]
      exact⟨rfl,y2.dropGe hx.nx⟩
   ·refine .inr ⟨_,hl,?_⟩
    rw[hn]at hRT
    simp only at hRT
    subst hRT
    have y1:=yd _ hl
    have r2:=rd_one ((hdl (st.nx+2) (by omega)).trans k2)
    have r3:=rd_one ((hdl (st.nx+3) (by omega)).trans k3)
    have r4:=rd_one ((hdl (st.nx+4) (by omega)).trans k4)
    simp[go_sem,RO.run,g6,g7,g8,B.ascii_read_ascii_tens,fresults,resVals,resVal,r2,r3,r4,toU]
    exact y1.dropGe hx.nx
end Go.Ev

/- Numbers in base 85. -/
namespace Go.Ev
open Go
variable {T : Tab} {st : St}
def d85 (n:Nat) (c:UInt8):Nat:=n*85+(c.toNat - 33)
def v85:List UInt8→Nat→Nat
 | [],n=>n
 | c::r,n=>v85 r (d85 n c)
theorem v85_nil (n:Nat):v85 [] n=n:=rfl
theorem v85_cons (c:UInt8) (r:List UInt8) (n:Nat):v85 (c::r) n=v85 r (d85 n c):=rfl
def oct4 (n:Nat):List UInt8:=[UInt8.ofNat (n / 16777216),UInt8.ofNat (n / 65536),UInt8.ofNat (n / 256),UInt8.ofNat n]
theorem v85_snoc (s:List UInt8):∀(n:Nat) (c:UInt8),v85 (s++[c]) n=d85 (v85 s n) c:=by
 induction s with
 | nil=>intro n c;rw[List.nil_append,v85_cons,v85_nil,v85_nil]
 | cons a r ih=>intro n c;rw[List.cons_append,v85_cons,v85_cons,ih]
theorem v85_lt (s:List UInt8):∀(n:Nat),v85 s n<(n+4)*85 ^ s.length:=by
 induction s with
 | nil=>intro n;rw[v85_nil,List.length_nil,Nat.pow_zero];omega
 | cons c r ih=>
   intro n
   have h:=ih (d85 n c)
   have hc:=c.toNat_lt
   rw[v85_cons,List.length_cons,Nat.pow_succ]
   refine Nat.lt_of_lt_of_le h ?_
   rw[Nat.mul_comm (85 ^ r.length) 85,←Nat.mul_assoc]
   exact Nat.mul_le_mul_right _ (by unfold d85;omega)
theorem v85_bnd {s:List UInt8} (h:s.length≤5):v85 s 0<17748212500:=by
 have h1:=v85_lt s 0
 have h2:85 ^ s.length≤85 ^ 5:=Nat.pow_le_pow_right (by omega) h
 have h3:(0+4)*85 ^ s.length≤(0+4)*85 ^ 5:=Nat.mul_le_mul_left _ h2
 omega
theorem wrapu64 {n:Int} (h0:0≤n) (h1:n<18446744073709551616):IntKind.u64.wrap n=n:=by
 simp[IntKind.wrap,IntKind.signed,IntKind.bits];omega
theorem u8_of (n:Nat):IntKind.u8.wrap (n:Int)=((UInt8.ofNat n).toNat:Int):=by
 rw[UInt8.toNat_ofNat']
 simp[IntKind.wrap,IntKind.signed,IntKind.bits]
theorem ishr_u64 {a b:Nat} (hb:b≤64):ishr .u64 (a:Int) (b:Int)=((a / 2 ^ b:Nat):Int):=by
 rw[ishr_nat (by omega) hb];push_cast;rfl
theorem fold_loop {l:List UInt8} (hl:l.length≤5) (hc:∀c∈l,33≤c.toNat) {n:Nat} {cp:Cap} {m:AV} (hrd:rdCells st.h n 0 l.length=some (u8s l)):∀(j i:Nat) (e:Env),i+j=l.length→eget e 2=m→eget e 4= .int .u64 ((v85 (l.take i) 0:Nat):Int)→eget e 7= .slice n 0 l.length cp→eget e 8= .int .i64 (l.length:Int)→eget e 9= .int .i64 (i:Int)→
  Res (run T (.loop B.ascii_fold_l0) e st) fun x e' s'=>x= .exit 0∧s'=st∧eget e' 2=m∧eget e' 4= .int .u64 ((v85 l 0:Nat):Int):=by
 intro j
 induction j with
 | zero=>
   intro i e hi g2 g4 g7 g8 g9
   have hil:i=l.length:=by omega
   subst hil
   rw[List.take_length]at g4
   rw[run_loop]
   simp[B.ascii_fold_l0,go_sem,g2,g4,g7,g8,g9]
 | succ j ih=>
   intro i e hi g2 g4 g7 g8 g9
   have h1:(i:Int)<l.length:=by omega
   obtain⟨c,hcc,hd⟩:=idx_some (s:=l) (i:=i) (by omega)
   have c33:=hc c (List.mem_of_getElem? hcc)
   have cl:=c.toNat_lt
   have hr:rdCell st.h n i=some (.int .u8 (c.toNat:Int)):=by
    have:=rdCells_get hrd (i:=i) (by omega)
    rw[Nat.zero_add]at this
    rw[this];simp[u8s,hcc]
   have hsn:=v85_snoc (l.take i) 0 c
   rw[←take_snoc hcc]at hsn
   have hb:=v85_bnd (s:=l.take i) (by simp;omega)
   have ih2:=fun e'=>ih (i+1) e' (by omega)
   rw[hsn]at ih2
   generalize v85 (l.take i) 0=N at*
   unfold d85 at ih2
   obtain⟨k,hk⟩:∃k:Nat,k=c.toNat - 33:=⟨_,rfl⟩
   obtain⟨w,hw⟩:∃w:Nat,w=N*85+k:=⟨_,rfl⟩
   rw[←hk,←hw]at ih2
   have w1:IntKind.u64.wrap ((N:Int)*85)=(N:Int)*85:=wrapu64 (by omega) (by omega)
   have w2:IntKind.u8.wrap ((c.toNat:Int) - 33)=(k:Int):=by rw[wrap_u8 (by omega) (by omega)];omega
   have w3:IntKind.u64.wrap (k:Int)=(k:Int):=wrapu64 (by omega) (by omega)
   have w4:IntKind.u64.wrap ((N:Int)*85+(k:Int))=(w:Int):=by rw[wrapu64 (by omega) (by omega)];omega
   have ek:IntKind.i64.wrap ((i:Int)+1)=((i+1:Nat):Int):=wrap64' (by omega) (by omega)
   have hil:i<l.length:=by omega
   clear ih hi hd hsn hb hcc c33 cl hk hw
   rw[run_loop]
   simp[B.ascii_fold_l0,go_sem,RO.run,g2,g4,g7,g8,g9,h1,hil,hr,w1,w2,w3,w4]
   exact ih2 _ (by simp[go_sem,g2]) (by simp[go_sem,w4]) (by simp[go_sem,g7]) (by simp[go_sem,g8]) (by simp[go_sem,ek])
theorem fold_tells (H:B.H_ascii_fold T) (hwf:st.Wf) {l:List UInt8} (hl:l.length≤5) (hc:∀c∈l,33≤c.toNat) {n:Nat} {cp:Cap} (hrd:rdCells st.h n 0 l.length=some (u8s l)):
  Tells T st (.fn 224 [] []) [.slice n 0 l.length cp] (.tuple [.agg (u8s (oct4 (v85 l 0))),.bool (decide (v85 l 0<4294967296))]):=by
 refine tells_of H.e H.f rfl ?_
 have hx:=Ext.new hwf (.cells 318 true [.int .u8 0,.int .u8 0,.int .u8 0,.int .u8 0])
 have hrd2:rdCells ((st.nx,AObj.cells 318 true [.int .u8 0,.int .u8 0,.int .u8 0,.int .u8 0])::st.h) n 0 l.length=some (u8s l):=by
  rw[←hrd]
  obtain⟨o,ho⟩:=rdCells_some hrd
  unfold rdCells
  rw[hx.get hwf ho,ho]
 have hg:hget ((st.nx,AObj.cells 318 true [.int .u8 0,.int .u8 0,.int .u8 0,.int .u8 0])::st.h) st.nx=some (.cells 318 true [.int .u8 0,.int .u8 0,.int .u8 0,.int .u8 0]):=by simp[hget_cons]
 simp[B.ascii_fold,go_sem,NO.run]
 refine(fold_loop (st:=⟨(st.nx,AObj.cells 318 true [.int .u8 0,.int .u8 0,.int .u8 0,.int .u8 0])::st.h,st.nx+1⟩) hl hc hrd2 (cp:=cp) (m:= .ptr st.nx 0) l.length 0 _ (by simp) (by simp[go_sem]) (by simp[go_sem,v85_nil]) (by simp[go_sem]) (by simp[go_sem]) (by simp[go_sem])).mono ?_
 rintro x e s1 ⟨rfl,rfl,g2,g4⟩
 generalize v85 l 0=N at*
 have s1:ishr .u64 (N:Int) 24=((N / 16777216:Nat):Int):=ishr_u64 (b:=24) (by omega)
 have s2:ishr .u64 (N:Int) 16=((N / 65536:Nat):Int):=ishr_u64 (b:=16) (by omega)
 have s3:ishr .u64 (N:Int) 8=((N / 256:Nat):Int):=ishr_u64 (b:=8) (by omega)
 have q1:=u8_of (N / 16777216)
 have q2:=u8_of (N / 65536)
 have q3:=u8_of (N / 256)
 have q4:=u8_of N
 have hlt:((N:Int)<4294967296)=(N<4294967296):=by simp;omega
 have y:=hx.setNew (st:=st) hg (o:= .cells 318 true (u8s (oct4 N))) (by omega)
 simp only[oct4,u8s,List.map_cons,List.map_nil]at y⊢
 generalize N / 16777216=A at*
 generalize N / 65536=B at*
 generalize N / 256=C at*
 generalize UInt8.ofNat A=a at*
 generalize UInt8.ofNat B=b at*
 generalize UInt8.ofNat C=c at*
 generalize UInt8.ofNat N=d at*
 simp[go_sem,g2,g4,s1,s2,s3,q1,q2,q3,q4,WO.run,wrCells,hget_cons,hset_cons,splice,fresults,resVals,resVal,RO.run,rdCells,hlt]
 simp[hset_cons]at y
 exact y
end Go.Ev

/- ascii.Unbase85: its steps. -/
namespace Go.Ev
open Go
variable {T : Tab} {st : St}
theorem Grow.app2 {st0 s1:St} (hF:st0.nx≤s1.nx) (hw:s1.Wf) {v x:AV} {l m:List UInt8} (a:Grow st0 s1 v l) (hx:Rd s1.h x 1 m.length (u8s m)) (hl:l.length+m.length<35184372088831):
  CRes (aappend 5 1 1 s1 v x) fun v' s=>Grow st0 s v' (l++m)∧Frm v.nms s1 s∧Mine v.nms s1 v':=by
 obtain⟨a1,a2,a3⟩:=a
 have hap:=Sl.append (x:=x) (j:=m.length) (new:=u8s m) (b:=1) (Frm.refl hw v.nms) (fun n h=> .inl h) a1 hx (by simp[u8s,AV.sc]) (by omega) (by omega) (.inr fun n c h=>a3 _ _ _ _ h)
 refine(hap.also (fun _ _ h=>aappend_nk h a3)).mono ?_
 rintro v2 s2 ⟨⟨k1,k2,k3,_⟩,hnk2⟩
 refine⟨⟨by rw[u8s_append,List.length_append];exact k1,fun n hn=> ?_,hnk2⟩,k2,k3⟩
 rcases k3 n hn with h | h
 ·exact a2 n h
 ·exact .inr (Nat.le_trans hF h)
theorem Grow.push2 {st0 s1:St} (hF:st0.nx≤s1.nx) (hw:s1.Wf) {v:AV} {l:List UInt8} {c:UInt8} (a:Grow st0 s1 v l) (hl:l.length<35184372088830):
  CRes (aappend 5 1 1 ⟨(s1.nx,.cells 5 false [.int .u8 (c.toNat:Int)])::s1.h,s1.nx+1⟩ v (.slice s1.nx 0 1 (.known 1))) fun v' s=>Grow st0 s v' (l++[c])∧Frm v.nms s1 s∧Mine v.nms s1 v':=by
 have xa:=Ext.new hw (.cells 5 false [.int .u8 (c.toNat:Int)])
 refine(Grow.app2 (Nat.le_trans hF xa.nx) xa.wf (m:=[c]) (a.ext xa hw) (.inr ⟨s1.nx,0,_,rfl,rd_all (ty:=5) (l:=false) (by simp[hget_cons,u8s]) rfl⟩) (by simp;omega)).mono ?_
 rintro v2 s2 ⟨h1,h2,h3⟩
 exact⟨h1,(xa.fr v.nms).trans h2 (fun n h=> .inl h),fun n hn=>(h3 n hn).imp id (fun h=>by simp at h;omega)⟩
structure BV (ty off:Nat) (rest:List AV) (st0 s:St) (q:Nat) (v:AV) (l:List UInt8):Prop where
 ge:st0.nx≤q
 get:hget s.h q=some (.cells ty false (v::rest))
 grow:Grow st0 s v l
 ap:q∉v.nms
theorem BV.bx {st0 s:St} {q:Nat} {v:AV} {l:List UInt8} (b:BV 35 0 [] st0 s q v l):Bx st0 s q l:=⟨b.ge,v,b.get,b.grow,b.ap⟩
theorem BV.frm {ty off:Nat} {rest:List AV} {st0 s s':St} {q:Nat} {v:AV} {l:List UInt8} {S:List Nat} (b:BV ty off rest st0 s q v l) (f:Frm S s s') (hw:s.Wf) (h1:q∉S) (h2:∀n∈v.nms,n∉S):BV ty off rest st0 s' q v l:=
 ⟨b.ge,f.get hw b.get h1,b.grow.frm f hw h2,b.ap⟩
theorem BV.ext {ty off:Nat} {rest:List AV} {st0 s s':St} {q:Nat} {v:AV} {l:List UInt8} (b:BV ty off rest st0 s q v l) (f:Ext s s') (hw:s.Wf):BV ty off rest st0 s' q v l:=b.frm (f.fr []) hw (by simp) (by simp)
theorem BV.dropLoc {ty off:Nat} {rest:List AV} {st0 s:St} {q c:Nat} {v:AV} {l:List UInt8} (b:BV ty off rest st0 s q v l) (hw:s.Wf):BV ty off rest st0 ⟨Go.Ev.dropLoc c s.h,s.nx⟩ q v l:=
 ⟨b.ge,hget_dropLoc_keep hw b.get rfl,b.grow.dropLoc hw,b.ap⟩
theorem Grow.notint {st0 s:St} {v:AV} {l:List UInt8} (a:Grow st0 s v l):∀k n,v≠.int k n:=by
 rcases a.form with ⟨e,_⟩ | ⟨n,e,_⟩ <;> rw[e] <;> simp
theorem Grow.lt {st0 s:St} {v:AV} {l:List UInt8} (a:Grow st0 s v l) (hw:s.Wf):∀n∈v.nms,n<s.nx:=fun n hn=>by
 rcases a.nms hn with ⟨ty,h⟩ | h <;> exact hw.lt _ _ h
theorem emitV (H:B.H_ascii_read_ascii_tens_1 T) {st0:St} (hx:Ext st0 st) {q:Nat} {vb:AV} {l m:List UInt8} {x:AV} (hm:Rd st.h x 1 m.length (u8s m)) (b:BV 35 0 [] st0 st q vb l) (hl:l.length+m.length<35184372088831):
  CRes (call T (.fn 222 [] [.ptr q 0]) [x] st) fun _ s'=>Ext st0 s'∧(∃vb',BV 35 0 [] st0 s' q vb' (l++m)∧Mine vb.nms st vb')∧∀n o,n≠q→n∉vb.nms→hget st.h n=some o→hget s'.h n=some o:=by
 refine call_any H.e H.f rfl rfl ?_
 simp[B.ascii_read_ascii_tens_1,go_sem,RO.run,rd_one b.get]
 refine(b.grow.app2 hx.nx hx.wf hm hl).mono ?_
 rintro v2 s2 ⟨o2,f2,m2⟩
 have x2:Ext st0 s2:=hx.frm f2 b.grow.ge
 have g2:=f2.get hx.wf b.get b.ap
 have hw2:wrCells s2.h q 0 [v2]=some (hset s2.h q (.cells 35 false [v2])):=wr_one g2 o2.sc
 have f3:=Frm.set x2.wf g2 (o:= .cells 35 false [v2])
 have hq2:q∉v2.nms:=o2.apart g2 (x:=vb) (by simp) b.grow.notint
 have x3:=x2.frm f3 (by simpa using b.ge)
 simp[go_sem,WO.run,o2.acells,hw2]
 refine⟨x3.dropGe hx.nx,⟨v2,BV.dropLoc ⟨b.ge,hget_hset_self g2,o2.frm f3 x2.wf (by intro n hn h;simp at h;subst h;exact hq2 hn),hq2⟩ x3.wf,m2⟩,fun n o hn hv ho=> ?_⟩
 show hget (Go.Ev.dropLoc st.nx _) n=_
 rw[hget_dropLoc_lt (hx.wf.lt _ _ ho),hget_hset_ne g2 (by omega)]
 exact f2.get hx.wf ho hv
def closeF (pt:List UInt8):Option (List UInt8):=
 if pt.length=1 then none else if pt.length=0 then some []
 else if v85 (pt++List.replicate (5 - pt.length) 117) 0<4294967296 then some ((oct4 (v85 (pt++List.replicate (5 - pt.length) 117) 0)).take (pt.length - 1))else none
theorem close_loop {st0 sA:St} {e1:AV} {k:AV} {S:List Nat}:∀(j:Nat) (l:List UInt8) (v:AV) (e:Env) (s1:St),l.length+j=5→Ext st0 s1→Grow st0 s1 v l→Frm S sA s1→Mine S sA v→eget e 1=e1→eget e 5=k→eget e 6=v→
  Res (run T (.loop B.ascii_tens_close_l0) e s1) fun x e' s'=>x= .exit 0∧Ext st0 s'∧eget e' 1=e1∧eget e' 5=k∧Grow st0 s' (eget e' 6) (l++List.replicate j 117)∧Frm S sA s':=by
 intro j
 induction j with
 | zero=>
   intro l v e s1 hl hx hg hf hm g1 g5 g6
   rw[run_loop]
   rcases hg.form with ⟨h1,h2⟩ | ⟨n,h1,h2,_⟩
   ·rw[h2]at hl;simp at hl
   ·have hll:l.length=5:=by omega
    rw[h1,hll]at g6
    rw[h1,hll]at hg
    simp[B.ascii_tens_close_l0,go_sem,g1,g5,g6,hx,hf,hg]
 | succ j ih=>
   intro l v e s1 hl hx hg hf hm g1 g5 g6
   have hp:=hg.push2 hx.nx hx.wf (c:=117) (by omega)
   rw[run_loop]
   have hlen:=hg.1.rd.lenOf (ev:=AO.ev (keepE [1,5,6] e)) (x:= .t 6) (by simp[keepE,eget,g1,g5,g6,AO.ev])
   have hl5:(l.length:Int)<5:=by omega
   have hl5':l.length<5:=by omega
   have ih2:=fun v' e' s'=>ih (l++[117]) v' e' s' (by simp;omega)
   rw[List.append_assoc]at ih2
   have hrep:[117]++List.replicate j (117:UInt8)=List.replicate (j+1) 117:=rfl
   rw[hrep]at ih2
   rcases hg.form with ⟨h1,h2⟩ | ⟨n,h1,h2,_⟩
   ·rw[h1]at g6 hp hm hg
    simp[B.ascii_tens_close_l0,go_sem,g1,g5,g6,NO.run,reps]
    refine hp.mono ?_
    rintro v2 s2 ⟨o2,f2,m2⟩
    simp[go_sem,g1,g5]
    refine ih2 v2 _ s2 (hx.frm f2 hg.ge) o2 (hf.trans f2 hm) (fun n hn=> ?_) (by simp[go_sem,g1]) (by simp[go_sem,g5]) (by simp[go_sem])
    rcases m2 n hn with h | h
    ·exact hm n h
    ·exact .inr (Nat.le_trans hf.nx h)
   ·rw[h1]at g6 hp hm hg
    simp[B.ascii_tens_close_l0,go_sem,g1,g5,g6,NO.run,reps,hl5,hl5']
    refine hp.mono ?_
    rintro v2 s2 ⟨o2,f2,m2⟩
    simp[go_sem,g1,g5]
    refine ih2 v2 _ s2 (hx.frm f2 hg.ge) o2 (hf.trans f2 hm) (fun n hn=> ?_) (by simp[go_sem,g1]) (by simp[go_sem,g5]) (by simp[go_sem])
    rcases m2 n hn with h | h
    ·exact hm n h
    ·exact .inr (Nat.le_trans hf.nx h)
theorem close_res (H:B.H_ascii_tens_close T) (H1:B.H_ascii_read_ascii_tens_1 T) {st0:St} (hx:Ext st0 st) {p q:Nat} {vb vp:AV} {out pt:List UInt8} {last:AV} (b:BV 35 0 [] st0 st q vb out) (bp:BV 307 0 [last] st0 st p vp pt) (hpq:p≠q) (hpb:p∉vb.nms) (hqp:q∉vp.nms) (hd:∀n∈vb.nms,n∉vp.nms)
  (hpl:pt.length≤4) (hpc:∀c∈pt,33≤c.toNat) (ho:out.length≤1000000):
  CRes (call T (.fn 223 [] []) [.ptr p 0,.fn 222 [] [.ptr q 0]] st) fun v s'=>Ext st0 s'∧(∀m o,m≠p→m≠q→hget st.h m=some o→Safe o→hget s'.h m=some o)∧
   match closeF pt with
   | none=>v= .int .i64 2
   | some d=>v= .int .i64 1∧Bx st0 s' q (out++d):=by
 refine call_res H.e H.f rfl ?_
 have r0:rdCell st.h p 0=some vp:=by simp[rdCell,bp.get]
 have ltd:∀m o,hget st.h m=some o→m<st.nx:=fun m o ho=>hx.wf.lt _ _ ho
 have nS:∀{v:AV} {l:List UInt8},Grow st0 st v l→∀m o,hget st.h m=some o→Safe o→m∉v.nms:=fun g m o ho hs h=>by
  rcases g.nms h with ⟨ty,k⟩ | k <;> rw[ho]at k <;> injection k with k
  ·exact hs.1 _ _ k
  ·exact hs.2 _ _ _ k
 obtain⟨C,hC⟩:∃C,C=closeF pt:=⟨_,rfl⟩
 rw[←hC]
 unfold closeF at hC
 rcases bp.grow.form with ⟨e1,e2⟩ | ⟨n,e1,hrd,hn0⟩
 ·subst e2
  subst e1
  simp at hC
  subst hC
  simp[B.ascii_tens_close,go_sem,RO.run,r0]
  exact⟨hx.dropGe hx.nx |> fun h=>h,fun m o hm hq ho hs=>by rw[hget_dropLoc_lt (ltd m o ho)];exact ho,b.bx.dropLoc hx.wf⟩
 ·have hgp:=bp.grow
  rw[e1]at r0 hqp hd hgp
  obtain⟨k,hk⟩:∃k:Nat,k=pt.length:=⟨_,rfl⟩
  rw[←hk]at hC r0 hpl
  by_cases hk1:k=1
  ·rw[if_pos hk1]at hC
   subst hC
   subst hk1
   simp[B.ascii_tens_close,go_sem,RO.run,r0]
   exact⟨hx.dropGe hx.nx,fun m o hm hq ho hs=>by rw[hget_dropLoc_lt (ltd m o ho)];exact ho⟩
  rw[if_neg hk1]at hC
  by_cases hk0:k=0
  ·rw[if_pos hk0]at hC
   subst hC
   subst hk0
   simp[B.ascii_tens_close,go_sem,RO.run,r0]
   exact⟨hx.dropGe hx.nx,fun m o hm hq ho hs=>by rw[hget_dropLoc_lt (ltd m o ho)];exact ho,b.bx.dropLoc hx.wf⟩
  rw[if_neg hk0]at hC
  have k1:¬(k:Int)=1:=by omega
  have k2:(1:Int)<k:=by omega
  have k2':1<k:=by omega
  simp[B.ascii_tens_close,go_sem,RO.run,r0,k1,hk1,k2,k2']
  have hFr:=Frm.refl hx.wf (S:=[n])
  refine(close_loop (sA:=st) (e1:= .fn 222 [] [.ptr q 0]) (k:= .int .i64 (k:Int)) (S:=[n]) (5 - k) pt (.slice n 0 pt.length .full) _ st (by omega) hx hgp hFr (fun m hm=>by simp[AV.nms]at hm;simp[hm]) (by simp[go_sem]) (by simp[go_sem]) (by simp[go_sem,hk])).mono ?_
  rintro x e s1 ⟨rfl,y1,g1,g5,hg6,f1⟩
  have hc5:∀c∈pt++List.replicate (5 - k) 117,33≤c.toNat:=by
   intro c hc
   rcases List.mem_append.1 hc with h | h
   ·exact hpc c h
   ·rw[(List.mem_replicate.1 h).2];decide
  have hl5:(pt++List.replicate (5 - k) (117:UInt8)).length=5:=by simp;omega
  generalize pt++List.replicate (5 - k) 117=P at*
  have hfo:∃n2,eget e 6= .slice n2 0 P.length .full∧rdCells s1.h n2 0 P.length=some (u8s P):=by
   rcases hg6.form with ⟨_,h⟩ | ⟨n2,h1,h2,_⟩
   ·rw[h]at hl5;simp at hl5
   ·exact⟨n2,h1,h2⟩
  obtain⟨n2,g6,hrd2⟩:=hfo
  have b1:BV 35 0 [] st0 s1 q vb out:=b.frm f1 hx.wf (by simpa [AV.nms] using hqp) (fun m hm=>by have:=hd m hm;simpa [AV.nms] using this)
  have keep1:∀m o,m≠p→m≠q→hget st.h m=some o→Safe o→hget s1.h m=some o∧m∉vb.nms:=fun m o hm hq ho hs=>by
   have h1:=nS hgp m o ho hs
   exact⟨f1.get hx.wf ho (by simpa [AV.nms] using h1),nS b.grow m o ho hs⟩
  simp[go_sem,g1,g5,g6]
  refine(fold_tells H.ascii_fold y1.wf (by omega) hc5 hrd2).use fun s2 x2=> ?_
  have y2:=y1.trans x2
  have b2:=b1.ext x2 y1.wf
  have x3:=Ext.new y2.wf (.cells 318 false (u8s (oct4 (v85 P 0))))
  have y3:=y2.trans x3
  have b3:=b2.ext x3 y2.wf
  by_cases hok:v85 P 0<4294967296
  ·rw[if_pos hok]at hC
   subst hC
   have hj:IntKind.i64.wrap ((k:Int) - 1)=((k - 1:Nat):Int):=by rw[wrap64' (by omega) (by omega)];omega
   have hlm:((oct4 (v85 P 0)).take (k - 1)).length=k - 1:=by simp[oct4];omega
   have hem:=fun cp=>emitV H1 y3 (m:=(oct4 (v85 P 0)).take (k - 1)) (x:= .slice s2.nx 0 (k - 1) cp) (.inr ⟨s2.nx,0,cp,by rw[hlm],by
    rw[hlm,Nat.mul_one]
    have h4:=rd_part (h:=(s2.nx,AObj.cells 318 false (u8s (oct4 (v85 P 0))))::s2.h) (n:=s2.nx) (ty:=318) (k:=k - 1) (o:=0) (l:=false) (cs:=u8s (oct4 (v85 P 0))) (by simp[hget_cons]) (by simp[u8s,oct4];omega)
    rw[h4]
    simp[u8s,List.map_take]⟩) b3 (by rw[hlm];omega)
   have hj0:(0:Int)≤((k - 1:Nat):Int):=by omega
   have hj4:((k - 1:Nat):Int)≤4:=by omega
   obtain⟨j,hjj⟩:∃j,j=k - 1:=⟨_,rfl⟩
   rw[←hjj]at hj hem hj0 hj4 hlm⊢
   have hj4':j≤4:=by omega
   have nP:st.nx≤s2.nx:=by have:=f1.nx;have:=x2.nx;omega
   simp only[oct4,u8s,List.map_cons,List.map_nil]at hem⊢
   generalize UInt8.ofNat (v85 P 0 / 16777216)=A at*
   generalize UInt8.ofNat (v85 P 0 / 65536)=B at*
   generalize UInt8.ofNat (v85 P 0 / 256)=C at*
   generalize UInt8.ofNat (v85 P 0)=D at*
   have hsa:asubL 1 s2.nx 0 4 (.known 4) none (some (.int .i64 (j:Int))) none=some (.slice s2.nx 0 j (.known 4)):=by rw[asubL_hi_known (len:=4) hj0 hj4 (by decide)];simp
   simp[go_sem,NO.run,WO.run,RO.run,wrCells,hget_cons,hset_cons,splice,hok,hj,hsa]
   refine(hem (.known 4)).mono ?_
   rintro _ s3 ⟨y4,⟨vb',b4,_⟩,k4⟩
   simp[go_sem]
   refine⟨y4.dropGe hx.nx,fun m o hm hq ho hs=> ?_,b4.bx.dropLoc y4.wf⟩
   rw[hget_dropLoc_lt (ltd m o ho)]
   obtain⟨z1,z2⟩:=keep1 m o hm hq ho hs
   exact k4 m o hq z2 ((Ext.new y2.wf _).get y2.wf (x2.get y1.wf z1))
  ·rw[if_neg hok]at hC
   subst hC
   simp only[oct4,u8s,List.map_cons,List.map_nil]at y3
   simp[go_sem,NO.run,WO.run,RO.run,oct4,u8s,wrCells,hget_cons,hset_cons,splice,hok]
   refine⟨y3.dropGe hx.nx,fun m o hm hq ho hs=> ?_⟩
   rw[hget_dropLoc_lt (ltd m o ho)]
   obtain⟨z1,z2⟩:=keep1 m o hm hq ho hs
   exact x3.get y2.wf (x2.get y1.wf z1)
end Go.Ev

/- ascii.Unbase85 told. -/
namespace Go.Ev
open Go
variable {T : Tab} {st : St}
abbrev TX:=List UInt8×List UInt8×Bool
def charS (o pt:List UInt8):Option (Bool×TX):=
 if pt.length=5 then if v85 pt 0<4294967296 then some (false,(o++oct4 (v85 pt 0),[],false))else none else some (false,(o,pt,false))
def tensStep (x:TX) (c:UInt8):Option (Bool×TX):=
 if x.2.2=true then if c=62 then(closeF x.2.1).map fun d=>(true,(x.1++d,[],true))else none
 else if c=126 then some (false,(x.1,x.2.1,true))
 else if c=122 then if x.2.1.length=0 then some (false,(x.1++[0,0,0,0],[],false))else none
 else if c.toNat<33∨117<c.toNat then none
 else charS x.1 (x.2.1++[c])
def tensOut (x:TX):List UInt8:=x.1
structure TI (st0:St) (p q:Nat) (x:TX) (s:St) (vb vp:AV):Prop where
 ext:Ext st0 s
 b:BV 35 0 [] st0 s q vb x.1
 bp:BV 307 0 [.bool x.2.2] st0 s p vp x.2.1
 pq:p≠q
 pb:p∉vb.nms
 qp:q∉vp.nms
 d:∀n∈vb.nms,n∉vp.nms
 pl:x.2.1.length≤5
 pc:∀c∈x.2.1,33≤c.toNat
def tensI (st0:St) (p q:Nat) (x:TX) (s:St):Prop:=x.2.1.length≤4∧∃vb vp,TI st0 p q x s vb vp
theorem oct4_len (n:Nat):(oct4 n).length=4:=rfl
theorem closeF_len {pt d:List UInt8} (h:closeF pt=some d):d.length≤4:=by
 unfold closeF at h
 split at h
 ·cases h
 ·split at h
  ·injection h with h;subst h;simp
  ·split at h
   ·injection h with h;subst h;rw[List.length_take,oct4_len];omega
   ·cases h
theorem wr_p {h:Heap} {p:Nat} {a b:AV} (g:hget h p=some (.cells 307 false [a,b])) (x:AV) (hx:x.sc=true):wrCells h p 0 [x]=some (hset h p (.cells 307 false [x,b])):=by
 rw[wr_cells g hx (by simp)];rfl
theorem TI.loc {st0 s:St} {p q:Nat} {x:TX} {vb vp:AV} (a:TI st0 p q x s vb vp) {c:Nat} (hc:st0.nx≤c):TI st0 p q x ⟨dropLoc c s.h,s.nx⟩ vb vp:=
 ⟨a.ext.dropGe hc,a.b.dropLoc a.ext.wf,a.bp.dropLoc a.ext.wf,a.pq,a.pb,a.qp,a.d,a.pl,a.pc⟩
theorem TI.up {st0 s s':St} {p q:Nat} {x:TX} {vb vp:AV} (a:TI st0 p q x s vb vp) (f:Ext s s'):TI st0 p q x s' vb vp:=
 ⟨a.ext.trans f,a.b.ext f a.ext.wf,a.bp.ext f a.ext.wf,a.pq,a.pb,a.qp,a.d,a.pl,a.pc⟩
theorem TI.safe {st0 s:St} {p q:Nat} {x:TX} {vb vp:AV} (a:TI st0 p q x s vb vp) {m:Nat} {o:AObj} (ho:hget s.h m=some o) (hs:Safe o):m∉vb.nms∧m∉vp.nms:=by
 refine⟨fun h=> ?_,fun h=> ?_⟩
 ·rcases a.b.grow.nms h with ⟨ty,k⟩ | k <;> rw[ho]at k <;> injection k with k
  ·exact hs.1 _ _ k
  ·exact hs.2 _ _ _ k
 ·rcases a.bp.grow.nms h with ⟨ty,k⟩ | k <;> rw[ho]at k <;> injection k with k
  ·exact hs.1 _ _ k
  ·exact hs.2 _ _ _ k
theorem TI.emit (H1:B.H_ascii_read_ascii_tens_1 T) {st0 s:St} {p q:Nat} {x:TX} {vb vp:AV} (a:TI st0 p q x s vb vp) {m:List UInt8} (hm:m.length=4) (ho:x.1.length≤1000000) {n:Nat} {ty:Nat} {cp:Cap} (hn:hget s.h n=some (.cells ty false (u8s m))):
  CRes (call T (.fn 222 [] [.ptr q 0]) [.slice n 0 4 cp] s) fun _ s'=>(∃vb',TI st0 p q (x.1++m,x.2) s' vb' vp)∧∀k o,k≠q→k∉vb.nms→hget s.h k=some o→hget s'.h k=some o:=by
 have hrd:Rd s.h (.slice n 0 4 cp) 1 m.length (u8s m):= .inr ⟨n,0,cp,by rw[hm],by rw[hm];exact rd_all hn (by rw[u8s_len,hm])⟩
 refine(emitV H1 a.ext hrd a.b (by omega)).mono ?_
 rintro _ s' ⟨y,⟨vb',b',mi⟩,k⟩
 refine⟨⟨vb',y,b',⟨a.bp.ge,k p _ a.pq a.pb a.bp.get,?_,a.bp.ap⟩,a.pq,?_,a.qp,?_,a.pl,a.pc⟩,k⟩
 ·
  obtain⟨⟨n1,h1⟩,h2,h3⟩:=a.bp.grow
  refine⟨⟨n1,?_⟩,h2,h3⟩
  rcases h1 with ⟨e1,e2,e3⟩ | ⟨e1,e2,e3⟩ | ⟨ty',e1,e2,e3⟩
  ·exact .nil e1 e2 e3
  ·have hnp:n1∈vp.nms:=by rw[e1];simp[AV.nms]
   exact .buf e1 (k n1 _ (fun e=>a.qp (e▸hnp)) (fun e=>a.d n1 e hnp) e2) e3
  ·exact absurd e1 (h3 _ _ _ _)
 ·intro h
  rcases mi p h with h | h
  ·exact a.pb h
  ·have:=a.ext.wf.lt _ _ a.bp.get;omega
 ·intro n hn hn2
  rcases mi n hn with h | h
  ·exact a.d n h hn2
  ·have:=a.bp.grow.lt a.ext.wf n hn2;omega
theorem TI.push {st0 s:St} {p q:Nat} {o pt:List UInt8} {vb vp:AV} (a:TI st0 p q (o,pt,false) s vb vp) (h4:pt.length≤4) {c:UInt8} (hc:33≤c.toNat):
  CRes (aappend 5 1 1 ⟨(s.nx,.cells 5 false [.int .u8 (c.toNat:Int)])::s.h,s.nx+1⟩ vp (.slice s.nx 0 1 (.known 1))) fun v2 s2=>acells v2=[v2]∧∃h',wrCells s2.h p 0 [v2]=some h'∧TI st0 p q (o,pt++[c],false) ⟨h',s2.nx⟩ vb v2∧
   ∀m o,m≠p→hget s.h m=some o→Safe o→hget h' m=some o:=by
 refine(a.bp.grow.push2 a.ext.nx a.ext.wf (c:=c) (by show pt.length<_;omega)).mono ?_
 rintro v2 s2 ⟨g2,f2,m2⟩
 have y2:=a.ext.frm f2 a.bp.grow.ge
 have hp2:=f2.get a.ext.wf a.bp.get a.bp.ap
 have b2:=a.b.frm f2 a.ext.wf a.qp a.d
 have hpv:p∉v2.nms:=g2.apart hp2 (x:= .bool false) (by simp) (by simp)
 have hqv:q∉v2.nms:=g2.apart b2.get (x:=vb) (by simp) b2.grow.notint
 have fs:=Frm.set y2.wf hp2 (o:= .cells 307 false [v2,.bool false])
 refine⟨g2.acells,_,wr_p hp2 v2 g2.sc,⟨y2.setNew hp2 a.bp.ge,b2.frm fs y2.wf (by simpa using Ne.symm a.pq) (fun n hn=>by simp;rintro rfl;exact a.pb hn),⟨a.bp.ge,hget_hset_self hp2,g2.frm fs y2.wf (fun n hn=>by simp;rintro rfl;exact hpv hn),hpv⟩,a.pq,a.pb,hqv,?_,by simp;omega,?_⟩,?_⟩
 ·intro n hn hn2
  rcases m2 n hn2 with h | h
  ·exact a.d n hn h
  ·have:=a.b.grow.lt a.ext.wf n hn;omega
 ·intro d hd
  rcases List.mem_append.1 hd with h | h
  ·exact a.pc d h
  ·simp at h;subst h;exact hc
 ·intro m o hm ho hs
  rw[hget_hset_ne hp2 (by omega)]
  exact f2.get a.ext.wf ho (a.safe ho hs).2
theorem tensDec (H:B.H_ascii_tens_take T) (H1:B.H_ascii_read_ascii_tens_1 T) {st0:St} {p q:Nat}:Dec T st0 p q 217 222 (tensI st0 p q) tensOut tensStep where
 ext:=fun x s ⟨_,vb,vp,h⟩=>h.ext
 bx:=fun x s ⟨_,vb,vp,h⟩=>h.b.bx
 frm:=fun x s s' S ⟨h4,vb,vp,h⟩ f hS=>by
  have hn:∀v:AV,∀l:List UInt8,Grow st0 s v l→∀n∈v.nms,n∉S:=fun v l g n hn hm=>by
   obtain⟨_,_,_,h2⟩:=hS n hm
   rcases g.nms hn with ⟨ty,k⟩ | k
   ·exact(h2 _ k).1 _ _ rfl
   ·exact(h2 _ k).2 _ _ _ rfl
  exact⟨h4,vb,vp,h.ext.frm f (fun m hm=>(hS m hm).1),h.b.frm f h.ext.wf (fun hm=>(hS q hm).2.2.1 rfl) (hn _ _ h.b.grow),h.bp.frm f h.ext.wf (fun hm=>(hS p hm).2.1 rfl) (hn _ _ h.bp.grow),h.pq,h.pb,h.qp,h.d,h.pl,h.pc⟩
 loc:=fun x s c hc ⟨h4,vb,vp,h⟩=>⟨h4,vb,vp,h.loc hc⟩
 len:=by
  intro x c b x' h
  obtain⟨o,pt,last⟩:=x
  unfold tensStep at h
  simp only[tensOut]
  split at h
  ·split at h
   ·cases hc:closeF pt with
    | none=>simp[hc]at h
    | some d=>
      have:=closeF_len hc
      simp[hc]at h
      rw[←h.2]
      simp only[List.length_append]
      omega
   ·cases h
  ·split at h
   ·simp at h;rw[←h.2];simp
   ·split at h
    ·split at h
     ·simp at h;rw[←h.2];simp
     ·cases h
    ·split at h
     ·cases h
     ·unfold charS at h
      split at h
      ·split at h
       ·simp at h;rw[←h.2];simp only[List.length_append,oct4_len];omega
       ·cases h
      ·simp at h;rw[←h.2];simp
 take:=by
  rintro⟨o,pt,last⟩ s c ⟨h4,vb,vp,a⟩ hlen
  simp only at h4
  simp only[tensOut]at hlen
  have r0:rdCell s.h p 0=some vp:=by simp[rdCell,a.bp.get]
  have r1:rdCell s.h p 1=some (.bool last):=by simp[rdCell,a.bp.get]
  have ltd:∀m o,hget s.h m=some o→m<s.nx:=fun m o ho=>a.ext.wf.lt _ _ ho
  have c62:((c.toNat:Int)=62)↔c=62:=by rw[←UInt8.toNat_inj];simp;omega
  have c126:((c.toNat:Int)=126)↔c=126:=by rw[←UInt8.toNat_inj];simp;omega
  have c122:((c.toNat:Int)=122)↔c=122:=by rw[←UInt8.toNat_inj];simp;omega
  have hn0:=a.ext.nx
  obtain⟨O,hO⟩:∃O,O=tensStep (o,pt,last) c:=⟨_,rfl⟩
  rw[←hO]
  unfold tensStep at hO
  refine call_res H.e H.f rfl ?_
  cases last with
  | true=>
    simp only[if_true]at hO
    by_cases hc:c=62
    ·rw[if_pos hc]at hO
     have hcl:=close_res H.ascii_tens_close H1 a.ext a.b a.bp a.pq a.pb a.qp a.d h4 a.pc hlen
     simp[B.ascii_tens_take,go_sem,RO.run,r1,c62,hc]
     refine hcl.mono ?_
     rintro v s2 ⟨y,k,hcase⟩
     have kk:∀m o,¬m=p→¬m=q→hget s.h m=some o→Safe o→hget (dropLoc s.nx s2.h) m=some o:=fun m o hm hq ho hs=>by
      rw[hget_dropLoc_lt (ltd m o ho)];exact k m o hm hq ho hs
     cases hcf:closeF pt with
     | none=>
       rw[hcf]at hcase hO
       simp at hO
       subst hO
       subst hcase
       simp[go_sem]
       exact⟨y.dropGe hn0,kk⟩
     | some d=>
       rw[hcf]at hcase hO
       simp at hO
       subst hO
       obtain⟨rfl,hB⟩:=hcase
       simp[go_sem]
       exact⟨y.dropGe hn0,kk,hB.dropLoc y.wf⟩
    ·rw[if_neg hc]at hO
     subst hO
     simp[B.ascii_tens_take,go_sem,RO.run,r1,c62,hc]
     exact⟨a.ext.dropGe hn0,fun m o hm hq ho hs=>by rw[hget_dropLoc_lt (ltd m o ho)];exact ho⟩
  | false=>
    simp only[Bool.false_eq_true,if_false]at hO
    by_cases hc:c=126
    ·rw[if_pos hc]at hO
     subst hO
     have hw:wrCells s.h p 1 [.bool true]=some (hset s.h p (.cells 307 false [vp,.bool true])):=wr_cells a.bp.get rfl (by simp)
     have f:=Frm.set a.ext.wf a.bp.get (o:= .cells 307 false [vp,.bool true])
     have y:=a.ext.setNew a.bp.get (o:= .cells 307 false [vp,.bool true]) a.bp.ge
     simp[B.ascii_tens_take,go_sem,RO.run,WO.run,r1,c126,hc,hw]
     have ti:TI st0 p q (o,pt,true) ⟨hset s.h p (.cells 307 false [vp,.bool true]),s.nx⟩ vb vp:=
      ⟨y,a.b.frm f a.ext.wf (by simpa using Ne.symm a.pq) (fun n hn=>by simp;rintro rfl;exact a.pb hn),⟨a.bp.ge,hget_hset_self a.bp.get,a.bp.grow.frm f a.ext.wf (fun n hn=>by simp;rintro rfl;exact a.bp.ap hn),a.bp.ap⟩,a.pq,a.pb,a.qp,a.d,a.pl,a.pc⟩
     exact⟨y.dropGe hn0,fun m o hm hq ho hs=>by rw[hget_dropLoc_lt (ltd m o ho),hget_hset_ne a.bp.get (by omega)];exact ho,h4,vb,vp,ti.loc hn0⟩
    rw[if_neg hc]at hO
    by_cases hz:c=122
    ·rw[if_pos hz]at hO
     by_cases hp0:pt.length=0
     ·rw[if_pos hp0]at hO
      have hpt:pt=[]:=List.length_eq_zero_iff.1 hp0
      subst hpt
      subst hO
      have vp0:vp= .nilslice∨∃n,vp= .slice n 0 0 .full:=by
       rcases a.bp.grow.form with ⟨e,_⟩ | ⟨n,e,_⟩
       ·exact .inl e
       ·exact .inr ⟨n,e⟩
      have xa:=Ext.new a.ext.wf (.cells 5 false (u8s [0,0,0,0]))
      have hem:=TI.emit H1 (a.up xa) (m:=[0,0,0,0]) rfl hlen (n:=s.nx) (ty:=5) (cp:= .known 4) (by simp[hget_cons])
      simp only[u8s,List.map_cons,List.map_nil]at hem
      have fin:∀s2,((∃vb',TI st0 p q (o++[0,0,0,0],[],false) s2 vb' vp)∧∀k o,k≠q→k∉vb.nms→hget ((s.nx,.cells 5 false [.int .u8 ((0:UInt8).toNat:Int),.int .u8 ((0:UInt8).toNat:Int),.int .u8 ((0:UInt8).toNat:Int),.int .u8 ((0:UInt8).toNat:Int)])::s.h) k=some o→hget s2.h k=some o)→
        Ext st0 ⟨dropLoc s.nx s2.h,s2.nx⟩∧(∀m o,¬m=p→¬m=q→hget s.h m=some o→Safe o→hget (dropLoc s.nx s2.h) m=some o)∧tensI st0 p q (o++[0,0,0,0],[],false) ⟨dropLoc s.nx s2.h,s2.nx⟩:=by
       rintro s2 ⟨⟨vb',t⟩,k⟩
       refine⟨t.ext.dropGe hn0,fun m o hm hq ho hs=> ?_,by simp,vb',vp,t.loc hn0⟩
       rw[hget_dropLoc_lt (ltd m o ho)]
       exact k m o hq (a.safe ho hs).1 ((Ext.new a.ext.wf _).get a.ext.wf ho)
      rcases vp0 with e | ⟨n,e⟩
      ·rw[e]at r0
       simp[B.ascii_tens_take,go_sem,RO.run,NO.run,r0,r1,c126,c122,hc,hz,reps]
       refine hem.mono ?_
       rintro _ s2 h
       simp[go_sem]
       exact fin s2 h
      ·rw[e]at r0
       simp[B.ascii_tens_take,go_sem,RO.run,NO.run,r0,r1,c126,c122,hc,hz,reps]
       refine hem.mono ?_
       rintro _ s2 h
       simp[go_sem]
       exact fin s2 h
     ·rw[if_neg hp0]at hO
      subst hO
      rcases a.bp.grow.form with ⟨e,e2⟩ | ⟨n,e,_⟩
      ·simp only at e2;rw[e2]at hp0;simp at hp0
      ·rw[e]at r0
       simp only at r0
       simp[B.ascii_tens_take,go_sem,RO.run,r0,r1,c126,c122,hc,hz,show (0:Int)<pt.length by omega,show 0<pt.length by omega]
       exact⟨a.ext.dropGe hn0,fun m o hm hq ho hs=>by rw[hget_dropLoc_lt (ltd m o ho)];exact ho⟩
    rw[if_neg hz]at hO
    by_cases hbd:c.toNat<33∨117<c.toNat
    ·rw[if_pos hbd]at hO
     subst hO
     by_cases h33:c.toNat<33
     ·simp[B.ascii_tens_take,go_sem,RO.run,r1,c126,c122,hc,hz,h33,show (c.toNat:Int)<33 by omega]
      exact⟨a.ext.dropGe hn0,fun m o hm hq ho hs=>by rw[hget_dropLoc_lt (ltd m o ho)];exact ho⟩
     ·simp[B.ascii_tens_take,go_sem,RO.run,r1,c126,c122,hc,hz,h33,show¬(c.toNat:Int)<33 by omega,show (117:Int)<c.toNat by omega,show 117<c.toNat by omega]
      exact⟨a.ext.dropGe hn0,fun m o hm hq ho hs=>by rw[hget_dropLoc_lt (ltd m o ho)];exact ho⟩
    rw[if_neg hbd]at hO
    have h33:¬c.toNat<33:=fun h=>hbd (.inl h)
    have h117:¬117<c.toNat:=fun h=>hbd (.inr h)
    have hpush:=a.push h4 (c:=c) (by omega)
    unfold charS at hO
    have hl5:(pt++[c]).length≤5:=by simp;omega
    obtain⟨P,hP⟩:∃P,P=pt++[c]:=⟨_,rfl⟩
    rw[←hP]at hO hpush hl5
    have hP0:P.length≠0:=by rw[hP];simp
    simp[B.ascii_tens_take,go_sem,RO.run,NO.run,r0,r1,c126,c122,hc,hz,h33,h117,show¬(c.toNat:Int)<33 by omega,show¬(117:Int)<c.toNat by omega,reps]
    refine hpush.mono ?_
    rintro v2 s2 ⟨ha,h',hw,t,k⟩
    have q0:rdCell h' p 0=some v2:=by simp[rdCell,t.bp.get]
    rcases t.bp.grow.form with ⟨e,e2⟩ | ⟨n,e,hrd,_⟩
    ·simp only at e2;rw[e2]at hP0;simp at hP0
    replace e:v2= .slice n 0 P.length .full:=e
    replace hrd:rdCells h' n 0 P.length=some (u8s P):=hrd
    rw[e]at q0
    have fin:∀(s3:St) (x':TX) (vb' vp':AV),TI st0 p q x' s3 vb' vp'→x'.2.1.length≤4→(∀m o,m≠p→m≠q→hget s.h m=some o→Safe o→hget s3.h m=some o)→
      Ext st0 ⟨dropLoc s.nx s3.h,s3.nx⟩∧(∀m o,¬m=p→¬m=q→hget s.h m=some o→Safe o→hget (dropLoc s.nx s3.h) m=some o)∧tensI st0 p q x' ⟨dropLoc s.nx s3.h,s3.nx⟩:=by
     intro s3 x' vb' vp' t3 hl k3
     exact⟨t3.ext.dropGe hn0,fun m o hm hq ho hs=>by rw[hget_dropLoc_lt (ltd m o ho)];exact k3 m o hm hq ho hs,hl,vb',vp',t3.loc hn0⟩
    by_cases h5:P.length=5
    ·rw[if_pos h5]at hO
     have h5':(P.length:Int)=5:=by omega
     rw[e]at hw ha
     rw[h5]at q0 hrd hw ha
     have hfold:=fun(st':St) hw' hr'=>fold_tells (st:=st') H.ascii_fold hw' (l:=P) (by omega) t.pc (n:=n) (cp:= .full) hr'
     rw[h5]at hfold
     subst e
     rw[h5]
     simp[go_sem,WO.run,RO.run,ha,hw,q0]
     refine(hfold _ t.ext.wf hrd).use fun s3 x3=> ?_
     have t3:=t.up x3
     have x4:=Ext.new t3.ext.wf (.cells 318 false (u8s (oct4 (v85 P 0))))
     have t4:=t3.up x4
     have k3:∀m o,m≠p→m≠q→hget s.h m=some o→Safe o→hget s3.h m=some o:=fun m o hm hq ho hs=>x3.get t.ext.wf (k m o hm ho hs)
     have k4:∀m o,m≠p→m≠q→hget s.h m=some o→Safe o→hget ((s3.nx,AObj.cells 318 false (u8s (oct4 (v85 P 0))))::s3.h) m=some o:=fun m o hm hq ho hs=>x4.get t3.ext.wf (k3 m o hm hq ho hs)
     by_cases hok:v85 P 0<4294967296
     ·rw[if_pos hok]at hO
      have hem:=TI.emit H1 t4 (m:=oct4 (v85 P 0)) rfl hlen (n:=s3.nx) (ty:=318) (cp:= .known 4) (by simp[hget_cons])
      simp only[oct4,u8s,List.map_cons,List.map_nil]at hem x4 k4
      have hsa:asubL 1 s3.nx 0 4 (.known 4) none none none=some (.slice s3.nx 0 4 (.known 4)):=by simp[asubL,abounds,topOf,subCap,bnd,abound]
      have keep5:∀(vb':AV) (s4:St),(∀k1 o1,k1≠q→k1∉vb.nms→hget ((s3.nx,AObj.cells 318 false [.int .u8 ((UInt8.ofNat (v85 P 0 / 16777216)).toNat:Int),.int .u8 ((UInt8.ofNat (v85 P 0 / 65536)).toNat:Int),.int .u8 ((UInt8.ofNat (v85 P 0 / 256)).toNat:Int),.int .u8 ((UInt8.ofNat (v85 P 0)).toNat:Int)])::s3.h) k1=some o1→hget s4.h k1=some o1)→
        ∀m o,m≠p→m≠q→hget s.h m=some o→Safe o→hget s4.h m=some o:=fun vb' s4 kk m o hm hq ho hs=>
       kk m o hq (a.safe ho hs).1 (k4 m o hm hq ho hs)
      have last:∀(s4:St) (vb':AV),TI st0 p q (o++oct4 (v85 P 0),P,false) s4 vb' (.slice n 0 5 .full)→(∀m o,m≠p→m≠q→hget s.h m=some o→Safe o→hget s4.h m=some o)→∃h5,wrCells s4.h p 0 [.nilslice]=some h5∧
        Ext st0 ⟨dropLoc s.nx h5,s4.nx⟩∧(∀m o,¬m=p→¬m=q→hget s.h m=some o→Safe o→hget (dropLoc s.nx h5) m=some o)∧tensI st0 p q (o++oct4 (v85 P 0),[],false) ⟨dropLoc s.nx h5,s4.nx⟩:=by
       intro s4 vb' t5 k5
       have fs:=Frm.set t5.ext.wf t5.bp.get (o:= .cells 307 false [.nilslice,.bool false])
       have y5:=t5.ext.setNew t5.bp.get (o:= .cells 307 false [.nilslice,.bool false]) t5.bp.ge
       refine⟨_,wr_p t5.bp.get .nilslice rfl,?_⟩
       refine fin ⟨_,s4.nx⟩ (o++oct4 (v85 P 0),[],false) vb' .nilslice ⟨y5,t5.b.frm fs t5.ext.wf (by simpa using Ne.symm t5.pq) (fun n hn=>by simp;rintro rfl;exact t5.pb hn),⟨t5.bp.ge,hget_hset_self t5.bp.get,Grow.nil _ _,by simp[AV.nms]⟩,t5.pq,t5.pb,by simp[AV.nms],by simp[AV.nms],by simp,by simp⟩ (by simp) ?_
       intro m o hm hq ho hs
       show hget (hset s4.h p _) m=_
       rw[hget_hset_ne t5.bp.get (by omega)]
       exact k5 m o hm hq ho hs
      subst hO
      simp only[oct4]at last⊢
      generalize UInt8.ofNat (v85 P 0 / 16777216)=A at*
      generalize UInt8.ofNat (v85 P 0 / 65536)=B at*
      generalize UInt8.ofNat (v85 P 0 / 256)=C at*
      generalize UInt8.ofNat (v85 P 0)=D at*
      simp[go_sem,NO.run,WO.run,RO.run,u8s,wrCells,hget_cons,hset_cons,splice,hok,hsa]
      refine hem.mono ?_
      rintro _ s4 ⟨⟨vb',t5⟩,kk⟩
      rw[h5]at t5
      obtain⟨h6,hw6,done⟩:=last s4 vb' t5 (keep5 vb' s4 kk)
      simp[go_sem,WO.run,hw6]
      exact done
     ·rw[if_neg hok]at hO
      subst hO
      have hxx:=t4.ext
      simp only[oct4,u8s,List.map_cons,List.map_nil]at hxx k4
      simp[go_sem,NO.run,WO.run,oct4,u8s,wrCells,hget_cons,hset_cons,splice,hok]
      exact⟨hxx.dropGe hn0,fun m o hm hq ho hs=>by rw[hget_dropLoc_lt (ltd m o ho)];exact k4 m o hm hq ho hs⟩
    ·rw[if_neg h5]at hO
     subst hO
     have h5':¬(P.length:Int)=5:=by omega
     subst e
     simp[go_sem,WO.run,RO.run,ha,hw,q0,h5,h5']
     exact fin ⟨h',s2.nx⟩ _ vb _ t (by simp only;omega) (fun m o hm hq ho hs=>k m o hm ho hs)
end Go.Ev

/- Unbase85 told; parts of the reference's. -/
namespace Go.Ev
open Go
variable {T : Tab} {st : St}
def b85T (s:List UInt8):List UInt8×Nat×Int:=readT tensStep tensOut ([],[],false) s
theorem unbase85_tells (H:B.H_ascii_Unbase85 T) (hwf:st.Wf) {s:List UInt8} (hs:s.length<1000000000000):Tells T st (.fn 212 [] []) [.str s] (toU (b85T s)):=by
 refine tells_of H.e H.f rfl ?_
 have hx:=Ext.new hwf (.cells 307 false [.nilslice,.bool false])
 have hg:hget ((st.nx,AObj.cells 307 false [.nilslice,.bool false])::st.h) st.nx=some (.cells 307 false [.nilslice,.bool false]):=by simp[hget_cons]
 have hr:=read_tens H.ascii_read_ascii_tens (st0:=st) hx (p:=st.nx) (I:=tensI st st.nx (st.nx+6)) (tensDec H.ascii_tens_take H.ascii_read_ascii_tens.ascii_read_ascii_tens_1) (x0:=([],[],false)) (Nat.lt_succ_self _) (Nat.le_refl _)
  (fun s1 x1 g1=>⟨by simp,.nilslice,.nilslice,hx.trans x1,⟨by omega,g1,Grow.nil _ _,by simp[AV.nms]⟩,⟨Nat.le_refl _,x1.get hx.wf hg,Grow.nil _ _,by simp[AV.nms]⟩,by omega,by simp[AV.nms],by simp[AV.nms],by simp[AV.nms],by simp,by simp⟩) rfl hs
 simp[B.ascii_Unbase85,go_sem,NO.run]
 refine hr.mono ?_
 rintro _ s1 ⟨rfl,x1⟩
 simp[go_sem,toU,b85T,x1]
end Go.Ev

/- The reference's Unbase85 told. -/
namespace Go.Ev
open Go
variable {T : Tab} {st : St}
end Go.Ev

/- The readers of the scanner. -/
namespace Go.Ev
open Go
variable {T : Tab} {st : St}
theorem fin3 {s2:St} (hx:Ext st s2) (hg:hget s2.h st.nx=some (.cells 134 true [.int .i64 0,.int .i64 0,.str []])) (O:T3):
  wrCells s2.h st.nx 0 [.int .i64 O.1.1,.int .i64 O.1.2.1,.str O.1.2.2]=some (hset s2.h st.nx (.cells 134 true [.int .i64 O.1.1,.int .i64 O.1.2.1,.str O.1.2.2]))∧
   rdCells (hset s2.h st.nx (.cells 134 true [.int .i64 O.1.1,.int .i64 O.1.2.1,.str O.1.2.2])) st.nx 0 3=some [.int .i64 O.1.1,.int .i64 O.1.2.1,.str O.1.2.2]∧Ext st ⟨hset s2.h st.nx (.cells 134 true [.int .i64 O.1.1,.int .i64 O.1.2.1,.str O.1.2.2]),s2.nx⟩:=
 ⟨tok_wr hg,tok_rd (hget_hset_self hg),hx.setNew hg (Nat.le_refl _)⟩
theorem brace_tells (H:B.H_scan_reader_brace T) (hwf:st.Wf) {p i:Nat} {s:List UInt8} (a:At st p s i) {c:UInt8} (hc:s[i]? =some c):Tells T st (.fn 195 [] []) [.ptr p 0] (tk3 (if c=123 then((7,0,[]),1,0)else((8,0,[]),1,0))):=by
 refine tells_of H.e H.f rfl ?_
 have hx:=Ext.new hwf (.cells 134 true [.int .i64 0,.int .i64 0,.str []])
 have hg:=zero_tok st.h st.nx
 have a1:=a.ext hx hwf
 have q0:=a1.r0
 have q1:=a1.r1
 have y:=hx.trans (Ext.aside hx.wf 12)
 have c123:((c.toNat:Int)=123)↔c=123:=by rw[←UInt8.toNat_inj];simp;omega
 simp only[Nat.add_assoc,Nat.reduceAdd]at y
 by_cases h:c=123
 ·obtain⟨k1,k2,k3⟩:=fin3 (st:=st) y hg ((7,0,[]),1,0)
  simp only at k1 k2 k3
  simp[B.scan_reader_brace,go_sem,NO.run,RO.run,q0,q1,hc]
  simp[go_sem,c123,h,k1,WO.run,fresults,resVals,resVal,RO.run,k2,tk3,k3]
 ·obtain⟨k1,k2,k3⟩:=fin3 (st:=st) y hg ((8,0,[]),1,0)
  simp only at k1 k2 k3
  simp[B.scan_reader_brace,go_sem,NO.run,RO.run,q0,q1,hc]
  simp[go_sem,c123,h,k1,WO.run,fresults,resVals,resVal,RO.run,k2,tk3,k3]
theorem bracket_tells (H:B.H_scan_reader_bracket T) (hwf:st.Wf) {p i:Nat} {s:List UInt8} (a:At st p s i) {c:UInt8} (hc:s[i]? =some c):Tells T st (.fn 196 [] []) [.ptr p 0] (tk3 (textK 3 [c] 1)):=by
 refine tells_of H.e H.f rfl ?_
 have hx:=Ext.new hwf (.cells 134 true [.int .i64 0,.int .i64 0,.str []])
 have hg:=zero_tok st.h st.nx
 have a1:=a.ext hx hwf
 have q0:=a1.r0
 have q1:=a1.r1
 have y:=hx.trans (Ext.aside hx.wf 24)
 simp only[Nat.add_assoc,Nat.reduceAdd]at y
 have hs:=a.hs
 have hi:=a.hi
 obtain⟨I,hI⟩:∃I:Int,I=(i:Int):=⟨_,rfl⟩
 obtain⟨w,hw⟩:∃w:Int,w=(i:Int)+1:=⟨_,rfl⟩
 have ek:IntKind.i64.wrap (I+1)=w:=by rw[hI,wrap64' (by omega) (by omega),hw]
 rw[←hI]at q1
 obtain⟨c',hc',hd⟩:=a.hd
 rw[hc]at hc';cases hc'
 have hsub:asubS s (some (.int .i64 I)) (some (.int .i64 w))=some (.str [c]):=by
  rw[asubS_some (by omega) (by omega) (by omega),show I.toNat=i by omega,show w.toNat - i=1 by omega,hd];rfl
 clear a1 hI hw
 simp[B.scan_reader_bracket,go_sem,NO.run,RO.run,q0,q1,ek,hsub]
 refine(text_tells H.scan_text y.wf (k:=3) (x:=[c]) (n:=1) (by simp)).use fun s2 x2=> ?_
 obtain⟨k1,k2,k3⟩:=fin3 (st:=st) (y.trans x2) (x2.get y.wf hg) (textK 3 [c] 1)
 simp[go_sem,k1,WO.run,fresults,resVals,resVal,RO.run,k2,tk3,k3]
def quotedR (s:List UInt8):T3:=if(unquoteT s).2.2=0 then textK 6 (unquoteT s).1 (unquoteT s).2.1 else if(unquoteT s).2.2=26 then err3 26 else err3 37
def decoR (front:Nat) (u:List UInt8×Nat×Int):T3:=if u.2.2=0 then textK 6 u.1 (front+u.2.1)else if u.2.2=3 then err3 26 else err3 37
def lessR (R:List UInt8):T3:=if R.head? =some 60 then textK 3 [60,60] 2 else if R.head? =some 126 then decoR 2 (b85T (R.drop 1))else decoR 1 (hexT R)
def greaterR (R:List UInt8):T3:=if R.head? =some 62 then textK 3 [62,62] 2 else err3 37
def slashR (R:List UInt8):T3:=
 if R.head? =some 47 then textK 5 ((R.drop 1).take (runN isReg (R.drop 1))) (2+runN isReg (R.drop 1))else textK 4 (R.take (runN isReg R)) (1+runN isReg R)
theorem unquoteT_le (s:List UInt8):(unquoteT s).1.length≤1000∧(unquoteT s).2.1≤s.length:=by
 unfold unquoteT
 split
 ·split
  ·split
   ·simp
   ·split
    ·simp
    ·simp only;omega
  ·simp
 ·simp
theorem hexG_n:∀(s:List UInt8) (i:Nat) (l D:List Nat) (n:Nat),hexG s i l=some (D,n)→n≤i+s.length
 | [],i,l,D,n,h=>by cases h
 | c::r,i,l,D,n,h=>by
   unfold hexG at h
   split at h
   ·injection h with h;injection h with h1 h2;subst h2;simp only[List.length_cons];omega
   ·split at h
    ·have:=hexG_n r _ _ _ _ h;simp only[List.length_cons];omega
    ·split at h
     ·cases h
     ·have:=hexG_n r _ _ _ _ h;simp only[List.length_cons];omega
theorem hexT_le (s:List UInt8):(hexT s).1.length≤65536∧(hexT s).2.1≤s.length:=by
 unfold hexT
 split
 ·simp
 ·split
  ·simp
  ·rename_i l n h
   have h1:=hexG_len _ _ _ _ _ h
   have h2:=hexG_n _ _ _ _ _ h
   have h3:=prs_len l
   simp only[List.length_nil]at h1⊢
   omega
theorem runD_n {σ:Type} {stepF:σ→UInt8→Option (Bool×σ)}:∀(s:List UInt8) (i:Nat) (x y:σ) (n:Nat),runD stepF x s i=some (y,n)→n≤i+s.length
 | [],i,x,y,n,h=>by cases h
 | c::r,i,x,y,n,h=>by
   unfold runD at h
   split at h
   ·have:=runD_n r _ _ _ _ h;simp only[List.length_cons];omega
   ·split at h
    ·cases h
    ·injection h with h;injection h with h1 h2;subst h2;simp only[List.length_cons];omega
    ·have:=runD_n r _ _ _ _ h;simp only[List.length_cons];omega
theorem b85T_le (s:List UInt8):(b85T s).1.length≤65536∧(b85T s).2.1≤s.length:=by
 unfold b85T readT
 split
 ·simp
 ·split
  ·simp
  ·rename_i x n h
   have h2:=runD_n _ _ _ _ _ h
   split
   ·simp
   ·simp only
    omega
theorem At.head {p i:Nat} {s:List UInt8} (a:At st p s i):s[i+1]? =(s.drop (i+1)).head? :=by
 rw[List.head?_drop]
theorem quoted_tells (H:B.H_scan_reader_quoted T) (hwf:st.Wf) {p i:Nat} {s:List UInt8} (a:At st p s i):Tells T st (.fn 193 [] []) [.ptr p 0] (tk3 (quotedR (s.drop i))):=by
 refine tells_of H.e H.f rfl ?_
 have hx:=Ext.new hwf (.cells 134 true [.int .i64 0,.int .i64 0,.str []])
 have hg:=zero_tok st.h st.nx
 have a1:=a.ext hx hwf
 have q0:=a1.r0
 have q1:=a1.r1
 have y:=hx.trans (Ext.aside hx.wf 19)
 simp only[Nat.add_assoc,Nat.reduceAdd]at y
 have hs:=a.hs
 have hi:=a.hi
 have hsub:asubS s (some (.int .i64 (i:Int))) none=some (.str (s.drop i)):=by rw[asubS_from (by omega) (by omega)];simp
 have hle:=unquoteT_le (s.drop i)
 have hun:=fun(st':St) (hw:st'.Wf)=>unquote_tells (st:=st') H.lex_Unquote hw (s:=s.drop i) (by simp;omega)
 unfold quotedR
 generalize unquoteT (s.drop i)=u at*
 obtain⟨x,n,e⟩:=u
 simp only at hle⊢
 simp[B.scan_reader_quoted,go_sem,NO.run,RO.run,q0,q1,hsub]
 refine(hun _ y.wf).use fun s2 x2=> ?_
 have y2:=y.trans x2
 have g2:=x2.get y.wf hg
 by_cases h0:e=0
 ·subst h0
  simp[go_sem,toU]
  refine(text_tells H.scan_text y2.wf (k:=6) (x:=x) (n:=n) (by omega)).use fun s3 x3=> ?_
  obtain⟨k1,k2,k3⟩:=fin3 (st:=st) (y2.trans x3) (x3.get y2.wf g2) (textK 6 x n)
  simp[go_sem,k1,WO.run,fresults,resVals,resVal,RO.run,k2,tk3,k3]
 ·by_cases h26:e=26
  ·subst h26
   obtain⟨k1,k2,k3⟩:=fin3 (st:=st) y2 g2 (err3 26)
   simp only[err3]at k1 k2 k3
   simp[go_sem,toU,k1,WO.run,fresults,resVals,resVal,RO.run,k2,tk3,err3,k3]
  ·obtain⟨k1,k2,k3⟩:=fin3 (st:=st) y2 g2 (err3 37)
   simp only[err3]at k1 k2 k3
   simp[go_sem,toU,h0,h26,k1,WO.run,fresults,resVals,resVal,RO.run,k2,tk3,err3,k3]
theorem greater_tells (H:B.H_scan_reader_greater T) (hwf:st.Wf) {p i:Nat} {s:List UInt8} (a:At st p s i):Tells T st (.fn 198 [] []) [.ptr p 0] (tk3 (greaterR (s.drop (i+1)))):=by
 refine tells_of H.e H.f rfl ?_
 have hx:=Ext.new hwf (.cells 134 true [.int .i64 0,.int .i64 0,.str []])
 have hg:=zero_tok st.h st.nx
 have a1:=a.ext hx hwf
 obtain⟨l,g⟩:=a1.g
 have hs:=a.hs
 have hf:=follows_tells H.scan_reader_follows hx.wf g (by omega) a.hi (c:=62)
 obtain⟨R,hR⟩:∃R,R=s.drop (i+1):=⟨_,rfl⟩
 rw[a.head,←hR]at hf
 rw[←hR]
 clear hR
 unfold greaterR
 simp[B.scan_reader_greater,go_sem,NO.run]
 refine hf.use fun s2 x2=> ?_
 have y2:=hx.trans x2
 have g2:=x2.get hx.wf hg
 by_cases h:R.head? =some 62
 ·rw[if_pos h]
  rw[h]
  simp[go_sem]
  refine(text_tells H.scan_text y2.wf (k:=3) (x:=[62,62]) (n:=2) (by simp)).use fun s3 x3=> ?_
  obtain⟨k1,k2,k3⟩:=fin3 (st:=st) (y2.trans x3) (x3.get y2.wf g2) (textK 3 [62,62] 2)
  simp[go_sem,k1,WO.run,fresults,resVals,resVal,RO.run,k2,tk3,k3]
 ·rw[if_neg h]
  have hb:(R.head? == some 62)=false:=by simpa using h
  rw[hb]
  obtain⟨k1,k2,k3⟩:=fin3 (st:=st) y2 g2 (err3 37)
  simp only[err3]at k1 k2 k3
  simp[go_sem,k1,WO.run,fresults,resVals,resVal,RO.run,k2,tk3,err3,k3]
theorem asub_from' {s:List UInt8} {i f:Nat} {I w:Int} (hI:I=i) (hw:w=I+f) (h:i+f≤s.length):asubS s (some (.int .i64 w)) none=some (.str (s.drop (i+f))):=by
 rw[asubS_from (by omega) (by omega),show w.toNat=i+f by omega]
theorem slash_tells (H:B.H_scan_reader_slash T) (hwf:st.Wf) {p i:Nat} {s:List UInt8} (a:At st p s i):Tells T st (.fn 199 [] []) [.ptr p 0] (tk3 (slashR (s.drop (i+1)))):=by
 refine tells_of H.e H.f rfl ?_
 have hx:=Ext.new hwf (.cells 134 true [.int .i64 0,.int .i64 0,.str []])
 have hg:=zero_tok st.h st.nx
 have a1:=a.ext hx hwf
 obtain⟨l,g⟩:=a1.g
 have hs:=a.hs
 have hi:=a.hi
 have hf:=follows_tells H.scan_reader_follows hx.wf g (by omega) a.hi (c:=47)
 obtain⟨R,hR⟩:∃R,R=s.drop (i+1):=⟨_,rfl⟩
 have hRl:R.length=s.length - (i+1):=by rw[hR,List.length_drop]
 rw[a.head,←hR]at hf
 rw[←hR]
 obtain⟨O,hO⟩:∃O,O=slashR R:=⟨_,rfl⟩
 rw[←hO]
 unfold slashR at hO
 simp[B.scan_reader_slash,go_sem,NO.run]
 refine hf.use fun s2 x2=> ?_
 have y2:=hx.trans x2
 have g2:=x2.get hx.wf hg
 have a2:=a1.ext x2 hx.wf
 have q0:=a2.r0
 have q1:=a2.r1
 obtain⟨I,hI⟩:∃I:Int,I=(i:Int):=⟨_,rfl⟩
 rw[←hI]at q1
 have y3:=y2.trans (Ext.aside y2.wf 14)
 have g3:hget (⟨s2.h,s2.nx+14⟩:St).h st.nx=some (.cells 134 true [.int .i64 0,.int .i64 0,.str []]):=g2
 have main:∀(f:Nat) (k:Int) (D:List UInt8),D.length≤R.length→f≤2→O=textK k (D.take (runN isReg D)) (f+runN isReg D)→
   Tells T ⟨s2.h,s2.nx+14⟩ (.fn 182 [] []) [.str D,.fn 67 [] []] (.int .i64 (runN isReg D:Nat))∧asubS D none (some (.int .i64 (runN isReg D:Nat)))=some (.str (D.take (runN isReg D)))∧IntKind.i64.wrap ((f:Int)+(runN isReg D:Nat))=((f+runN isReg D:Nat):Int)∧
   ∀s4,Ext ⟨s2.h,s2.nx+14⟩ s4→Tells T s4 (.fn 209 [] []) [.int .i64 k,.str (D.take (runN isReg D)),.int .i64 ((f+runN isReg D:Nat):Int)] (tk3 O):=by
  intro f k D hD hf hOO
  have hrl:=runN_le isReg D
  refine⟨run_tells H.scan_run_string y3.wf (fun s' hw c=>regular_tells H.lex_Regular hw c) (by omega),?_,by rw[wrap64' (by omega) (by omega)];omega,fun s4 x4=> ?_⟩
  ·rw[asubS_to (by omega) (by omega)];simp
  ·rw[hOO]
   exact text_tells H.scan_text x4.wf (by simp;omega)
 by_cases h:R.head? =some 47
 ·rw[if_pos h]at hO
  obtain⟨r,hr⟩:∃r,R=47::r:=by
   cases R with
   | nil=>simp at h
   | cons c r=>simp at h;exact⟨r,by rw[h]⟩
  have hb:(R.head? == some 47)=true:=by simp[h]
  rw[hb]
  obtain⟨w,hw⟩:∃w:Int,w=I+2:=⟨_,rfl⟩
  have ek:IntKind.i64.wrap (I+2)=w:=by rw[hw,wrap64' (by omega) (by omega)]
  have hl2:i+2≤s.length:=by have:=congrArg List.length hr;rw[hRl]at this;simp at this;omega
  have hsub:asubS s (some (.int .i64 w)) none=some (.str (R.drop 1)):=by
   rw[asub_from' hI (f:=2) (by omega) hl2,hR,List.drop_drop]
  obtain⟨m1,m2,m3,m4⟩:=main 2 5 (R.drop 1) (by simp) (by omega) hO
  clear main hO hr hR
  generalize R.drop 1=D at*
  generalize runN isReg D=N at*
  generalize D.take N=X at*
  generalize hZ:2+N=Z at*
  have m3':IntKind.i64.wrap (2+(N:Int))=(Z:Int):=m3
  simp[go_sem,RO.run,q0,q1,ek,hsub]
  refine m1.use fun s4 x4=> ?_
  simp[go_sem,m2,m3']
  refine(m4 s4 x4).use fun s5 x5=> ?_
  obtain⟨k1,k2,k3⟩:=fin3 (st:=st) ((y3.trans x4).trans x5) (x5.get x4.wf (x4.get y3.wf g3)) O
  simp[go_sem,k1,WO.run,fresults,resVals,resVal,RO.run,k2,tk3,k3]
 ·rw[if_neg h]at hO
  have hb:(R.head? == some 47)=false:=by simpa using h
  rw[hb]
  obtain⟨w,hw⟩:∃w:Int,w=I+1:=⟨_,rfl⟩
  have ek:IntKind.i64.wrap (I+1)=w:=by rw[hw,wrap64' (by omega) (by omega)]
  have hsub:asubS s (some (.int .i64 w)) none=some (.str R):=by
   rw[asub_from' hI (f:=1) (by omega) (by omega),hR]
  obtain⟨m1,m2,m3,m4⟩:=main 1 4 R (by omega) (by omega) hO
  clear main hO hR
  generalize runN isReg R=N at*
  generalize R.take N=X at*
  generalize hZ:1+N=Z at*
  have m3':IntKind.i64.wrap (1+(N:Int))=(Z:Int):=m3
  simp[go_sem,RO.run,q0,q1,ek,hsub]
  refine m1.use fun s4 x4=> ?_
  simp[go_sem,m2,m3']
  refine(m4 s4 x4).use fun s5 x5=> ?_
  obtain⟨k1,k2,k3⟩:=fin3 (st:=st) ((y3.trans x4).trans x5) (x5.get x4.wf (x4.get y3.wf g3)) O
  simp[go_sem,k1,WO.run,fresults,resVals,resVal,RO.run,k2,tk3,k3]
end Go.Ev

/- What begins with the sign less; the token at a reader's place. -/
namespace Go.Ev
open Go
variable {T : Tab} {st : St}
theorem less_tells (H:B.H_scan_reader_less T) (hwf:st.Wf) {p i:Nat} {s:List UInt8} (a:At st p s i):Tells T st (.fn 197 [] []) [.ptr p 0] (tk3 (lessR (s.drop (i+1)))):=by
 refine tells_of H.e H.f rfl ?_
 have hx:=Ext.new hwf (.cells 134 true [.int .i64 0,.int .i64 0,.str []])
 have hg:=zero_tok st.h st.nx
 have a1:=a.ext hx hwf
 obtain⟨l,g⟩:=a1.g
 have hs:=a.hs
 have hi:=a.hi
 have hf:=follows_tells H.scan_reader_follows hx.wf g (by omega) a.hi (c:=60)
 obtain⟨R,hR⟩:∃R,R=s.drop (i+1):=⟨_,rfl⟩
 have hRl:R.length=s.length - (i+1):=by rw[hR,List.length_drop]
 have hhead:=a.head
 rw[←hR]at hhead
 rw[hhead]at hf
 rw[←hR]
 obtain⟨O,hO⟩:∃O,O=lessR R:=⟨_,rfl⟩
 rw[←hO]
 unfold lessR at hO
 simp[B.scan_reader_less,go_sem,NO.run]
 refine hf.use fun s2 x2=> ?_
 have y2:=hx.trans x2
 have g2:=x2.get hx.wf hg
 by_cases h:R.head? =some 60
 ·rw[if_pos h]at hO
  have hb:(R.head? == some 60)=true:=by simp[h]
  rw[hb]
  simp[go_sem]
  refine(text_tells H.scan_text y2.wf (k:=3) (x:=[60,60]) (n:=2) (by simp)).use fun s3 x3=> ?_
  rw[←hO]
  obtain⟨k1,k2,k3⟩:=fin3 (st:=st) (y2.trans x3) (x3.get y2.wf g2) O
  simp[go_sem,k1,WO.run,fresults,resVals,resVal,RO.run,k2,tk3,k3]
 rw[if_neg h]at hO
 have hb:(R.head? == some 60)=false:=by simpa using h
 rw[hb]
 have a2:=a1.ext x2 hx.wf
 obtain⟨l2,gg2⟩:=a2.g
 have hf2:=follows_tells H.scan_reader_follows y2.wf gg2 (by omega) a.hi (c:=126)
 rw[hhead]at hf2
 simp[go_sem]
 refine hf2.use fun s3 x3=> ?_
 have y3:=y2.trans x3
 have g3:=x3.get y2.wf g2
 have a3:=a2.ext x3 y2.wf
 have q0:=a3.r0
 have q1:=a3.r1
 obtain⟨I,hI⟩:∃I:Int,I=(i:Int):=⟨_,rfl⟩
 rw[←hI]at q1
 have y4:=y3.trans (Ext.aside y3.wf 22)
 have g4:hget (⟨s3.h,s3.nx+22⟩:St).h st.nx=some (.cells 134 true [.int .i64 0,.int .i64 0,.str []]):=g3
 have main:∀(f:Nat) (u:List UInt8×Nat×Int),f≤2→u.1.length≤65536→u.2.1≤s.length→O=decoR f u→
   (u.2.2=0∧IntKind.i64.wrap ((f:Int)+(u.2.1:Nat))=((f+u.2.1:Nat):Int)∧∀s5,s5.Wf→Tells T s5 (.fn 209 [] []) [.int .i64 6,.str u.1,.int .i64 ((f+u.2.1:Nat):Int)] (tk3 O))∨(u.2.2≠0∧u.2.2=3∧O=err3 26)∨(u.2.2≠0∧u.2.2≠3∧O=err3 37):=by
  intro f u hf h1 h2 hOO
  unfold decoR at hOO
  by_cases h0:u.2.2=0
  ·rw[if_pos h0]at hOO
   refine .inl ⟨h0,by rw[wrap64' (by omega) (by omega)];omega,fun s5 hw=> ?_⟩
   rw[hOO]
   exact text_tells H.scan_text hw (by omega)
  ·rw[if_neg h0]at hOO
   by_cases h3:u.2.2=3
   ·rw[if_pos h3]at hOO;exact .inr (.inl ⟨h0,h3,hOO⟩)
   ·rw[if_neg h3]at hOO;exact .inr (.inr ⟨h0,h3,hOO⟩)
 by_cases h2:R.head? =some 126
 ·rw[if_pos h2]at hO
  obtain⟨r,hr⟩:∃r,R=126::r:=by
   cases R with
   | nil=>simp at h2
   | cons c r=>simp at h2;exact⟨r,by rw[h2]⟩
  have hb2:(R.head? == some 126)=true:=by simp[h2]
  rw[hb2]
  obtain⟨w,hw⟩:∃w:Int,w=I+2:=⟨_,rfl⟩
  have ek:IntKind.i64.wrap (I+2)=w:=by rw[hw,wrap64' (by omega) (by omega)]
  have hl2:i+2≤s.length:=by have:=congrArg List.length hr;rw[hRl]at this;simp at this;omega
  have hsub:asubS s (some (.int .i64 w)) none=some (.str (R.drop 1)):=by
   rw[asub_from' hI (f:=2) (by omega) hl2,hR,List.drop_drop]
  have hle:=b85T_le (R.drop 1)
  have hdl:(R.drop 1).length≤s.length:=by rw[List.length_drop];omega
  have hcall:=unbase85_tells H.ascii_Unbase85 y4.wf (s:=R.drop 1) (by omega)
  have hm:=main 2 _ (by omega) hle.1 (by omega) hO
  clear main hO hr hle
  generalize b85T (R.drop 1)=u at*
  generalize R.drop 1=D at*
  obtain⟨x,n,e⟩:=u
  simp only at hm
  simp[go_sem,RO.run,q0,q1,ek,hsub]
  refine hcall.use fun s5 x5=> ?_
  have y5:=y4.trans x5
  have g5:=x5.get y4.wf g4
  rcases hm with ⟨rfl,m2,m3⟩ | ⟨h0,h3,rfl⟩ | ⟨h0,h3,rfl⟩
  ·have m2':IntKind.i64.wrap (2+(n:Int))=((2+n:Nat):Int):=m2
   generalize 2+n=Z at*
   simp[go_sem,toU,m2']
   refine(m3 s5 y5.wf).use fun s6 x6=> ?_
   obtain⟨k1,k2,k3⟩:=fin3 (st:=st) (y5.trans x6) (x6.get y5.wf g5) O
   simp[go_sem,k1,WO.run,fresults,resVals,resVal,RO.run,k2,tk3,k3]
  ·obtain⟨k1,k2,k3⟩:=fin3 (st:=st) y5 g5 (err3 26)
   simp only[err3]at k1 k2 k3
   simp[go_sem,toU,h3,k1,WO.run,fresults,resVals,resVal,RO.run,k2,tk3,err3,k3]
  ·obtain⟨k1,k2,k3⟩:=fin3 (st:=st) y5 g5 (err3 37)
   simp only[err3]at k1 k2 k3
   simp[go_sem,toU,h0,h3,k1,WO.run,fresults,resVals,resVal,RO.run,k2,tk3,err3,k3]
 ·rw[if_neg h2]at hO
  have hb2:(R.head? == some 126)=false:=by simpa using h2
  rw[hb2]
  obtain⟨w,hw⟩:∃w:Int,w=I+1:=⟨_,rfl⟩
  have ek:IntKind.i64.wrap (I+1)=w:=by rw[hw,wrap64' (by omega) (by omega)]
  have hsub:asubS s (some (.int .i64 w)) none=some (.str R):=by
   rw[asub_from' hI (f:=1) (by omega) (by omega),hR]
  have hle:=hexT_le R
  have hcall:=unhex_tells H.ascii_Unhex y4.wf (s:=R) (by omega)
  have hm:=main 1 _ (by omega) hle.1 (by omega) hO
  clear main hO hle
  generalize hexT R=u at*
  obtain⟨x,n,e⟩:=u
  simp only at hm
  simp[go_sem,RO.run,q0,q1,ek,hsub]
  refine hcall.use fun s5 x5=> ?_
  have y5:=y4.trans x5
  have g5:=x5.get y4.wf g4
  rcases hm with ⟨rfl,m2,m3⟩ | ⟨h0,h3,rfl⟩ | ⟨h0,h3,rfl⟩
  ·have m2':IntKind.i64.wrap (1+(n:Int))=((1+n:Nat):Int):=m2
   generalize 1+n=Z at*
   simp[go_sem,toU,m2']
   refine(m3 s5 y5.wf).use fun s6 x6=> ?_
   obtain⟨k1,k2,k3⟩:=fin3 (st:=st) (y5.trans x6) (x6.get y5.wf g5) O
   simp[go_sem,k1,WO.run,fresults,resVals,resVal,RO.run,k2,tk3,k3]
  ·obtain⟨k1,k2,k3⟩:=fin3 (st:=st) y5 g5 (err3 26)
   simp only[err3]at k1 k2 k3
   simp[go_sem,toU,h3,k1,WO.run,fresults,resVals,resVal,RO.run,k2,tk3,err3,k3]
  ·obtain⟨k1,k2,k3⟩:=fin3 (st:=st) y5 g5 (err3 37)
   simp only[err3]at k1 k2 k3
   simp[go_sem,toU,h0,h3,k1,WO.run,fresults,resVals,resVal,RO.run,k2,tk3,err3,k3]
def wordK (s:List UInt8):T3:=
 if(wordT (s.take (runN isReg s))).2.2.2≠0 then err3 (wordT (s.take (runN isReg s))).2.2.2
 else(((wordT (s.take (runN isReg s))).1,(wordT (s.take (runN isReg s))).2.1,(wordT (s.take (runN isReg s))).2.2.1),runN isReg s,0)
def tokS:List UInt8→T3
 | []=>err3 37
 | c::R=>
   if c=40 then quotedR (c::R)else if c=41 then err3 37 else if c=123 then((7,0,[]),1,0)else if c=125 then((8,0,[]),1,0)
   else if c=91∨c=93 then textK 3 [c] 1 else if c=60 then lessR R else if c=62 then greaterR R else if c=47 then slashR R
   else if 128≤c.toNat∧c.toNat<160 then binR c R else wordK (c::R)
def readM:List (AV×AV):=[(.int .u8 40,.fn 193 [] []),(.int .u8 41,.fn 194 [] []),(.int .u8 123,.fn 195 [] []),(.int .u8 125,.fn 195 [] []),(.int .u8 91,.fn 196 [] []),(.int .u8 93,.fn 196 [] []),(.int .u8 60,.fn 197 [] []),(.int .u8 62,.fn 198 [] []),(.int .u8 47,.fn 199 [] [])]
def readV (c:UInt8):Option AV:=
 if c=40 then some (.fn 193 [] [])else if c=41 then some (.fn 194 [] [])else if c=123 then some (.fn 195 [] [])else if c=125 then some (.fn 195 [] [])else if c=91 then some (.fn 196 [] [])else if c=93 then some (.fn 196 [] [])else if c=60 then some (.fn 197 [] [])else if c=62 then some (.fn 198 [] [])else if c=47 then some (.fn 199 [] [])else none
theorem lookup_reader (c:UInt8):mfind (.i .u8) (.int .u8 (c.toNat:Int)) readM=some (readV c):=by
 have hn:∀k:UInt8,c≠k→¬(c.toNat:Int)=(k.toNat:Int):=fun k h=>u8_ne h rfl
 unfold readM readV
 by_cases h1:c=40
 ·subst h1;rfl
 by_cases h2:c=41
 ·subst h2;rfl
 by_cases h3:c=123
 ·subst h3;rfl
 by_cases h4:c=125
 ·subst h4;rfl
 by_cases h5:c=91
 ·subst h5;rfl
 by_cases h6:c=93
 ·subst h6;rfl
 by_cases h7:c=60
 ·subst h7;rfl
 by_cases h8:c=62
 ·subst h8;rfl
 by_cases h9:c=47
 ·subst h9;rfl
 have m1:=hn _ h1
 have m2:=hn _ h2
 have m3:=hn _ h3
 have m4:=hn _ h4
 have m5:=hn _ h5
 have m6:=hn _ h6
 have m7:=hn _ h7
 have m8:=hn _ h8
 have m9:=hn _ h9
 simp at m1 m2 m3 m4 m5 m6 m7 m8 m9
 simp[mfind,cellEqK,h1,h2,h3,h4,h5,h6,h7,h8,h9,m1,m2,m3,m4,m5,m6,m7,m8,m9]
theorem readers_res (H:B.H_scan_readers T) (hwf:st.Wf):CRes (call T (.fn 185 [] []) [] st) fun v s'=>v= .map st.nx∧Ext st s'∧hget s'.h st.nx=some (.map readM):=by
 refine call_res H.e H.f rfl ?_
 have hm:∀es,dropLoc st.nx ((st.nx,AObj.map es)::st.h)=(st.nx,AObj.map es)::st.h:=fun es=>by
  have:locNames st.nx ((st.nx,AObj.map es)::st.h)=[]:=by
   simp only[locNames]
   exact locNames_nil fun n o ho=>hwf.lt n o ho
  rw[dropLoc_eq,this,hdrop_nil]
 simp[B.scan_readers,go_sem,NO.run,WO.run,hget_cons,hset_cons,mins,cellEqK,hm]
 exact⟨Ext.new hwf _,rfl⟩
end Go.Ev

/- The token at a reader's place; Next. -/
namespace Go.Ev
open Go
variable {T : Tab} {st : St}
theorem reader_found (H:B.H_scan_readers T) {p i:Nat} {s:List UInt8} {c:UInt8} {R:List UInt8} (hc:s[i]? =some c) (hR:R=s.drop (i+1)) (hd:s.drop i=c::R) {f:AV} (hf:readV c=some f) (hwf:st.Wf) (a:At st p s i):
  Tells T st f [.ptr p 0] (tk3 (tokS (c::R))):=by
 unfold readV at hf
 by_cases h1:c=40
 ·rw[if_pos h1]at hf
  injection hf with hf;subst hf
  have:=quoted_tells H.scan_reader_quoted hwf a
  rw[hd]at this
  rw[tokS,if_pos h1];exact this
 rw[if_neg h1]at hf
 by_cases h2:c=41
 ·rw[if_pos h2]at hf
  injection hf with hf;subst hf
  rw[tokS,if_neg h1,if_pos h2]
  exact stray_tells H.scan_reader_stray hwf
 rw[if_neg h2]at hf
 by_cases h3:c=123
 ·rw[if_pos h3]at hf
  injection hf with hf;subst hf
  have:=brace_tells H.scan_reader_brace hwf a hc
  rw[if_pos h3]at this
  rw[tokS,if_neg h1,if_neg h2,if_pos h3];exact this
 rw[if_neg h3]at hf
 by_cases h4:c=125
 ·rw[if_pos h4]at hf
  injection hf with hf;subst hf
  have:=brace_tells H.scan_reader_brace hwf a hc
  rw[if_neg h3]at this
  rw[tokS,if_neg h1,if_neg h2,if_neg h3,if_pos h4];exact this
 rw[if_neg h4]at hf
 by_cases h5:c=91
 ·rw[if_pos h5]at hf
  injection hf with hf;subst hf
  rw[tokS,if_neg h1,if_neg h2,if_neg h3,if_neg h4,if_pos (.inl h5)]
  exact bracket_tells H.scan_reader_bracket hwf a hc
 rw[if_neg h5]at hf
 by_cases h6:c=93
 ·rw[if_pos h6]at hf
  injection hf with hf;subst hf
  rw[tokS,if_neg h1,if_neg h2,if_neg h3,if_neg h4,if_pos (.inr h6)]
  exact bracket_tells H.scan_reader_bracket hwf a hc
 rw[if_neg h6]at hf
 have h56:¬(c=91∨c=93):=fun h=>h.elim h5 h6
 by_cases h7:c=60
 ·rw[if_pos h7]at hf
  injection hf with hf;subst hf
  have:=less_tells H.scan_reader_less hwf a
  rw[←hR]at this
  rw[tokS,if_neg h1,if_neg h2,if_neg h3,if_neg h4,if_neg h56,if_pos h7];exact this
 rw[if_neg h7]at hf
 by_cases h8:c=62
 ·rw[if_pos h8]at hf
  injection hf with hf;subst hf
  have:=greater_tells H.scan_reader_greater hwf a
  rw[←hR]at this
  rw[tokS,if_neg h1,if_neg h2,if_neg h3,if_neg h4,if_neg h56,if_neg h7,if_pos h8];exact this
 rw[if_neg h8]at hf
 by_cases h9:c=47
 ·rw[if_pos h9]at hf
  injection hf with hf;subst hf
  have:=slash_tells H.scan_reader_slash hwf a
  rw[←hR]at this
  rw[tokS,if_neg h1,if_neg h2,if_neg h3,if_neg h4,if_neg h56,if_neg h7,if_neg h8,if_pos h9];exact this
 rw[if_neg h9]at hf
 cases hf
theorem reader_none {c:UInt8} {R:List UInt8} (hf:readV c=none):tokS (c::R)=if 128≤c.toNat∧c.toNat<160 then binR c R else wordK (c::R):=by
 unfold readV at hf
 by_cases h1:c=40
 ·rw[if_pos h1]at hf;cases hf
 rw[if_neg h1]at hf
 by_cases h2:c=41
 ·rw[if_pos h2]at hf;cases hf
 rw[if_neg h2]at hf
 by_cases h3:c=123
 ·rw[if_pos h3]at hf;cases hf
 rw[if_neg h3]at hf
 by_cases h4:c=125
 ·rw[if_pos h4]at hf;cases hf
 rw[if_neg h4]at hf
 by_cases h5:c=91
 ·rw[if_pos h5]at hf;cases hf
 rw[if_neg h5]at hf
 by_cases h6:c=93
 ·rw[if_pos h6]at hf;cases hf
 rw[if_neg h6]at hf
 by_cases h7:c=60
 ·rw[if_pos h7]at hf;cases hf
 rw[if_neg h7]at hf
 by_cases h8:c=62
 ·rw[if_pos h8]at hf;cases hf
 rw[if_neg h8]at hf
 by_cases h9:c=47
 ·rw[if_pos h9]at hf;cases hf
 have h56:¬(c=91∨c=93):=fun h=>h.elim h5 h6
 rw[tokS,if_neg h1,if_neg h2,if_neg h3,if_neg h4,if_neg h56,if_neg h7,if_neg h8,if_neg h9]
theorem token_tells175 (H:B.H_scan_reader_token T) (hwf:st.Wf) {p i:Nat} {s:List UInt8} (a:At st p s i):Tells T st (.fn 175 [] []) [.ptr p 0] (tk3 (tokS (s.drop i))):=by
 refine tells_of H.e H.f rfl ?_
 have hx:=Ext.new hwf (.cells 134 true [.int .i64 0,.int .i64 0,.str []])
 have hg:=zero_tok st.h st.nx
 have a1:=a.ext hx hwf
 have q0:=a1.r0
 have q1:=a1.r1
 have hs:=a.hs
 have hi:=a.hi
 obtain⟨c,hc,hd⟩:=a.hd
 have y:=hx.trans (Ext.aside hx.wf 12)
 have hgy:hget (⟨(st.nx,AObj.cells 134 true [.int .i64 0,.int .i64 0,.str []])::st.h,st.nx+1+12⟩:St).h st.nx=some (.cells 134 true [.int .i64 0,.int .i64 0,.str []]):=hg
 have ay:=a.ext y hwf
 simp only[Nat.add_assoc,Nat.reduceAdd]at y hgy ay
 obtain⟨O,hO⟩:∃O,O=tokS (s.drop i):=⟨_,rfl⟩
 rw[←hO]
 simp[B.scan_reader_token,go_sem,NO.run,RO.run,q0,q1,hc]
 refine(readers_res H.scan_readers y.wf).mono ?_
 rintro _ s2 ⟨rfl,x2,g2⟩
 have y2:=y.trans x2
 have hg2:=x2.get y.wf hgy
 have a2:=ay.ext x2 y.wf
 have hlk:=lookup_reader c
 cases hrv:readV c with
 | some f=>
   rw[hrv]at hlk
   have ht:=reader_found H.scan_readers hc rfl hd hrv y2.wf a2
   rw[←hd,←hO]at ht
   simp[go_sem,RO.run,g2,hlk,cellEqK]
   refine ht.use fun s3 x3=> ?_
   obtain⟨k1,k2,k3⟩:=fin3 (st:=st) (y2.trans x3) (x3.get y2.wf hg2) O
   simp[go_sem,k1,WO.run,fresults,resVals,resVal,RO.run,k2,tk3,k3]
 | none=>
   rw[hrv]at hlk
   have ht:=reader_none (R:=s.drop (i+1)) hrv
   rw[hd,ht]at hO
   simp[go_sem,RO.run,g2,hlk,cellEqK]
   by_cases hb:128≤c.toNat∧c.toNat<160
   ·rw[if_pos hb]at hO
    have hbin:=binary_tells H.scan_reader_binary y2.wf a2 hc hb.1
    rw[←hO]at hbin
    have b1:(128:Int)≤c.toNat:=by omega
    have b2:(c.toNat:Int)<160:=by omega
    simp[go_sem,hb.1,hb.2,b1,b2]
    refine hbin.use fun s3 x3=> ?_
    obtain⟨k1,k2,k3⟩:=fin3 (st:=st) (y2.trans x3) (x3.get y2.wf hg2) O
    simp[go_sem,k1,WO.run,fresults,resVals,resVal,RO.run,k2,tk3,k3]
   ·rw[if_neg hb]at hO
    have r0:=a2.r0
    have r1:=a2.r1
    have hsub:asubS s (some (.int .i64 (i:Int))) none=some (.str (s.drop i)):=by rw[asubS_from (by omega) (by omega)];simp
    have hrl:=runN_le isReg (s.drop i)
    rw[List.length_drop]at hrl
    have hrun:=fun(st':St) (hw:st'.Wf)=>run_tells (st:=st') H.scan_run_string hw (s:=s.drop i) (f:= .fn 67 [] []) (p:=isReg) (fun s' hw c=>regular_tells H.lex_Regular hw c) (by simp;omega)
    unfold wordK at hO
    rw[←hd]at hO
    generalize hN:runN isReg (s.drop i)=N at*
    have hword:=fun(st':St) (hw:st'.Wf)=>word_tells (st:=st') H.lex_Word hw (s:=(s.drop i).take N) (by simp;omega)
    obtain⟨I,hI⟩:∃I:Int,I=(i:Int):=⟨_,rfl⟩
    obtain⟨w,hw⟩:∃w:Int,w=I+(N:Int):=⟨_,rfl⟩
    have ek:IntKind.i64.wrap (I+(N:Int))=w:=by rw[hw,wrap64' (by omega) (by omega)]
    have hsub2:asubS s (some (.int .i64 I)) (some (.int .i64 w))=some (.str ((s.drop i).take N)):=by
     rw[asubS_some (by omega) (by omega) (by omega)]
     congr 3
     ·omega
     ·congr 1;omega
    rw[←hI]at r1 hsub
    have y3:=y2.trans (Ext.aside y2.wf 13)
    have a3:=a2.ext (Ext.aside y2.wf 13) y2.wf
    have hg3:hget (⟨s2.h,s2.nx+13⟩:St).h st.nx=some (.cells 134 true [.int .i64 0,.int .i64 0,.str []]):=hg2
    have hb':(128≤c.toNat∧(128:Int)≤c.toNat∧¬(c.toNat:Int)<160∧¬c.toNat<160)∨(¬128≤c.toNat∧¬(128:Int)≤c.toNat∧True∧True):=by
     by_cases h:128≤c.toNat
     ·exact .inl ⟨h,by omega,by omega,by omega⟩
     ·exact .inr ⟨h,by omega,trivial,trivial⟩
    generalize hWd:(s.drop i).take N=X at*
    generalize hWt:wordT X=Wt at*
    obtain⟨wk,wn,wx,we⟩:=Wt
    simp only at hO
    rcases hb' with ⟨b1,b2,b3,b4⟩ | ⟨b1,b2,b3,b4⟩
    all_goals
     simp[go_sem,b1,b2,b3,b4,RO.run,r0,r1,hsub]
     refine(hrun _ y3.wf).use fun s3 x3=> ?_
     have y4:=y3.trans x3
     have a4:=a3.ext x3 y3.wf
     have hg4:=x3.get y3.wf hg3
     have p0:=a4.r0
     have p1:=a4.r1
     rw[←hI]at p1
     simp[go_sem,RO.run,p0,p1,ek,hsub2]
     have y5:=y4.trans (Ext.aside y4.wf 25)
     refine(hword _ y5.wf).use fun s5 x5=> ?_
     have x6:=Ext.put y4.wf (s:=s5) x5 (Nat.le_refl _) (by omega) (.cells 134 true [.int .i64 wk,.int .i64 wn,.str wx])
     have y6:=y4.trans x6
     have hg6:=x6.get y4.wf hg4
     have hz:hget ((s3.nx,AObj.cells 134 true [.int .i64 wk,.int .i64 wn,.str wx])::s5.h) s3.nx=some (.cells 134 true [.int .i64 wk,.int .i64 wn,.str wx]):=by simp[hget_cons]
     simp[go_sem,toW,tokA,tokC,NO.run,WO.run,wr_tok]
     by_cases hwe:we=0
     ·rw[if_neg (by simpa using hwe)]at hO
      subst hO
      obtain⟨k1,k2,k3⟩:=fin3 (st:=st) y6 hg6 ((wk,wn,wx),N,0)
      simp only at k1 k2 k3
      simp[go_sem,hwe,RO.run,rd_tok,k1,WO.run,fresults,resVals,resVal,k2,tk3,k3]
     ·rw[if_pos hwe]at hO
      subst hO
      obtain⟨k1,k2,k3⟩:=fin3 (st:=st) y6 hg6 (err3 we)
      simp only[err3]at k1 k2 k3
      simp[go_sem,hwe,k1,WO.run,fresults,resVals,resVal,RO.run,k2,tk3,err3,k3]
def nextS (s:List UInt8) (i:Int):T3:=
 if 65536<s.length then err3 3
 else if i<0∨(s.length:Int)<i then err3 2
 else let k:=i.toNat+skp false (s.drop i.toNat)
  if k=s.length then((0,0,[]),k,4)else((tokS (s.drop k)).1,k+(tokS (s.drop k)).2.1,(tokS (s.drop k)).2.2)
theorem textK_le (k:Int) (x:List UInt8) (n:Nat):(textK k x n).2.1≤n:=by
 unfold textK
 split
 ·simp[err3]
 ·split
  ·exact Nat.le_refl _
  ·simp[err3]
theorem tokS_le (s:List UInt8):(tokS s).2.1≤s.length:=by
 have he:∀e,(err3 e).2.1≤s.length:=fun e=>Nat.zero_le _
 cases s with
 | nil=>exact Nat.zero_le _
 | cons c R=>
   have hf:∀k l,(fixR k l R).2.1≤R.length+1:=fun k l=>by
    unfold fixR
    split
    ·exact Nat.zero_le _
    ·simp only;omega
   have hcn:∀k l,(cntR4 k l R).2.1≤R.length+1:=fun k l=>by
    unfold cntR4
    split
    ·exact Nat.zero_le _
    ·split
     ·exact Nat.zero_le _
     ·refine Nat.le_trans (textK_le _ _ _) ?_
      rename_i h1 h2
      rw[List.length_drop]at h2
      omega
   have hde:∀(f:Nat) (u:List UInt8×Nat×Int),f+u.2.1≤R.length+1→(decoR f u).2.1≤R.length+1:=fun f u h=>by
    unfold decoR
    split
    ·exact Nat.le_trans (textK_le _ _ _) h
    ·split <;> exact Nat.zero_le _
   unfold tokS
   simp only[List.length_cons]
   split
   ·unfold quotedR
    split
    ·exact Nat.le_trans (textK_le _ _ _) (unquoteT_le _).2
    ·split <;> exact Nat.zero_le _
   split
   ·exact Nat.zero_le _
   split
   ·simp
   split
   ·simp
   split
   ·exact Nat.le_trans (textK_le _ _ _) (by omega)
   split
   ·unfold lessR
    split
    ·refine Nat.le_trans (textK_le _ _ _) ?_
     rename_i h
     cases R with
     | nil=>simp at h
     | cons a r=>simp
    ·split
     ·rename_i h
      refine hde _ _ ?_
      have:=(b85T_le (R.drop 1)).2
      rw[List.length_drop]at this
      cases R with
      | nil=>simp at h
      | cons a r=>simp at this⊢;omega
     ·refine hde _ _ ?_
      have:=(hexT_le R).2
      omega
   split
   ·unfold greaterR
    split
    ·refine Nat.le_trans (textK_le _ _ _) ?_
     rename_i h
     cases R with
     | nil=>simp at h
     | cons a r=>simp
    ·exact Nat.zero_le _
   split
   ·unfold slashR
    split
    ·refine Nat.le_trans (textK_le _ _ _) ?_
     rename_i h
     have:=runN_le isReg (R.drop 1)
     rw[List.length_drop]at this
     cases R with
     | nil=>simp at h
     | cons a r=>simp at this⊢;omega
    ·refine Nat.le_trans (textK_le _ _ _) ?_
     have:=runN_le isReg R
     omega
   split
   ·unfold binR
    (repeat' split) <;> first | exact hf _ _ | exact hcn _ _ | exact Nat.zero_le _
   ·unfold wordK
    split
    ·exact Nat.zero_le _
    ·have:=runN_le isReg (c::R)
     simpa using this
theorem next_tells158 (H:B.H_scan_Next T) (hwf:st.Wf) {s:List UInt8} {i:Int} (hi0: -9223372036854775808≤i) (hi1:i≤9223372036854775807) (hs:s.length<1000000000):Tells T st (.fn 158 [] []) [.str s,.int .i64 i] (tk3 (nextS s i)):=by
 refine tells_of H.e H.f rfl ?_
 have hx:=Ext.new hwf (.cells 134 true [.int .i64 0,.int .i64 0,.str []])
 have hg:=zero_tok st.h st.nx
 obtain⟨O,hO⟩:∃O,O=nextS s i:=⟨_,rfl⟩
 rw[←hO]
 unfold nextS at hO
 by_cases hl:65536<s.length
 ·rw[if_pos hl]at hO
  subst hO
  obtain⟨k1,k2,k3⟩:=fin3 (st:=st) hx hg (err3 3)
  simp only[err3]at k1 k2 k3
  simp[B.scan_Next,go_sem,NO.run,hl,show (65536:Int)<s.length by omega,k1,WO.run,fresults,resVals,resVal,RO.run,k2,tk3,err3,k3]
 ·rw[if_neg hl]at hO
  have hl':¬(65536:Int)<s.length:=by omega
  by_cases hb:i<0∨(s.length:Int)<i
  ·rw[if_pos hb]at hO
   subst hO
   obtain⟨k1,k2,k3⟩:=fin3 (st:=st) hx hg (err3 2)
   simp only[err3]at k1 k2 k3
   by_cases h0:i<0
   ·simp[B.scan_Next,go_sem,NO.run,hl,hl',h0,k1,WO.run,fresults,resVals,resVal,RO.run,k2,tk3,err3,k3]
   ·have h2:(s.length:Int)<i:=by rcases hb with h | h;exact absurd h h0;exact h
    simp[B.scan_Next,go_sem,NO.run,hl,hl',h0,h2,k1,WO.run,fresults,resVals,resVal,RO.run,k2,tk3,err3,k3]
  ·rw[if_neg hb]at hO
   have h0:¬i<0:=fun h=>hb (.inl h)
   have h2:¬(s.length:Int)<i:=fun h=>hb (.inr h)
   obtain⟨j,rfl⟩:=Int.eq_ofNat_of_zero_le (show 0≤i by omega)
   simp only[Int.toNat_natCast]at hO
   have y1:=hx.trans (Ext.new hx.wf (rdrO false s j))
   have x1':=Ext.new hx.wf (rdrO false s j)
   have hg1:hget ((st.nx+1,rdrO false s j)::(st.nx,AObj.cells 134 true [.int .i64 0,.int .i64 0,.str []])::st.h) st.nx=some (.cells 134 true [.int .i64 0,.int .i64 0,.str []]):=by simp[hget_cons]
   have hr1:hget ((st.nx+1,rdrO false s j)::(st.nx,AObj.cells 134 true [.int .i64 0,.int .i64 0,.str []])::st.h) (st.nx+1)=some (rdrO false s j):=by simp[hget_cons]
   simp only[Nat.add_assoc,Nat.reduceAdd]at y1
   have hsk:=skip_res H.scan_reader_skip (st:=⟨(st.nx+1,rdrO false s j)::(st.nx,AObj.cells 134 true [.int .i64 0,.int .i64 0,.str []])::st.h,st.nx+2⟩) (s:=s) (by omega) (i:=j) (by omega) y1.wf hr1
   have hle:=skp_le false (s.drop j)
   rw[List.length_drop]at hle
   generalize hK:j+skp false (s.drop j)=K at*
   simp only[rdrO]at hsk
   simp[B.scan_Next,go_sem,NO.run,hl,hl',h0,h2,Nat.add_assoc]
   refine hsk.mono ?_
   rintro _ s2 ⟨rfl,f2,g2⟩
   have y2:=y1.frm f2 (by simp)
   have hg2:=f2.get y1.wf hg1 (by simp)
   have r1:rdCell s2.h (st.nx+1) 1=some (.int .i64 (K:Int)):=by simp[rdCell,g2]
   by_cases hKe:K=s.length
   ·rw[if_pos hKe]at hO
    subst hO
    have hKe':(K:Int)=s.length:=by omega
    have y3:=y2.trans (Ext.aside y2.wf 10)
    have hg3:hget (⟨s2.h,s2.nx+10⟩:St).h st.nx=some (.cells 134 true [.int .i64 0,.int .i64 0,.str []]):=hg2
    obtain⟨k1,k2,k3⟩:=fin3 (st:=st) y3 hg3 ((0,0,[]),K,4)
    have hne:st.nx≠st.nx+1:=by omega
    have r2:rdCell (hset s2.h st.nx (.cells 134 true [.int .i64 0,.int .i64 0,.str []])) (st.nx+1) 1=some (.int .i64 (K:Int)):=by
     simp only[rdCell]
     rw[hget_hset_ne hg2 hne,g2];rfl
    simp only at k1 k2 k3
    obtain⟨L,hL⟩:∃L:Int,L=(s.length:Int):=⟨_,rfl⟩
    rw[hKe',←hL]at r1 r2
    simp[go_sem,RO.run,r1,←hL]
    simp[go_sem,RO.run,WO.run,r1,reI,r2,k1]
    refine⟨rfl,?_⟩
    have hKL:(K:Int)=L:=by omega
    simp[go_sem,WO.run,fresults,resVals,resVal,RO.run,k2,tk3,k3,hKL]
   ·rw[if_neg hKe]at hO
    have hKe':¬(K:Int)=s.length:=by omega
    have hat:At s2 (st.nx+1) s K:=⟨⟨false,g2⟩,by omega,by omega⟩
    have htk:=token_tells175 H.scan_reader_token y2.wf hat
    have hlt:=tokS_le (s.drop K)
    rw[List.length_drop]at hlt
    generalize tokS (s.drop K)=W at*
    obtain⟨⟨wk,wn,wx⟩,wl,we⟩:=W
    simp only at hO hlt
    simp[go_sem,RO.run,r1,hKe,hKe']
    refine htk.use fun s3 x3=> ?_
    have y3:=y2.trans x3
    have hg3:=x3.get y2.wf hg2
    have hg3r:=x3.get y2.wf g2
    have x4:=Ext.new y3.wf (.cells 134 true [.int .i64 wk,.int .i64 wn,.str wx])
    have y4:=y3.trans x4
    have hg4:=x4.get y3.wf hg3
    have hg4r:=x4.get y3.wf hg3r
    have hz:rdCells ((s3.nx,AObj.cells 134 true [.int .i64 wk,.int .i64 wn,.str wx])::s3.h) s3.nx 0 3=some [.int .i64 wk,.int .i64 wn,.str wx]:=rd_tok _ _ _ _ _ _ _
    have y5:=y4.trans (Ext.aside y4.wf 13)
    simp only[Nat.add_assoc,Nat.reduceAdd]at y5
    have hg5:hget (⟨(s3.nx,AObj.cells 134 true [.int .i64 wk,.int .i64 wn,.str wx])::s3.h,s3.nx+14⟩:St).h st.nx=some (.cells 134 true [.int .i64 0,.int .i64 0,.str []]):=hg4
    obtain⟨k1,k2,k3⟩:=fin3 (st:=st) y5 hg5 O
    have p1:rdCell ((s3.nx,AObj.cells 134 true [.int .i64 wk,.int .i64 wn,.str wx])::s3.h) (st.nx+1) 1=some (.int .i64 (K:Int)):=by simp only[rdCell];rw[hg4r];rfl
    have hne:st.nx≠st.nx+1:=by omega
    have p2:rdCell (hset ((s3.nx,AObj.cells 134 true [.int .i64 wk,.int .i64 wn,.str wx])::s3.h) st.nx (.cells 134 true [.int .i64 wk,.int .i64 wn,.str wx])) (st.nx+1) 1=some (.int .i64 (K:Int)):=by
     simp only[rdCell]
     rw[hget_hset_ne hg4 hne,hg4r];rfl
    obtain⟨z,hzz⟩:∃z:Nat,z=K+wl:=⟨_,rfl⟩
    have ez:IntKind.i64.wrap ((K:Int)+(wl:Int))=(z:Int):=by rw[wrap64' (by omega) (by omega)];omega
    rw[←hzz]at hO
    subst hO
    simp only at k1 k2 k3
    simp[go_sem,tk3,NO.run,WO.run,RO.run,wr_tok,hz,p1,reI,p2,k1]
    refine⟨rfl,?_⟩
    simp[go_sem,ez,WO.run,fresults,resVals,resVal,RO.run,k2,tk3,k3]
end Go.Ev

/- The reference's token. -/
namespace Go.Ev
open Go
variable {T : Tab} {st : St}
end Go.Ev

/- The reference's Next. -/
namespace Go.Ev
open Go
variable {T : Tab} {st : St}
end Go.Ev

/- Lists of tokens. -/
namespace Go.Ev
open Go
variable {T : Tab} {st : St}
abbrev Tok:=Int×Int×List UInt8
def tkA (t:Tok):List AV:=[.int .i64 t.1,.int .i64 t.2.1,.str t.2.2]
def toksA (l:List Tok):List AV:=l.flatMap tkA
theorem toksA_len:∀l:List Tok,(toksA l).length=l.length*3
 | []=>rfl
 | t::r=>by
   have:=toksA_len r
   simp only[toksA,List.flatMap_cons,List.length_append,List.length_cons]at this⊢
   simp only[tkA,List.length_cons,List.length_nil]
   omega
theorem toksA_snoc (l:List Tok) (t:Tok):toksA (l++[t])=toksA l++tkA t:=by simp[toksA]
theorem toksA_at:∀{l:List Tok} {i:Nat} {t:Tok},l[i]? =some t→((toksA l).drop (i*3)).take 3=tkA t
 | [],i,t,h=>by simp at h
 | x::r,0,t,h=>by
   simp at h
   subst h
   simp[toksA,tkA]
 | x::r,i+1,t,h=>by
   have:=toksA_at (l:=r) (i:=i) (t:=t) (by simpa using h)
   rw[←this]
   have e:(i+1)*3=(tkA x).length+i*3:=by simp[tkA];omega
   rw[e]
   simp only[toksA,List.flatMap_cons]
   rw[←List.drop_drop,List.drop_left]
theorem rdCells_part {h:Heap} {n off c o k:Nat} {cs:List AV} (a:rdCells h n off c=some cs) (hk:o+k≤c):rdCells h n (off+o) k=some ((cs.drop o).take k):=by
 unfold rdCells at a⊢
 split at a
 all_goals
  first
  | (split at a
     ·rename_i hle
      injection a with a
      rw[if_pos (by omega),←a,List.drop_take,List.drop_drop,List.take_take,Nat.min_eq_left (by omega)]
     ·cases a)
  | cases a
theorem Rd.tok {h:Heap} {v:AV} {l:List Tok} {i:Nat} {t:Tok} (a:Rd h v 3 l.length (toksA l)) (ht:l[i]? =some t):∃n off cp,v= .slice n off l.length cp∧rdCells h n (off+i*3) 3=some [.int .i64 t.1,.int .i64 t.2.1,.str t.2.2]:=by
 have hil:i<l.length:=by
  rcases Nat.lt_or_ge i l.length with h | h
  ·exact h
  ·rw[List.getElem?_eq_none h]at ht;cases ht
 rcases a with ⟨h1,h2,h3⟩ | ⟨n,off,cp,h1,h2⟩
 ·omega
 ·refine⟨n,off,cp,h1,?_⟩
  have:=rdCells_part h2 (o:=i*3) (k:=3) (by omega)
  rw[toksA_at ht]at this
  exact this
def GrowT (st0 s:St) (v:AV) (l:List Tok):Prop:=Sl s v 134 3 l.length (toksA l)∧Mine [] st0 v∧NK v
theorem GrowT.nil (st0 s:St):GrowT st0 s .nilslice []:=⟨.nil _ _ _,.nil _ _,fun _ _ _ _ h=>by cases h⟩
theorem GrowT.ge {st0 s:St} {v:AV} {l:List Tok} (a:GrowT st0 s v l):∀n∈v.nms,st0.nx≤n:=fun n hn=>by
 rcases a.2.1 n hn with h | h
 ·cases h
 ·exact h
theorem GrowT.ext {st0 s s':St} {v:AV} {l:List Tok} (a:GrowT st0 s v l) (f:Ext s s') (hw:s.Wf):GrowT st0 s' v l:=⟨a.1.ext f hw,a.2.1,a.2.2⟩
theorem GrowT.frm {st0 s s':St} {v:AV} {l:List Tok} {S:List Nat} (a:GrowT st0 s v l) (f:Frm S s s') (hw:s.Wf) (hn:∀n∈v.nms,n∉S):GrowT st0 s' v l:=⟨a.1.frm f hw hn,a.2.1,a.2.2⟩
theorem GrowT.dropLoc {st0 s:St} {v:AV} {l:List Tok} {c:Nat} (a:GrowT st0 s v l) (hw:s.Wf):GrowT st0 ⟨Go.Ev.dropLoc c s.h,s.nx⟩ v l:=⟨a.1.dropLoc hw,a.2.1,a.2.2⟩
theorem GrowT.rd {st0 s:St} {v:AV} {l:List Tok} (a:GrowT st0 s v l):Rd s.h v 3 l.length (toksA l):=a.1.rd
theorem GrowT.form {st0 s:St} {v:AV} {l:List Tok} (a:GrowT st0 s v l):(v= .nilslice∧l=[])∨∃n,v= .slice n 0 l.length .full∧hget s.h n=some (.buf 134 3 (toksA l))∧st0.nx≤n:=by
 have hge:=a.ge
 obtain⟨⟨m,hsl⟩,b6,b7⟩:=a
 rcases hsl with ⟨k1,k2,k3⟩ | ⟨k1,k2,k3⟩ | ⟨ty',k1,k2,k3⟩
 ·exact .inl ⟨k1,List.length_eq_zero_iff.1 k3⟩
 ·exact .inr ⟨m,k1,k2,hge m (by rw[k1];simp[AV.nms])⟩
 ·exact absurd k1 (b7 _ _ _ _)
theorem GrowT.sc {st0 s:St} {v:AV} {l:List Tok} (a:GrowT st0 s v l):v.sc=true:=by
 rcases a.form with ⟨h,_⟩ | ⟨n,h,_⟩ <;> rw[h] <;> rfl
theorem GrowT.push {st0 s1:St} (hF:st0.nx≤s1.nx) (hw:s1.Wf) {v:AV} {l:List Tok} (a b:Int) (c:List UInt8) {k:Nat} (hk:0<k) (g:GrowT st0 s1 v l) (hl:l.length<1000000000000):
  CRes (aappend 134 3 32 ⟨(s1.nx,.cells 134 false [.int .i64 a,.int .i64 b,.str c])::s1.h,s1.nx+k⟩ v (.slice s1.nx 0 1 (.known 1))) fun v' s=>GrowT st0 s v' (l++[(a,b,c)])∧Frm v.nms s1 s:=by
 obtain⟨a1,a2,a3⟩:=g
 have xa:=Ext.newA hw (.cells 134 false [.int .i64 a,.int .i64 b,.str c]) hk
 have hap:=Sl.append (x:= .slice s1.nx 0 1 (.known 1)) (j:=1) (new:=[.int .i64 a,.int .i64 b,.str c]) (b:=32) (Frm.refl xa.wf v.nms) (fun n h=> .inl h) (a1.ext xa hw)
  (.inr ⟨_,_,_,rfl,rd_all (ty:=134) (l:=false) (by simp[hget_cons]) rfl⟩) (by simp[AV.sc]) (by omega) (by omega) (.inl (by omega))
 refine(hap.also (fun _ _ h=>aappend_nk h a3)).mono ?_
 rintro v2 s2 ⟨⟨k1,k2,k3,_⟩,hnk2⟩
 refine⟨⟨by rw[toksA_snoc];simpa [tkA] using k1,fun n hn=> ?_,hnk2⟩,(xa.fr v.nms).trans k2 (fun n h=> .inl h)⟩
 rcases k3 n hn with h | h
 ·exact a2 n h
 ·simp at h;exact .inr (by omega)
structure Dra where
 k:Nat
 n:Int
 t:List UInt8
instance:Inhabited Dra:=⟨⟨0,0,[]⟩⟩
end Go.Ev

/- The reference's Print and Same; a token takes octets; all tokens. -/
namespace Go.Ev
open Go
variable {T : Tab} {st : St}
def txT (t:Tok):List UInt8:=textS t.1 t.2.1 t.2.2
def printL (l:List Tok):List UInt8:=Lib.join (l.map txT) [32]
theorem join_snoc (xs:List (List UInt8)) (x sep:List UInt8):Lib.join (xs++[x]) sep=if xs=[]then x else Lib.join xs sep++(sep++x):=by
 cases xs with
 | nil=>simp[Lib.join_one]
 | cons y r=>
   rw[if_neg (by simp),List.cons_append,Lib.join_cons,Lib.join_cons]
   simp[Lib.joinTail]
theorem printL_snoc (l:List Tok) (t:Tok):printL (l++[t])=if l=[]then txT t else printL l++(32::txT t):=by
 unfold printL
 rw[List.map_append,List.map_singleton,join_snoc]
 simp
def OkT (l:List Tok):Prop:=l.length≤40∧∀t∈l,rightT t.1 t.2.1 t.2.2=true∧t.2.2.length≤60
theorem dec_len (n:Nat) (h:n<10000000000):(Lib.decDigits n).length≤10:=by
 have aux:∀(k n:Nat),n<10 ^ (k+1)→(Lib.decDigits n).length≤k+1:=by
  intro k
  induction k with
  | zero=>intro n hn;rw[decDigits_small (by simpa using hn)];simp
  | succ k ih=>
    intro n hn
    by_cases h10:n<10
    ·rw[decDigits_small h10];simp
    ·rw[decDigits_big (by omega),List.length_append,List.length_singleton]
     have:=ih (n / 10) (by rw[Nat.pow_succ]at hn;omega)
     omega
 exact aux 9 n (by simpa using h)
theorem flatC_len:∀x:List UInt8,(x.flatMap quoteC).length≤4*x.length
 | []=>Nat.le_refl _
 | c::r=>by
   have:=flatC_len r
   have:=(quoteC_len c).2
   simp only[List.flatMap_cons,List.length_append,List.length_cons]
   omega
theorem quoteS_len (x:List UInt8):(quoteS x).length≤4*x.length+2:=by
 have:=flatC_len x
 unfold quoteS
 simp only[List.length_cons,List.length_append,List.length_nil]
 omega
theorem txT_len {t:Tok} (h:rightT t.1 t.2.1 t.2.2=true∧t.2.2.length≤60):(txT t).length≤300:=by
 obtain⟨k,n,x⟩:=t
 obtain⟨hr,hl⟩:=h
 simp only at hr hl
 have hb:=right_bound hr
 have hq:=quoteS_len x
 unfold txT textS
 simp only
 split
 ·rename_i h1
  have:=hb (.inl h1)
  unfold Lib.itoa
  split
  ·have:=dec_len n.natAbs (by omega)
   simp only[List.length_cons];omega
  ·have:=dec_len n.toNat (by omega)
   omega
 split
 ·rename_i h2
  have:=hb (.inr h2)
  have h3:=dec_len (n.natAbs / 65536) (by omega)
  have h4:=fracS_len 17 (n.natAbs % 65536)
  unfold printS
  simp only[List.length_append,List.length_cons]
  split <;> simp only[List.length_cons,List.length_nil] <;> omega
 split
 ·simp;omega
 split
 ·simp;omega
 split
 ·omega
 split
 ·simp
 split
 ·simp
 ·omega
theorem printL_len {l:List Tok} (h:OkT l):(printL l).length≤301*l.length:=by
 obtain⟨_,h⟩:=h
 have aux:∀i,i≤l.length→(printL (l.take i)).length≤301*i:=by
  intro i
  induction i with
  | zero=>intro _;simp[printL,Lib.join_nil]
  | succ i ih=>
    intro hi
    obtain⟨t,ht⟩:∃t,l[i]? =some t:=⟨_,List.getElem?_eq_getElem (by omega)⟩
    have h1:=ih (by omega)
    have h2:=txT_len (h t (List.mem_of_getElem? ht))
    rw[List.take_add_one,ht,show (some t).toList=[t]from rfl,printL_snoc]
    split
    ·omega
    ·simp only[List.length_append,List.length_cons];omega
 have:=aux l.length (Nat.le_refl _)
 rwa[List.take_length]at this
theorem same_l0 (H:B.H_chaseref04_Same T) {st0:St} (hw0:st0.Wf) {v w:AV} {l:List Tok} (hl:l.length<1000000000000) (hv:Rd st0.h v 3 l.length (toksA l)) (hw:Rd st0.h w 3 l.length (toksA l)):∀(m i:Nat) (e:Env) (st1:St),i+m=l.length→Ext st0 st1→eget e 0=v→eget e 1=w→eget e 5= .int .i64 (i:Int)→
  Res (run T (.loop B.chaseref04_Same_l0) e st1) fun x e' s'=>x= .exit 0∧Ext st0 s':=by
 intro m
 induction m with
 | zero=>
   intro i e st1 hi hx g0 g1 g5
   have hie:i=l.length:=by omega
   subst hie
   rw[run_loop]
   rcases hv with ⟨rfl,h2,h3⟩ | ⟨n,off,cp,rfl,h2⟩
   ·simp[B.chaseref04_Same_l0,go_sem,g0,g5,hx,h2]
   ·simp[B.chaseref04_Same_l0,go_sem,g0,g5,hx]
 | succ m ih=>
   intro i e st1 hi hx g0 g1 g5
   have hil:i<l.length:=by omega
   obtain⟨t,ht⟩:∃t,l[i]? =some t:=⟨_,List.getElem?_eq_getElem hil⟩
   obtain⟨n,off,cp,hvn,hrd⟩:=(hv.ext hx hw0).tok ht
   obtain⟨n2,off2,cp2,hwn,hrd2⟩:=(hw.ext hx hw0).tok ht
   have h1:(i:Int)<l.length:=by omega
   have ek:IntKind.i64.wrap ((i:Int)+1)=((i+1:Nat):Int):=wrap64' (by omega) (by omega)
   have heq:cellsEqK [.i .i64,.i .i64,.s] [.int .i64 t.1,.int .i64 t.2.1,.str t.2.2] [.int .i64 t.1,.int .i64 t.2.1,.str t.2.2]=some true:=by
    rw[tok_eq];simp
   have ih2:=fun e' s'=>ih (i+1) e' s' (by omega)
   rw[run_loop]
   rw[hvn]at g0 ih2
   rw[hwn]at g1 ih2
   obtain⟨I,hI⟩:∃I:Int,I=(i:Int):=⟨_,rfl⟩
   rw[←hI]at g5 h1 ek
   have h0:0≤I:=by omega
   have ht:I.toNat=i:=by omega
   simp[B.chaseref04_Same_l0,go_sem,g0,g1,g5,h0,ht,h1,RO.run,hrd,hrd2,heq]
   exact ih2 _ _ (hx.trans (Ext.aside hx.wf 9)) (by simp[go_sem,g0]) (by simp[go_sem,g1]) (by simp[go_sem,g5,ek])
theorem same_tells (H:B.H_chaseref04_Same T) (hwf:st.Wf) {v w:AV} {l:List Tok} (hl:l.length<1000000000000) (hv:Rd st.h v 3 l.length (toksA l)) (hw:Rd st.h w 3 l.length (toksA l)):Tells T st (.fn 164 [] []) [v,w] (.bool true):=by
 refine tells_of H.e H.f rfl ?_
 have hlv:=hv.lenOf (ev:=fun _=>v) (x:= .t 0) rfl
 have hlw:=hw.lenOf (ev:=fun _=>w) (x:= .t 0) rfl
 have loop:=fun(e:Env) g0 g1 g5=>same_l0 H hwf hl hv hw l.length 0 e st (by simp) (.refl hwf) g0 g1 g5
 rcases hv with ⟨rfl,h2,h3⟩ | ⟨n,off,cp,rfl,h2⟩ <;> rcases hw with ⟨rfl,k2,k3⟩ | ⟨n2,off2,cp2,rfl,k2⟩
 ·simp[B.chaseref04_Same,go_sem]
  refine(loop _ (by simp[go_sem]) (by simp[go_sem]) (by simp[go_sem])).mono ?_
  rintro x e' s' ⟨rfl,hx⟩
  simp[go_sem,hx]
 ·simp[B.chaseref04_Same,go_sem,h2]
  refine(loop _ (by simp[go_sem,h2]) (by simp[go_sem,h2]) (by simp[go_sem])).mono ?_
  rintro x e' s' ⟨rfl,hx⟩
  simp[go_sem,hx]
 ·simp[B.chaseref04_Same,go_sem,k2]
  refine(loop _ (by simp[go_sem,k2]) (by simp[go_sem,k2]) (by simp[go_sem])).mono ?_
  rintro x e' s' ⟨rfl,hx⟩
  simp[go_sem,hx]
 ·simp[B.chaseref04_Same,go_sem]
  refine(loop _ (by simp[go_sem]) (by simp[go_sem]) (by simp[go_sem])).mono ?_
  rintro x e' s' ⟨rfl,hx⟩
  simp[go_sem,hx]
def okP (t:T3):Prop:=t.2.2=0→0<t.2.1
theorem okP_err {e:Int} (h:e≠0):okP (err3 e):=fun h2=>absurd h2 h
theorem okP_text (k:Int) (x:List UInt8) {n:Nat} (h:0<n):okP (textK k x n):=by
 unfold textK
 split
 ·exact okP_err (by decide)
 ·split
  ·exact fun _=>h
  ·exact okP_err (by decide)
theorem tokS_pos (s:List UInt8):okP (tokS s):=by
 cases s with
 | nil=>exact okP_err (by decide)
 | cons c R=>
   have hf:∀k l,okP (fixR k l R):=fun k l=>by
    unfold fixR
    split
    ·exact okP_err (by decide)
    ·exact fun _=>by simp only;omega
   have hcn:∀k l,okP (cntR4 k l R):=fun k l=>by
    unfold cntR4
    split
    ·exact okP_err (by decide)
    ·split
     ·exact okP_err (by decide)
     ·exact okP_text _ _ (by omega)
   have hde:∀(f:Nat) (u:List UInt8×Nat×Int),0<f→okP (decoR f u):=fun f u h=>by
    unfold decoR
    split
    ·exact okP_text _ _ (by omega)
    ·split <;> exact okP_err (by decide)
   simp only[tokS]
   split
   ·rename_i hc
    subst hc
    unfold quotedR
    split
    ·rename_i hu
     refine okP_text _ _ ?_
     unfold unquoteT at hu⊢
     simp only[if_true]at hu⊢
     split at hu
     ·simp at hu
     ·rename_i o l he
      have:=unq_left he
      split at hu
      ·simp at hu
      ·rename_i h2
       rw[if_neg h2]
       simp only[List.length_cons]
       omega
    ·split <;> exact okP_err (by decide)
   split
   ·exact okP_err (by decide)
   split
   ·exact fun _=>Nat.one_pos
   split
   ·exact fun _=>Nat.one_pos
   split
   ·exact okP_text _ _ (by omega)
   split
   ·unfold lessR
    split
    ·exact okP_text _ _ (by omega)
    ·split <;> exact hde _ _ (by omega)
   split
   ·unfold greaterR
    split
    ·exact okP_text _ _ (by omega)
    ·exact okP_err (by decide)
   split
   ·unfold slashR
    split <;> exact okP_text _ _ (by omega)
   split
   ·unfold binR
    (repeat' split) <;> first | exact hf _ _ | exact hcn _ _ | exact okP_err (by decide)
   ·unfold wordK
    split
    ·rename_i h
     exact okP_err h
    ·rename_i h
     intro _
     simp only
     rcases Nat.eq_zero_or_pos (runN isReg (c::R))with h0 | h0
     ·rw[h0]at h
      exact absurd (by simp[wordT]) h
     ·exact h0
theorem nextS_pos {s:List UInt8} {i:Nat} {t:Tok} {n:Nat} (h:nextS s (i:Int)=(t,n,0)):i<n∧n≤s.length∧i<s.length:=by
 unfold nextS at h
 split at h
 ·simp[err3]at h
 split at h
 ·simp[err3]at h
 rename_i h1 h2
 simp only[Int.toNat_natCast]at h
 have hsk:=skp_le false (s.drop i)
 rw[List.length_drop]at hsk
 split at h
 ·simp at h
 ·rename_i h3
  have hp:=tokS_pos (s.drop (i+skp false (s.drop i)))
  have hle:=tokS_le (s.drop (i+skp false (s.drop i)))
  rw[List.length_drop]at hle
  injection h with _ h
  injection h with h4 h5
  have:=hp h5
  omega
theorem nextS_le (s:List UInt8) (i:Int):(nextS s i).2.1≤s.length:=by
 unfold nextS
 split
 ·exact Nat.zero_le _
 split
 ·exact Nat.zero_le _
 rename_i h1 h2
 have hsk:=skp_le false (s.drop i.toNat)
 rw[List.length_drop]at hsk
 simp only
 split
 ·simp only;omega
 ·have hle:=tokS_le (s.drop (i.toNat+skp false (s.drop i.toNat)))
  rw[List.length_drop]at hle
  simp only
  omega
def runA (s:List UInt8):Nat→Nat→List Tok→List Tok×Nat×Int
 | 0,i,l=>(l,i,4)
 | f+1,i,l=>if(nextS s (i:Int)).2.2=0 then runA s f (nextS s (i:Int)).2.1 (l++[(nextS s (i:Int)).1])else(l,(nextS s (i:Int)).2.1,(nextS s (i:Int)).2.2)
def allS (s:List UInt8):List Tok×Nat×Int:=
 if(runA s (s.length+1) 0 []).2.2=4 then((runA s (s.length+1) 0 []).1,(runA s (s.length+1) 0 []).2.1,0)else([],(runA s (s.length+1) 0 []).2.1,(runA s (s.length+1) 0 []).2.2)
end Go.Ev
