/- The plain law of LexBack: quoted strings, names and ints are read back. -/
import Derived.Test.YtcjbjemfobdkgaaGreatDoorP04
import Derived.Test.YtcjbjemfobdkgaaGreatDoorP05
import Derived.Test.YtcjbjemfobdkgaaGreatDoorP06
import Derived.Test.YtcjbjemfobdkgaaGreatDoorProg
import Derived.Shelf.Strings.Builder1
import Derived.Shelf.Strings.Builder2
import Derived.Shelf.Small.Bits
import Derived.Shelf.Small.Strs
import Derived.Shelf.Strings.BuilderF
import Derived.Shelf.Strings.BuilderK
import Derived.Shelf.Strings.Builder2Cap
import Derived.Shelf.Strconv.Itoa0
import Derived.Shelf.Strings.Search1
import Derived.Shelf.Strings.Prefix
import Derived.Shelf.Bits.Mul64
import Derived.Shelf.Strings.Repeat
namespace Go.Ev
open Go
set_option linter.unusedSimpArgs false
set_option linter.unusedSectionVars false
set_option linter.unusedVariables false

end Go.Ev

/- The plain law of bases: digits in any base are read back. -/
namespace Go.Ev
open Go
set_option linter.unusedSimpArgs false
set_option linter.unusedSectionVars false
set_option linter.unusedVariables false

end Go.Ev

/- The plain law of LexBack: the decimal texts of ints and reals are read back. -/
namespace Go.Ev
open Go
set_option linter.unusedSimpArgs false
set_option linter.unusedSectionVars false
set_option linter.unusedVariables false

end Go.Ev

/- The plain law of LexBack: what a valid token's text is; texts are distinct. -/
namespace Go.Ev
open Go
set_option linter.unusedSimpArgs false
set_option linter.unusedSectionVars false
set_option linter.unusedVariables false

end Go.Ev

/- LexBack: the law told. -/
namespace Go.Ev
open Go
set_option linter.unusedSimpArgs false
set_option linter.unusedSectionVars false
set_option linter.unusedVariables false

variable {T : Tab} {st : St}

theorem Ext.add {s : St} (x : Ext st s) {n : Nat} (h1 : st.nx ≤ n) (h2 : n < s.nx) (hno : hget s.h n = none) (o : AObj) : Ext st ⟨(n, o) :: s.h, s.nx⟩ := by
  refine ⟨x.nx, ⟨fun m p hm => ?_, ?_⟩, fun m hm => ?_⟩
  · simp only [hget] at hm
    split at hm
    · rename_i e; subst e; exact h2
    · exact x.wf.lt m p hm
  · simp only [List.map_cons, List.nodup_cons]
    refine ⟨fun hm => ?_, x.wf.nd⟩
    obtain ⟨p, hp⟩ := hget_of_mem hm
    rw [hno] at hp; cases hp
  · simp only [hget]
    rw [if_neg (by omega), x.keep m hm]

end Go.Ev

/- What the functions of ascii tell: octets. -/
namespace Go.Ev
open Go
set_option linter.unusedSimpArgs false
set_option linter.unusedSectionVars false
set_option linter.unusedVariables false

variable {T : Tab} {st : St}

end Go.Ev

/- What the functions of filter tell: parameters, codings, Check. -/
namespace Go.Ev
open Go
set_option linter.unusedSimpArgs false
set_option linter.unusedSectionVars false
set_option linter.unusedVariables false

variable {T : Tab} {st : St}

/-- A parameter is right: at most so much, and from 1 on if that is not 0. -/
def okp (x m : Int) : Bool := decide (min m 1 ≤ x) && decide (x ≤ m)

theorem right261_tells (H : B.H_filter_coding_right T) (hwf : st.Wf) {a e d : AV} {W G Q w h q : Int} : Tells T st (.fn 261 [] []) [.agg [a, .int .i64 W, .int .i64 G, .int .i64 Q, e, d], .int .i64 w, .int .i64 h, .int .i64 q] (.bool (okp W w && (okp G h && okp Q q))) := by
  refine tells_of H.e H.f rfl ?_
  have x0 := Ext.new hwf (.cells 358 true [a, .int .i64 W, .int .i64 G, .int .i64 Q, e, d])
  have mn : ∀ m : Int, (if (1 : Int) < m then 1 else m) = min m 1 := fun m => by omega
  have step : ∀ (i : Nat) (x m : Int) (e1 : Env) (st1 : St) (Q1 : Ex → Env → St → Prop), Ext st st1 →
      ((i = 0 ∧ W = x ∧ w = m) ∨ (i = 1 ∧ G = x ∧ h = m) ∨ (i = 2 ∧ Q = x ∧ q = m)) → eget e1 27 = .agg [.int .i64 W, .int .i64 w, .int .i64 G, .int .i64 h, .int .i64 Q, .int .i64 q] → eget e1 28 = .int .i64 (i : Int) →
      (∀ e2 s2, Ext st s2 → okp x m = true → eget e2 9 = .bool true → eget e2 27 = eget e1 27 → eget e2 28 = .int .i64 ((i + 1 : Nat) : Int) → Res (run T (.loop B.filter_coding_right_l0) e2 s2) Q1) →
      (∀ e2 s2, Ext st s2 → okp x m = false → eget e2 9 = .bool false → Q1 (.exit 0) e2 s2) →
      Res (run T (.loop B.filter_coding_right_l0) e1 st1) Q1 := by
    intro i x m e1 st1 Q1 hx hsel g27 g28 hgo hstop
    have x1 := hx.trans (Ext.new hx.wf (.cells 62 true [.int .i64 x, .int .i64 m]))
    rw [g27] at hgo
    have hok : okp x m = (decide (min m 1 ≤ x) && decide (x ≤ m)) := rfl
    rcases hsel with ⟨rfl, e1', e2'⟩ | ⟨rfl, e1', e2'⟩ | ⟨rfl, e1', e2'⟩
    all_goals
      rw [run_loop]
      by_cases h1 : min m 1 ≤ x
      · by_cases h2 : x ≤ m
        · rw [hok] at hgo
          simp [B.filter_coding_right_l0, go_sem, NO.run, WO.run, RO.run, g27, g28, e1', e2', wrCells, rdCell, hget_cons, hset_cons, splice, mn, h1, h2]
          refine hgo _ _ x1 (by simp [h1, h2]) (by simp [go_sem]) (by simp [go_sem, g27, e1', e2']) (by simp [go_sem, g28]; try rfl)
        · rw [hok] at hstop
          simp [B.filter_coding_right_l0, go_sem, NO.run, WO.run, RO.run, g27, g28, e1', e2', wrCells, rdCell, hget_cons, hset_cons, splice, mn, h1, h2]
          exact hstop _ _ x1 (by simp [h1, h2]) (by simp [go_sem])
      · rw [hok] at hstop
        simp [B.filter_coding_right_l0, go_sem, NO.run, WO.run, RO.run, g27, g28, e1', e2', wrCells, rdCell, hget_cons, hset_cons, splice, mn, h1]
        exact hstop _ _ x1 (by simp [h1]) (by simp [go_sem])
  simp [B.filter_coding_right, go_sem, NO.run, RO.run, rdCell, hget_cons]
  obtain ⟨R, hR⟩ : ∃ R, R = (okp W w && (okp G h && okp Q q)) := ⟨_, rfl⟩
  rw [← hR]
  refine step 0 W w _ _ _ x0 (.inl ⟨rfl, rfl, rfl⟩) (by simp [go_sem]) (by simp [go_sem]) ?_ ?_
  · intro e2 s2 x2 h1 g9 g27 g28
    simp [go_sem] at g27
    refine step 1 G h _ _ _ x2 (.inr (.inl ⟨rfl, rfl, rfl⟩)) g27 g28 ?_ ?_
    · intro e3 s3 x3 h2 g9 g27' g28
      rw [g27] at g27'
      refine step 2 Q q _ _ _ x3 (.inr (.inr ⟨rfl, rfl, rfl⟩)) g27' g28 ?_ ?_
      · intro e4 s4 x4 h3 g9 g27 g28
        rw [run_loop]
        simp [B.filter_coding_right_l0, go_sem, g9, g27, g28, x4, hR, h1, h2, h3]
      · intro e4 s4 x4 h3 g9
        simp [go_sem, g9, x4, hR, h1, h2, h3]
    · intro e3 s3 x3 h2 g9
      simp [go_sem, g9, x3, hR, h1, h2]
  · intro e2 s2 x2 h1 g9
    simp [go_sem, g9, x2, hR, h1]

def nHex : List UInt8 := [104, 101, 120]
def n85 : List UInt8 := [98, 97, 115, 101, 56, 53]
def nRuns : List UInt8 := [114, 117, 110, 115]
def nLzw : List UInt8 := [108, 122, 119]
def nFax : List UInt8 := [102, 97, 120]
def nCos : List UInt8 := [99, 111, 115, 105, 110, 101]

/-- A closure that sets a plain coding's functions. -/
def Plain (s : St) (c : AV) (f g : AV) : Prop := ∃ a b, c = .fn 250 [] [.ptr a 0, .ptr b 0] ∧ hget s.h a = some (.cells 315 false [f]) ∧ hget s.h b = some (.cells 140 false [g])
theorem Plain.ext {s s' : St} {c f g : AV} (p : Plain s c f g) (x : Ext s s') (hw : s.Wf) : Plain s' c f g := by
  obtain ⟨a, b, h1, h2, h3⟩ := p
  exact ⟨a, b, h1, x.get hw h2, x.get hw h3⟩

theorem Plain.frm {s s' : St} {c f g : AV} {m : Nat} {es : List (AV × AV)} (p : Plain s c f g) (x : Frm [m] s s') (hw : s.Wf) (hm : hget s.h m = some (.map es)) : Plain s' c f g := by
  obtain ⟨a, b, h1, h2, h3⟩ := p
  have ha : a ∉ [m] := by intro h; simp at h; subst h; rw [hm] at h2; cases h2
  have hb : b ∉ [m] := by intro h; simp at h; subst h; rw [hm] at h3; cases h3
  exact ⟨a, b, h1, x.get hw h2 ha, x.get hw h3 hb⟩
theorem Plain.dropLoc {s : St} {c f g : AV} {k : Nat} (p : Plain s c f g) (hw : s.Wf) : Plain ⟨Go.Ev.dropLoc k s.h, s.nx⟩ c f g := by
  obtain ⟨a, b, h1, h2, h3⟩ := p
  exact ⟨a, b, h1, hget_dropLoc_keep hw h2 rfl, hget_dropLoc_keep hw h3 rfl⟩

theorem plain_res (H : B.H_filter_codings_1 T) (hwf : st.Wf) {f g : Nat} : CRes (call T (.fn 241 [] []) [.fn f [] [], .fn g [] []] st) fun v s => Ext st s ∧ Plain s v (.fn f [] []) (.fn g [] []) := by
  refine call_res H.e H.f rfl ?_
  have x1 := Ext.new hwf (.cells 315 false [.fn f [] []])
  have x2 := x1.trans (Ext.new x1.wf (.cells 140 false [.fn g [] []]))
  simp only [Nat.add_assoc, Nat.reduceAdd] at x2
  simp [B.filter_codings_1, go_sem, NO.run, Nat.add_assoc]
  refine ⟨x2.dropLoc, st.nx, st.nx + 1, rfl, hget_dropLoc_keep x2.wf (by simp [hget_cons]) rfl, hget_dropLoc_keep x2.wf (by simp [hget_cons]) rfl⟩

theorem codings_res (H : B.H_filter_codings T) (hwf : st.Wf) : CRes (call T (.fn 239 [] []) [] st) fun v s => Ext st s ∧ ∃ n c1 c2 c3 c4, v = .map n ∧ hget s.h n = some (.map [(.str nHex, c1), (.str n85, c2), (.str nRuns, c3), (.str nLzw, c4), (.str nFax, .fn 248 [] []), (.str nCos, .fn 249 [] [])]) ∧
    Plain s c1 (.fn 242 [] []) (.fn 211 [] []) ∧ Plain s c2 (.fn 243 [] []) (.fn 212 [] []) ∧ Plain s c3 (.fn 244 [] []) (.fn 245 [] []) ∧ Plain s c4 (.fn 246 [] []) (.fn 247 [] []) := by
  refine call_res H.e H.f rfl ?_
  have x0 := Ext.new hwf (.map [])
  have g0 : hget ((st.nx, AObj.map []) :: st.h) st.nx = some (.map []) := by simp [hget_cons]
  simp [B.filter_codings, go_sem, NO.run]
  have put : ∀ {s : St} {es : List (AV × AV)} (es' : List (AV × AV)), Ext st s → hget s.h st.nx = some (.map es) → Ext st ⟨hset s.h st.nx (.map es'), s.nx⟩ ∧ hget (hset s.h st.nx (.map es')) st.nx = some (.map es') ∧ (∀ c f g, Plain s c f g → Plain ⟨hset s.h st.nx (.map es'), s.nx⟩ c f g) := by
    intro s es es' hx hg
    exact ⟨hx.setNew hg (Nat.le_refl _), hget_hset_self hg, fun c f g p => p.frm (Frm.set hx.wf hg) hx.wf hg⟩
  refine (plain_res H.filter_codings_1 x0.wf).mono ?_
  rintro c1 s1 ⟨x1, p1⟩
  have y1 := x0.trans x1
  have g1 := x1.get x0.wf g0
  obtain ⟨z1, q1, k1⟩ := put [(.str nHex, c1)] y1 g1
  have p1 := k1 _ _ _ p1
  simp [go_sem, WO.run, g1, mins, cellEqK, seq8]
  refine (plain_res H.filter_codings_1 z1.wf).mono ?_
  rintro c2 s2 ⟨x2, p2⟩
  have y2 := z1.trans x2
  have g2 := x2.get z1.wf q1
  have p1 := p1.ext x2 z1.wf
  obtain ⟨z2, q2, k2⟩ := put [(.str nHex, c1), (.str n85, c2)] y2 g2
  have p1 := k2 _ _ _ p1
  have p2 := k2 _ _ _ p2
  simp [go_sem, WO.run, g2, mins, cellEqK, seq8, nHex]
  refine (plain_res H.filter_codings_1 z2.wf).mono ?_
  rintro c3 s3 ⟨x3, p3⟩
  have y3 := z2.trans x3
  have g3 := x3.get z2.wf q2
  have p1 := p1.ext x3 z2.wf
  have p2 := p2.ext x3 z2.wf
  obtain ⟨z3, q3, k3⟩ := put [(.str nHex, c1), (.str n85, c2), (.str nRuns, c3)] y3 g3
  have p1 := k3 _ _ _ p1
  have p2 := k3 _ _ _ p2
  have p3 := k3 _ _ _ p3
  simp [go_sem, WO.run, g3, mins, cellEqK, seq8, nHex, n85]
  refine (plain_res H.filter_codings_1 z3.wf).mono ?_
  rintro c4 s4 ⟨x4, p4⟩
  have y4 := z3.trans x4
  have g4 := x4.get z3.wf q3
  have p1 := p1.ext x4 z3.wf
  have p2 := p2.ext x4 z3.wf
  have p3 := p3.ext x4 z3.wf
  obtain ⟨z4, q4, k4⟩ := put [(.str nHex, c1), (.str n85, c2), (.str nRuns, c3), (.str nLzw, c4)] y4 g4
  have p1 := k4 _ _ _ p1
  have p2 := k4 _ _ _ p2
  have p3 := k4 _ _ _ p3
  have p4 := k4 _ _ _ p4
  obtain ⟨z5, q5, k5⟩ := put (s := ⟨_, _⟩) [(.str nHex, c1), (.str n85, c2), (.str nRuns, c3), (.str nLzw, c4), (.str nFax, .fn 248 [] [])] z4 q4
  have p1 := k5 _ _ _ p1
  have p2 := k5 _ _ _ p2
  have p3 := k5 _ _ _ p3
  have p4 := k5 _ _ _ p4
  obtain ⟨z6, q6, k6⟩ := put (s := ⟨_, _⟩) [(.str nHex, c1), (.str n85, c2), (.str nRuns, c3), (.str nLzw, c4), (.str nFax, .fn 248 [] []), (.str nCos, .fn 249 [] [])] z5 q5
  have p1 := k6 _ _ _ p1
  have p2 := k6 _ _ _ p2
  have p3 := k6 _ _ _ p3
  have p4 := k6 _ _ _ p4
  simp [nHex, n85, nRuns, nLzw, nFax, nCos] at q4 q5
  simp [go_sem, WO.run, g4, q4, q5, mins, cellEqK, seq8, nHex, n85, nRuns]
  refine ⟨z6.dropLoc, c1, c2, c3, c4, hget_dropLoc_keep z6.wf q6 rfl, p1.dropLoc z6.wf, p2.dropLoc z6.wf, p3.dropLoc z6.wf, p4.dropLoc z6.wf⟩

end Go.Ev

/- filter.Check told. -/
namespace Go.Ev
open Go
set_option linter.unusedSimpArgs false
set_option linter.unusedSectionVars false
set_option linter.unusedVariables false

variable {T : Tab} {st : St}

/-- Is a filter valid? -/
def rightF (nm : List UInt8) (W G Q : Int) : Bool :=
  if nm = nHex ∨ nm = n85 ∨ nm = nRuns ∨ nm = nLzw then okp W 0 && (okp G 0 && okp Q 0)
  else if nm = nFax then okp W 128 && (okp G 0 && okp Q 0)
  else if nm = nCos then okp W 128 && (okp G 128 && okp Q 255)
  else false

/-- A coding in memory: its filter; its functions are of no account. -/
def CodAt (s : St) (c : Nat) (nm : List UInt8) (W G Q : Int) : Prop := ∃ x y, hget s.h c = some (.cells 358 false [.str nm, .int .i64 W, .int .i64 G, .int .i64 Q, x, y])

theorem fill_plain (H : B.H_filter_codings_1_1 T) (hwf : st.Wf) {c : Nat} {nm : List UInt8} {W G Q : Int} {cl : AV} {f g : Nat} (hp : Plain st cl (.fn f [] []) (.fn g [] [])) (hc : CodAt st c nm W G Q) :
    CRes (call T cl [.ptr c 0] st) fun v s => v = .bool (okp W 0 && (okp G 0 && okp Q 0)) ∧ Frm [c] st s := by
  obtain ⟨a, b, rfl, ha, hb⟩ := hp
  obtain ⟨x, y, hc⟩ := hc
  have hac : ¬ a = c := by rintro rfl; rw [hc] at ha; cases ha
  have hbc : ¬ b = c := by rintro rfl; rw [hc] at hb; cases hb
  refine call_res H.e H.f rfl ?_
  have hax := Frm.refl (Ext.aside hwf 11).wf [c]
  have w1 := wr_cells (v := .fn f [] []) (o := 4) hc rfl (by simp)
  have f1 := Frm.set (st := ⟨st.h, st.nx + 11⟩) (Ext.aside hwf 11).wf hc (o := .cells 358 false [.str nm, .int .i64 W, .int .i64 G, .int .i64 Q, .fn f [] [], y])
  have hc1 := hget_hset_self (o := .cells 358 false [.str nm, .int .i64 W, .int .i64 G, .int .i64 Q, .fn f [] [], y]) hc
  have hb1 := (hget_hset_ne (m := b) hc (o := .cells 358 false [.str nm, .int .i64 W, .int .i64 G, .int .i64 Q, .fn f [] [], y]) (fun h => hbc h.symm)).trans hb
  have w2 := wr_cells (v := .fn g [] []) (o := 5) hc1 rfl (by simp)
  have f2 := Frm.set (st := ⟨_, _⟩) f1.wf hc1 (o := .cells 358 false [.str nm, .int .i64 W, .int .i64 G, .int .i64 Q, .fn f [] [], .fn g [] []])
  have hc2 := hget_hset_self (o := .cells 358 false [.str nm, .int .i64 W, .int .i64 G, .int .i64 Q, .fn f [] [], .fn g [] []]) hc1
  have r2 : rdCells (hset (hset st.h c (.cells 358 false [.str nm, .int .i64 W, .int .i64 G, .int .i64 Q, .fn f [] [], y])) c (.cells 358 false [.str nm, .int .i64 W, .int .i64 G, .int .i64 Q, .fn f [] [], .fn g [] []])) c 0 6 = some [.str nm, .int .i64 W, .int .i64 G, .int .i64 Q, .fn f [] [], .fn g [] []] := rd_all hc2 rfl
  simp only [List.set_cons_succ, List.set_cons_zero] at w1 w2
  have ff := (((Ext.aside hwf 11).fr [c]).trans f1 (by simp)).trans f2 (by simp)
  simp [B.filter_codings_1_1, go_sem, RO.run, WO.run, rd_one ha, rd_one hb, rd_one hb1, w1, w2, reI]
  refine ⟨rfl, ?_⟩
  simp [go_sem, r2]
  refine (right261_tells H.filter_coding_right ff.wf).use fun s3 x3 => ?_
  simp [go_sem]
  exact (ff.trans (x3.fr [c]) (by simp)).dropLoc

theorem fill_fax (H : B.H_filter_codings_2 T) (hwf : st.Wf) {c : Nat} {nm : List UInt8} {W G Q : Int} (hc : CodAt st c nm W G Q) :
    CRes (call T (.fn 248 [] []) [.ptr c 0] st) fun v s => v = .bool (okp W 128 && (okp G 0 && okp Q 0)) ∧ Frm [c] st s := by
  obtain ⟨x, y, hc⟩ := hc
  refine call_res H.e H.f rfl ?_
  have x0 := Ext.new hwf (.cells 348 false [.ptr c 0])
  have hlt := hwf.lt _ _ hc
  have hne : ¬ st.nx = c := by omega
  have hc0 := x0.get hwf hc
  have w1 := wr_cells (v := .fn 259 [] [.ptr st.nx 0]) (o := 4) hc0 rfl (by simp)
  have f1 := Frm.set x0.wf hc0 (o := .cells 358 false [.str nm, .int .i64 W, .int .i64 G, .int .i64 Q, .fn 259 [] [.ptr st.nx 0], y])
  have hc1 := hget_hset_self (o := .cells 358 false [.str nm, .int .i64 W, .int .i64 G, .int .i64 Q, .fn 259 [] [.ptr st.nx 0], y]) hc0
  have hb0 : hget (⟨(st.nx, .cells 348 false [.ptr c 0]) :: st.h, st.nx + 1⟩ : St).h st.nx = some (.cells 348 false [.ptr c 0]) := by simp [hget_cons]
  have hb1 := (hget_hset_ne (m := st.nx) hc0 (o := .cells 358 false [.str nm, .int .i64 W, .int .i64 G, .int .i64 Q, .fn 259 [] [.ptr st.nx 0], y]) (by omega)).trans hb0
  have w2 := wr_cells (v := .fn 260 [] [.ptr st.nx 0]) (o := 5) hc1 rfl (by simp)
  have f2 := Frm.set (st := ⟨_, _⟩) f1.wf hc1 (o := .cells 358 false [.str nm, .int .i64 W, .int .i64 G, .int .i64 Q, .fn 259 [] [.ptr st.nx 0], .fn 260 [] [.ptr st.nx 0]])
  have hc2 := hget_hset_self (o := .cells 358 false [.str nm, .int .i64 W, .int .i64 G, .int .i64 Q, .fn 259 [] [.ptr st.nx 0], .fn 260 [] [.ptr st.nx 0]]) hc1
  have hb2 := (hget_hset_ne (m := st.nx) hc1 (o := .cells 358 false [.str nm, .int .i64 W, .int .i64 G, .int .i64 Q, .fn 259 [] [.ptr st.nx 0], .fn 260 [] [.ptr st.nx 0]]) (by omega)).trans hb1
  have ff := ((x0.fr [c]).trans f1 (by simp)).trans f2 (by simp)
  simp only [List.set_cons_succ, List.set_cons_zero] at w1 w2
  simp [B.filter_codings_2, go_sem, NO.run, RO.run]
  simp only at w1 w2 hc2 hb0 hb1 hb2 f1 f2 hc1
  generalize hS0 : (st.nx, AObj.cells 348 false [.ptr c 0]) :: st.h = H0 at *
  rw [rd_one hb0]
  simp [go_sem, WO.run, RO.run, w1, rd_one hb1, w2, rd_one hb2]
  generalize hS2 : hset (hset H0 c (.cells 358 false [.str nm, .int .i64 W, .int .i64 G, .int .i64 Q, .fn 259 [] [.ptr st.nx 0], y])) c (.cells 358 false [.str nm, .int .i64 W, .int .i64 G, .int .i64 Q, .fn 259 [] [.ptr st.nx 0], .fn 260 [] [.ptr st.nx 0]]) = H2 at *
  have r2 : rdCells H2 c 0 6 = some [.str nm, .int .i64 W, .int .i64 G, .int .i64 Q, .fn 259 [] [.ptr st.nx 0], .fn 260 [] [.ptr st.nx 0]] := rd_all hc2 rfl
  simp [go_sem, r2]
  have ff2 : Frm [c] st ⟨H2, st.nx + 1⟩ := ff
  refine (right261_tells H.filter_coding_right ff2.wf).use fun s3 x3 => ?_
  simp [go_sem]
  exact (ff2.trans (x3.fr [c]) (by simp)).dropLoc

theorem fill_cos (H : B.H_filter_codings_3 T) (hwf : st.Wf) {c : Nat} {nm : List UInt8} {W G Q : Int} (hc : CodAt st c nm W G Q) :
    CRes (call T (.fn 249 [] []) [.ptr c 0] st) fun v s => v = .bool (okp W 128 && (okp G 128 && okp Q 255)) ∧ Frm [c] st s := by
  obtain ⟨x, y, hc⟩ := hc
  refine call_res H.e H.f rfl ?_
  have x0 := Ext.new hwf (.cells 348 false [.ptr c 0])
  have hlt := hwf.lt _ _ hc
  have hne : ¬ st.nx = c := by omega
  have hc0 := x0.get hwf hc
  have w1 := wr_cells (v := .fn 262 [] [.ptr st.nx 0]) (o := 4) hc0 rfl (by simp)
  have f1 := Frm.set x0.wf hc0 (o := .cells 358 false [.str nm, .int .i64 W, .int .i64 G, .int .i64 Q, .fn 262 [] [.ptr st.nx 0], y])
  have hc1 := hget_hset_self (o := .cells 358 false [.str nm, .int .i64 W, .int .i64 G, .int .i64 Q, .fn 262 [] [.ptr st.nx 0], y]) hc0
  have hb0 : hget (⟨(st.nx, .cells 348 false [.ptr c 0]) :: st.h, st.nx + 1⟩ : St).h st.nx = some (.cells 348 false [.ptr c 0]) := by simp [hget_cons]
  have hb1 := (hget_hset_ne (m := st.nx) hc0 (o := .cells 358 false [.str nm, .int .i64 W, .int .i64 G, .int .i64 Q, .fn 262 [] [.ptr st.nx 0], y]) (by omega)).trans hb0
  have w2 := wr_cells (v := .fn 263 [] [.ptr st.nx 0]) (o := 5) hc1 rfl (by simp)
  have f2 := Frm.set (st := ⟨_, _⟩) f1.wf hc1 (o := .cells 358 false [.str nm, .int .i64 W, .int .i64 G, .int .i64 Q, .fn 262 [] [.ptr st.nx 0], .fn 263 [] [.ptr st.nx 0]])
  have hc2 := hget_hset_self (o := .cells 358 false [.str nm, .int .i64 W, .int .i64 G, .int .i64 Q, .fn 262 [] [.ptr st.nx 0], .fn 263 [] [.ptr st.nx 0]]) hc1
  have hb2 := (hget_hset_ne (m := st.nx) hc1 (o := .cells 358 false [.str nm, .int .i64 W, .int .i64 G, .int .i64 Q, .fn 262 [] [.ptr st.nx 0], .fn 263 [] [.ptr st.nx 0]]) (by omega)).trans hb1
  have ff := ((x0.fr [c]).trans f1 (by simp)).trans f2 (by simp)
  simp only [List.set_cons_succ, List.set_cons_zero] at w1 w2
  simp [B.filter_codings_3, go_sem, NO.run, RO.run]
  simp only at w1 w2 hc2 hb0 hb1 hb2 f1 f2 hc1
  generalize hS0 : (st.nx, AObj.cells 348 false [.ptr c 0]) :: st.h = H0 at *
  rw [rd_one hb0]
  simp [go_sem, WO.run, RO.run, w1, rd_one hb1, w2, rd_one hb2]
  generalize hS2 : hset (hset H0 c (.cells 358 false [.str nm, .int .i64 W, .int .i64 G, .int .i64 Q, .fn 262 [] [.ptr st.nx 0], y])) c (.cells 358 false [.str nm, .int .i64 W, .int .i64 G, .int .i64 Q, .fn 262 [] [.ptr st.nx 0], .fn 263 [] [.ptr st.nx 0]]) = H2 at *
  have r2 : rdCells H2 c 0 6 = some [.str nm, .int .i64 W, .int .i64 G, .int .i64 Q, .fn 262 [] [.ptr st.nx 0], .fn 263 [] [.ptr st.nx 0]] := rd_all hc2 rfl
  simp [go_sem, r2]
  have ff2 : Frm [c] st ⟨H2, st.nx + 1⟩ := ff
  refine (right261_tells H.filter_coding_right ff2.wf).use fun s3 x3 => ?_
  simp [go_sem]
  exact (ff2.trans (x3.fr [c]) (by simp)).dropLoc

theorem of_res (H : B.H_filter_of T) (hwf : st.Wf) {nm : List UInt8} {W G Q : Int} : CRes (call T (.fn 234 [] []) [.agg [.str nm, .int .i64 W, .int .i64 G, .int .i64 Q]] st) fun v s => Ext st s ∧ ∃ p, v = .tuple [.ptr p 0, .bool (rightF nm W G Q)] := by
  refine call_res H.e H.f rfl ?_
  have x0 := Ext.new hwf (.cells 325 true [.str nm, .int .i64 W, .int .i64 G, .int .i64 Q])
  have x1 := x0.trans (Ext.new x0.wf (.cells 358 false [.str nm, .int .i64 W, .int .i64 G, .int .i64 Q, .nilfn, .nilfn]))
  simp only [Nat.add_assoc, Nat.reduceAdd] at x1
  have ga : hget ((st.nx + 1, AObj.cells 358 false [.str nm, .int .i64 W, .int .i64 G, .int .i64 Q, .nilfn, .nilfn]) :: (st.nx, .cells 325 true [.str nm, .int .i64 W, .int .i64 G, .int .i64 Q]) :: st.h) st.nx = some (.cells 325 true [.str nm, .int .i64 W, .int .i64 G, .int .i64 Q]) := by simp [hget_cons]
  have gc : hget ((st.nx + 1, AObj.cells 358 false [.str nm, .int .i64 W, .int .i64 G, .int .i64 Q, .nilfn, .nilfn]) :: (st.nx, .cells 325 true [.str nm, .int .i64 W, .int .i64 G, .int .i64 Q]) :: st.h) (st.nx + 1) = some (.cells 358 false [.str nm, .int .i64 W, .int .i64 G, .int .i64 Q, .nilfn, .nilfn]) := by simp [hget_cons]
  simp [B.filter_of, go_sem, NO.run, RO.run, rdCells, rdCell, hget_cons, Nat.add_assoc]
  have xA := x1.trans (Ext.aside x1.wf 10)
  simp only [Nat.add_assoc, Nat.reduceAdd] at xA
  generalize hS : (⟨(st.nx + 1, .cells 358 false [.str nm, .int .i64 W, .int .i64 G, .int .i64 Q, .nilfn, .nilfn]) :: (st.nx, .cells 325 true [.str nm, .int .i64 W, .int .i64 G, .int .i64 Q]) :: st.h, st.nx + 12⟩ : St) = sA at xA ⊢
  rw [show (st.nx + 1, AObj.cells 358 false [.str nm, .int .i64 W, .int .i64 G, .int .i64 Q, .nilfn, .nilfn]) :: (st.nx, .cells 325 true [.str nm, .int .i64 W, .int .i64 G, .int .i64 Q]) :: st.h = sA.h by rw [← hS]] at ga gc
  clear hS x1
  refine (codings_res H.filter_codings xA.wf).mono ?_
  rintro _ s1 ⟨x1, n, c1, c2, c3, c4, rfl, gm, p1, p2, p3, p4⟩
  have y1 := xA.trans x1
  have ra := rd_at (k := 0) (x1.get xA.wf ga) rfl
  have gc1 := x1.get xA.wf gc
  have cod : CodAt s1 (st.nx + 1) nm W G Q := ⟨_, _, gc1⟩
  have hd : ∀ (v : AV) (s : St), Frm [st.nx + 1] s1 s → Ext st s := fun v s f => y1.frm f (by simp)
  simp [go_sem, RO.run, reI, ra]
  refine ⟨rfl, ?_⟩
  by_cases e1 : nm = nHex
  · have hr : rightF nm W G Q = (okp W 0 && (okp G 0 && okp Q 0)) := by simp [rightF, e1]
    rw [hr]
    subst e1
    simp [go_sem, RO.run, gm, cellEqK, seq8_self, mfind]
    refine (fill_plain H.filter_codings.filter_codings_1.filter_codings_1_1 y1.wf p1 cod).mono ?_
    rintro _ s2 ⟨rfl, f2⟩
    simp [go_sem]
    exact (hd (.bool true) s2 f2).dropLoc
  by_cases e2 : nm = n85
  · have hr : rightF nm W G Q = (okp W 0 && (okp G 0 && okp Q 0)) := by simp [rightF, e2]
    rw [hr]
    subst e2
    simp [go_sem, RO.run, gm, cellEqK, seq8_self, mfind, show seq8 n85 nHex = false from rfl]
    refine (fill_plain H.filter_codings.filter_codings_1.filter_codings_1_1 y1.wf p2 cod).mono ?_
    rintro _ s2 ⟨rfl, f2⟩
    simp [go_sem]
    exact (hd (.bool true) s2 f2).dropLoc
  by_cases e3 : nm = nRuns
  · have hr : rightF nm W G Q = (okp W 0 && (okp G 0 && okp Q 0)) := by simp [rightF, e3]
    rw [hr]
    subst e3
    simp [go_sem, RO.run, gm, cellEqK, seq8_self, mfind, show seq8 nRuns nHex = false from rfl, show seq8 nRuns n85 = false from rfl]
    refine (fill_plain H.filter_codings.filter_codings_1.filter_codings_1_1 y1.wf p3 cod).mono ?_
    rintro _ s2 ⟨rfl, f2⟩
    simp [go_sem]
    exact (hd (.bool true) s2 f2).dropLoc
  by_cases e4 : nm = nLzw
  · have hr : rightF nm W G Q = (okp W 0 && (okp G 0 && okp Q 0)) := by simp [rightF, e4]
    rw [hr]
    subst e4
    simp [go_sem, RO.run, gm, cellEqK, seq8_self, mfind, show seq8 nLzw nHex = false from rfl, show seq8 nLzw n85 = false from rfl, show seq8 nLzw nRuns = false from rfl]
    refine (fill_plain H.filter_codings.filter_codings_1.filter_codings_1_1 y1.wf p4 cod).mono ?_
    rintro _ s2 ⟨rfl, f2⟩
    simp [go_sem]
    exact (hd (.bool true) s2 f2).dropLoc
  by_cases e5 : nm = nFax
  · have hr : rightF nm W G Q = (okp W 128 && (okp G 0 && okp Q 0)) := by simp [rightF, e5, nFax, nHex, n85, nRuns, nLzw]
    rw [hr]
    subst e5
    simp [go_sem, RO.run, gm, cellEqK, seq8_self, mfind, show seq8 nFax nHex = false from rfl, show seq8 nFax n85 = false from rfl, show seq8 nFax nRuns = false from rfl, show seq8 nFax nLzw = false from rfl]
    refine (fill_fax H.filter_codings.filter_codings_2 y1.wf cod).mono ?_
    rintro _ s2 ⟨rfl, f2⟩
    simp [go_sem]
    exact (hd (.bool true) s2 f2).dropLoc
  by_cases e6 : nm = nCos
  · have hr : rightF nm W G Q = (okp W 128 && (okp G 128 && okp Q 255)) := by simp [rightF, e6, nCos, nFax, nHex, n85, nRuns, nLzw]
    rw [hr]
    subst e6
    simp [go_sem, RO.run, gm, cellEqK, seq8_self, mfind, show seq8 nCos nHex = false from rfl, show seq8 nCos n85 = false from rfl, show seq8 nCos nRuns = false from rfl, show seq8 nCos nLzw = false from rfl, show seq8 nCos nFax = false from rfl]
    refine (fill_cos H.filter_codings.filter_codings_3 y1.wf cod).mono ?_
    rintro _ s2 ⟨rfl, f2⟩
    simp [go_sem]
    exact (hd (.bool true) s2 f2).dropLoc
  · have hr : rightF nm W G Q = false := by simp [rightF, e1, e2, e3, e4, e5, e6]
    rw [hr]
    have h1 : seq8 nm nHex = false := by rw [seq8_eq]; simpa using e1
    have h2 : seq8 nm n85 = false := by rw [seq8_eq]; simpa using e2
    have h3 : seq8 nm nRuns = false := by rw [seq8_eq]; simpa using e3
    have h4 : seq8 nm nLzw = false := by rw [seq8_eq]; simpa using e4
    have h5 : seq8 nm nFax = false := by rw [seq8_eq]; simpa using e5
    have h6 : seq8 nm nCos = false := by rw [seq8_eq]; simpa using e6
    simp [go_sem, RO.run, gm, cellEqK, seq8_self, mfind, h1, h2, h3, h4, h5, h6]
    exact y1.dropLoc

theorem checkF_tells (H : B.H_filter_Check T) (hwf : st.Wf) {nm : List UInt8} {W G Q : Int} : Tells T st (.fn 231 [] []) [.agg [.str nm, .int .i64 W, .int .i64 G, .int .i64 Q]] (.int .i64 (if rightF nm W G Q = true then 0 else 190)) := by
  refine tells_of H.e H.f rfl ?_
  have x0 := Ext.new hwf (.cells 325 true [.str nm, .int .i64 W, .int .i64 G, .int .i64 Q])
  simp [B.filter_Check, go_sem, NO.run, RO.run, rdCells, hget_cons]
  refine (of_res H.filter_of x0.wf).mono ?_
  rintro _ s1 ⟨x1, p, rfl⟩
  cases hr : rightF nm W G Q <;> simp [go_sem, hr, x0.trans x1]

theorem okp0 (x : Int) : okp x 0 = decide (x = 0) := by
  unfold okp
  by_cases h : x = 0
  · subst h; rfl
  · rw [decide_eq_false h, Bool.and_eq_false_iff, decide_eq_false_iff_not, decide_eq_false_iff_not]
    rw [show min (0 : Int) 1 = 0 from rfl]
    omega
theorem okp1 {x m : Int} (hm : 1 ≤ m) : okp x m = (decide (1 ≤ x) && decide (x ≤ m)) := by
  unfold okp
  rw [show min m 1 = 1 by omega]

theorem refRightF_tells (H : B.H_chaseref09_Right T) (hwf : st.Wf) {nm : List UInt8} {W G Q : Int} : Tells T st (.fn 230 [] []) [.agg [.str nm, .int .i64 W, .int .i64 G, .int .i64 Q]] (.bool (rightF nm W G Q)) := by
  refine tells_of H.e H.f rfl ?_
  have x0 := fun o => Ext.new hwf o
  have plain : ∀ n, (n = nHex ∨ n = n85 ∨ n = nRuns ∨ n = nLzw) → rightF n W G Q = (decide (W = 0) && (decide (G = 0) && decide (Q = 0))) := by
    intro n h
    unfold rightF
    rw [if_pos h, okp0, okp0, okp0]
  by_cases e14 : nm = nHex ∨ nm = n85 ∨ nm = nRuns ∨ nm = nLzw
  · rw [plain nm e14]
    rcases e14 with rfl | rfl | rfl | rfl
    all_goals
      by_cases hW : W = 0
      · by_cases hG : G = 0
        · simp [B.chaseref09_Right, go_sem, NO.run, RO.run, rdCell, hget_cons, seq8, nHex, n85, nRuns, nLzw, hW, hG, x0]
        · simp [B.chaseref09_Right, go_sem, NO.run, RO.run, rdCell, hget_cons, seq8, nHex, n85, nRuns, nLzw, hW, hG, x0]
      · simp [B.chaseref09_Right, go_sem, NO.run, RO.run, rdCell, hget_cons, seq8, nHex, n85, nRuns, nLzw, hW, x0]
  have hne : nm ≠ nHex ∧ nm ≠ n85 ∧ nm ≠ nRuns ∧ nm ≠ nLzw := ⟨fun h => e14 (.inl h), fun h => e14 (.inr (.inl h)), fun h => e14 (.inr (.inr (.inl h))), fun h => e14 (.inr (.inr (.inr h)))⟩
  by_cases e5 : nm = nFax
  · have hr : rightF nm W G Q = ((decide (1 ≤ W) && decide (W ≤ 128)) && (decide (G = 0) && decide (Q = 0))) := by
      unfold rightF
      rw [if_neg e14, if_pos e5, okp1 (by omega), okp0, okp0]
    rw [hr]
    subst e5
    by_cases hW : 1 ≤ W
    · by_cases hW2 : W ≤ 128
      · by_cases hG : G = 0
        · simp [B.chaseref09_Right, go_sem, NO.run, RO.run, rdCell, hget_cons, seq8, nFax, hW, hW2, hG, x0]
        · simp [B.chaseref09_Right, go_sem, NO.run, RO.run, rdCell, hget_cons, seq8, nFax, hW, hW2, hG, x0]
      · simp [B.chaseref09_Right, go_sem, NO.run, RO.run, rdCell, hget_cons, seq8, nFax, hW, hW2, x0]
    · simp [B.chaseref09_Right, go_sem, NO.run, RO.run, rdCell, hget_cons, seq8, nFax, hW, x0]
  by_cases e6 : nm = nCos
  · have hr : rightF nm W G Q = ((decide (1 ≤ W) && decide (W ≤ 128)) && ((decide (1 ≤ G) && decide (G ≤ 128)) && (decide (1 ≤ Q) && decide (Q ≤ 255)))) := by
      unfold rightF
      rw [if_neg e14, if_neg e5, if_pos e6, okp1 (by omega), okp1 (by omega), okp1 (by omega)]
    rw [hr]
    subst e6
    by_cases hW : 1 ≤ W
    · by_cases hW2 : W ≤ 128
      · by_cases hG : 1 ≤ G
        · by_cases hG2 : G ≤ 128
          · by_cases hQ : 1 ≤ Q
            · simp [B.chaseref09_Right, go_sem, NO.run, RO.run, rdCell, hget_cons, seq8, nCos, hW, hW2, hG, hG2, hQ, x0]
            · simp [B.chaseref09_Right, go_sem, NO.run, RO.run, rdCell, hget_cons, seq8, nCos, hW, hW2, hG, hG2, hQ, x0]
          · simp [B.chaseref09_Right, go_sem, NO.run, RO.run, rdCell, hget_cons, seq8, nCos, hW, hW2, hG, hG2, x0]
        · simp [B.chaseref09_Right, go_sem, NO.run, RO.run, rdCell, hget_cons, seq8, nCos, hW, hW2, hG, x0]
      · simp [B.chaseref09_Right, go_sem, NO.run, RO.run, rdCell, hget_cons, seq8, nCos, hW, hW2, x0]
    · simp [B.chaseref09_Right, go_sem, NO.run, RO.run, rdCell, hget_cons, seq8, nCos, hW, x0]
  · have hr : rightF nm W G Q = false := by
      unfold rightF
      rw [if_neg e14, if_neg e5, if_neg e6]
    rw [hr]
    have h1 : seq8 nm [104, 101, 120] = false := by rw [seq8_eq]; exact beq_eq_false_iff_ne.2 hne.1
    have h2 : seq8 nm [98, 97, 115, 101, 56, 53] = false := by rw [seq8_eq]; exact beq_eq_false_iff_ne.2 hne.2.1
    have h3 : seq8 nm [114, 117, 110, 115] = false := by rw [seq8_eq]; exact beq_eq_false_iff_ne.2 hne.2.2.1
    have h4 : seq8 nm [108, 122, 119] = false := by rw [seq8_eq]; exact beq_eq_false_iff_ne.2 hne.2.2.2
    have h5 : seq8 nm [102, 97, 120] = false := by rw [seq8_eq]; exact beq_eq_false_iff_ne.2 e5
    have h6 : seq8 nm [99, 111, 115, 105, 110, 101] = false := by rw [seq8_eq]; exact beq_eq_false_iff_ne.2 e6
    simp [B.chaseref09_Right, go_sem, NO.run, RO.run, rdCell, hget_cons, h1, h2, h3, h4, h5, h6, x0]

/-- The filter of a draft. -/
def filD (K W G Q : Nat) : List UInt8 × Int × Int × Int :=
  match K % 6 with
  | 0 => (nHex, 0, 0, 0)
  | 1 => (n85, 0, 0, 0)
  | 2 => (nRuns, 0, 0, 0)
  | 3 => (nLzw, 0, 0, 0)
  | 4 => (nFax, ((1 + W % 128 : Nat) : Int), 0, 0)
  | _ => (nCos, ((1 + W % 16 : Nat) : Int), ((1 + G % 16 : Nat) : Int), ((1 + Q % 255 : Nat) : Int))

theorem filD_tells (H : B.H_chaseref09_Draft_Filter T) (hwf : st.Wf) {K W G Q : Nat} (hK : K < 256) (hW : W < 256) (hG : G < 256) (hQ : Q < 256) : Tells T st (.fn 229 [] []) [.agg [.int .u8 (K : Int), .int .u8 (W : Int), .int .u8 (G : Int), .int .u8 (Q : Int)]]
    (.agg [.str (filD K W G Q).1, .int .i64 (filD K W G Q).2.1, .int .i64 (filD K W G Q).2.2.1, .int .i64 (filD K W G Q).2.2.2]) := by
  refine tells_of H.e H.f rfl ?_
  have tm : ∀ (a m : Nat), (a : Int).tmod (m : Int) = ((a % m : Nat) : Int) := fun a m => (Int.ofNat_tmod a m).symm
  have m6 : (K : Int).tmod 6 = ((K % 6 : Nat) : Int) := tm K 6
  have m128 : (W : Int).tmod 128 = ((W % 128 : Nat) : Int) := tm W 128
  have m16 : (W : Int).tmod 16 = ((W % 16 : Nat) : Int) := tm W 16
  have g16 : (G : Int).tmod 16 = ((G % 16 : Nat) : Int) := tm G 16
  have q255 : (Q : Int).tmod 255 = ((Q % 255 : Nat) : Int) := tm Q 255
  have hlt : K % 6 < 6 := Nat.mod_lt _ (by omega)
  unfold filD
  have wd : ∀ n : Nat, n < 1000 → IntKind.i64.wrap (n : Int) = n ∧ IntKind.i64.wrap (1 + (n : Int)) = 1 + n := fun n h => ⟨wrap64' (by omega) (by omega), wrap64' (by omega) (by omega)⟩
  have w1 := wd (W % 128) (by omega)
  have w2 := wd (W % 16) (by omega)
  have w3 := wd (G % 16) (by omega)
  have w4 := wd (Q % 255) (by omega)
  generalize W % 128 = a at *
  generalize W % 16 = b at *
  generalize G % 16 = c at *
  generalize Q % 255 = d at *
  generalize hk : K % 6 = k at *
  have x1 := Ext.new hwf (.cells 327 true [.int .u8 (K : Int), .int .u8 (W : Int), .int .u8 (G : Int), .int .u8 (Q : Int)])
  have x2 := fun o => x1.trans (Ext.new x1.wf o)
  have x3 := fun o o2 => (x2 o).trans (Ext.new (x2 o).wf o2)
  simp only [Nat.add_assoc, Nat.reduceAdd] at x2 x3
  have hk6 : k = 0 ∨ k = 1 ∨ k = 2 ∨ k = 3 ∨ k = 4 ∨ k = 5 := by omega
  rcases hk6 with rfl | rfl | rfl | rfl | rfl | rfl
  all_goals
    simp [B.chaseref09_Draft_Filter, go_sem, NO.run, RO.run, WO.run, rdCell, rdCells, wrCells, hget_cons, hset_cons, splice, Nat.add_assoc, m6, m128, m16, g16, q255, seq8, nHex, n85, nRuns, nLzw, nFax, nCos, w1, w2, w3, w4, x3, fresults, resVals, resVal]

end Go.Ev

/- FilterChecks: the law told, where works holds. -/
namespace Go.Ev
open Go
set_option linter.unusedSimpArgs false
set_option linter.unusedSectionVars false
set_option linter.unusedVariables false

variable {T : Tab} {st : St}

abbrev filC (n : List UInt8) (w h q : Int) : List AV := [.str n, .int .i64 w, .int .i64 h, .int .i64 q]

theorem checks_step (H : B.H_chaselaw09_FilterChecks T) {st0 st1 : St} (hx : Ext st0 st1) {n0 n1 n2 n3 n4 : List UInt8} {w0 h0 q0 w1 h1 q1 w2 h2 q2 w3 h3 q3 w4 h4 q4 : Int} {n : List UInt8} {w h q : Int} {i : Nat}
    (hsel : (i = 0 ∧ n0 = n ∧ w0 = w ∧ h0 = h ∧ q0 = q) ∨ (i = 1 ∧ n1 = n ∧ w1 = w ∧ h1 = h ∧ q1 = q) ∨ (i = 2 ∧ n2 = n ∧ w2 = w ∧ h2 = h ∧ q2 = q) ∨ (i = 3 ∧ n3 = n ∧ w3 = w ∧ h3 = h ∧ q3 = q) ∨ (i = 4 ∧ n4 = n ∧ w4 = w ∧ h4 = h ∧ q4 = q)) {e : Env}
    (g30 : eget e 30 = .agg [.str n0, .int .i64 w0, .int .i64 h0, .int .i64 q0, .str n1, .int .i64 w1, .int .i64 h1, .int .i64 q1, .str n2, .int .i64 w2, .int .i64 h2, .int .i64 q2, .str n3, .int .i64 w3, .int .i64 h3, .int .i64 q3, .str n4, .int .i64 w4, .int .i64 h4, .int .i64 q4])
    (g31 : eget e 31 = .int .i64 (i : Int)) {Q : Ex → Env → St → Prop}
    (hfin : ∀ e' s', Ext st0 s' → eget e' 30 = eget e 30 → eget e' 31 = .int .i64 ((i + 1 : Nat) : Int) → Res (run T (.loop B.chaselaw09_FilterChecks_l0) e' s') Q) :
    Res (run T (.loop B.chaselaw09_FilterChecks_l0) e st1) Q := by
  have x1 := hx.trans (Ext.new hx.wf (.cells 325 true (filC n w h q)))
  have xa := x1.trans (Ext.aside x1.wf 17)
  have g1 : hget ((st1.nx, AObj.cells 325 true (filC n w h q)) :: st1.h) st1.nx = some (.cells 325 true (filC n w h q)) := by simp [hget_cons]
  rw [g30] at hfin
  rcases hsel with ⟨rfl, e1, e2, e3, e4⟩ | ⟨rfl, e1, e2, e3, e4⟩ | ⟨rfl, e1, e2, e3, e4⟩ | ⟨rfl, e1, e2, e3, e4⟩ | ⟨rfl, e1, e2, e3, e4⟩
  all_goals
    rw [run_loop]
    simp [B.chaselaw09_FilterChecks_l0, go_sem, NO.run, WO.run, RO.run, g30, g31, e1, e2, e3, e4, wrCells, rdCells, hget_cons, hset_cons, splice]
    refine (refRightF_tells H.chaseref09_Right xa.wf).use fun s2 x2 => ?_
    have y2 := xa.trans x2
    have r2 : rdCells s2.h st1.nx 0 4 = some (filC n w h q) := rd_all (x2.get xa.wf g1) rfl
    simp [go_sem, RO.run, r2, reI]
    refine ⟨rfl, ?_⟩
    refine (checkF_tells H.filter_Check y2.wf).use fun s3 x3 => ?_
    have y3 := y2.trans x3
    have r3 : rdCells s3.h st1.nx 0 4 = some (filC n w h q) := rd_all (x3.get y2.wf (x2.get xa.wf g1)) rfl
    cases hr : rightF n w h q with
    | true =>
      simp [go_sem, RO.run, r3, hr]
      refine (checkF_tells H.filter_Check y3.wf).use fun s4 x4 => ?_
      simp [go_sem, hr]
      exact hfin _ _ (y3.trans x4) (by simp [go_sem, g30, e1, e2, e3, e4]) (by simp [go_sem, g31]; rfl)
    | false =>
      simp [go_sem, RO.run, r3, hr]
      refine (checkF_tells H.filter_Check y3.wf).use fun s4 x4 => ?_
      have y4 := y3.trans x4
      have r4 : rdCells s4.h st1.nx 0 4 = some (filC n w h q) := rd_all (x4.get y3.wf (x3.get y2.wf (x2.get xa.wf g1))) rfl
      simp [go_sem, RO.run, r4, hr]
      refine (checkF_tells H.filter_Check y4.wf).use fun s5 x5 => ?_
      simp [go_sem, hr]
      exact hfin _ _ (y4.trans x5) (by simp [go_sem, g30, e1, e2, e3, e4]) (by simp [go_sem, g31]; rfl)

theorem checks_l0 (H : B.H_chaselaw09_FilterChecks T) {st0 st1 : St} (hx : Ext st0 st1) (n0 n1 n2 n3 n4 : List UInt8) (w0 h0 q0 w1 h1 q1 w2 h2 q2 w3 h3 q3 w4 h4 q4 : Int) {e : Env}
    (g30 : eget e 30 = .agg [.str n0, .int .i64 w0, .int .i64 h0, .int .i64 q0, .str n1, .int .i64 w1, .int .i64 h1, .int .i64 q1, .str n2, .int .i64 w2, .int .i64 h2, .int .i64 q2, .str n3, .int .i64 w3, .int .i64 h3, .int .i64 q3, .str n4, .int .i64 w4, .int .i64 h4, .int .i64 q4])
    (g31 : eget e 31 = .int .i64 0) : Res (run T (.loop B.chaselaw09_FilterChecks_l0) e st1) fun x e' s' => x = .exit 0 ∧ Ext st0 s' := by
  refine checks_step H hx (i := 0) (.inl ⟨rfl, rfl, rfl, rfl, rfl⟩) g30 g31 fun e1 s1 x1 j30 j31 => ?_
  rw [g30] at j30
  refine checks_step H x1 (i := 1) (.inr (.inl ⟨rfl, rfl, rfl, rfl, rfl⟩)) j30 j31 fun e2 s2 x2 k30 k31 => ?_
  rw [j30] at k30
  refine checks_step H x2 (i := 2) (.inr (.inr (.inl ⟨rfl, rfl, rfl, rfl, rfl⟩))) k30 k31 fun e3 s3 x3 l30 l31 => ?_
  rw [k30] at l30
  refine checks_step H x3 (i := 3) (.inr (.inr (.inr (.inl ⟨rfl, rfl, rfl, rfl, rfl⟩)))) l30 l31 fun e4 s4 x4 m30 m31 => ?_
  rw [l30] at m30
  refine checks_step H x4 (i := 4) (.inr (.inr (.inr (.inr ⟨rfl, rfl, rfl, rfl, rfl⟩)))) m30 m31 fun e5 s5 x5 o30 o31 => ?_
  rw [run_loop]
  simp [B.chaselaw09_FilterChecks_l0, go_sem, o31, x5]

/-- The state in which works is called. -/
def stChecks (nm : List UInt8) (w h q : Int) (K W G Q : Nat) : St := ⟨[(4, .cells 327 true [.int .u8 (K : Int), .int .u8 (W : Int), .int .u8 (G : Int), .int .u8 (Q : Int)]), (3, .cells 325 true (filC nm w h q))], 5⟩

theorem checks_res (H : B.H_chaselaw09_FilterChecks T) {nm : List UInt8} {w h q : Int} {K W G Q : Nat} {c : Int} (hK : K < 256) (hW : W < 256) (hG : G < 256) (hQ : Q < 256)
    (hworks : CRes (call T (.fn 228 [] []) [] (stChecks nm w h q K W G Q)) fun v s => v = .bool true ∧ Ext (stChecks nm w h q K W G Q) s) :
    CRes (call T (.fn 227 [] []) [.agg (filC nm w h q), .agg [.int .u8 (K : Int), .int .u8 (W : Int), .int .u8 (G : Int), .int .u8 (Q : Int)], .int .i64 c] ⟨[], 3⟩) fun v _ => v = .bool true := by
  refine call_res H.e H.f rfl ?_
  simp [B.chaselaw09_FilterChecks, go_sem, NO.run, AV.nb]
  refine hworks.mono ?_
  rintro _ s1 ⟨rfl, x1⟩
  have hw5 : (stChecks nm w h q K W G Q).Wf := ⟨(fun n o ho => by
    simp only [stChecks, hget] at ho ⊢
    split at ho
    · omega
    · split at ho
      · omega
      · cases ho), (by simp [stChecks])⟩
  have r3 : rdCells s1.h 3 0 4 = some (filC nm w h q) := rd_all (x1.get hw5 (n := 3) (o := .cells 325 true (filC nm w h q)) (by simp [stChecks, hget])) rfl
  have r4 : rdCells s1.h 4 0 4 = some [.int .u8 (K : Int), .int .u8 (W : Int), .int .u8 (G : Int), .int .u8 (Q : Int)] := rd_all (x1.get hw5 (n := 4) (o := .cells 327 true [.int .u8 (K : Int), .int .u8 (W : Int), .int .u8 (G : Int), .int .u8 (Q : Int)]) (by simp [stChecks, hget])) rfl
  have g3 := x1.get hw5 (n := 3) (o := .cells 325 true (filC nm w h q)) (by simp [stChecks, hget])
  have hn := x1.nx
  simp only [stChecks] at hn
  have x1w := x1.wf
  clear x1 hworks
  simp [go_sem, RO.run, r4]
  refine (filD_tells H.chaseref09_Draft_Filter x1w hK hW hG hQ).use fun s2 x2 => ?_
  generalize filD K W G Q = D
  obtain ⟨dn, dw, dh, dq⟩ := D
  have g32 := x2.get x1w g3
  have z1 := Ext.new x2.wf (.cells 325 true (filC dn dw dh dq))
  have hlt := x2.wf.lt _ _ g32
  have hne : ¬ s2.nx = 3 := by have := x2.nx; omega
  have hne2 : ¬ s2.nx + 1 = 3 := by omega
  have z2 := z1.trans (Ext.new z1.wf (.cells 329 true (filC nm w h q ++ filC dn dw dh dq ++ filC dn c dh dq ++ filC dn dw c dq ++ filC dn dw dh c)))
  simp only [Nat.add_assoc, Nat.reduceAdd] at z2
  simp [go_sem, NO.run, WO.run, RO.run, wrCells, rdCells, hget_cons, hset_cons, splice, g32, hne, hne2, Nat.add_assoc]
  refine (checks_l0 H z2 nm dn dn dn dn w h q dw dh dq c dh dq dw c dq dw dh c (by simp [go_sem]) (by simp [go_sem])).mono ?_
  rintro x e s3 ⟨rfl, x3⟩
  simp [go_sem]

end Go.Ev

/- A closed call run by the kernel: what it answers, and that what was there stays. -/
namespace Go.Ev
open Go
set_option linter.unusedVariables false

variable {T : Tab}

def okNames : List Nat → Bool
  | [] => true
  | n :: r => !hmem n r && okNames r
def allLt (k : Nat) : List Nat → Bool
  | [] => true
  | n :: r => decide (n < k) && allLt k r
/-- Names are all different, and none is too great. -/
def okSt (k : Nat) (s : St) : Bool := okNames (s.h.map (·.1)) && (allLt s.nx (s.h.map (·.1)) && decide (k ≤ s.nx))

theorem hmem_false {n : Nat} : ∀ {l : List Nat}, hmem n l = false → n ∉ l
  | [], _ => by simp
  | m :: l, h => by
    simp only [hmem] at h
    split at h
    · cases h
    · rename_i e
      simp only [List.mem_cons, not_or]
      exact ⟨fun h => e h.symm, hmem_false h⟩
theorem okNames_nodup : ∀ {l : List Nat}, okNames l = true → l.Nodup
  | [], _ => List.nodup_nil
  | n :: l, h => by
    simp only [okNames, Bool.and_eq_true, Bool.not_eq_true'] at h
    exact List.nodup_cons.2 ⟨hmem_false h.1, okNames_nodup h.2⟩
theorem allLt_mem {k : Nat} : ∀ {l : List Nat}, allLt k l = true → ∀ n ∈ l, n < k
  | [], _, n, hn => by cases hn
  | m :: l, h, n, hn => by
    simp only [allLt, Bool.and_eq_true, decide_eq_true_eq] at h
    rcases List.mem_cons.1 hn with rfl | hn
    · exact h.1
    · exact allLt_mem h.2 n hn
theorem okSt_wf {k : Nat} {s : St} (h : okSt k s = true) : s.Wf ∧ k ≤ s.nx := by
  simp only [okSt, Bool.and_eq_true, decide_eq_true_eq] at h
  refine ⟨⟨fun n o ho => allLt_mem h.2.1 n ?_, okNames_nodup h.1⟩, h.2.2⟩
  exact List.mem_map.2 ⟨(n, o), hget_mem ho, rfl⟩

/-- What is looked at of a closed run. -/
def lookAt (k : Nat) (r : Option (Ex × Env × St)) : Option (AV × Bool × List (Option AObj)) :=
  match r with
  | some (.ret, e, s) => some (eget e 0, okSt k s, (List.range k).map (hget s.h))
  | _ => none

/-- A call without arguments that the kernel has run. -/
theorem closed_res {f n : Nat} {mf : MFun} (hen : T.en f = none) (hf : T.fn f = some mf) (h0 : mf.nargs = 0) (hr : mf.results = [.t 0]) {st : St} {v : AV}
    (h : lookAt st.nx (exec T n mf.body [] st) = some (v, true, (List.range st.nx).map (hget st.h))) : CRes (call T (.fn f [] []) [] st) fun v' s => v' = v ∧ Ext st s := by
  refine call_res hen hf (by simp [h0]) ?_
  cases hx : exec T n mf.body [] st with
  | none => rw [hx] at h; cases h
  | some p =>
    obtain ⟨x, e, s⟩ := p
    rw [hx] at h
    cases x with
    | norm => cases h
    | exit i => cases h
    | ret =>
      simp only [lookAt, Option.some.injEq, Prod.mk.injEq] at h
      obtain ⟨hv, hs, hk⟩ := h
      obtain ⟨hwf, hnx⟩ := okSt_wf hs
      have hrun : run T mf.body (argEnv 0 ([] ++ [] ++ [])) st = some (.ret, e, s) := run_iff.2 ⟨n, hx⟩
      rw [hrun]
      refine ⟨.inr rfl, v, by rw [hr]; simp [fresults, resVals, resVal, hv], rfl, ?_⟩
      have x1 : Ext st s := ⟨hnx, hwf, fun m hm => by
        have := congrArg (fun l => l[m]?) hk
        simp only [List.getElem?_map, List.getElem?_range hm, Option.map_some, Option.some.injEq] at this
        exact this⟩
      exact x1.dropLoc

end Go.Ev

/- The functions that the law FilterChecks reaches: their numbers, and the check of each body, printed by a program of this work. -/
namespace Go.Ev.FilterChecks
open Go Go.Proofs Go.Ev
def phiT : NT := (.node (.node (.node (.node (.node (.node (.node .nil 9 69 .nil) 11 71 (.node .nil 16 118 .nil)) 17 119 (.node (.node .nil 18 120 .nil) 19 121 (.node .nil 23 122 .nil))) 
  24 123 (.node (.node (.node .nil 28 154 .nil) 29 155 (.node .nil 30 156 .nil)) 31 157 (.node (.node .nil 36 158 .nil) 37 159 .nil))) 39 178 (.node (.node (.node (.node .nil 40 177 .nil) 
  41 179 (.node .nil 42 180 .nil)) 43 181 (.node (.node .nil 44 182 .nil) 46 183 (.node .nil 47 184 .nil))) 48 185 (.node (.node (.node .nil 49 186 .nil) 50 187 (.node .nil 51 188 .nil)) 
  52 194 (.node (.node .nil 53 195 .nil) 54 196 .nil)))) 55 197 (.node (.node (.node (.node (.node .nil 56 198 .nil) 57 201 (.node .nil 84 174 .nil)) 91 104 (.node (.node .nil 92 36 .nil) 
  109 54 (.node .nil 118 102 .nil))) 169 34 (.node (.node (.node .nil 211 60 .nil) 212 62 (.node .nil 214 106 .nil)) 215 107 (.node (.node .nil 216 110 .nil) 217 111 .nil))) 218 144 (.node 
  (.node (.node (.node .nil 219 145 .nil) 220 105 (.node .nil 221 146 .nil)) 222 147 (.node (.node .nil 223 148 .nil) 224 149 (.node .nil 225 172 .nil))) 226 173 (.node (.node (.node 
  .nil 227 3 .nil) 228 10 (.node .nil 229 11 .nil)) 230 12 (.node (.node .nil 231 13 .nil) 232 18 .nil))))) 233 16 (.node (.node (.node (.node (.node (.node .nil 234 22 .nil) 235 25 (.node 
  .nil 236 29 .nil)) 237 27 (.node (.node .nil 238 26 .nil) 239 37 (.node .nil 240 50 .nil))) 241 56 (.node (.node (.node .nil 242 59 .nil) 243 61 (.node .nil 244 63 .nil)) 245 64 (.node 
  (.node .nil 246 65 .nil) 247 66 .nil))) 248 67 (.node (.node (.node (.node .nil 249 72 .nil) 250 57 (.node .nil 251 108 .nil)) 252 109 (.node (.node .nil 253 112 .nil) 254 114 (.node 
  .nil 255 113 .nil))) 256 115 (.node (.node (.node .nil 257 116 .nil) 258 117 (.node .nil 259 68 .nil)) 260 70 (.node (.node .nil 261 58 .nil) 262 73 .nil)))) 263 75 (.node (.node (.node 
  (.node (.node .nil 264 150 .nil) 265 151 (.node .nil 266 152 .nil)) 267 153 (.node (.node .nil 268 74 .nil) 269 76 (.node .nil 270 175 .nil))) 271 124 (.node (.node (.node .nil 272 
  125 .nil) 273 126 (.node .nil 274 127 .nil)) 275 176 (.node (.node .nil 276 160 .nil) 277 161 .nil))) 278 162 (.node (.node (.node (.node .nil 279 163 .nil) 280 164 (.node .nil 281 
  165 .nil)) 282 166 (.node (.node .nil 283 167 .nil) 284 169 .nil)) 285 168 (.node (.node (.node .nil 286 170 .nil) 287 189 (.node .nil 288 190 .nil)) 289 191 (.node (.node .nil 290 
  192 .nil) 291 199 .nil))))))
def tauT : NT := (.node (.node (.node (.node (.node (.node (.node (.node (.node .nil 0 0 .nil) 1 1 .nil) 2 2 (.node .nil 3 3 .nil)) 4 4 (.node (.node .nil 5 5 .nil) 6 6 (.node .nil 
  7 7 .nil))) 8 8 (.node (.node (.node .nil 9 9 .nil) 10 10 (.node .nil 11 11 .nil)) 12 12 (.node (.node .nil 13 13 .nil) 14 14 (.node .nil 15 15 .nil)))) 16 16 (.node (.node (.node (.node 
  (.node .nil 17 17 .nil) 18 18 .nil) 19 19 (.node .nil 20 20 .nil)) 21 21 (.node (.node .nil 25 26 .nil) 27 84 (.node .nil 28 85 .nil))) 30 30 (.node (.node (.node .nil 31 37 .nil) 32 
  90 (.node .nil 34 35 .nil)) 35 39 (.node (.node .nil 37 61 .nil) 38 92 (.node .nil 42 48 .nil))))) 43 75 (.node (.node (.node (.node (.node (.node .nil 45 110 .nil) 47 109 .nil) 48 
  173 (.node .nil 49 174 .nil)) 50 175 (.node (.node .nil 51 176 .nil) 52 177 (.node .nil 53 178 .nil))) 54 179 (.node (.node (.node .nil 55 180 .nil) 56 181 (.node .nil 57 182 .nil)) 
  58 183 (.node (.node .nil 59 184 .nil) 60 185 (.node .nil 61 186 .nil)))) 62 135 (.node (.node (.node (.node .nil 63 187 .nil) 64 112 (.node .nil 65 113 .nil)) 66 114 (.node (.node 
  .nil 67 115 .nil) 68 111 (.node .nil 69 188 .nil))) 70 189 (.node (.node (.node .nil 71 190 .nil) 72 191 (.node .nil 73 192 .nil)) 74 193 (.node (.node .nil 75 194 .nil) 76 127 (.node 
  .nil 77 128 .nil)))))) 78 129 (.node (.node (.node (.node (.node (.node (.node .nil 79 72 .nil) 80 73 .nil) 81 74 (.node .nil 82 76 .nil)) 83 77 (.node (.node .nil 84 78 .nil) 85 79 
  (.node .nil 86 80 .nil))) 87 81 (.node (.node (.node .nil 88 82 .nil) 89 83 (.node .nil 90 229 .nil)) 91 211 (.node (.node .nil 92 230 .nil) 93 231 (.node .nil 94 207 .nil)))) 95 208 
  (.node (.node (.node (.node (.node .nil 96 232 .nil) 97 233 .nil) 98 234 (.node .nil 99 235 .nil)) 100 210 (.node (.node .nil 101 212 .nil) 102 95 (.node .nil 103 96 .nil))) 104 97 
  (.node (.node (.node .nil 105 98 .nil) 106 99 (.node .nil 107 100 .nil)) 108 101 (.node (.node .nil 109 247 .nil) 110 248 (.node .nil 111 249 .nil))))) 112 250 (.node (.node (.node 
  (.node (.node (.node .nil 113 241 .nil) 114 133 .nil) 115 134 (.node .nil 116 122 .nil)) 117 251 (.node (.node .nil 118 252 .nil) 119 253 (.node .nil 120 209 .nil))) 121 254 (.node 
  (.node (.node .nil 122 255 .nil) 123 256 (.node .nil 124 257 .nil)) 125 258 (.node (.node .nil 126 259 .nil) 127 260 (.node .nil 128 261 .nil)))) 129 262 (.node (.node (.node (.node 
  .nil 130 263 .nil) 131 264 (.node .nil 132 265 .nil)) 137 119 (.node (.node .nil 140 63 .nil) 141 108 (.node .nil 143 222 .nil))) 152 107 (.node (.node (.node .nil 159 243 .nil) 161 
  196 (.node .nil 170 137 .nil)) 172 165 (.node (.node .nil 177 120 .nil) 192 121 (.node .nil 213 126 .nil))))))) 214 106 (.node (.node (.node (.node (.node (.node (.node (.node .nil 
  267 204 .nil) 296 123 .nil) 298 105 (.node .nil 299 138 .nil)) 300 139 (.node (.node .nil 301 140 .nil) 302 141 (.node .nil 303 142 .nil))) 304 143 (.node (.node (.node .nil 305 149 
  .nil) 306 150 (.node .nil 307 151 .nil)) 308 152 (.node (.node .nil 309 153 .nil) 310 214 (.node .nil 311 215 .nil)))) 312 216 (.node (.node (.node (.node (.node .nil 313 217 .nil) 
  314 218 .nil) 315 62 (.node .nil 316 219 .nil)) 317 144 (.node (.node .nil 318 145 .nil) 319 220 (.node .nil 320 221 .nil))) 321 242 (.node (.node (.node .nil 322 147 .nil) 323 146 
  (.node .nil 324 22 .nil)) 325 23 (.node (.node .nil 326 24 .nil) 327 25 (.node .nil 328 27 .nil))))) 329 28 (.node (.node (.node (.node (.node (.node .nil 330 29 .nil) 331 31 .nil) 
  332 32 (.node .nil 333 33 .nil)) 334 34 (.node (.node .nil 335 36 .nil) 336 38 (.node .nil 337 40 .nil))) 338 41 (.node (.node (.node .nil 339 42 .nil) 340 43 (.node .nil 341 44 .nil)) 
  342 45 (.node (.node .nil 343 46 .nil) 344 47 (.node .nil 345 49 .nil)))) 346 50 (.node (.node (.node (.node .nil 347 51 .nil) 348 52 (.node .nil 349 53 .nil)) 350 54 (.node (.node 
  .nil 351 55 .nil) 352 56 (.node .nil 353 57 .nil))) 354 58 (.node (.node (.node .nil 355 59 .nil) 356 60 (.node .nil 357 64 .nil)) 358 65 (.node (.node .nil 359 66 .nil) 360 67 (.node 
  .nil 361 68 .nil)))))) 362 69 (.node (.node (.node (.node (.node (.node (.node .nil 363 70 .nil) 364 71 .nil) 365 86 (.node .nil 366 87 .nil)) 367 88 (.node (.node .nil 368 89 .nil) 
  369 91 (.node .nil 370 93 .nil))) 371 94 (.node (.node (.node .nil 372 102 .nil) 373 103 (.node .nil 374 104 .nil)) 375 116 (.node (.node .nil 376 117 .nil) 377 118 (.node .nil 378 
  124 .nil)))) 379 125 (.node (.node (.node (.node .nil 380 130 .nil) 381 131 (.node .nil 382 132 .nil)) 383 136 (.node (.node .nil 384 148 .nil) 385 154 (.node .nil 386 155 .nil))) 387 
  156 (.node (.node (.node .nil 388 157 .nil) 389 158 (.node .nil 390 159 .nil)) 391 160 (.node (.node .nil 392 161 .nil) 393 162 (.node .nil 394 163 .nil))))) 395 164 (.node (.node (.node 
  (.node (.node (.node .nil 396 166 .nil) 397 167 .nil) 398 168 (.node .nil 399 169 .nil)) 400 170 (.node (.node .nil 401 171 .nil) 402 172 (.node .nil 403 195 .nil))) 404 197 (.node 
  (.node (.node .nil 405 198 .nil) 406 199 (.node .nil 407 200 .nil)) 408 201 (.node (.node .nil 409 202 .nil) 410 203 (.node .nil 411 205 .nil)))) 412 206 (.node (.node (.node (.node 
  .nil 413 213 .nil) 414 223 (.node .nil 415 224 .nil)) 416 225 (.node (.node .nil 417 226 .nil) 418 227 (.node .nil 419 228 .nil))) 420 236 (.node (.node (.node .nil 421 237 .nil) 422 
  238 (.node .nil 423 239 .nil)) 424 240 (.node (.node .nil 425 244 .nil) 426 245 (.node .nil 427 246 .nil))))))))
def gamT : NT := (.node (.node .nil 0 0 .nil) 7 1 .nil)
noncomputable def cx : Cx := ⟨Tryz.prog, phiT.get, tauT.get, gamT.get⟩
theorem k_fax_Encode : FnOK cx 9 B.fax_Encode := fnOK_of (by kernel_rfl) Tryz.func69 (by kernel_rfl)
theorem k_fax_Decode : FnOK cx 11 B.fax_Decode := fnOK_of (by kernel_rfl) Tryz.func71 (by kernel_rfl)
theorem k_fax_octets : FnOK cx 16 B.fax_octets := fnOK_of (by kernel_rfl) Tryz.func118 (by kernel_rfl)
theorem k_fax_unpack : FnOK cx 17 B.fax_unpack := fnOK_of (by kernel_rfl) Tryz.func119 (by kernel_rfl)
theorem k_fax_writer_put : FnOK cx 18 B.fax_writer_put := fnOK_of (by kernel_rfl) Tryz.func120 (by kernel_rfl)
theorem k_fax_coder_write : FnOK cx 19 B.fax_coder_write := fnOK_of (by kernel_rfl) Tryz.func121 (by kernel_rfl)
theorem k_fax_filler_next : FnOK cx 23 B.fax_filler_next := fnOK_of (by kernel_rfl) Tryz.func122 (by kernel_rfl)
theorem k_fax_reader_bit : FnOK cx 24 B.fax_reader_bit := fnOK_of (by kernel_rfl) Tryz.func123 (by kernel_rfl)
theorem k_fax_coder_ahead : FnOK cx 28 B.fax_coder_ahead := fnOK_of (by kernel_rfl) Tryz.func154 (by kernel_rfl)
theorem k_fax_coder_own : FnOK cx 29 B.fax_coder_own := fnOK_of (by kernel_rfl) Tryz.func155 (by kernel_rfl)
theorem k_fax_vertical : FnOK cx 30 B.fax_vertical := fnOK_of (by kernel_rfl) Tryz.func156 (by kernel_rfl)
theorem k_fax_run : FnOK cx 31 B.fax_run := fnOK_of (by kernel_rfl) Tryz.func157 (by kernel_rfl)
theorem k_fax_reader_zeros : FnOK cx 36 B.fax_reader_zeros := fnOK_of (by kernel_rfl) Tryz.func158 (by kernel_rfl)
theorem k_fax_modes : FnOK cx 37 B.fax_modes := fnOK_of (by kernel_rfl) Tryz.func159 (by kernel_rfl)
theorem k_fax_coder_ahead_1 : FnOK cx 39 B.fax_coder_ahead_1 := fnOK_of (by kernel_rfl) Tryz.func178 (by kernel_rfl)
theorem k_fax_first_int : FnOK cx 40 B.fax_first_int := fnOK_of (by kernel_rfl) Tryz.func177 (by kernel_rfl)
theorem k_fax_coder_ahead_2 : FnOK cx 41 B.fax_coder_ahead_2 := fnOK_of (by kernel_rfl) Tryz.func179 (by kernel_rfl)
theorem k_fax_coder_own_1 : FnOK cx 42 B.fax_coder_own_1 := fnOK_of (by kernel_rfl) Tryz.func180 (by kernel_rfl)
theorem k_fax_coder_own_2 : FnOK cx 43 B.fax_coder_own_2 := fnOK_of (by kernel_rfl) Tryz.func181 (by kernel_rfl)
theorem k_math_bits_Len : FnOK cx 44 B.math_bits_Len := fnOK_of (by kernel_rfl) Tryz.func182 (by kernel_rfl)
theorem k_fax_filler_straight : FnOK cx 46 B.fax_filler_straight := fnOK_of (by kernel_rfl) Tryz.func183 (by kernel_rfl)
theorem k_fax_filler_one : FnOK cx 47 B.fax_filler_one := fnOK_of (by kernel_rfl) Tryz.func184 (by kernel_rfl)
theorem k_fax_filler_horizontal : FnOK cx 48 B.fax_filler_horizontal := fnOK_of (by kernel_rfl) Tryz.func185 (by kernel_rfl)
theorem k_fax_filler_pass : FnOK cx 49 B.fax_filler_pass := fnOK_of (by kernel_rfl) Tryz.func186 (by kernel_rfl)
theorem k_fax_filler_two : FnOK cx 50 B.fax_filler_two := fnOK_of (by kernel_rfl) Tryz.func187 (by kernel_rfl)
theorem k_fax_filler_three : FnOK cx 51 B.fax_filler_three := fnOK_of (by kernel_rfl) Tryz.func188 (by kernel_rfl)
theorem k_math_bits_Len32 : FnOK cx 52 B.math_bits_Len32 := fnOK_of (by kernel_rfl) Tryz.func194 (by kernel_rfl)
theorem k_math_bits_Len64 : FnOK cx 53 B.math_bits_Len64 := fnOK_of (by kernel_rfl) Tryz.func195 (by kernel_rfl)
theorem k_fax_filler_vertical : FnOK cx 54 B.fax_filler_vertical := fnOK_of (by kernel_rfl) Tryz.func196 (by kernel_rfl)
theorem k_fax_reader_run : FnOK cx 55 B.fax_reader_run := fnOK_of (by kernel_rfl) Tryz.func197 (by kernel_rfl)
theorem k_fax_filler_fill : FnOK cx 56 B.fax_filler_fill := fnOK_of (by kernel_rfl) Tryz.func198 (by kernel_rfl)
theorem k_fax_reader_number : FnOK cx 57 B.fax_reader_number := fnOK_of (by kernel_rfl) Tryz.func201 (by kernel_rfl)
theorem k_strings_Builder_WriteByte : FnOK cx 91 B.strings_Builder_WriteByte := fnOK_of (by kernel_rfl) Tryz.func104 (by kernel_rfl)
theorem k_strings_Builder_String : FnOK cx 92 B.strings_Builder_String := fnOK_of (by kernel_rfl) Tryz.func36 (by kernel_rfl)
theorem k_strings_Builder_copyCheck : FnOK cx 109 B.strings_Builder_copyCheck := fnOK_of (by kernel_rfl) Tryz.func54 (by kernel_rfl)
theorem k_strings_Builder_WriteString : FnOK cx 169 B.strings_Builder_WriteString := fnOK_of (by kernel_rfl) Tryz.func34 (by kernel_rfl)
theorem k_ascii_Unhex : FnOK cx 211 B.ascii_Unhex := fnOK_of (by kernel_rfl) Tryz.func60 (by kernel_rfl)
theorem k_ascii_Unbase85 : FnOK cx 212 B.ascii_Unbase85 := fnOK_of (by kernel_rfl) Tryz.func62 (by kernel_rfl)
theorem k_ascii_read_ascii_half : FnOK cx 214 B.ascii_read_ascii_half := fnOK_of (by kernel_rfl) Tryz.func106 (by kernel_rfl)
theorem k_ascii_half_take : FnOK cx 215 B.ascii_half_take := fnOK_of (by kernel_rfl) Tryz.func107 (by kernel_rfl)
theorem k_ascii_read_ascii_tens : FnOK cx 216 B.ascii_read_ascii_tens := fnOK_of (by kernel_rfl) Tryz.func110 (by kernel_rfl)
theorem k_ascii_tens_take : FnOK cx 217 B.ascii_tens_take := fnOK_of (by kernel_rfl) Tryz.func111 (by kernel_rfl)
theorem k_ascii_read_ascii_half_1 : FnOK cx 218 B.ascii_read_ascii_half_1 := fnOK_of (by kernel_rfl) Tryz.func144 (by kernel_rfl)
theorem k_ascii_solid : FnOK cx 219 B.ascii_solid := fnOK_of (by kernel_rfl) Tryz.func145 (by kernel_rfl)
theorem k_ascii_bounded : FnOK cx 220 B.ascii_bounded := fnOK_of (by kernel_rfl) Tryz.func105 (by kernel_rfl)
theorem k_ascii_nibble : FnOK cx 221 B.ascii_nibble := fnOK_of (by kernel_rfl) Tryz.func146 (by kernel_rfl)
theorem k_ascii_read_ascii_tens_1 : FnOK cx 222 B.ascii_read_ascii_tens_1 := fnOK_of (by kernel_rfl) Tryz.func147 (by kernel_rfl)
theorem k_ascii_tens_close : FnOK cx 223 B.ascii_tens_close := fnOK_of (by kernel_rfl) Tryz.func148 (by kernel_rfl)
theorem k_ascii_fold : FnOK cx 224 B.ascii_fold := fnOK_of (by kernel_rfl) Tryz.func149 (by kernel_rfl)
theorem k_ascii_solid_1 : FnOK cx 225 B.ascii_solid_1 := fnOK_of (by kernel_rfl) Tryz.func172 (by kernel_rfl)
theorem k_ascii_blank : FnOK cx 226 B.ascii_blank := fnOK_of (by kernel_rfl) Tryz.func173 (by kernel_rfl)
theorem k_chaselaw09_FilterChecks : FnOK cx 227 B.chaselaw09_FilterChecks := fnOK_of (by kernel_rfl) Tryz.func3 (by kernel_rfl)
theorem k_chaselaw09_works : FnOK cx 228 B.chaselaw09_works := fnOK_of (by kernel_rfl) Tryz.func10 (by kernel_rfl)
theorem k_chaseref09_Draft_Filter : FnOK cx 229 B.chaseref09_Draft_Filter := fnOK_of (by kernel_rfl) Tryz.func11 (by kernel_rfl)
theorem k_chaseref09_Right : FnOK cx 230 B.chaseref09_Right := fnOK_of (by kernel_rfl) Tryz.func12 (by kernel_rfl)
theorem k_filter_Check : FnOK cx 231 B.filter_Check := fnOK_of (by kernel_rfl) Tryz.func13 (by kernel_rfl)
theorem k_filter_Encode : FnOK cx 232 B.filter_Encode := fnOK_of (by kernel_rfl) Tryz.func18 (by kernel_rfl)
theorem k_filter_Decode : FnOK cx 233 B.filter_Decode := fnOK_of (by kernel_rfl) Tryz.func16 (by kernel_rfl)
theorem k_filter_of : FnOK cx 234 B.filter_of := fnOK_of (by kernel_rfl) Tryz.func22 (by kernel_rfl)
theorem k_filter_all : FnOK cx 235 B.filter_all := fnOK_of (by kernel_rfl) Tryz.func25 (by kernel_rfl)
theorem k_slices_Backward_filter_coding_filter_coding : FnOK cx 236 B.slices_Backward_filter_coding_filter_coding := fnOK_of (by kernel_rfl) Tryz.func29 (by kernel_rfl)
theorem k_filter_apply_string : FnOK cx 237 B.filter_apply_string := fnOK_of (by kernel_rfl) Tryz.func27 (by kernel_rfl)
theorem k_filter_Decode_1 : FnOK cx 238 B.filter_Decode_1 := fnOK_of (by kernel_rfl) Tryz.func26 (by kernel_rfl)
theorem k_filter_codings : FnOK cx 239 B.filter_codings := fnOK_of (by kernel_rfl) Tryz.func37 (by kernel_rfl)
theorem k_slices_Backward_filter_coding_filter_coding_1 : FnOK cx 240 B.slices_Backward_filter_coding_filter_coding_1 := fnOK_of (by kernel_rfl) Tryz.func50 (by kernel_rfl)
theorem k_filter_codings_1 : FnOK cx 241 B.filter_codings_1 := fnOK_of (by kernel_rfl) Tryz.func56 (by kernel_rfl)
theorem k_ascii_Hex : FnOK cx 242 B.ascii_Hex := fnOK_of (by kernel_rfl) Tryz.func59 (by kernel_rfl)
theorem k_ascii_Base85 : FnOK cx 243 B.ascii_Base85 := fnOK_of (by kernel_rfl) Tryz.func61 (by kernel_rfl)
theorem k_runs_Encode : FnOK cx 244 B.runs_Encode := fnOK_of (by kernel_rfl) Tryz.func63 (by kernel_rfl)
theorem k_runs_Decode : FnOK cx 245 B.runs_Decode := fnOK_of (by kernel_rfl) Tryz.func64 (by kernel_rfl)
theorem k_lzw_Encode : FnOK cx 246 B.lzw_Encode := fnOK_of (by kernel_rfl) Tryz.func65 (by kernel_rfl)
theorem k_lzw_Decode : FnOK cx 247 B.lzw_Decode := fnOK_of (by kernel_rfl) Tryz.func66 (by kernel_rfl)
theorem k_filter_codings_2 : FnOK cx 248 B.filter_codings_2 := fnOK_of (by kernel_rfl) Tryz.func67 (by kernel_rfl)
theorem k_filter_codings_3 : FnOK cx 249 B.filter_codings_3 := fnOK_of (by kernel_rfl) Tryz.func72 (by kernel_rfl)
theorem k_filter_codings_1_1 : FnOK cx 250 B.filter_codings_1_1 := fnOK_of (by kernel_rfl) Tryz.func57 (by kernel_rfl)
theorem k_ascii_group_spread : FnOK cx 251 B.ascii_group_spread := fnOK_of (by kernel_rfl) Tryz.func108 (by kernel_rfl)
theorem k_strings_Builder_Write : FnOK cx 252 B.strings_Builder_Write := fnOK_of (by kernel_rfl) Tryz.func109 (by kernel_rfl)
theorem k_runs_Encode_1 : FnOK cx 253 B.runs_Encode_1 := fnOK_of (by kernel_rfl) Tryz.func112 (by kernel_rfl)
theorem k_runs_runs : FnOK cx 254 B.runs_runs := fnOK_of (by kernel_rfl) Tryz.func114 (by kernel_rfl)
theorem k_runs_pieces_byte : FnOK cx 255 B.runs_pieces_byte := fnOK_of (by kernel_rfl) Tryz.func113 (by kernel_rfl)
theorem k_lzw_writer_put : FnOK cx 256 B.lzw_writer_put := fnOK_of (by kernel_rfl) Tryz.func115 (by kernel_rfl)
theorem k_lzw_writer_close : FnOK cx 257 B.lzw_writer_close := fnOK_of (by kernel_rfl) Tryz.func116 (by kernel_rfl)
theorem k_lzw_reader_expand : FnOK cx 258 B.lzw_reader_expand := fnOK_of (by kernel_rfl) Tryz.func117 (by kernel_rfl)
theorem k_filter_codings_2_1 : FnOK cx 259 B.filter_codings_2_1 := fnOK_of (by kernel_rfl) Tryz.func68 (by kernel_rfl)
theorem k_filter_codings_2_2 : FnOK cx 260 B.filter_codings_2_2 := fnOK_of (by kernel_rfl) Tryz.func70 (by kernel_rfl)
theorem k_filter_coding_right : FnOK cx 261 B.filter_coding_right := fnOK_of (by kernel_rfl) Tryz.func58 (by kernel_rfl)
theorem k_filter_codings_3_1 : FnOK cx 262 B.filter_codings_3_1 := fnOK_of (by kernel_rfl) Tryz.func73 (by kernel_rfl)
theorem k_filter_codings_3_2 : FnOK cx 263 B.filter_codings_3_2 := fnOK_of (by kernel_rfl) Tryz.func75 (by kernel_rfl)
theorem k_runs_runs_1 : FnOK cx 264 B.runs_runs_1 := fnOK_of (by kernel_rfl) Tryz.func150 (by kernel_rfl)
theorem k_lzw_counter_width : FnOK cx 265 B.lzw_counter_width := fnOK_of (by kernel_rfl) Tryz.func151 (by kernel_rfl)
theorem k_lzw_counter_count : FnOK cx 266 B.lzw_counter_count := fnOK_of (by kernel_rfl) Tryz.func152 (by kernel_rfl)
theorem k_lzw_reader_codes : FnOK cx 267 B.lzw_reader_codes := fnOK_of (by kernel_rfl) Tryz.func153 (by kernel_rfl)
theorem k_cosine_Encode : FnOK cx 268 B.cosine_Encode := fnOK_of (by kernel_rfl) Tryz.func74 (by kernel_rfl)
theorem k_cosine_Decode : FnOK cx 269 B.cosine_Decode := fnOK_of (by kernel_rfl) Tryz.func76 (by kernel_rfl)
theorem k_lzw_reader_codes_1 : FnOK cx 270 B.lzw_reader_codes_1 := fnOK_of (by kernel_rfl) Tryz.func175 (by kernel_rfl)
theorem k_cosine_sized : FnOK cx 271 B.cosine_sized := fnOK_of (by kernel_rfl) Tryz.func124 (by kernel_rfl)
theorem k_cosine_block : FnOK cx 272 B.cosine_block := fnOK_of (by kernel_rfl) Tryz.func125 (by kernel_rfl)
theorem k_cosine_reader_block : FnOK cx 273 B.cosine_reader_block := fnOK_of (by kernel_rfl) Tryz.func126 (by kernel_rfl)
theorem k_cosine_Inverse : FnOK cx 274 B.cosine_Inverse := fnOK_of (by kernel_rfl) Tryz.func127 (by kernel_rfl)
theorem k_lzw_reader_read : FnOK cx 275 B.lzw_reader_read := fnOK_of (by kernel_rfl) Tryz.func176 (by kernel_rfl)
theorem k_cosine_Forward : FnOK cx 276 B.cosine_Forward := fnOK_of (by kernel_rfl) Tryz.func160 (by kernel_rfl)
theorem k_cosine_order : FnOK cx 277 B.cosine_order := fnOK_of (by kernel_rfl) Tryz.func161 (by kernel_rfl)
theorem k_cosine_floor : FnOK cx 278 B.cosine_floor := fnOK_of (by kernel_rfl) Tryz.func162 (by kernel_rfl)
theorem k_cosine_number : FnOK cx 279 B.cosine_number := fnOK_of (by kernel_rfl) Tryz.func163 (by kernel_rfl)
theorem k_cosine_reader_octet : FnOK cx 280 B.cosine_reader_octet := fnOK_of (by kernel_rfl) Tryz.func164 (by kernel_rfl)
theorem k_cosine_reader_number : FnOK cx 281 B.cosine_reader_number := fnOK_of (by kernel_rfl) Tryz.func165 (by kernel_rfl)
theorem k_cosine_within : FnOK cx 282 B.cosine_within := fnOK_of (by kernel_rfl) Tryz.func166 (by kernel_rfl)
theorem k_cosine_norm : FnOK cx 283 B.cosine_norm := fnOK_of (by kernel_rfl) Tryz.func167 (by kernel_rfl)
theorem k_cosine_Inverse_1 : FnOK cx 284 B.cosine_Inverse_1 := fnOK_of (by kernel_rfl) Tryz.func169 (by kernel_rfl)
theorem k_cosine_sum_int : FnOK cx 285 B.cosine_sum_int := fnOK_of (by kernel_rfl) Tryz.func168 (by kernel_rfl)
theorem k_cosine_Inverse_2 : FnOK cx 286 B.cosine_Inverse_2 := fnOK_of (by kernel_rfl) Tryz.func170 (by kernel_rfl)
theorem k_cosine_Forward_1 : FnOK cx 287 B.cosine_Forward_1 := fnOK_of (by kernel_rfl) Tryz.func189 (by kernel_rfl)
theorem k_cosine_Forward_2 : FnOK cx 288 B.cosine_Forward_2 := fnOK_of (by kernel_rfl) Tryz.func190 (by kernel_rfl)
theorem k_cosine_zigzag : FnOK cx 289 B.cosine_zigzag := fnOK_of (by kernel_rfl) Tryz.func191 (by kernel_rfl)
theorem k_cosine_norm_1 : FnOK cx 290 B.cosine_norm_1 := fnOK_of (by kernel_rfl) Tryz.func192 (by kernel_rfl)
theorem k_cosine_zigzag_1 : FnOK cx 291 B.cosine_zigzag_1 := fnOK_of (by kernel_rfl) Tryz.func199 (by kernel_rfl)
def fnT : FT := (.node (.node (.node (.node (.node (.node (.node .nil 9 B.fax_Encode .nil) 11 B.fax_Decode (.node .nil 16 B.fax_octets .nil)) 17 B.fax_unpack (.node (.node .nil 18 B.fax_writer_put 
  .nil) 19 B.fax_coder_write (.node .nil 23 B.fax_filler_next .nil))) 24 B.fax_reader_bit (.node (.node (.node .nil 28 B.fax_coder_ahead .nil) 29 B.fax_coder_own (.node .nil 30 B.fax_vertical 
  .nil)) 31 B.fax_run (.node (.node .nil 36 B.fax_reader_zeros .nil) 37 B.fax_modes .nil))) 39 B.fax_coder_ahead_1 (.node (.node (.node (.node .nil 40 B.fax_first_int .nil) 41 B.fax_coder_ahead_2 
  (.node .nil 42 B.fax_coder_own_1 .nil)) 43 B.fax_coder_own_2 (.node (.node .nil 44 B.math_bits_Len .nil) 46 B.fax_filler_straight (.node .nil 47 B.fax_filler_one .nil))) 48 B.fax_filler_horizontal 
  (.node (.node (.node .nil 49 B.fax_filler_pass .nil) 50 B.fax_filler_two (.node .nil 51 B.fax_filler_three .nil)) 52 B.math_bits_Len32 (.node (.node .nil 53 B.math_bits_Len64 .nil) 
  54 B.fax_filler_vertical .nil)))) 55 B.fax_reader_run (.node (.node (.node (.node (.node .nil 56 B.fax_filler_fill .nil) 57 B.fax_reader_number (.node .nil 91 B.strings_Builder_WriteByte 
  .nil)) 92 B.strings_Builder_String (.node (.node .nil 109 B.strings_Builder_copyCheck .nil) 169 B.strings_Builder_WriteString (.node .nil 211 B.ascii_Unhex .nil))) 212 B.ascii_Unbase85 
  (.node (.node (.node .nil 214 B.ascii_read_ascii_half .nil) 215 B.ascii_half_take (.node .nil 216 B.ascii_read_ascii_tens .nil)) 217 B.ascii_tens_take (.node (.node .nil 218 B.ascii_read_ascii_half_1 
  .nil) 219 B.ascii_solid .nil))) 220 B.ascii_bounded (.node (.node (.node (.node .nil 221 B.ascii_nibble .nil) 222 B.ascii_read_ascii_tens_1 (.node .nil 223 B.ascii_tens_close .nil)) 
  224 B.ascii_fold (.node (.node .nil 225 B.ascii_solid_1 .nil) 226 B.ascii_blank .nil)) 227 B.chaselaw09_FilterChecks (.node (.node (.node .nil 228 B.chaselaw09_works .nil) 229 B.chaseref09_Draft_Filter 
  (.node .nil 230 B.chaseref09_Right .nil)) 231 B.filter_Check (.node (.node .nil 232 B.filter_Encode .nil) 233 B.filter_Decode .nil))))) 234 B.filter_of (.node (.node (.node (.node (.node 
  (.node .nil 235 B.filter_all .nil) 236 B.slices_Backward_filter_coding_filter_coding (.node .nil 237 B.filter_apply_string .nil)) 238 B.filter_Decode_1 (.node (.node .nil 239 B.filter_codings 
  .nil) 240 B.slices_Backward_filter_coding_filter_coding_1 (.node .nil 241 B.filter_codings_1 .nil))) 242 B.ascii_Hex (.node (.node (.node .nil 243 B.ascii_Base85 .nil) 244 B.runs_Encode 
  (.node .nil 245 B.runs_Decode .nil)) 246 B.lzw_Encode (.node (.node .nil 247 B.lzw_Decode .nil) 248 B.filter_codings_2 .nil))) 249 B.filter_codings_3 (.node (.node (.node (.node .nil 
  250 B.filter_codings_1_1 .nil) 251 B.ascii_group_spread (.node .nil 252 B.strings_Builder_Write .nil)) 253 B.runs_Encode_1 (.node (.node .nil 254 B.runs_runs .nil) 255 B.runs_pieces_byte 
  .nil)) 256 B.lzw_writer_put (.node (.node (.node .nil 257 B.lzw_writer_close .nil) 258 B.lzw_reader_expand (.node .nil 259 B.filter_codings_2_1 .nil)) 260 B.filter_codings_2_2 (.node 
  (.node .nil 261 B.filter_coding_right .nil) 262 B.filter_codings_3_1 .nil)))) 263 B.filter_codings_3_2 (.node (.node (.node (.node (.node .nil 264 B.runs_runs_1 .nil) 265 B.lzw_counter_width 
  (.node .nil 266 B.lzw_counter_count .nil)) 267 B.lzw_reader_codes (.node (.node .nil 268 B.cosine_Encode .nil) 269 B.cosine_Decode (.node .nil 270 B.lzw_reader_codes_1 .nil))) 271 B.cosine_sized 
  (.node (.node (.node .nil 272 B.cosine_block .nil) 273 B.cosine_reader_block (.node .nil 274 B.cosine_Inverse .nil)) 275 B.lzw_reader_read (.node (.node .nil 276 B.cosine_Forward .nil) 
  277 B.cosine_order .nil))) 278 B.cosine_floor (.node (.node (.node (.node .nil 279 B.cosine_number .nil) 280 B.cosine_reader_octet (.node .nil 281 B.cosine_reader_number .nil)) 282 
  B.cosine_within (.node (.node .nil 283 B.cosine_norm .nil) 284 B.cosine_Inverse_1 .nil)) 285 B.cosine_sum_int (.node (.node (.node .nil 286 B.cosine_Inverse_2 .nil) 287 B.cosine_Forward_1 
  (.node .nil 288 B.cosine_Forward_2 .nil)) 289 B.cosine_zigzag (.node (.node .nil 290 B.cosine_norm_1 .nil) 291 B.cosine_zigzag_1 .nil))))))
theorem fnT_all : fnT.All (FnOK cx) := ⟨⟨⟨⟨⟨⟨⟨trivial, k_fax_Encode, trivial⟩, k_fax_Decode, ⟨trivial, k_fax_octets, trivial⟩⟩, k_fax_unpack, ⟨⟨trivial, k_fax_writer_put, trivial⟩, 
  k_fax_coder_write, ⟨trivial, k_fax_filler_next, trivial⟩⟩⟩, k_fax_reader_bit, ⟨⟨⟨trivial, k_fax_coder_ahead, trivial⟩, k_fax_coder_own, ⟨trivial, k_fax_vertical, trivial⟩⟩, k_fax_run, 
  ⟨⟨trivial, k_fax_reader_zeros, trivial⟩, k_fax_modes, trivial⟩⟩⟩, k_fax_coder_ahead_1, ⟨⟨⟨⟨trivial, k_fax_first_int, trivial⟩, k_fax_coder_ahead_2, ⟨trivial, k_fax_coder_own_1, trivial⟩⟩, 
  k_fax_coder_own_2, ⟨⟨trivial, k_math_bits_Len, trivial⟩, k_fax_filler_straight, ⟨trivial, k_fax_filler_one, trivial⟩⟩⟩, k_fax_filler_horizontal, ⟨⟨⟨trivial, k_fax_filler_pass, trivial⟩, 
  k_fax_filler_two, ⟨trivial, k_fax_filler_three, trivial⟩⟩, k_math_bits_Len32, ⟨⟨trivial, k_math_bits_Len64, trivial⟩, k_fax_filler_vertical, trivial⟩⟩⟩⟩, k_fax_reader_run, ⟨⟨⟨⟨⟨trivial, 
  k_fax_filler_fill, trivial⟩, k_fax_reader_number, ⟨trivial, k_strings_Builder_WriteByte, trivial⟩⟩, k_strings_Builder_String, ⟨⟨trivial, k_strings_Builder_copyCheck, trivial⟩, k_strings_Builder_WriteString, 
  ⟨trivial, k_ascii_Unhex, trivial⟩⟩⟩, k_ascii_Unbase85, ⟨⟨⟨trivial, k_ascii_read_ascii_half, trivial⟩, k_ascii_half_take, ⟨trivial, k_ascii_read_ascii_tens, trivial⟩⟩, k_ascii_tens_take, 
  ⟨⟨trivial, k_ascii_read_ascii_half_1, trivial⟩, k_ascii_solid, trivial⟩⟩⟩, k_ascii_bounded, ⟨⟨⟨⟨trivial, k_ascii_nibble, trivial⟩, k_ascii_read_ascii_tens_1, ⟨trivial, k_ascii_tens_close, 
  trivial⟩⟩, k_ascii_fold, ⟨⟨trivial, k_ascii_solid_1, trivial⟩, k_ascii_blank, trivial⟩⟩, k_chaselaw09_FilterChecks, ⟨⟨⟨trivial, k_chaselaw09_works, trivial⟩, k_chaseref09_Draft_Filter, 
  ⟨trivial, k_chaseref09_Right, trivial⟩⟩, k_filter_Check, ⟨⟨trivial, k_filter_Encode, trivial⟩, k_filter_Decode, trivial⟩⟩⟩⟩⟩, k_filter_of, ⟨⟨⟨⟨⟨⟨trivial, k_filter_all, trivial⟩, k_slices_Backward_filter_coding_filter_coding, 
  ⟨trivial, k_filter_apply_string, trivial⟩⟩, k_filter_Decode_1, ⟨⟨trivial, k_filter_codings, trivial⟩, k_slices_Backward_filter_coding_filter_coding_1, ⟨trivial, k_filter_codings_1, 
  trivial⟩⟩⟩, k_ascii_Hex, ⟨⟨⟨trivial, k_ascii_Base85, trivial⟩, k_runs_Encode, ⟨trivial, k_runs_Decode, trivial⟩⟩, k_lzw_Encode, ⟨⟨trivial, k_lzw_Decode, trivial⟩, k_filter_codings_2, 
  trivial⟩⟩⟩, k_filter_codings_3, ⟨⟨⟨⟨trivial, k_filter_codings_1_1, trivial⟩, k_ascii_group_spread, ⟨trivial, k_strings_Builder_Write, trivial⟩⟩, k_runs_Encode_1, ⟨⟨trivial, k_runs_runs, 
  trivial⟩, k_runs_pieces_byte, trivial⟩⟩, k_lzw_writer_put, ⟨⟨⟨trivial, k_lzw_writer_close, trivial⟩, k_lzw_reader_expand, ⟨trivial, k_filter_codings_2_1, trivial⟩⟩, k_filter_codings_2_2, 
  ⟨⟨trivial, k_filter_coding_right, trivial⟩, k_filter_codings_3_1, trivial⟩⟩⟩⟩, k_filter_codings_3_2, ⟨⟨⟨⟨⟨trivial, k_runs_runs_1, trivial⟩, k_lzw_counter_width, ⟨trivial, k_lzw_counter_count, 
  trivial⟩⟩, k_lzw_reader_codes, ⟨⟨trivial, k_cosine_Encode, trivial⟩, k_cosine_Decode, ⟨trivial, k_lzw_reader_codes_1, trivial⟩⟩⟩, k_cosine_sized, ⟨⟨⟨trivial, k_cosine_block, trivial⟩, 
  k_cosine_reader_block, ⟨trivial, k_cosine_Inverse, trivial⟩⟩, k_lzw_reader_read, ⟨⟨trivial, k_cosine_Forward, trivial⟩, k_cosine_order, trivial⟩⟩⟩, k_cosine_floor, ⟨⟨⟨⟨trivial, k_cosine_number, 
  trivial⟩, k_cosine_reader_octet, ⟨trivial, k_cosine_reader_number, trivial⟩⟩, k_cosine_within, ⟨⟨trivial, k_cosine_norm, trivial⟩, k_cosine_Inverse_1, trivial⟩⟩, k_cosine_sum_int, ⟨⟨⟨trivial, 
  k_cosine_Inverse_2, trivial⟩, k_cosine_Forward_1, ⟨trivial, k_cosine_Forward_2, trivial⟩⟩, k_cosine_zigzag, ⟨⟨trivial, k_cosine_norm_1, trivial⟩, k_cosine_zigzag_1, trivial⟩⟩⟩⟩⟩⟩
def enT : Nat → Option Entry := fun k => if k = 118 then some B.E_abi_NoEscape else if k = 84 then some B.E_strings_IndexByte else none
def tab : Tab := ⟨fnT.get, enT⟩
theorem has_abi_NoEscape : B.H_abi_NoEscape tab := ⟨rfl⟩
theorem has_strings_IndexByte : B.H_strings_IndexByte tab := ⟨rfl⟩
theorem has_chaseref09_Draft_Filter : B.H_chaseref09_Draft_Filter tab := ⟨rfl, rfl⟩
theorem has_chaseref09_Right : B.H_chaseref09_Right tab := ⟨rfl, rfl⟩
theorem has_filter_apply_string : B.H_filter_apply_string tab := ⟨rfl, rfl⟩
theorem has_filter_Decode_1 : B.H_filter_Decode_1 tab := ⟨rfl, rfl⟩
theorem has_slices_Backward_filter_coding_filter_coding_1 : B.H_slices_Backward_filter_coding_filter_coding_1 tab := ⟨rfl, rfl⟩
theorem has_runs_Decode : B.H_runs_Decode tab := ⟨rfl, rfl⟩
theorem has_strings_Builder_String : B.H_strings_Builder_String tab := ⟨rfl, rfl⟩
theorem has_ascii_bounded : B.H_ascii_bounded tab := ⟨rfl, rfl⟩
theorem has_ascii_group_spread : B.H_ascii_group_spread tab := ⟨rfl, rfl⟩
theorem has_runs_pieces_byte : B.H_runs_pieces_byte tab := ⟨rfl, rfl⟩
theorem has_lzw_writer_close : B.H_lzw_writer_close tab := ⟨rfl, rfl⟩
theorem has_filter_coding_right : B.H_filter_coding_right tab := ⟨rfl, rfl⟩
theorem has_strings_Builder_copyCheck : B.H_strings_Builder_copyCheck tab := ⟨rfl, rfl, has_abi_NoEscape⟩
theorem has_ascii_read_ascii_half_1 : B.H_ascii_read_ascii_half_1 tab := ⟨rfl, rfl⟩
theorem has_ascii_nibble : B.H_ascii_nibble tab := ⟨rfl, rfl, has_strings_IndexByte⟩
theorem has_ascii_read_ascii_tens_1 : B.H_ascii_read_ascii_tens_1 tab := ⟨rfl, rfl⟩
theorem has_ascii_fold : B.H_ascii_fold tab := ⟨rfl, rfl⟩
theorem has_runs_runs_1 : B.H_runs_runs_1 tab := ⟨rfl, rfl⟩
theorem has_lzw_counter_width : B.H_lzw_counter_width tab := ⟨rfl, rfl⟩
theorem has_lzw_counter_count : B.H_lzw_counter_count tab := ⟨rfl, rfl⟩
theorem has_fax_octets : B.H_fax_octets tab := ⟨rfl, rfl⟩
theorem has_fax_unpack : B.H_fax_unpack tab := ⟨rfl, rfl⟩
theorem has_fax_writer_put : B.H_fax_writer_put tab := ⟨rfl, rfl⟩
theorem has_fax_reader_bit : B.H_fax_reader_bit tab := ⟨rfl, rfl⟩
theorem has_cosine_sized : B.H_cosine_sized tab := ⟨rfl, rfl⟩
theorem has_ascii_blank : B.H_ascii_blank tab := ⟨rfl, rfl⟩
theorem has_lzw_reader_read : B.H_lzw_reader_read tab := ⟨rfl, rfl, has_lzw_counter_width⟩
theorem has_fax_vertical : B.H_fax_vertical tab := ⟨rfl, rfl⟩
theorem has_fax_reader_zeros : B.H_fax_reader_zeros tab := ⟨rfl, rfl, has_fax_reader_bit⟩
theorem has_cosine_floor : B.H_cosine_floor tab := ⟨rfl, rfl⟩
theorem has_cosine_number : B.H_cosine_number tab := ⟨rfl, rfl⟩
theorem has_cosine_reader_octet : B.H_cosine_reader_octet tab := ⟨rfl, rfl⟩
theorem has_cosine_reader_number : B.H_cosine_reader_number tab := ⟨rfl, rfl, has_cosine_reader_octet⟩
theorem has_cosine_within : B.H_cosine_within tab := ⟨rfl, rfl⟩
theorem has_cosine_Inverse_1 : B.H_cosine_Inverse_1 tab := ⟨rfl, rfl⟩
theorem has_cosine_sum_int : B.H_cosine_sum_int tab := ⟨rfl, rfl⟩
theorem has_cosine_Inverse_2 : B.H_cosine_Inverse_2 tab := ⟨rfl, rfl⟩
theorem has_fax_coder_ahead_1 : B.H_fax_coder_ahead_1 tab := ⟨rfl, rfl⟩
theorem has_fax_first_int : B.H_fax_first_int tab := ⟨rfl, rfl⟩
theorem has_fax_coder_ahead_2 : B.H_fax_coder_ahead_2 tab := ⟨rfl, rfl⟩
theorem has_fax_coder_own_1 : B.H_fax_coder_own_1 tab := ⟨rfl, rfl⟩
theorem has_fax_coder_own_2 : B.H_fax_coder_own_2 tab := ⟨rfl, rfl⟩
theorem has_cosine_Forward_1 : B.H_cosine_Forward_1 tab := ⟨rfl, rfl⟩
theorem has_cosine_Forward_2 : B.H_cosine_Forward_2 tab := ⟨rfl, rfl⟩
theorem has_cosine_norm_1 : B.H_cosine_norm_1 tab := ⟨rfl, rfl⟩
theorem has_math_bits_Len32 : B.H_math_bits_Len32 tab := ⟨rfl, rfl⟩
theorem has_math_bits_Len64 : B.H_math_bits_Len64 tab := ⟨rfl, rfl⟩
theorem has_fax_filler_fill : B.H_fax_filler_fill tab := ⟨rfl, rfl⟩
theorem has_cosine_zigzag_1 : B.H_cosine_zigzag_1 tab := ⟨rfl, rfl⟩
theorem has_fax_reader_number : B.H_fax_reader_number tab := ⟨rfl, rfl, has_fax_reader_bit⟩
theorem has_slices_Backward_filter_coding_filter_coding : B.H_slices_Backward_filter_coding_filter_coding tab := ⟨rfl, rfl, has_slices_Backward_filter_coding_filter_coding_1⟩
theorem has_filter_codings_1_1 : B.H_filter_codings_1_1 tab := ⟨rfl, rfl, has_filter_coding_right⟩
theorem has_strings_Builder_WriteByte : B.H_strings_Builder_WriteByte tab := ⟨rfl, rfl, has_strings_Builder_copyCheck⟩
theorem has_ascii_half_take : B.H_ascii_half_take tab := ⟨rfl, rfl, has_ascii_nibble⟩
theorem has_strings_Builder_Write : B.H_strings_Builder_Write tab := ⟨rfl, rfl, has_strings_Builder_copyCheck⟩
theorem has_strings_Builder_WriteString : B.H_strings_Builder_WriteString tab := ⟨rfl, rfl, has_strings_Builder_copyCheck⟩
theorem has_runs_Encode_1 : B.H_runs_Encode_1 tab := ⟨rfl, rfl, has_runs_pieces_byte⟩
theorem has_runs_runs : B.H_runs_runs tab := ⟨rfl, rfl, has_runs_runs_1⟩
theorem has_lzw_writer_put : B.H_lzw_writer_put tab := ⟨rfl, rfl, has_lzw_counter_width, has_lzw_counter_count⟩
theorem has_ascii_tens_close : B.H_ascii_tens_close tab := ⟨rfl, rfl, has_ascii_fold⟩
theorem has_ascii_solid_1 : B.H_ascii_solid_1 tab := ⟨rfl, rfl, has_ascii_blank⟩
theorem has_lzw_reader_codes_1 : B.H_lzw_reader_codes_1 tab := ⟨rfl, rfl, has_lzw_reader_read, has_lzw_counter_count⟩
theorem has_fax_coder_ahead : B.H_fax_coder_ahead tab := ⟨rfl, rfl, has_fax_coder_ahead_1, has_fax_first_int, has_fax_coder_ahead_2⟩
theorem has_fax_coder_own : B.H_fax_coder_own tab := ⟨rfl, rfl, has_fax_coder_own_1, has_fax_first_int, has_fax_coder_own_2⟩
theorem has_cosine_Forward : B.H_cosine_Forward tab := ⟨rfl, rfl, has_cosine_within, has_cosine_Forward_1, has_cosine_sum_int, has_cosine_Forward_2⟩
theorem has_cosine_norm : B.H_cosine_norm tab := ⟨rfl, rfl, has_cosine_norm_1, has_cosine_sum_int⟩
theorem has_math_bits_Len : B.H_math_bits_Len tab := ⟨rfl, rfl, has_math_bits_Len32, has_math_bits_Len64⟩
theorem has_fax_filler_pass : B.H_fax_filler_pass tab := ⟨rfl, rfl, has_fax_coder_ahead, has_fax_filler_fill⟩
theorem has_cosine_zigzag : B.H_cosine_zigzag tab := ⟨rfl, rfl, has_cosine_zigzag_1⟩
theorem has_fax_filler_vertical : B.H_fax_filler_vertical tab := ⟨rfl, rfl, has_fax_coder_ahead, has_fax_filler_fill⟩
theorem has_fax_reader_run : B.H_fax_reader_run tab := ⟨rfl, rfl, has_fax_reader_bit, has_fax_reader_number⟩
theorem has_filter_codings_1 : B.H_filter_codings_1 tab := ⟨rfl, rfl, has_filter_codings_1_1⟩
theorem has_ascii_Hex : B.H_ascii_Hex tab := ⟨rfl, rfl, has_strings_Builder_WriteByte, has_strings_Builder_String, has_ascii_bounded⟩
theorem has_ascii_Base85 : B.H_ascii_Base85 tab := ⟨rfl, rfl, has_ascii_group_spread, has_strings_Builder_WriteByte, has_strings_Builder_Write, has_strings_Builder_WriteString, has_strings_Builder_String, has_ascii_bounded⟩
theorem has_runs_Encode : B.H_runs_Encode tab := ⟨rfl, rfl, has_runs_Encode_1, has_runs_runs, has_runs_pieces_byte⟩
theorem has_lzw_Encode : B.H_lzw_Encode tab := ⟨rfl, rfl, has_lzw_writer_put, has_lzw_writer_close⟩
theorem has_ascii_tens_take : B.H_ascii_tens_take tab := ⟨rfl, rfl, has_ascii_tens_close, has_ascii_fold⟩
theorem has_ascii_solid : B.H_ascii_solid tab := ⟨rfl, rfl, has_ascii_solid_1⟩
theorem has_lzw_reader_codes : B.H_lzw_reader_codes tab := ⟨rfl, rfl, has_lzw_reader_codes_1⟩
theorem has_cosine_Inverse : B.H_cosine_Inverse tab := ⟨rfl, rfl, has_cosine_within, has_cosine_norm, has_cosine_Inverse_1, has_cosine_sum_int, has_cosine_Inverse_2, has_cosine_floor⟩
theorem has_fax_run : B.H_fax_run tab := ⟨rfl, rfl, has_math_bits_Len⟩
theorem has_cosine_order : B.H_cosine_order tab := ⟨rfl, rfl, has_cosine_zigzag⟩
theorem has_fax_filler_straight : B.H_fax_filler_straight tab := ⟨rfl, rfl, has_fax_filler_vertical⟩
theorem has_fax_filler_one : B.H_fax_filler_one tab := ⟨rfl, rfl, has_fax_reader_bit, has_fax_filler_vertical⟩
theorem has_fax_filler_horizontal : B.H_fax_filler_horizontal tab := ⟨rfl, rfl, has_fax_reader_run, has_fax_filler_fill⟩
theorem has_fax_filler_two : B.H_fax_filler_two tab := ⟨rfl, rfl, has_fax_reader_bit, has_fax_filler_vertical⟩
theorem has_fax_filler_three : B.H_fax_filler_three tab := ⟨rfl, rfl, has_fax_reader_bit, has_fax_filler_vertical⟩
theorem has_ascii_read_ascii_half : B.H_ascii_read_ascii_half tab := ⟨rfl, rfl, has_ascii_read_ascii_half_1, has_ascii_solid, has_ascii_bounded⟩
theorem has_ascii_read_ascii_tens : B.H_ascii_read_ascii_tens tab := ⟨rfl, rfl, has_ascii_read_ascii_tens_1, has_ascii_solid, has_ascii_bounded⟩
theorem has_lzw_reader_expand : B.H_lzw_reader_expand tab := ⟨rfl, rfl, has_lzw_reader_codes⟩
theorem has_fax_coder_write : B.H_fax_coder_write tab := ⟨rfl, rfl, has_fax_coder_ahead, has_fax_coder_own, has_fax_writer_put, has_fax_vertical, has_fax_run⟩
theorem has_cosine_block : B.H_cosine_block tab := ⟨rfl, rfl, has_cosine_Forward, has_cosine_order, has_cosine_floor, has_cosine_number⟩
theorem has_cosine_reader_block : B.H_cosine_reader_block tab := ⟨rfl, rfl, has_cosine_order, has_cosine_reader_octet, has_cosine_reader_number⟩
theorem has_fax_modes : B.H_fax_modes tab := ⟨rfl, rfl, has_fax_filler_straight, has_fax_filler_one, has_fax_filler_horizontal, has_fax_filler_pass, has_fax_filler_two, has_fax_filler_three⟩
theorem has_ascii_Unhex : B.H_ascii_Unhex tab := ⟨rfl, rfl, has_ascii_read_ascii_half, has_ascii_half_take⟩
theorem has_ascii_Unbase85 : B.H_ascii_Unbase85 tab := ⟨rfl, rfl, has_ascii_read_ascii_tens, has_ascii_tens_take⟩
theorem has_lzw_Decode : B.H_lzw_Decode tab := ⟨rfl, rfl, has_lzw_reader_expand⟩
theorem has_fax_Encode : B.H_fax_Encode tab := ⟨rfl, rfl, has_fax_octets, has_fax_unpack, has_fax_writer_put, has_fax_coder_write⟩
theorem has_cosine_Encode : B.H_cosine_Encode tab := ⟨rfl, rfl, has_cosine_sized, has_cosine_block⟩
theorem has_cosine_Decode : B.H_cosine_Decode tab := ⟨rfl, rfl, has_cosine_sized, has_cosine_reader_block, has_cosine_Inverse⟩
theorem has_fax_filler_next : B.H_fax_filler_next tab := ⟨rfl, rfl, has_fax_reader_zeros, has_fax_modes⟩
theorem has_filter_codings_2_1 : B.H_filter_codings_2_1 tab := ⟨rfl, rfl, has_fax_Encode⟩
theorem has_filter_codings_3_1 : B.H_filter_codings_3_1 tab := ⟨rfl, rfl, has_cosine_Encode⟩
theorem has_filter_codings_3_2 : B.H_filter_codings_3_2 tab := ⟨rfl, rfl, has_cosine_Decode⟩
theorem has_fax_Decode : B.H_fax_Decode tab := ⟨rfl, rfl, has_fax_filler_next, has_fax_octets, has_fax_writer_put, has_fax_reader_bit⟩
theorem has_filter_codings_3 : B.H_filter_codings_3 tab := ⟨rfl, rfl, has_filter_codings_3_1, has_filter_codings_3_2, has_filter_coding_right⟩
theorem has_filter_codings_2_2 : B.H_filter_codings_2_2 tab := ⟨rfl, rfl, has_fax_Decode⟩
theorem has_filter_codings_2 : B.H_filter_codings_2 tab := ⟨rfl, rfl, has_filter_codings_2_1, has_filter_codings_2_2, has_filter_coding_right⟩
theorem has_filter_codings : B.H_filter_codings tab := ⟨rfl, rfl, has_filter_codings_1, has_ascii_Hex, has_ascii_Unhex, has_ascii_Base85, has_ascii_Unbase85, has_runs_Encode, has_runs_Decode, has_lzw_Encode, has_lzw_Decode, has_filter_codings_2, has_filter_codings_3⟩
theorem has_filter_of : B.H_filter_of tab := ⟨rfl, rfl, has_filter_codings⟩
theorem has_filter_all : B.H_filter_all tab := ⟨rfl, rfl, has_filter_of⟩
theorem has_filter_Check : B.H_filter_Check tab := ⟨rfl, rfl, has_filter_of⟩
theorem has_filter_Encode : B.H_filter_Encode tab := ⟨rfl, rfl, has_filter_all, has_slices_Backward_filter_coding_filter_coding, has_filter_apply_string⟩
theorem has_filter_Decode : B.H_filter_Decode tab := ⟨rfl, rfl, has_filter_all, has_filter_Decode_1, has_filter_apply_string⟩
theorem has_chaselaw09_works : B.H_chaselaw09_works tab := ⟨rfl, rfl, has_filter_Encode, has_filter_Decode, has_filter_Check⟩
theorem has_chaselaw09_FilterChecks : B.H_chaselaw09_FilterChecks tab := ⟨rfl, rfl, has_chaselaw09_works, has_chaseref09_Draft_Filter, has_chaseref09_Right, has_filter_Check⟩
theorem tabOK_all (ok118 : EntryOK chkD cx 118 B.E_abi_NoEscape) (ok84 : EntryOK chkD cx 84 B.E_strings_IndexByte) : TabOK chkD cx tab := tabOK_of fnT_all (fun f F h => by
  simp only [enT] at h
  by_cases e118 : f = 118
  · subst e118; simp only [if_true, Option.some.injEq] at h; subst h; exact ok118
  rw [if_neg e118] at h
  by_cases e84 : f = 84
  · subst e84; simp only [if_true, Option.some.injEq] at h; subst h; exact ok84
  rw [if_neg e84] at h
  cases h)
end Go.Ev.FilterChecks

/- DERIVED: THE SHELF's CONTRACTS AT THIS DUMP, IN PLAIN WORDS (tools/lay-plain.mjs out of 'EvFilShelf.lean', which tools/lay-shelf.mjs wrote): THE SAME DECLARATIONS UNDER THE SAME NAMES: 'import', 'namespace', 'open', 'def', 'theorem' AND NOTHING ELSE: no command of the shelf's: FOR A HAND-IN. Each laying: the table of numbers ('.._ren') and one theorem, a field a fact of the dump's own or the kernel's comparison; each contract: ONE APPLICATION. -/
namespace Go.Proofs
open Go.Shelf
def Tryz.lays137_ren : Go.Shelf.Ren := ⟨fun | 137 => 174 | 217 => 193 | 266 => 200 | n => n, fun | 9 => 9 | 5 => 5 | 3 => 3 | n => n, fun | n => n⟩
theorem Tryz.lays137 : Go.Proofs.Lays.n137 Tryz.prog Tryz.lays137_ren := {
  mixed := by kernel_rfl
  f137 := Tryz.func174.trans (congrArg some (by kernel_rfl))
  f217 := Tryz.func193.trans (congrArg some (by kernel_rfl))
  f266 := Tryz.func200.trans (congrArg some (by kernel_rfl))
  t3 := Tryz.underlying3
  a3 := Tryz.isAgg3
  z3 := Tryz.sizeOf3
  v3 := Tryz.zeroValue3
  t5 := Tryz.underlying5
  a5 := Tryz.isAgg5
  z5 := Tryz.sizeOf5
  v5 := Tryz.zeroValue5
  t9 := Tryz.underlying9
  a9 := Tryz.isAgg9
  z9 := Tryz.sizeOf9
  v9 := Tryz.zeroValue9 }
open Go.RowKit in
/-- strings.IndexByte: "IndexByte returns the index of the first instance of c in s, or -1 if c is not present in s.": IT RETURNS 'Lib.indexByte s c'; the world is as it was. (LAID: no walk: one application.) -/
theorem Tryz.strings_IndexByte (s : ByteArray) (c : Int) (w : World) :
    Calls Tryz.prog 174 #[.string s, .int .u8 c] w fun e w' => e = .returned (.int .i64 (Lib.indexByte s.data.toList c.toNat.toUInt8)) ∧ w' = w := Any.strings_IndexByte Tryz.lays137 s c w
end Go.Proofs
