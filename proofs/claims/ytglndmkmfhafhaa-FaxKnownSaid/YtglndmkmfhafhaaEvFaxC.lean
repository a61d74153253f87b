/- What the fax functions tell, on any data. -/
import Derived.Test.YtglndmkmfhafhaaEvR
import Derived.Test.YtglndmkmfhafhaaEvFaxB
namespace Go.Ev
open Go
set_option linter.unusedSimpArgs false
set_option linter.unusedSectionVars false
set_option linter.unusedVariables false

def firstN (p : Int → Bool) (i : Int) : Nat → Int
  | 0 => i
  | n + 1 => if p i = true then i else firstN p (i + 1) n

theorem wrap64 {n : Int} (h1 : -9223372036854775808 ≤ n) (h2 : n ≤ 9223372036854775807) : IntKind.i64.wrap n = n := wrap64_id h1 h2

variable {T : Tab} {st : St}

theorem first_loop {F : AV} {p : Int → Bool} {wide : Int} (hw : wide ≤ 1000000) :
    ∀ (n : Nat) (i : Int) (e : Env) (st1 : St), (wide - i).toNat = n → i ≤ wide → -1000000 ≤ i → eget e 1 = .int .i64 wide → eget e 2 = F → eget e 7 = .int .i64 i → Ext st st1 →
      (∀ j st2, Ext st st2 → i ≤ j → j < wide → Tells T st2 F [.int .i64 j] (.bool (p j))) →
      Res (run T (.loop B.fax_first_int_l0) e st1) fun x e' st2 => x = .exit 0 ∧ Ext st st2 ∧ eget e' 7 = .int .i64 (firstN p i n) := by
  intro n
  induction n with
  | zero =>
    intro i e st1 hn hi hlo h1 h2 h7 hx hF
    have hiw : i = wide := by omega
    subst hiw
    rw [run_loop]
    simp [B.fax_first_int_l0, go_sem, h1, h2, h7, firstN, hx]
  | succ n ih =>
    intro i e st1 hn hi hlo h1 h2 h7 hx hF
    have hiw : i < wide := by omega
    rw [run_loop]
    simp [B.fax_first_int_l0, go_sem, h1, h2, h7, hiw, firstN]
    refine (hF i st1 hx (Int.le_refl _) hiw).use fun s hs => ?_
    simp [go_sem]
    split
    · simp [go_sem, hx.trans hs]
    · simp [go_sem]
      refine ih (i + 1) _ s (by omega) (by omega) (by omega) ?_ ?_ ?_ (hx.trans hs) (fun j s hs hj => hF j s hs (by omega))
      · simp [go_sem]
      · simp [go_sem]
      · simp [go_sem]; rw [wrap64 (by omega) (by omega)]

theorem first_tells (H : B.HasFax T) {F : AV} {p : Int → Bool} (hwf : st.Wf) {from' wide : Int} (hw : wide ≤ 1000000) (hlo : -1000000 ≤ from') (hwl : -1000000 ≤ wide)
    (hF : ∀ j st2, Ext st st2 → from' ≤ j → j < wide → Tells T st2 F [.int .i64 j] (.bool (p j))) :
    Tells T st (.fn 40 [] []) [.int .i64 from', .int .i64 wide, F] (.int .i64 (firstN p (min from' wide) (wide - min from' wide).toNat)) := by
  refine tells_of H.e40 H.f40 rfl ?_
  have hm : (if wide < from' then wide else from') = min from' wide := by omega
  simp [B.fax_first_int, go_sem, hm]
  refine (first_loop hw _ (min from' wide) _ st rfl (by omega) (by omega) ?_ ?_ ?_ (.refl hwf) (fun j s hs h1 h2 => hF j s hs (by omega) h2)).mono ?_
  · simp [go_sem]
  · simp [go_sem]
  · simp [go_sem]
  · rintro x e s ⟨rfl, hx, h7⟩
    simp [go_sem, h7, hx]

theorem octets_tells (H : B.HasFax T) (hwf : st.Wf) {w : Int} (h0 : 0 ≤ w) (h1 : w ≤ 1000000) : Tells T st (.fn 16 [] []) [.int .i64 w] (.int .i64 ((w + 7) / 8)) := by
  refine tells_of H.e16 H.f16 rfl ?_
  simp (disch := omega) [B.fax_octets, go_sem, wrap64, Int.tdiv_eq_ediv_of_nonneg]
  exact .refl hwf

/-- The cells of a coder. -/
def bools (l : List Bool) : List AV := l.map .bool
def coderCells (row before : List Bool) (wide at' : Int) (black : Bool) : List AV := bools row ++ (bools before ++ [.int .i64 wide, .int .i64 at', .bool black])

theorem bools_len (l : List Bool) : (bools l).length = l.length := by simp [bools]

theorem cc_row {row before : List Bool} {wide at' : Int} {black : Bool} (hr : row.length = 128) (hb : before.length = 128) {i : Nat} (hi : i < 128) : (coderCells row before wide at' black)[i]? = some (.bool (row.getD i false)) := by
  rw [coderCells, List.getElem?_append_left (by rw [bools_len]; omega)]
  simp [bools, List.getD_eq_getElem?_getD, List.getElem?_eq_getElem (show i < row.length by omega)]
theorem cc_before {row before : List Bool} {wide at' : Int} {black : Bool} (hr : row.length = 128) (hb : before.length = 128) {i : Nat} (hi : i < 128) : (coderCells row before wide at' black)[128 + i]? = some (.bool (before.getD i false)) := by
  rw [coderCells, List.getElem?_append_right (by rw [bools_len]; omega), List.getElem?_append_left (by rw [bools_len, bools_len]; omega), bools_len, hr]
  simp [bools, List.getD_eq_getElem?_getD, List.getElem?_eq_getElem (show i < before.length by omega)]
theorem cc_wide {row before : List Bool} {wide at' : Int} {black : Bool} (hr : row.length = 128) (hb : before.length = 128) : (coderCells row before wide at' black)[256]? = some (.int .i64 wide) := by
  rw [coderCells, List.getElem?_append_right (by rw [bools_len]; omega), List.getElem?_append_right (by rw [bools_len, bools_len]; omega), bools_len, bools_len, hr, hb]; rfl
theorem cc_at {row before : List Bool} {wide at' : Int} {black : Bool} (hr : row.length = 128) (hb : before.length = 128) : (coderCells row before wide at' black)[257]? = some (.int .i64 at') := by
  rw [coderCells, List.getElem?_append_right (by rw [bools_len]; omega), List.getElem?_append_right (by rw [bools_len, bools_len]; omega), bools_len, bools_len, hr, hb]; rfl
theorem cc_black {row before : List Bool} {wide at' : Int} {black : Bool} (hr : row.length = 128) (hb : before.length = 128) : (coderCells row before wide at' black)[258]? = some (.bool black) := by
  rw [coderCells, List.getElem?_append_right (by rw [bools_len]; omega), List.getElem?_append_right (by rw [bools_len, bools_len]; omega), bools_len, bools_len, hr, hb]; rfl

def bit (l : List Bool) (i : Int) : Bool := l.getD i.toNat false

/-- Where the row above changes. -/
def edgeP (before : List Bool) (black : Bool) (i : Int) : Bool := (bit before i != black) && ((decide (i > 0) && bit before (i - 1)) == black)

theorem ahead_1 (H : B.HasFax T) (hwf : st.Wf) {n c ty tb : Nat} {l lb : Bool} {row before : List Bool} {wide at' : Int} {black : Bool} (hr : row.length = 128) (hb : before.length = 128)
    (hn : hget st.h n = some (.cells tb lb [.ptr c 0])) (hc : hget st.h c = some (.cells ty l (coderCells row before wide at' black))) {i : Int} (h0 : 0 ≤ i) (h1 : i < 128) :
    Tells T st (.fn 39 [] [.ptr n 0]) [.int .i64 i] (.bool (edgeP before black i)) := by
  refine tells_of H.e39 H.f39 rfl ?_
  have gb : (coderCells row before wide at' black)[128 + i.toNat]? = some (.bool (before.getD i.toNat false)) := cc_before hr hb (by omega)
  have gk : (coderCells row before wide at' black)[258]? = some (.bool black) := cc_black hr hb
  have hbit : bit before i = before.getD i.toNat false := rfl
  generalize before.getD i.toNat false = x at gb hbit
  by_cases hi : 0 < i
  · have ga : (coderCells row before wide at' black)[128 + (i.toNat - 1)]? = some (.bool (before.getD (i.toNat - 1) false)) := cc_before hr hb (by omega)
    have g1 : 1 ≤ i ∧ i - 1 < 128 := by omega
    have hbit1 : bit before (i - 1) = before.getD (i.toNat - 1) false := by rw [bit]; congr 1; omega
    generalize before.getD (i.toNat - 1) false = y at ga hbit1
    cases x <;> cases black <;> simp (disch := omega) [B.fax_coder_ahead_1, go_sem, wrap64, RO.run, rdCell, hn, hc, hi, ga, gb, gk, h0, h1, g1, edgeP, hbit, hbit1, Ext.aside hwf]
  · cases x <;> cases black <;> simp (disch := omega) [B.fax_coder_ahead_1, go_sem, wrap64, RO.run, rdCell, hn, hc, hi, gb, gk, h0, h1, edgeP, hbit, Ext.aside hwf]

theorem ahead_2 (H : B.HasFax T) (hwf : st.Wf) {n c ty tb : Nat} {l lb : Bool} {row before : List Bool} {wide at' : Int} {black : Bool} (hr : row.length = 128) (hb : before.length = 128)
    (hn : hget st.h n = some (.cells tb lb [.ptr c 0])) (hc : hget st.h c = some (.cells ty l (coderCells row before wide at' black))) {i : Int} (h0 : 0 ≤ i) (h1 : i < 128) :
    Tells T st (.fn 41 [] [.ptr n 0]) [.int .i64 i] (.bool (bit before i == black)) := by
  refine tells_of H.e41 H.f41 rfl ?_
  have gb : (coderCells row before wide at' black)[128 + i.toNat]? = some (.bool (before.getD i.toNat false)) := cc_before hr hb (by omega)
  have gk : (coderCells row before wide at' black)[258]? = some (.bool black) := cc_black hr hb
  have hbit : bit before i = before.getD i.toNat false := rfl
  generalize before.getD i.toNat false = x at gb hbit
  simp (disch := omega) [B.fax_coder_ahead_2, go_sem, RO.run, rdCell, hn, hc, gb, gk, h0, h1, hbit, Ext.aside hwf]

theorem own_1 (H : B.HasFax T) (hwf : st.Wf) {n c ty tb : Nat} {l lb : Bool} {row before : List Bool} {wide at' : Int} {black : Bool} (hr : row.length = 128) (hb : before.length = 128)
    (hn : hget st.h n = some (.cells tb lb [.ptr c 0])) (hc : hget st.h c = some (.cells ty l (coderCells row before wide at' black))) {i : Int} (h0 : 0 ≤ i) (h1 : i < 128) :
    Tells T st (.fn 42 [] [.ptr n 0]) [.int .i64 i] (.bool (bit row i != black)) := by
  refine tells_of H.e42 H.f42 rfl ?_
  have gb : (coderCells row before wide at' black)[i.toNat]? = some (.bool (row.getD i.toNat false)) := cc_row hr hb (by omega)
  have gk : (coderCells row before wide at' black)[258]? = some (.bool black) := cc_black hr hb
  have hbit : bit row i = row.getD i.toNat false := rfl
  generalize row.getD i.toNat false = x at gb hbit
  simp (disch := omega) [B.fax_coder_own_1, go_sem, RO.run, rdCell, hn, hc, gb, gk, h0, h1, hbit, Ext.aside hwf]
  cases x <;> cases black <;> rfl

theorem own_2 (H : B.HasFax T) (hwf : st.Wf) {n c ty tb : Nat} {l lb : Bool} {row before : List Bool} {wide at' : Int} {black : Bool} (hr : row.length = 128) (hb : before.length = 128)
    (hn : hget st.h n = some (.cells tb lb [.ptr c 0])) (hc : hget st.h c = some (.cells ty l (coderCells row before wide at' black))) {i : Int} (h0 : 0 ≤ i) (h1 : i < 128) :
    Tells T st (.fn 43 [] [.ptr n 0]) [.int .i64 i] (.bool (bit row i == black)) := by
  refine tells_of H.e43 H.f43 rfl ?_
  have gb : (coderCells row before wide at' black)[i.toNat]? = some (.bool (row.getD i.toNat false)) := cc_row hr hb (by omega)
  have gk : (coderCells row before wide at' black)[258]? = some (.bool black) := cc_black hr hb
  have hbit : bit row i = row.getD i.toNat false := rfl
  generalize row.getD i.toNat false = x at gb hbit
  simp (disch := omega) [B.fax_coder_own_2, go_sem, RO.run, rdCell, hn, hc, gb, gk, h0, h1, hbit, Ext.aside hwf]

/-- The positions b and d: the first from i on that a predicate accepts, or the width. -/
def firstZ (p : Int → Bool) (i wide : Int) : Int := firstN p (min i wide) (wide - min i wide).toNat

theorem firstN_le (p : Int → Bool) : ∀ (n : Nat) (i : Int), i ≤ firstN p i n ∧ firstN p i n ≤ i + n
  | 0, i => by simp [firstN]
  | n + 1, i => by
    simp only [firstN]
    split
    · omega
    · have := firstN_le p n (i + 1); omega
theorem firstZ_le {p : Int → Bool} {i wide : Int} (h : 0 ≤ i) (hw : 0 ≤ wide) : 0 ≤ firstZ p i wide ∧ firstZ p i wide ≤ wide := by
  have := firstN_le p (wide - min i wide).toNat (min i wide)
  unfold firstZ
  omega

theorem ahead_tells (H : B.HasFax T) (hwf : st.Wf) {c ty : Nat} {l : Bool} {row before : List Bool} {wide at' : Int} {black : Bool} (hr : row.length = 128) (hb : before.length = 128)
    (hc : hget st.h c = some (.cells ty l (coderCells row before wide at' black))) (hw : 0 ≤ wide) (hw' : wide ≤ 128) (ha : -1 ≤ at') (ha' : at' ≤ 128) :
    Tells T st (.fn 28 [] []) [.ptr c 0] (.tuple [.int .i64 (firstZ (edgeP before black) (max (at' + 1) 0) wide),
      .int .i64 (firstZ (fun i => bit before i == black) (firstZ (edgeP before black) (max (at' + 1) 0) wide + 1) wide)]) := by
  refine tells_of H.e28 H.f28 rfl ?_
  have ga := cc_at (row := row) (before := before) (wide := wide) (at' := at') (black := black) hr hb
  have gw := cc_wide (row := row) (before := before) (wide := wide) (at' := at') (black := black) hr hb
  have hne : ¬ st.nx = c := Nat.ne_of_gt (hwf.lt c _ hc)
  simp (disch := omega) [B.fax_coder_ahead, go_sem, wrap64, RO.run, NO.run, rdCell, hget_cons, AV.nb, acells, hc, ga, gw, hne]
  have hmax : (if at' + 1 < 0 then 0 else at' + 1) = max (at' + 1) 0 := by omega
  have hx0 : Ext st ⟨(st.nx, .cells 52 true [.ptr c 0]) :: st.h, st.nx + 1 + 13⟩ := (Ext.new hwf _).trans (Ext.aside (Ext.new hwf _).wf 13)
  have hbox : hget ((st.nx, AObj.cells 52 true [.ptr c 0]) :: st.h) st.nx = some (.cells 52 true [.ptr c 0]) := by simp [hget]
  rw [hmax]
  refine (first_tells H hx0.wf (by omega) (by omega) (by omega) (fun j s hs h1 h2 => ahead_1 H hs.wf hr hb (hs.get hx0.wf hbox) ((hx0.trans hs).get hwf hc) (by omega) (by omega))).use fun s hs => ?_
  rw [← firstZ]
  have hb1 : 0 ≤ firstZ (edgeP before black) (max (at' + 1) 0) wide ∧ firstZ (edgeP before black) (max (at' + 1) 0) wide ≤ wide := firstZ_le (by omega) (by omega)
  generalize firstZ (edgeP before black) (max (at' + 1) 0) wide = b at hb1
  have hcs : hget s.h c = _ := (hx0.trans hs).get hwf hc
  have hbs : hget s.h st.nx = _ := hs.get hx0.wf hbox
  simp (disch := omega) [go_sem, wrap64, RO.run, rdCell, hcs, hbs, gw]
  refine (first_tells H hs.wf (by omega) (by omega) (by omega) (fun j s' hs' h1 h2 => ahead_2 H hs'.wf hr hb (hs'.get hs.wf hbs) (hs'.get hs.wf hcs) (by omega) (by omega))).use fun s' hs' => ?_
  simp [go_sem, (hx0.trans hs).trans hs', firstZ]

theorem own_tells (H : B.HasFax T) (hwf : st.Wf) {c ty : Nat} {l : Bool} {row before : List Bool} {wide at' : Int} {black : Bool} (hr : row.length = 128) (hb : before.length = 128)
    (hc : hget st.h c = some (.cells ty l (coderCells row before wide at' black))) (hw : 0 ≤ wide) (hw' : wide ≤ 128) (ha : -1 ≤ at') (ha' : at' ≤ 128) :
    Tells T st (.fn 29 [] []) [.ptr c 0] (.tuple [.int .i64 (firstZ (fun i => bit row i != black) (max (at' + 1) 0) wide),
      .int .i64 (firstZ (fun i => bit row i == black) (firstZ (fun i => bit row i != black) (max (at' + 1) 0) wide + 1) wide)]) := by
  refine tells_of H.e29 H.f29 rfl ?_
  have ga := cc_at (row := row) (before := before) (wide := wide) (at' := at') (black := black) hr hb
  have gw := cc_wide (row := row) (before := before) (wide := wide) (at' := at') (black := black) hr hb
  have hne : ¬ st.nx = c := Nat.ne_of_gt (hwf.lt c _ hc)
  simp (disch := omega) [B.fax_coder_own, go_sem, wrap64, RO.run, NO.run, rdCell, hget_cons, AV.nb, acells, hc, ga, gw, hne]
  have hmax : (if at' + 1 < 0 then 0 else at' + 1) = max (at' + 1) 0 := by omega
  have hx0 : Ext st ⟨(st.nx, .cells 52 true [.ptr c 0]) :: st.h, st.nx + 1 + 13⟩ := (Ext.new hwf _).trans (Ext.aside (Ext.new hwf _).wf 13)
  have hbox : hget ((st.nx, AObj.cells 52 true [.ptr c 0]) :: st.h) st.nx = some (.cells 52 true [.ptr c 0]) := by simp [hget]
  rw [hmax]
  refine (first_tells H hx0.wf (by omega) (by omega) (by omega) (fun j s hs h1 h2 => own_1 H hs.wf hr hb (hs.get hx0.wf hbox) ((hx0.trans hs).get hwf hc) (by omega) (by omega))).use fun s hs => ?_
  rw [← firstZ]
  have hb1 : 0 ≤ firstZ (fun i => bit row i != black) (max (at' + 1) 0) wide ∧ firstZ (fun i => bit row i != black) (max (at' + 1) 0) wide ≤ wide := firstZ_le (by omega) (by omega)
  generalize firstZ (fun i => bit row i != black) (max (at' + 1) 0) wide = b at hb1
  have hcs : hget s.h c = _ := (hx0.trans hs).get hwf hc
  have hbs : hget s.h st.nx = _ := hs.get hx0.wf hbox
  simp (disch := omega) [go_sem, wrap64, RO.run, rdCell, hcs, hbs, gw]
  refine (first_tells H hs.wf (by omega) (by omega) (by omega) (fun j s' hs' h1 h2 => own_2 H hs'.wf hr hb (hs'.get hs.wf hbs) (hs'.get hs.wf hcs) (by omega) (by omega))).use fun s' hs' => ?_
  simp [go_sem, (hx0.trans hs).trans hs', firstZ]

end Go.Ev

/- The writer of bits of the program fax. -/
namespace Go.Ev
open Go
set_option linter.unusedSimpArgs false
set_option linter.unusedVariables false

variable {T : Tab} {st : St}

def octs (l : List Nat) : List AV := l.map fun (k : Nat) => .int .u8 (Int.ofNat k)

/-- A writer that has written the bits. -/
structure WriterAt (st : St) (w n ty : Nat) (loc : Bool) (v : AV) (L : List Bool) : Prop where
  at' : hget st.h w = some (.cells ty loc [v, .int .i64 L.length])
  sl : SlAt st.h v n 5 1 ((L.length + 7) / 8) (octs (packN L))
  ne : n ≠ w
  lt : n < st.nx

/-- What follows where a new octet has been made if one is needed. -/
def putRest : MCode := match B.fax_writer_put_l0 with | .seq _ (.seq _ (.seq (.block _ (.seq _ r)) _)) => r | c => c

theorem put_rest {w n xb : Nat} {ty tx : Nat} {loc lx : Bool} {v : AV} {L : List Bool} {bs : List Nat} {b m : Nat} {num : Int} {i : Nat} {cnt : Int} {x : Bool} (hwf : st.Wf)
    (hw : hget st.h w = some (.cells ty loc [v, .int .i64 L.length])) (hn : SlAt st.h v n 5 1 m (octs bs)) (hnw : n ≠ w) (hbs : bs[L.length / 8]? = some b) (hb8 : b < 256)
    (hm : m = L.length / 8 + 1) (hx : hget st.h xb = some (.cells tx lx [.int .i64 num, .int .i64 cnt])) (e : Env) (h0 : eget e 0 = .ptr w 0) (h5 : eget e 5 = .ptr xb 0) (h6 : eget e 6 = .int .i64 i)
    (hlen : L.length < 1000000000000) (hi' : i < 64) (hbit : iand .i64 (ishr .i64 num i) 1 = (x.toNat : Int)) :
    Res (run T putRest e st) fun q e' s => q = .norm ∧ hget s.h w = some (.cells ty loc [v, .int .i64 ((L.length : Int) + 1)]) ∧
      SlAt s.h v n 5 1 m (octs (bs.set (L.length / 8) (b ||| (x.toNat * 2 ^ (7 - L.length % 8))))) ∧ Frm [w, n] st s ∧ eget e' 0 = .ptr w 0 ∧ eget e' 5 = .ptr xb 0 ∧ eget e' 6 = .int .i64 i ∧
      eget e' 7 = eget e 7 ∧ eget e' 8 = eget e 8 ∧ eget e' 9 = eget e 9 := by
  have hd : (L.length : Int).tmod 8 = (L.length % 8 : Nat) := by rw [Int.tmod_eq_emod_of_nonneg (by omega)]; omega
  have hq : (L.length : Int).tdiv 8 = (L.length / 8 : Nat) := by rw [Int.tdiv_eq_ediv_of_nonneg (by omega)]; omega
  have hbl : L.length / 8 < bs.length := (List.getElem?_eq_some_iff.1 hbs).1
  have hlo : L.length / 8 < (octs bs).length := by simpa [octs] using hbl
  have hb : rdCell st.h n (L.length / 8) = some (.int .u8 (b : Nat)) := by rw [hn.rd hlo]; simp [octs, hbs]
  have hv : v = .slice n 0 m .full ∨ v = .slice n 0 m (.known m) := by
    rcases hn with ⟨h1, h2, h3⟩ | ⟨h1, h2, h3⟩ | ⟨ty', h1, h2, h3⟩
    · omega
    · exact .inl h1
    · exact .inr h1
  have hlt : (L.length : Int) / 8 < (m : Int) := by omega
  have h0' : 0 ≤ (L.length : Int) / 8 := by omega
  have ht : ((L.length : Int) / 8).toNat = L.length / 8 := by omega
  have hi0 : ¬ (i : Int) < 0 := by omega
  have hw8 : IntKind.u8.wrap (x.toNat : Int) = (x.toNat : Int) := by cases x <;> rfl
  have hsh : ishl .u8 (x.toNat : Int) (7 - (L.length : Int) % 8) = ((x.toNat * 2 ^ (7 - L.length % 8) : Nat) : Int) := by
    have := ishl_bit (x := x) (r := L.length % 8) (by omega)
    rw [← this]; congr 1
  have h7 : ¬ 7 - (L.length : Int) % 8 < 0 := by omega
  have hor : ior .u8 (b : Int) ((x.toNat * 2 ^ (7 - L.length % 8) : Nat) : Int) = _ := ior_u8 hb8 (by
    have h4 : 2 ^ (7 - L.length % 8) ≤ 2 ^ 7 := Nat.pow_le_pow_right (by omega) (by omega)
    cases x <;> simp <;> omega)
  obtain ⟨h', hwr, hsl', hfr⟩ := hn.store hwf hlo (x := .int .u8 ((b ||| (x.toNat * 2 ^ (7 - L.length % 8)) : Nat) : Int)) rfl
  have hw2 : hget h' w = some (.cells ty loc [v, .int .i64 L.length]) := hfr.get hwf hw (by simpa using fun h => hnw h.symm)
  have hwr2 : ∀ k j, wrCells h' w 1 [.int k j] = some (hset h' w (.cells ty loc [v, .int k j])) := fun k j => wr_cells hw2 rfl (by simp)
  have hrw1 : ∀ {h : Heap} {a c : AV}, hget h w = some (.cells ty loc [a, c]) → rdCell h w 0 = some a ∧ rdCell h w 1 = some c := fun h => by simp [rdCell, h]
  have hrx : rdCell st.h xb 0 = some (.int .i64 num) := by simp [rdCell, hx]
  generalize ((x.toNat * 2 ^ (7 - L.length % 8) : Nat) : Int) = y at hsh hor
  have key : Res (run T putRest e st) fun q e' s => q = .norm ∧ s.h = hset h' w (.cells ty loc [v, .int .i64 ((L.length : Int) + 1)]) ∧ s.nx = st.nx + 27 ∧ eget e' 0 = .ptr w 0 ∧ eget e' 5 = .ptr xb 0 ∧ eget e' 6 = .int .i64 i ∧
      eget e' 7 = eget e 7 ∧ eget e' 8 = eget e 8 ∧ eget e' 9 = eget e 9 := by
    rcases hv with rfl | rfl <;>
    simp (disch := omega) [putRest, B.fax_writer_put_l0, go_sem, wrap64, RO.run, NO.run, WO.run, h0, h5, h6, (hrw1 hw).1, (hrw1 hw).2, (hrw1 hw2).1, (hrw1 hw2).2, hrx, hd, hq, hb, hlt, h0', ht, hi0, hbit, hw8, hsh, h7, hor, hwr, hw2, hwr2]
  refine key.mono fun q e' s ⟨hq1, hq2, hq3, hq4⟩ => ⟨hq1, ?_, ?_, ?_, hq4⟩
  · rw [hq2, hget_hset hw2, if_pos rfl]
  · rw [hq2]
    have := hsl'.frm (Frm.set (o := .cells ty loc [v, .int .i64 ((L.length : Int) + 1)]) hfr.wf hw2) hfr.wf (by simpa using hnw)
    simpa [octs, List.map_set] using this
  · obtain ⟨sh, sn⟩ := s
    simp only at hq2 hq3
    subst hq2; subst hq3
    exact ((hfr.mono (R := [w, n]) (by simp)).trans ((Frm.set hfr.wf hw2).trans (Ext.fr (Ext.aside (Frm.set hfr.wf hw2).wf 27) []) (by simp)) (by simp))

theorem put_l0_eq : B.fax_writer_put_l0 = (.seq (.keep [0, 5, 6, 7, 8, 9]) (.seq (.seq (.reg [⟨(some 16), none, .p (.mov (.t 6))⟩, ⟨(some 17), none, .p (.bin .geq (.t 16) (.k (.int .i64 0)))⟩]) (.cond (.t 17) .skip (.exit 2))) (.seq (.block 3 (.seq (.seq (.reg [⟨(some 20), none, .p (.mov (.t 0))⟩, ⟨(some 21), none, .p (.nilck (.t 20))⟩, ⟨(some 22), none, .p (.faddr 1 (.t 21))⟩, ⟨(some 23), none, .r (.load none (.t 22))⟩, ⟨(some 24), none, .p (.bin .rem (.t 23) (.k (.int .i64 8)))⟩, ⟨(some 25), none, .p (.bin .eql (.t 24) (.k (.int .i64 0)))⟩]) (.cond (.t 25) (.reg [⟨(some 26), none, .p (.mov (.t 0))⟩, ⟨(some 27), none, .p (.mov (.t 0))⟩, ⟨(some 28), none, .p (.nilck (.t 27))⟩, ⟨(some 29), none, .p (.faddr 0 (.t 28))⟩, ⟨(some 30), none, .r (.load none (.t 29))⟩, ⟨(some 31), none, .n (.buildSl 5 1 [(.int .u8 0)] [(0, 1, (.k (.int .u8 0)))])⟩, ⟨(some 32), none, .w (.append 5 1 1 [(.int .u8 0)] (.t 30) (.t 31))⟩, ⟨(some 33), none, .p (.nilck (.t 26))⟩, ⟨(some 34), none, .p (.faddr 0 (.t 33))⟩, ⟨none, none, .w (.store 1 (.t 34) (.t 32))⟩]) .skip)) putRest)) (.seq (.keep [0, 5, 6, 7, 8, 9]) (.reg [⟨(some 18), none, .p (.mov (.t 6))⟩, ⟨(some 19), none, .p (.bin .sub (.t 18) (.k (.int .i64 1)))⟩, ⟨(some 6), none, .p (.mov (.t 19))⟩]))))) := rfl

theorem put_bit {w n xb : Nat} {ty tx : Nat} {loc lx : Bool} {v : AV} {L : List Bool} {num : Int} {i : Nat} {cnt : Int} {x : Bool} (hwf : st.Wf) (hW : WriterAt st w n ty loc v L)
    (hx : hget st.h xb = some (.cells tx lx [.int .i64 num, .int .i64 cnt])) (hxw : xb ≠ w) (hxn : xb ≠ n) (e : Env) (h0 : eget e 0 = .ptr w 0) (h5 : eget e 5 = .ptr xb 0) (h6 : eget e 6 = .int .i64 i)
    (hlen : L.length < 1000000000000) (hi' : i < 64) (hbit : iand .i64 (ishr .i64 num i) 1 = (x.toNat : Int)) :
    Res (run T B.fax_writer_put_l0 e st) fun q e' s => q = .norm ∧ (∃ n' v', WriterAt s w n' ty loc v' (L ++ [x]) ∧ (n' = n ∨ st.nx ≤ n')) ∧ Frm [w, n] st s ∧ eget e' 0 = .ptr w 0 ∧ eget e' 5 = .ptr xb 0 ∧ eget e' 6 = .int .i64 ((i : Int) - 1) ∧
      eget e' 7 = eget e 7 ∧ eget e' 8 = eget e 8 ∧ eget e' 9 = eget e 9 := by
  have hi0 : ¬ (i : Int) < 0 := by omega
  obtain ⟨hw, hn, hnw, hnl⟩ := hW
  have hd : (L.length : Int).tmod 8 = (L.length % 8 : Nat) := by rw [Int.tmod_eq_emod_of_nonneg (by omega)]; omega
  have hr0 : rdCell st.h w 0 = some v := by simp [rdCell, hw]
  have hr1 : rdCell st.h w 1 = some (.int .i64 L.length) := by simp [rdCell, hw]
  by_cases h8 : L.length % 8 = 0
  · have h8' : (L.length : Int) % 8 = 0 := by omega
    have hne : ¬ st.nx = w := Nat.ne_of_gt (hwf.lt w _ hw)
    have hx1 := Ext.new hwf (.cells 5 false [.int .u8 0])
    have hr0' : rdCell ((st.nx, AObj.cells 5 false [AV.int .u8 0]) :: st.h) w 0 = some v := by simp [rdCell, hget_cons, hne, hw]
    rw [put_l0_eq]
    simp (disch := omega) [go_sem, wrap64, RO.run, NO.run, WO.run, h0, h5, h6, hr0, hr1, hi0, hd, h8', afill, splice, AV.nb, hne]
    refine ((hn.ext hx1 hwf).append (j := 1) (new := [.int .u8 0]) hx1.wf ?_ rfl rfl (by omega) (by omega) (.inl (by omega))).mono ?_
    · simp [srcCells, rdCells, hget_cons]
    rintro v' s ⟨n', hsl, hfr, hnew, hlt⟩
    have hws : hget s.h w = some (.cells ty loc [v, .int .i64 L.length]) := hfr.get hx1.wf (hx1.get hwf hw) (by simpa using fun h => hnw h.symm)
    have hn'w : n' ≠ w := by
      rcases hnew with rfl | h
      · exact hnw
      · have := hwf.lt w _ hw; simp at h; omega
    have hsc : v'.sc = true := by
      rcases hsl with ⟨h1, h2, h3⟩ | ⟨h1, h2, h3⟩ | ⟨ty', h1, h2, h3⟩ <;> subst h1 <;> rfl
    have hac : acells v' = [v'] := by
      rcases hsl with ⟨h1, h2, h3⟩ | ⟨h1, h2, h3⟩ | ⟨ty', h1, h2, h3⟩ <;> subst h1 <;> rfl
    have hwr := wr_cells (o := 0) (v := v') hws hsc (by simp)
    simp only [List.set] at hwr
    have hf2 := Frm.set (o := .cells ty loc [v', .int .i64 L.length]) hfr.wf hws
    have hfall : Frm [w, n] st ⟨hset s.h w (.cells ty loc [v', .int .i64 L.length]), s.nx⟩ := ((hx1.fr [w, n]).trans (hfr.mono (R := [w, n]) (by simp)) (by simp)).trans hf2 (by simp)
    simp [go_sem, WO.run, hac, hwr]
    refine Res.abs (fun s' => Frm [w, n] st s' ∧ hget s'.h w = some (.cells ty loc [v', .int .i64 L.length]) ∧ SlAt s'.h v' n' 5 1 ((L.length + 7) / 8 + 1) (octs (packN L ++ [0])) ∧ s.nx ≤ s'.nx) ⟨hfall, ?_, ?_, Nat.le_refl _⟩ ?_
    · simp only [hget_hset hws]; simp
    · have := hsl.frm hf2 hfr.wf (by simpa using hn'w)
      simpa [octs] using this
    rintro s' ⟨hF, hws', hns', hsn⟩
    have hbs : (packN L ++ [0])[L.length / 8]? = some 0 := by
      rw [List.getElem?_append_right (by rw [packN_length]; omega), packN_length, show L.length / 8 - (L.length + 7) / 8 = 0 by omega]; rfl
    refine (put_rest (n := n') (L := L) (bs := packN L ++ [0]) (b := 0) (m := (L.length + 7) / 8 + 1) (x := x) (i := i) hF.wf hws' hns' hn'w hbs (by omega) (by omega) (hF.get hwf hx (by simp [hxw, hxn])) _ ?_ ?_ ?_ hlen hi' hbit).mono ?_
    · simp [go_sem]
    · simp [go_sem]
    · simp [go_sem]
    rintro q e' s2 ⟨rfl, a1, a2, a3, a4, a5, a6, a7, a8, a9⟩
    simp (disch := omega) [go_sem, wrap64, a4, a5, a6, a7, a8, a9]
    refine ⟨⟨n', ⟨v', ?_, ?_, hn'w, ?_⟩, ?_⟩, ?_⟩
    · simpa using a1
    · rw [packN_snoc_new h8, List.length_append, List.length_singleton, show (L.length + 1 + 7) / 8 = (L.length + 7) / 8 + 1 by omega]; exact a2
    · have h1 := hlt (Nat.lt_of_lt_of_le hnl hx1.nx)
      have h2 := a3.nx
      exact Nat.lt_of_lt_of_le h1 (Nat.le_trans hsn h2)
    · rcases hnew with h | h
      · exact .inl h
      · simp at h; exact .inr (by omega)
    · refine hF.trans a3 ?_
      intro m hm
      simp at hm
      rcases hm with rfl | rfl
      · simp
      · rcases hnew with h | h
        · simp [h]
        · simp at h; right; omega
  · have h8' : ¬ (L.length : Int) % 8 = 0 := by omega
    rw [put_l0_eq]
    simp (disch := omega) [go_sem, wrap64, RO.run, NO.run, WO.run, h0, h5, h6, hr0, hr1, hi0, hd, h8', afill, splice, AV.nb, srcCells, rdCells, hget_cons]
    have hbs : (packN L)[L.length / 8]? = some (octet (chunk L (L.length / 8))) := packN_get (by omega)
    refine (put_rest (n := n) (L := L) (bs := packN L) (m := (L.length + 7) / 8) (x := x) (i := i) hwf hw hn hnw hbs (octet_lt (by simp [chunk]; omega)) (by omega) hx _ ?_ ?_ ?_ hlen hi' hbit).mono ?_
    · simp [go_sem]
    · simp [go_sem]
    · simp [go_sem]
    rintro q e' s ⟨rfl, a1, a2, a3, a4, a5, a6, a7, a8, a9⟩
    simp (disch := omega) [go_sem, wrap64, a4, a5, a6, a7, a8, a9]
    refine ⟨⟨n, ⟨v, ?_, ?_, hnw, Nat.lt_of_lt_of_le hnl a3.nx⟩, .inl rfl⟩, a3⟩
    · simpa using a1
    · rw [packN_snoc_in h8, List.length_append, List.length_singleton, show (L.length + 1 + 7) / 8 = (L.length + 7) / 8 by omega]; exact a2

/-- The lowest bits of a number, the highest of them first. -/
def bitsMS (num : Nat) : Nat → List Bool
  | 0 => []
  | k + 1 => num.testBit k :: bitsMS num k
theorem bitsMS_length (num : Nat) : ∀ k, (bitsMS num k).length = k
  | 0 => rfl
  | k + 1 => by simp [bitsMS, bitsMS_length num k]

theorem shr_bit {num i : Nat} (h : num < 9223372036854775808) (hi : i < 64) : iand .i64 (ishr .i64 (num : Int) i) 1 = ((num.testBit i).toNat : Int) := by
  rw [ishr_nat (by omega) (by simp [IntKind.bits]; omega)]
  have e : (num : Int) / 2 ^ i = ((num / 2 ^ i : Nat) : Int) := by push_cast; rfl
  have h1 : num / 2 ^ i ≤ num := Nat.div_le_self _ _
  rw [e, Nat.toNat_testBit]
  generalize num / 2 ^ i = y at h1
  rw [iand_one (by omega) (by omega)]
  omega

theorem put_l0_loop {w xb : Nat} {ty tx num : Nat} {loc lx : Bool} {cnt : Int} (hnum : num < 9223372036854775808) : ∀ (k : Nat) (st : St) (n : Nat) (v : AV) (L : List Bool) (e : Env), st.Wf → WriterAt st w n ty loc v L →
    hget st.h xb = some (.cells tx lx [.int .i64 num, .int .i64 cnt]) → xb ≠ w → xb ≠ n → eget e 0 = .ptr w 0 → eget e 5 = .ptr xb 0 → eget e 6 = .int .i64 ((k : Int) - 1) → L.length + k < 1000000000000 → k ≤ 64 →
    Res (run T (.loop B.fax_writer_put_l0) e st) fun q e' s => q = .exit 2 ∧ (∃ n' v', WriterAt s w n' ty loc v' (L ++ bitsMS num k) ∧ (n' = n ∨ st.nx ≤ n')) ∧ Frm [w, n] st s ∧ eget e' 0 = .ptr w 0 ∧
      eget e' 7 = eget e 7 ∧ eget e' 8 = eget e 8 ∧ eget e' 9 = eget e 9 := by
  intro k
  induction k with
  | zero =>
    intro st n v L e hwf hW hx hxw hxn h0 h5 h6 hlen hk
    have h6 : eget e 6 = .int .i64 (-1) := h6
    rw [run_loop, put_l0_eq]
    simp [go_sem, h0, h5, h6, bitsMS]
    exact ⟨⟨n, ⟨v, hW⟩, .inl rfl⟩, .refl hwf _⟩
  | succ k ih =>
    intro st n v L e hwf hW hx hxw hxn h0 h5 h6 hlen hk
    have h6 : eget e 6 = .int .i64 (k : Nat) := by rw [h6]; congr 1; omega
    rw [run_loop, Res_seqR]
    refine (put_bit (x := num.testBit k) hwf hW hx hxw hxn e h0 h5 h6 (by omega) (by omega) (shr_bit hnum (by omega))).mono ?_
    rintro q e' s ⟨rfl, ⟨n', v', hW', hn'⟩, hF, g0, g5, g6, g7, g8, g9⟩
    have hxs : hget s.h xb = _ := hF.get hwf hx (by simp [hxw, hxn])
    have hxn' : xb ≠ n' := by
      rcases hn' with rfl | h
      · exact hxn
      · have := hwf.lt xb _ hx; omega
    simp only [kSeq_norm]
    refine (ih s n' v' (L ++ [num.testBit k]) e' hF.wf hW' hxs hxw hxn' g0 g5 g6 (by simp; omega) (by omega)).mono ?_
    rintro q e2 s2 ⟨rfl, ⟨n2, v2, hW2, hn2⟩, hF2, k0, k7, k8, k9⟩
    refine ⟨rfl, ⟨n2, v2, by simpa [bitsMS] using hW2, ?_⟩, ?_, k0, by rw [k7, g7], by rw [k8, g8], by rw [k9, g9]⟩
    · have := hF.nx
      rcases hn2 with rfl | h
      · exact hn'
      · exact .inr (by omega)
    · refine hF.trans hF2 ?_
      intro m hm
      simp at hm
      rcases hm with rfl | rfl
      · simp
      · rcases hn' with h | h
        · simp [h]
        · right; omega

/-- Pairs of a number and of its bits, as cells. -/
def pairCells : List (Nat × Nat) → List AV
  | [] => []
  | (a, c) :: r => .int .i64 (a : Nat) :: .int .i64 (c : Nat) :: pairCells r
def pairBits (l : List (Nat × Nat)) : List Bool := l.flatMap fun p => bitsMS p.1 p.2
theorem pairCells_length : ∀ l, (pairCells l).length = 2 * l.length
  | [] => rfl
  | (a, c) :: r => by simp [pairCells, pairCells_length r]; omega
theorem pairCells_get : ∀ (l : List (Nat × Nat)) (i : Nat) (a c : Nat), l[i]? = some (a, c) → ((pairCells l).drop (i * 2)).take 2 = [.int .i64 (a : Nat), .int .i64 (c : Nat)]
  | (a, c) :: r, 0, b, d, h => by
    simp only [List.getElem?_cons_zero, Option.some.injEq, Prod.mk.injEq] at h
    obtain ⟨rfl, rfl⟩ := h
    simp [pairCells]
  | (a, c) :: r, i + 1, b, d, h => by
    simp only [List.getElem?_cons_succ] at h
    have := pairCells_get r i b d h
    rw [show (i + 1) * 2 = i * 2 + 1 + 1 by omega]
    simpa [pairCells] using this

theorem put_l1_loop {w p : Nat} {ty tp : Nat} {loc lp : Bool} {cp : Cap} {l : List (Nat × Nat)} (hb : ∀ a c, (a, c) ∈ l → a < 1000000 ∧ c ≤ 64) (hl : l.length < 1000) :
    ∀ (m i : Nat) (st : St) (n : Nat) (v : AV) (L : List Bool) (e : Env), i + m = l.length → st.Wf → WriterAt st w n ty loc v L →
    hget st.h p = some (.cells tp lp (pairCells l)) → p ≠ w → p ≠ n → eget e 0 = .ptr w 0 → eget e 7 = .slice p 0 l.length cp → eget e 8 = .int .i64 l.length → eget e 9 = .int .i64 i → L.length + (pairBits (l.drop i)).length < 1000000000000 →
    Res (run T (.loop B.fax_writer_put_l1) e st) fun q e' s => q = .exit 0 ∧ (∃ n' v', WriterAt s w n' ty loc v' (L ++ pairBits (l.drop i)) ∧ (n' = n ∨ st.nx ≤ n')) ∧ Frm [w, n] st s := by
  intro m
  induction m with
  | zero =>
    intro i st n v L e hm hwf hW hp hpw hpn h0 h7 h8 h9 hlen
    have hil : i = l.length := by omega
    subst hil
    rw [run_loop]
    simp [B.fax_writer_put_l1, go_sem, h0, h7, h8, h9, pairBits]
    exact ⟨⟨n, ⟨v, hW⟩, .inl rfl⟩, .refl hwf _⟩
  | succ m ih =>
    intro i st n v L e hm hwf hW hp hpw hpn h0 h7 h8 h9 hlen
    have hil : i < l.length := by omega
    obtain ⟨⟨a, c⟩, hac⟩ : ∃ x, l[i]? = some x := ⟨l[i], by simp [hil]⟩
    have hmem := hb a c (List.mem_of_getElem? hac)
    have hdrop : l.drop i = (a, c) :: l.drop (i + 1) := by
      rw [List.drop_eq_getElem_cons hil]
      congr 1
      rw [List.getElem?_eq_getElem hil] at hac
      exact Option.some.inj hac
    have hpc := pairCells_get l i a c hac
    have hrd : rdCells st.h p (i * 2) 2 = some [.int .i64 (a : Nat), .int .i64 (c : Nat)] := by
      simp only [rdCells, hp, pairCells_length]
      rw [if_pos (by omega), hpc]
    rw [run_loop]
    have hx1 := Ext.new hwf (.cells 62 true [.int .i64 0, .int .i64 0])
    simp (disch := omega) [B.fax_writer_put_l1, go_sem, h0, h7, h8, h9, hil, RO.run, hrd, NO.run, WO.run, wrCells, hget_cons, splice, hset_cons, wrap64, rdCell]
    rw [hdrop] at hlen ⊢
    simp only [pairBits, List.flatMap_cons, List.length_append, bitsMS_length] at hlen
    have hx2 := Ext.new hwf (.cells 62 true [.int .i64 (a : Nat), .int .i64 (c : Nat)])
    refine (put_l0_loop (num := a) (cnt := c) (tx := 62) (lx := true) (by omega) c _ n v L _ hx2.wf ⟨hx2.get hwf hW.at', hW.sl.ext hx2 hwf, hW.ne, Nat.lt_of_lt_of_le hW.lt hx2.nx⟩ (xb := st.nx) (by simp [hget_cons]) ?_ ?_ ?_ ?_ ?_ (by omega) hmem.2).mono ?_
    · have := hwf.lt _ _ hW.at'; show st.nx ≠ w; omega
    · have := hW.lt; show st.nx ≠ n; omega
    · simp [go_sem]
    · simp [go_sem]
    · simp [go_sem]
    rintro q e2 s2 ⟨rfl, ⟨n2, v2, hW2, hn2⟩, hF2, k0, k7, k8, k9⟩
    have hF3 := (hx2.fr [w, n]).trans hF2 (by simp)
    have hn2' : n2 = n ∨ st.nx ≤ n2 := hn2.imp id (fun h => Nat.le_trans hx2.nx h)
    have hp2 := hF3.get hwf hp (by simp [hpw, hpn])
    have hpn2 : p ≠ n2 := by
      rcases hn2' with h | h
      · rw [h]; exact hpn
      · have := hwf.lt _ _ hp; omega
    simp (disch := omega) [go_sem, k0, k7, k8, k9, wrap64, h7, h8, h9]
    refine (ih (i + 1) s2 n2 v2 (L ++ bitsMS a c) _ (by omega) hF2.wf hW2 hp2 hpw hpn2 ?_ ?_ ?_ ?_ ?_).mono ?_
    · simp [go_sem]
    · simp [go_sem]
    · simp [go_sem]
    · simp [go_sem]
    · simp only [pairBits, List.length_append, bitsMS_length]; omega
    rintro q e3 s3 ⟨rfl, ⟨n3, v3, hW3, hn3⟩, hF4⟩
    refine ⟨rfl, ⟨⟨n3, ⟨v3, ?_⟩, ?_⟩, ?_⟩⟩
    · simpa [pairBits] using hW3
    · have := hF3.nx
      rcases hn3 with h | h
      · rw [h]; exact hn2'
      · exact .inr (by omega)
    · refine hF3.trans hF4 ?_
      intro k hk
      simp at hk
      rcases hk with rfl | rfl
      · simp
      · rcases hn2' with h | h
        · simp [h]
        · exact .inr h

/-- Writing pairs of numbers and bits. -/
theorem put_call (H : B.HasFax T) {w p n : Nat} {ty tp : Nat} {loc lp : Bool} {v : AV} {cp : Cap} {L : List Bool} {l : List (Nat × Nat)} (hb : ∀ a c, (a, c) ∈ l → a < 1000000 ∧ c ≤ 64) (hl : l.length < 1000) (hwf : st.Wf) (hW : WriterAt st w n ty loc v L)
    (hp : hget st.h p = some (.cells tp lp (pairCells l))) (hpw : p ≠ w) (hpn : p ≠ n) (hlen : L.length + (pairBits l).length < 1000000000000) :
    CRes (call T (.fn 18 [] []) [.ptr w 0, .slice p 0 l.length cp] st) fun r s => r = .tuple [] ∧ (∃ n' v', WriterAt s w n' ty loc v' (L ++ pairBits l) ∧ (n' = n ∨ st.nx ≤ n')) ∧ Frm [w, n] st s := by
  refine call_res H.e18 H.f18 rfl ?_
  simp [B.fax_writer_put, go_sem]
  refine (put_l1_loop (cp := cp) hb hl l.length 0 st n v L _ (by omega) hwf hW hp hpw hpn ?_ ?_ ?_ ?_ (by simpa using hlen)).mono ?_
  · simp [go_sem]
  · simp [go_sem]
  · simp [go_sem]
  · simp [go_sem]
  rintro q e s ⟨rfl, ⟨n', v', hW', hn'⟩, hF⟩
  simp [go_sem]
  refine ⟨⟨n', ⟨v', ?_, ?_, hW'.ne, hW'.lt⟩, hn'⟩, hF.dropLoc⟩
  · show hget (dropLoc _ _) _ = _
    rw [hget_dropLoc_lt (hwf.lt _ _ hW.at')]
    simpa using hW'.at'
  · simpa using hW'.sl.dropLoc hF.wf

end Go.Ev

/- Coding a row: what the program writes. -/
namespace Go.Ev
open Go
set_option linter.unusedSimpArgs false
set_option linter.unusedVariables false

variable {T : Tab} {st : St}

@[go_sem] theorem fresults_cell (h : Heap) (e : Env) (n sz : Nat) : fresults h e [.cell n (some sz)] = RO.run (AO.ev e) h (.load (some sz) (.t n)) := by
  unfold fresults
  simp only [resVals, resVal]
  cases RO.run (AO.ev e) h (.load (some sz) (.t n)) <;> rfl

def lenTab : List UInt8 := [0, 1, 2, 2, 3, 3, 3, 3] ++ List.replicate 8 4 ++ List.replicate 16 5 ++ List.replicate 32 6 ++ List.replicate 64 7 ++ List.replicate 128 8
theorem lenTab_get : ∀ x : Nat, x < 256 → lenTab[x]? = some (UInt8.ofNat (if x = 0 then 0 else Nat.log2 x + 1)) := by
  decide +kernel
def len64 : MFun := ⟨1, [.t 2], (.seq (.reg [⟨(some 2), none, .p (.mov (.k (.int .i64 0)))⟩]) (.seq (.seq (.reg [⟨(some 3), none, .p (.mov (.t 0))⟩, ⟨(some 4), none, .p (.bin .geq (.t 3) (.k (.int .u64 4294967296)))⟩]) (.cond (.t 4) (.seq (.reg [⟨(some 5), none, .p (.mov (.t 0))⟩, ⟨(some 6), none, .p (.bin .shr (.t 5) (.k (.int .u64 32)))⟩, ⟨(some 0), none, .p (.mov (.t 6))⟩]) (.reg [⟨(some 2), none, .p (.mov (.k (.int .i64 32)))⟩])) .skip)) (.seq (.seq (.reg [⟨(some 7), none, .p (.mov (.t 0))⟩, ⟨(some 8), none, .p (.bin .geq (.t 7) (.k (.int .u64 65536)))⟩]) (.cond (.t 8) (.seq (.reg [⟨(some 9), none, .p (.mov (.t 0))⟩, ⟨(some 10), none, .p (.bin .shr (.t 9) (.k (.int .u64 16)))⟩, ⟨(some 0), none, .p (.mov (.t 10))⟩]) (.reg [⟨(some 11), none, .p (.mov (.t 2))⟩, ⟨(some 12), none, .p (.bin .add (.t 11) (.k (.int .i64 16)))⟩, ⟨(some 2), none, .p (.mov (.t 12))⟩])) .skip)) (.seq (.keep [0, 2]) (.seq (.seq (.reg [⟨(some 13), none, .p (.mov (.t 0))⟩, ⟨(some 14), none, .p (.bin .geq (.t 13) (.k (.int .u64 256)))⟩]) (.cond (.t 14) (.seq (.reg [⟨(some 15), none, .p (.mov (.t 0))⟩, ⟨(some 16), none, .p (.bin .shr (.t 15) (.k (.int .u64 8)))⟩, ⟨(some 0), none, .p (.mov (.t 16))⟩]) (.reg [⟨(some 17), none, .p (.mov (.t 2))⟩, ⟨(some 18), none, .p (.bin .add (.t 17) (.k (.int .i64 8)))⟩, ⟨(some 2), none, .p (.mov (.t 18))⟩])) .skip)) (.seq (.keep [0, 2]) (.seq (.reg [⟨(some 19), none, .p (.mov (.t 2))⟩, ⟨(some 20), none, .p (.mov (.t 0))⟩, ⟨(some 21), none, .p (.conv .u8 (.t 20))⟩, ⟨(some 22), none, .p (.idxS (.k (.str lenTab)) (.t 21))⟩, ⟨(some 23), none, .p (.conv .i64 (.t 22))⟩, ⟨(some 24), none, .p (.bin .add (.t 19) (.t 23))⟩, ⟨(some 2), none, .p (.mov (.t 24))⟩]) .ret)))))))⟩
set_option maxRecDepth 20000 in
theorem len64_eq : B.math_bits_Len64 = len64 := rfl

theorem len64_tells (H : B.HasFax T) (hwf : st.Wf) {x : Nat} (h0 : 0 < x) (h1 : x < 256) : Tells T st (.fn 53 [] []) [.int .u64 x] (.int .i64 ((Nat.log2 x + 1 : Nat) : Int)) := by
  refine tells_of H.e53 (len64_eq ▸ H.f53) rfl ?_
  have hl : Nat.log2 x < 8 := (Nat.log2_lt (by omega)).2 (by omega)
  have ht := lenTab_get x h1
  rw [if_neg (by omega)] at ht
  have e1 : ¬ (4294967296 : Int) ≤ x := by omega
  have e2 : ¬ (65536 : Int) ≤ x := by omega
  have e3 : ¬ (256 : Int) ≤ x := by omega
  have hw : IntKind.u8.wrap (x : Int) = x := wrap_u8 (by omega) (by omega)
  have hu : (UInt8.ofNat (Nat.log2 x + 1)).toNat = Nat.log2 x + 1 := by simp; omega
  simp (disch := omega) [len64, go_sem, e1, e2, e3, hw, ht, wrap64]
  refine ⟨?_, .refl hwf⟩
  omega

theorem len_tells (H : B.HasFax T) (hwf : st.Wf) {x : Nat} (h0 : 0 < x) (h1 : x < 256) : Tells T st (.fn 44 [] []) [.int .u64 x] (.int .i64 ((Nat.log2 x + 1 : Nat) : Int)) := by
  refine tells_of H.e44 H.f44 rfl ?_
  simp [B.math_bits_Len, go_sem]
  refine (len64_tells H hwf h0 h1).use fun s hs => ?_
  simp [go_sem, hs]

theorem wrap_u64 {a : Int} (h0 : 0 ≤ a) (h1 : a < 1000000) : IntKind.u64.wrap a = a := by
  simp [IntKind.wrap, IntKind.signed, IntKind.bits]; omega

/-- The bits of a run, as a pair. -/
def runP (n : Nat) : Nat × Nat := (n + 1, 2 * Nat.log2 (n + 1) + 1)
def pairA (p : Nat × Nat) : AV := .agg [.int .i64 (p.1 : Nat), .int .i64 (p.2 : Nat)]

theorem run_tells (H : B.HasFax T) (hwf : st.Wf) {n : Nat} (h1 : n < 200) : Tells T st (.fn 31 [] []) [.int .i64 n] (pairA (runP n)) := by
  refine tells_of H.e31 H.f31 rfl ?_
  have hx := Ext.new hwf (.cells 62 true [.int .i64 0, .int .i64 0])
  have hl : Nat.log2 (n + 1) < 8 := (Nat.log2_lt (by omega)).2 (by omega)
  simp (disch := omega) [B.fax_run, go_sem, wrap64, wrap_u64, NO.run]
  refine (len_tells (x := n + 1) H hx.wf (by omega) (by omega)).use fun s hs => ?_
  have hg : hget s.h st.nx = some (.cells 62 true [.int .i64 0, .int .i64 0]) := hs.get hx.wf (by simp [hget_cons])
  have hw : wrCells s.h st.nx 0 [.int .i64 ((n : Int) + 1), .int .i64 (2 * (Nat.log2 (n + 1) : Int) + 1)] = some (hset s.h st.nx (.cells 62 true [.int .i64 ((n : Int) + 1), .int .i64 (2 * (Nat.log2 (n + 1) : Int) + 1)])) := by
    simp [wrCells, hg, splice, go_sem]
  simp (disch := omega) [go_sem, wrap64, afill, splice, AV.nb, WO.run, hw, RO.run, rdCells, hget_hset hg]
  exact ⟨by simp [pairA, runP], (hx.trans hs).setNew hg (Nat.le_refl _)⟩

/-- The bits of a vertical mode, as a pair. -/
def vertP (d : Int) : Nat × Nat := if d = -3 then (2, 7) else if d = -2 then (2, 6) else if d = -1 then (2, 3) else if d = 0 then (1, 1) else if d = 1 then (3, 3) else if d = 2 then (3, 6) else (3, 7)

theorem vertical_tells (H : B.HasFax T) (hwf : st.Wf) {d : Int} (h0 : -3 ≤ d) (h1 : d ≤ 3) : Tells T st (.fn 30 [] []) [.int .i64 d] (pairA (vertP d)) := by
  refine tells_of H.e30 H.f30 rfl ?_
  have hx := Ext.new hwf (.cells 62 true [.int .i64 0, .int .i64 0])
  have hg : hget ((st.nx, AObj.cells 62 true [.int .i64 0, .int .i64 0]) :: st.h) st.nx = some (.cells 62 true [.int .i64 0, .int .i64 0]) := by simp [hget_cons]
  have hw : ∀ a c : Int, wrCells ((st.nx, AObj.cells 62 true [.int .i64 0, .int .i64 0]) :: st.h) st.nx 0 [.int .i64 a, .int .i64 c] = some (hset ((st.nx, AObj.cells 62 true [.int .i64 0, .int .i64 0]) :: st.h) st.nx (.cells 62 true [.int .i64 a, .int .i64 c])) := by
    simp [wrCells, hg, splice, go_sem]
  have hd : d = -3 ∨ d = -2 ∨ d = -1 ∨ d = 0 ∨ d = 1 ∨ d = 2 ∨ d = 3 := by omega
  rcases hd with rfl | rfl | rfl | rfl | rfl | rfl | rfl <;>
  simp (disch := omega) [B.fax_vertical, go_sem, wrap64, NO.run, afill, splice, AV.nb, WO.run, hw, RO.run, rdCells, hget_hset hg, apart, pairA, vertP, List.replicate] <;>
  exact hx.setNew hg (Nat.le_refl _)

section
variable (row before : List Bool) (w a : Int) (c : Bool)
def encB : Int := firstZ (edgeP before c) (max (a + 1) 0) w
def encD : Int := firstZ (fun i => bit before i == c) (encB before w a c + 1) w
def encP : Int := firstZ (fun i => bit row i != c) (max (a + 1) 0) w
def encQ : Int := firstZ (fun i => bit row i == c) (encP row w a c + 1) w
/-- One mode: its bits, and where the row stands then. -/
def encStep : List (Nat × Nat) × Int × Bool :=
  if encD before w a c < encP row w a c then ([(1, 4)], encD before w a c, c)
  else if -3 ≤ encP row w a c - encB before w a c ∧ encP row w a c - encB before w a c ≤ 3 then ([vertP (encP row w a c - encB before w a c)], encP row w a c, !c)
  else ([(1, 3), runP (encP row w a c - max a 0).toNat, runP (encQ row w a c - encP row w a c).toNat], encQ row w a c, c)
end
def encRow (row before : List Bool) (w : Int) : Nat → Int → Bool → List Bool
  | 0, _, _ => []
  | n + 1, a, c => if a < w then pairBits (encStep row before w a c).1 ++ encRow row before w n (encStep row before w a c).2.1 (encStep row before w a c).2.2 else []

theorem firstZ_ge {p : Int → Bool} {i wide : Int} (h : i ≤ wide) : i ≤ firstZ p i wide := by
  have := firstN_le p (wide - min i wide).toNat (min i wide)
  unfold firstZ
  omega
theorem firstZ_ge' {p : Int → Bool} {i wide : Int} : min i wide ≤ firstZ p i wide := by
  have := firstN_le p (wide - min i wide).toNat (min i wide)
  unfold firstZ
  omega
theorem firstZ_le' {p : Int → Bool} {i wide : Int} : firstZ p i wide ≤ wide := by
  have := firstN_le p (wide - min i wide).toNat (min i wide)
  unfold firstZ
  omega

theorem enc_bounds (row before : List Bool) {w a : Int} (c : Bool) (ha : -1 ≤ a) (haw : a < w) (hw : 1 ≤ w) :
    max (a + 1) 0 ≤ encB before w a c ∧ encB before w a c ≤ w ∧ min (encB before w a c + 1) w ≤ encD before w a c ∧ encD before w a c ≤ w ∧
    max (a + 1) 0 ≤ encP row w a c ∧ encP row w a c ≤ w ∧ min (encP row w a c + 1) w ≤ encQ row w a c ∧ encQ row w a c ≤ w :=
  ⟨firstZ_ge (by omega), firstZ_le', firstZ_ge', firstZ_le', firstZ_ge (by omega), firstZ_le', firstZ_ge', firstZ_le'⟩

theorem vertP_ok {d : Int} : (vertP d).1 < 1000000 ∧ (vertP d).2 ≤ 7 := by
  unfold vertP
  split <;> try split <;> try split <;> try split <;> try split <;> try split
  all_goals simp
theorem runP_ok {n : Nat} (h : n < 200) : (runP n).1 < 1000000 ∧ (runP n).2 ≤ 15 := by
  have hl : Nat.log2 (n + 1) < 8 := (Nat.log2_lt (by omega)).2 (by omega)
  simp [runP]; omega

theorem encStep_ok (row before : List Bool) {w a : Int} (c : Bool) (ha : -1 ≤ a) (haw : a < w) (hw : 1 ≤ w) (hw' : w ≤ 128) :
    (∀ x y, (x, y) ∈ (encStep row before w a c).1 → x < 1000000 ∧ y ≤ 64) ∧ (pairBits (encStep row before w a c).1).length ≤ 40 ∧ a < (encStep row before w a c).2.1 ∧ (encStep row before w a c).2.1 ≤ w := by
  obtain ⟨h1, h2, h3, h4, h5, h6, h7, h8⟩ := enc_bounds row before c ha haw hw
  unfold encStep
  generalize encB before w a c = b at *
  generalize encD before w a c = d at *
  generalize encP row w a c = p at *
  generalize encQ row w a c = q at *
  have k1 := @runP_ok (p - max a 0).toNat (by omega)
  have k2 := @runP_ok (q - p).toNat (by omega)
  have k3 := @vertP_ok (p - b)
  split
  · refine ⟨?_, ?_, ?_, ?_⟩
    · intro x y h; simp at h; omega
    · simp [pairBits, bitsMS_length]
    · simp only; omega
    · simp only; omega
  · split
    · refine ⟨?_, ?_, ?_, ?_⟩
      · intro x y h; simp at h; rw [← h] at k3; simp at k3; omega
      · simp [pairBits, bitsMS_length]; omega
      · simp only; omega
      · simp only; omega
    · refine ⟨?_, ?_, ?_, ?_⟩
      · intro x y h
        simp at h
        rcases h with ⟨rfl, rfl⟩ | h | h
        · omega
        · rw [← h] at k1; simp at k1; omega
        · rw [← h] at k2; simp at k2; omega
      · simp [pairBits, bitsMS_length]; omega
      · simp only; omega
      · simp only; omega

theorem encRow_length (row before : List Bool) {w : Int} (hw : 1 ≤ w) (hw' : w ≤ 128) : ∀ (n : Nat) (a : Int) (c : Bool), -1 ≤ a → (encRow row before w n a c).length ≤ 40 * n
  | 0, _, _, _ => by simp [encRow]
  | n + 1, a, c, ha => by
    simp only [encRow]
    split
    · rename_i h
      obtain ⟨_, h2, h3, _⟩ := encStep_ok row before c ha h hw hw'
      have := encRow_length row before hw hw' n (encStep row before w a c).2.1 (encStep row before w a c).2.2 (by omega)
      simp only [List.length_append]
      omega
    · simp

theorem cc_set_at {row before : List Bool} {wide at' : Int} {black : Bool} (hr : row.length = 128) (hb : before.length = 128) (a : Int) :
    (coderCells row before wide at' black).set 257 (.int .i64 a) = coderCells row before wide a black := by
  simp only [coderCells]
  rw [List.set_append_right _ _ (by rw [bools_len]; omega), List.set_append_right _ _ (by rw [bools_len, bools_len]; omega), bools_len, bools_len, hr, hb]
  rfl
theorem cc_set_black {row before : List Bool} {wide at' : Int} {black : Bool} (hr : row.length = 128) (hb : before.length = 128) (x : Bool) :
    (coderCells row before wide at' black).set 258 (.bool x) = coderCells row before wide at' x := by
  simp only [coderCells]
  rw [List.set_append_right _ _ (by rw [bools_len]; omega), List.set_append_right _ _ (by rw [bools_len, bools_len]; omega), bools_len, bools_len, hr, hb]
  rfl
theorem cc_len {row before : List Bool} {wide at' : Int} {black : Bool} (hr : row.length = 128) (hb : before.length = 128) : (coderCells row before wide at' black).length = 259 := by
  simp [coderCells, bools_len, hr, hb]

/-- The writer has written more. -/
def Wrote (st s : St) (o n ty : Nat) (loc : Bool) (L : List Bool) : Prop := ∃ n' v', WriterAt s o n' ty loc v' L ∧ (n' = n ∨ st.nx ≤ n')
def CoderAt (s : St) (c tc : Nat) (lc : Bool) (row before : List Bool) (w : Int) : Prop := ∃ a x, hget s.h c = some (.cells tc lc (coderCells row before w a x))

theorem WriterAt.ext {st s : St} {o n ty : Nat} {loc : Bool} {v : AV} {L : List Bool} (h : WriterAt st o n ty loc v L) (hwf : st.Wf) (hx : Ext st s) : WriterAt s o n ty loc v L :=
  ⟨hx.get hwf h.at', h.sl.ext hx hwf, h.ne, Nat.lt_of_lt_of_le h.lt hx.nx⟩
theorem Wrote.trans {st s s' : St} {o n n' ty : Nat} {loc : Bool} {L : List Bool} (h : Wrote s s' o n' ty loc L) (hx : st.nx ≤ s.nx) (hn : n' = n ∨ st.nx ≤ n') : Wrote st s' o n ty loc L := by
  obtain ⟨n2, v2, h1, h2⟩ := h
  refine ⟨n2, v2, h1, ?_⟩
  rcases h2 with h | h
  · rw [h]; exact hn
  · exact .inr (Nat.le_trans hx h)
theorem Frm.grow {S : List Nat} {st s s' : St} {o n n' : Nat} (h : Frm S st s) (h2 : Frm [o, n'] s s') (ho : o ∈ S) (hnS : n ∈ S) (hn : n' = n ∨ st.nx ≤ n') : Frm S st s' := by
  refine h.trans h2 ?_
  intro m hm
  simp at hm
  rcases hm with rfl | rfl
  · exact .inl ho
  · rcases hn with h | h
    · exact .inl (h ▸ hnS)
    · exact .inr h

/-- put, as the callers see it. -/
theorem put_use (H : B.HasFax T) {w p n : Nat} {ty tp : Nat} {loc lp : Bool} {v : AV} {cp : Cap} {L : List Bool} {l : List (Nat × Nat)} {Q : AV → St → Prop} {m : Nat} (hm : m = l.length) (hb : ∀ a c, (a, c) ∈ l → a < 1000000 ∧ c ≤ 64) (hl : l.length < 1000) (hwf : st.Wf) (hW : WriterAt st w n ty loc v L)
    (hp : hget st.h p = some (.cells tp lp (pairCells l))) (hpw : p ≠ w) (hpn : p ≠ n) (hlen : L.length + (pairBits l).length < 1000000000000)
    (hq : ∀ s n' v', WriterAt s w n' ty loc v' (L ++ pairBits l) → (n' = n ∨ st.nx ≤ n') → Frm [w, n] st s → Q (.tuple []) s) :
    CRes (call T (.fn 18 [] []) [.ptr w 0, .slice p 0 m cp] st) Q := by
  subst hm
  refine (put_call H hb hl hwf hW hp hpw hpn hlen).mono ?_
  rintro r s ⟨rfl, ⟨n', v', h1, h2⟩, h3⟩
  exact hq s n' v' h1 h2 h3

theorem write_loop (H : B.HasFax T) {row before : List Bool} {w : Int} {c o ty tc : Nat} {loc lc : Bool} (hr : row.length = 128) (hb : before.length = 128) (hw : 1 ≤ w) (hw' : w ≤ 128) (hco : c ≠ o) :
    ∀ (k : Nat) (st : St) (n : Nat) (v : AV) (L : List Bool) (e : Env) (a : Int) (x : Bool), (w - a).toNat ≤ k → -1 ≤ a → a ≤ w → st.Wf → WriterAt st o n ty loc v L → c ≠ n →
    hget st.h c = some (.cells tc lc (coderCells row before w a x)) → eget e 0 = .ptr c 0 → eget e 1 = .ptr o 0 → L.length + 40 * k < 1000000000000 →
    Res (run T (.loop B.fax_coder_write_l0) e st) fun q e' s => q = .exit 0 ∧ Wrote st s o n ty loc (L ++ encRow row before w k a x) ∧ CoderAt s c tc lc row before w ∧ Frm [o, n, c] st s := by
  intro k
  induction k with
  | zero =>
    intro st n v L e a x hk ha ha' hwf hW hcn hc h0 h1 hlen
    have haw : a = w := by omega
    subst haw
    have ga := cc_at (row := row) (before := before) (wide := a) (at' := a) (black := x) hr hb
    have gw := cc_wide (row := row) (before := before) (wide := a) (at' := a) (black := x) hr hb
    rw [run_loop]
    simp (disch := omega) [B.fax_coder_write_l0, go_sem, h0, h1, RO.run, rdCell, hc, ga, gw, encRow]
    exact ⟨⟨n, v, hW.ext hwf (Ext.aside hwf _), .inl rfl⟩, ⟨_, _, hc⟩, (Ext.aside hwf _).fr _⟩
  | succ k ih =>
    intro st n v L e a x hk ha ha' hwf hW hcn hc h0 h1 hlen
    have ga := cc_at (row := row) (before := before) (wide := w) (at' := a) (black := x) hr hb
    have gw := cc_wide (row := row) (before := before) (wide := w) (at' := a) (black := x) hr hb
    rw [run_loop]
    by_cases haw : a < w
    · simp (disch := omega) [B.fax_coder_write_l0, go_sem, h0, h1, RO.run, rdCell, hc, ga, gw, encRow, haw]
      have hx0 := Ext.aside hwf 9
      refine (ahead_tells H hx0.wf hr hb hc (by omega) hw' ha (by omega)).use fun s1 hs1 => ?_
      rw [← encB, ← encD]
      have hc1 := hs1.get hx0.wf hc
      simp (disch := omega) [go_sem]
      refine (own_tells H hs1.wf hr hb hc1 (by omega) hw' ha (by omega)).use fun s2 hs2 => ?_
      rw [← encP, ← encQ]
      have hc2 := hs2.get hs1.wf hc1
      have hx2 := (hx0.trans hs1).trans hs2
      have hW2 := hW.ext hwf hx2
      obtain ⟨j1, j2, j3, j4⟩ := encStep_ok row before x ha haw hw hw'
      obtain ⟨b1, b2, b3, b4, b5, b6, b7, b8⟩ := enc_bounds row before x ha haw hw
      have hcl : c < st.nx := hwf.lt _ _ hc
      have fin : ∀ (s' : St) (n3 : Nat) (v3 : AV) (e' : Env), WriterAt s' o n3 ty loc v3 (L ++ pairBits (encStep row before w a x).1) → (n3 = n ∨ st.nx ≤ n3) →
          hget s'.h c = some (.cells tc lc (coderCells row before w (encStep row before w a x).2.1 (encStep row before w a x).2.2)) → Frm [o, n, c] st s' → eget e' 0 = .ptr c 0 → eget e' 1 = .ptr o 0 →
          Res (run T (.loop B.fax_coder_write_l0) e' s') (fun q e' s => q = .exit 0 ∧ Wrote st s o n ty loc (L ++ (pairBits (encStep row before w a x).1 ++ encRow row before w k (encStep row before w a x).2.1 (encStep row before w a x).2.2)) ∧ CoderAt s c tc lc row before w ∧ Frm [o, n, c] st s) := by
        intro s' n3 v3 e' hW' hn3 hc' hF' g0 g1
        have hcn3 : c ≠ n3 := by
          rcases hn3 with h | h
          · rw [h]; exact hcn
          · omega
        refine (ih s' n3 v3 _ e' _ _ (by omega) (by omega) j4 hF'.wf hW' hcn3 hc' g0 g1 (by simp only [List.length_append]; omega)).mono ?_
        rintro q e2 s2 ⟨rfl, hw2, hk2, hf2⟩
        refine ⟨rfl, ?_, hk2, ?_⟩
        · rw [List.append_assoc] at hw2; exact hw2.trans hF'.nx hn3
        · refine hF'.trans hf2 ?_
          intro m hm
          simp at hm
          rcases hm with rfl | rfl | rfl
          · simp
          · rcases hn3 with h | h
            · simp [h]
            · exact .inr h
          · simp
      have hun : encStep row before w a x = encStep row before w a x := rfl
      conv at hun => rhs; unfold encStep
      generalize encStep row before w a x = stp at *
      generalize encB before w a x = b at *
      generalize encD before w a x = d at *
      generalize encP row w a x = p at *
      generalize encQ row w a x = q at *
      by_cases hdp : d < p
      · rw [if_pos hdp] at hun
        subst hun
        simp only at fin j1 j2 j3 j4
        simp (disch := omega) [go_sem, hdp, NO.run, afill, splice, AV.nb, WO.run]
        have hx3 := Ext.new hs2.wf (.cells 62 false (pairCells [(1, 4)]))
        refine put_use (st := ⟨_, _⟩) (l := [(1, 4)]) H rfl j1 (by simp) hx3.wf (hW2.ext hs2.wf hx3) (p := s2.nx) (tp := 62) (lp := false) (by simp [hget_cons, pairCells]) ?_ ?_ (by omega) ?_
        · have := hs2.wf.lt _ _ hW2.at'; omega
        · have := hW2.lt; omega
        intro s3 n3 v3 hW3 hn3 hF3
        have hn3' : n3 = n ∨ st.nx ≤ n3 := hn3.imp id fun h => Nat.le_trans hx2.nx (Nat.le_trans hx3.nx h)
        have hF3' : Frm [o, n, c] st s3 := ((hx2.trans hx3).fr _).trans hF3 (by simp)
        have hc3 : hget s3.h c = _ := hF3.get hx3.wf (hx3.get hs2.wf hc2) (by simp [hco, hcn])
        have hwr := wr_cells (o := 257) (v := .int .i64 d) hc3 rfl (by rw [cc_len hr hb]; omega)
        rw [cc_set_at hr hb] at hwr
        simp (disch := omega) [go_sem, WO.run, hwr]
        have hS := Frm.set (o := .cells tc lc (coderCells row before w d x)) hF3.wf hc3
        refine fin ⟨_, _⟩ n3 v3 _ ⟨hS.get hF3.wf hW3.at' (by simpa using fun h => hco h.symm), hW3.sl.frm hS hF3.wf ?_, hW3.ne, hW3.lt⟩ hn3' (by simp [hget_hset hc3]) (hF3'.trans hS (by simp)) ?_ ?_
        · simp; rintro rfl; rcases hn3' with h | h
          · exact hcn h
          · omega
        · simp [go_sem]
        · simp [go_sem]
      · rw [if_neg hdp] at hun
        by_cases hv : -3 ≤ p - b ∧ p - b ≤ 3
        · rw [if_pos hv] at hun
          subst hun
          simp only at fin j1 j2 j3 j4
          simp (disch := omega) [go_sem, hdp, hv, wrap64]
          refine (vertical_tells H hs2.wf hv.1 hv.2).use fun s2' hs2' => ?_
          have hc2' := hs2'.get hs2.wf hc2
          have hW2' := hW2.ext hs2.wf hs2'
          have hx2' := hx2.trans hs2'
          simp (disch := omega) [go_sem, NO.run, afill, splice, AV.nb, WO.run, pairA]
          have hx3 := Ext.new hs2'.wf (.cells 62 false (pairCells [vertP (p - b)]))
          refine put_use (st := ⟨_, _⟩) (l := [vertP (p - b)]) H rfl j1 (by simp) hx3.wf (hW2'.ext hs2'.wf hx3) (p := s2'.nx) (tp := 62) (lp := false) (by simp [hget_cons, pairCells]) ?_ ?_ (by omega) ?_
          · have := hs2'.wf.lt _ _ hW2'.at'; omega
          · have := hW2'.lt; omega
          intro s3 n3 v3 hW3 hn3 hF3
          have hn3' : n3 = n ∨ st.nx ≤ n3 := hn3.imp id fun h => Nat.le_trans hx2'.nx (Nat.le_trans hx3.nx h)
          have hF3' : Frm [o, n, c] st s3 := ((hx2'.trans hx3).fr _).trans hF3 (by simp)
          have hc3 : hget s3.h c = _ := hF3.get hx3.wf (hx3.get hs2'.wf hc2') (by simp [hco, hcn])
          have gk := cc_black (row := row) (before := before) (wide := w) (at' := a) (black := x) hr hb
          have hrd : rdCell s3.h c 258 = some (.bool x) := by simp [rdCell, hc3, gk]
          have hwr := wr_cells (o := 257) (v := .int .i64 p) hc3 rfl (by rw [cc_len hr hb]; omega)
          rw [cc_set_at hr hb] at hwr
          have hc4 : hget (hset s3.h c (.cells tc lc (coderCells row before w p x))) c = some (.cells tc lc (coderCells row before w p x)) := by simp [hget_hset hc3]
          have hwr2 := wr_cells (o := 258) (v := .bool (!x)) hc4 rfl (by rw [cc_len hr hb]; omega)
          rw [cc_set_black hr hb] at hwr2
          simp (disch := omega) [go_sem, WO.run, hwr, hwr2, RO.run, hrd]
          have hS := Frm.set (o := .cells tc lc (coderCells row before w p x)) hF3.wf hc3
          have hS2 := Frm.set (st := ⟨_, _⟩) (o := .cells tc lc (coderCells row before w p (!x))) hS.wf hc4
          have hSS := hS.trans hS2 (by simp)
          refine fin ⟨_, _⟩ n3 v3 _ ⟨hSS.get hF3.wf hW3.at' (by simpa using fun h => hco h.symm), hW3.sl.frm hSS hF3.wf ?_, hW3.ne, hW3.lt⟩ hn3' (by simp [hget_hset hc4]) (hF3'.trans hSS (by simp)) ?_ ?_
          · simp; rintro rfl; rcases hn3' with h | h
            · exact hcn h
            · omega
          · simp [go_sem]
          · simp [go_sem]
        · rw [if_neg hv] at hun
          subst hun
          simp only at fin j1 j2 j3 j4
          have gaa : rdCell s2.h c 257 = some (.int .i64 a) := by simp [rdCell, hc2, ga]
          have hmx : (if a < 0 then 0 else a) = max a 0 := by omega
          have e1 : p - max a 0 = ((p - max a 0).toNat : Int) := by omega
          have e2 : q - p = ((q - p).toNat : Int) := by omega
          have hv1 : -3 ≤ p - b → ¬ p - b ≤ 3 := fun h1 h2 => hv ⟨h1, h2⟩
          have hv2 : -3 ≤ p - b → (p - b ≤ 3) = False := fun h => by simp; omega
          by_cases hv0 : -3 ≤ p - b <;> simp (disch := omega) [go_sem, hdp, wrap64, RO.run, gaa, hmx, hv0, hv2]
          all_goals
            have t1 := run_tells (T := T) (n := (p - max a 0).toNat) H hs2.wf (by omega)
            rw [← e1] at t1
            refine t1.use fun s2' hs2' => ?_
            simp (disch := omega) [go_sem, wrap64]
            have t2 := run_tells (T := T) (n := (q - p).toNat) H hs2'.wf (by omega)
            rw [← e2] at t2
            refine t2.use fun s2'' hs2'' => ?_
            have hs22 := hs2'.trans hs2''
            have hc2' := hs22.get hs2.wf hc2
            have hW2' := hW2.ext hs2.wf hs22
            have hx2' := hx2.trans hs22
            simp (disch := omega) [go_sem, NO.run, afill, splice, AV.nb, WO.run, pairA]
            have hx3 := Ext.new hs22.wf (.cells 62 false (pairCells [(1, 3), runP (p - max a 0).toNat, runP (q - p).toNat]))
            refine put_use (st := ⟨_, _⟩) (l := [(1, 3), runP (p - max a 0).toNat, runP (q - p).toNat]) H rfl j1 (by simp) hx3.wf (hW2'.ext hs22.wf hx3) (p := s2''.nx) (tp := 62) (lp := false) (by simp [hget_cons, pairCells]) ?_ ?_ (by omega) ?_
            · have := hs22.wf.lt _ _ hW2'.at'; omega
            · have := hW2'.lt; omega
            intro s3 n3 v3 hW3 hn3 hF3
            have hn3' : n3 = n ∨ st.nx ≤ n3 := hn3.imp id fun h => Nat.le_trans hx2'.nx (Nat.le_trans hx3.nx h)
            have hF3' : Frm [o, n, c] st s3 := ((hx2'.trans hx3).fr _).trans hF3 (by simp)
            have hc3 : hget s3.h c = _ := hF3.get hx3.wf (hx3.get hs22.wf hc2') (by simp [hco, hcn])
            have hwr := wr_cells (o := 257) (v := .int .i64 q) hc3 rfl (by rw [cc_len hr hb]; omega)
            rw [cc_set_at hr hb] at hwr
            simp (disch := omega) [go_sem, WO.run, hwr]
            have hS := Frm.set (o := .cells tc lc (coderCells row before w q x)) hF3.wf hc3
            refine fin ⟨_, _⟩ n3 v3 _ ⟨hS.get hF3.wf hW3.at' (by simpa using fun h => hco h.symm), hW3.sl.frm hS hF3.wf ?_, hW3.ne, hW3.lt⟩ hn3' (by simp [hget_hset hc3]) (hF3'.trans hS (by simp)) ?_ ?_
            · simp; rintro rfl; rcases hn3' with h | h
              · exact hcn h
              · omega
            · simp [go_sem]
            · simp [go_sem]
    · have haw : a = w := by omega
      subst haw
      simp (disch := omega) [B.fax_coder_write_l0, go_sem, h0, h1, RO.run, rdCell, hc, ga, gw, encRow]
      exact ⟨⟨n, v, hW.ext hwf (Ext.aside hwf _), .inl rfl⟩, ⟨_, _, hc⟩, (Ext.aside hwf _).fr _⟩

theorem cc_set_at' {row before : List Bool} {wide at' : Int} {black : Bool} (hr : row.length = 128) (hb : before.length = 128) (a : Int) (x : Bool) :
    ((coderCells row before wide at' black).set 257 (.int .i64 a)).set 258 (.bool x) = coderCells row before wide a x := by
  rw [cc_set_at hr hb, cc_set_black hr hb]

/-- The code of a row, as it is written. -/
theorem write_call (H : B.HasFax T) {row before : List Bool} {w : Int} {c o n ty tc : Nat} {loc lc : Bool} {v : AV} {L : List Bool} {a : Int} {x : Bool} {Q : AV → St → Prop} (hr : row.length = 128) (hb : before.length = 128) (hw : 1 ≤ w) (hw' : w ≤ 128) (hco : c ≠ o) (hcn : c ≠ n)
    (hwf : st.Wf) (hW : WriterAt st o n ty loc v L) (hc : hget st.h c = some (.cells tc lc (coderCells row before w a x))) (hlen : L.length + 6000 < 1000000000000)
    (hq : ∀ s n' v', WriterAt s o n' ty loc v' (L ++ encRow row before w 129 (-1) false) → (n' = n ∨ st.nx ≤ n') → CoderAt s c tc lc row before w → Frm [o, n, c] st s → Q (.tuple []) s) :
    CRes (call T (.fn 19 [] []) [.ptr c 0, .ptr o 0] st) Q := by
  refine call_res H.e19 H.f19 rfl ?_
  have hwr := wr_cells (o := 257) (v := .int .i64 (-1)) hc rfl (by rw [cc_len hr hb]; omega)
  rw [cc_set_at hr hb] at hwr
  have hc4 : hget (hset st.h c (.cells tc lc (coderCells row before w (-1) x))) c = some (.cells tc lc (coderCells row before w (-1) x)) := by simp [hget_hset hc]
  have hwr2 := wr_cells (o := 258) (v := .bool false) hc4 rfl (by rw [cc_len hr hb]; omega)
  rw [cc_set_black hr hb] at hwr2
  have hS := Frm.set (o := .cells tc lc (coderCells row before w (-1) x)) hwf hc
  have hS2 := Frm.set (st := ⟨_, _⟩) (o := .cells tc lc (coderCells row before w (-1) false)) hS.wf hc4
  have hSS := hS.trans hS2 (by simp)
  simp [B.fax_coder_write, go_sem, hwr, hwr2]
  refine (write_loop (tc := tc) (lc := lc) H hr hb hw hw' hco 129 ⟨_, _⟩ n v L _ (-1) false (by omega) (by omega) (by omega) hSS.wf ⟨hSS.get hwf hW.at' (by simpa using fun h => hco h.symm), hW.sl.frm hSS hwf (by simpa using fun h => hcn h.symm), hW.ne, hW.lt⟩ hcn (by simp [hget_hset hc4]) ?_ ?_ (by omega)).mono ?_
  · simp [go_sem]
  · simp [go_sem]
  rintro q e s ⟨rfl, ⟨n', v', hW', hn'⟩, ⟨a', x', hc'⟩, hF⟩
  have hFF : Frm [o, n, c] st s := (hSS.mono (R := [o, n, c]) (by simp)).trans hF (fun m hm => .inl hm)
  simp [go_sem]
  refine hq _ n' v' ⟨?_, hW'.sl.dropLoc hF.wf, hW'.ne, hW'.lt⟩ hn' ⟨a', x', ?_⟩ ?_
  · show hget (dropLoc _ _) _ = _
    rw [hget_dropLoc_lt (hwf.lt _ _ hW.at')]
    exact hW'.at'
  · show hget (dropLoc _ _) _ = _
    rw [hget_dropLoc_lt (hwf.lt _ _ hc)]
    exact hc'
  · exact hFF.dropLoc

end Go.Ev

/- Rows from octets: what the program unpacks. -/
namespace Go.Ev
open Go
set_option linter.unusedSimpArgs false
set_option linter.unusedVariables false

variable {T : Tab} {st : St}

/-- The bits of octets, the highest of each first. -/
def strBits (s : List UInt8) : List Bool := s.flatMap fun b => bitsMS b.toNat 8

theorem bitsMS_get (n : Nat) : ∀ (k j : Nat), j < k → (bitsMS n k)[j]? = some (n.testBit (k - 1 - j))
  | 0, _, h => by omega
  | k + 1, 0, _ => by simp [bitsMS]
  | k + 1, j + 1, h => by
    simp only [bitsMS, List.getElem?_cons_succ]
    rw [bitsMS_get n k j (by omega), show k + 1 - 1 - (j + 1) = k - 1 - j by omega]

theorem strBits_length : ∀ s : List UInt8, (strBits s).length = 8 * s.length
  | [] => rfl
  | b :: s => by
    have := strBits_length s
    simp only [strBits, List.flatMap_cons, List.length_append, bitsMS_length, List.length_cons] at *
    omega

theorem strBits_get : ∀ (s : List UInt8) (i : Nat) (b : UInt8), s[i / 8]? = some b → (strBits s)[i]? = some (b.toNat.testBit (7 - i % 8))
  | [], i, b, h => by simp at h
  | c :: s, i, b, h => by
    simp only [strBits, List.flatMap_cons]
    by_cases hi : i < 8
    · rw [List.getElem?_append_left (by simp [bitsMS_length]; omega), bitsMS_get _ _ _ hi]
      have h0 : i / 8 = 0 := by omega
      rw [h0] at h
      simp only [List.getElem?_cons_zero, Option.some.injEq] at h
      subst h
      rw [show i % 8 = i by omega]
    · rw [List.getElem?_append_right (by simp [bitsMS_length]; omega), bitsMS_length]
      have h1 : i / 8 = (i - 8) / 8 + 1 := by omega
      rw [h1, List.getElem?_cons_succ] at h
      have := strBits_get s (i - 8) b h
      rw [strBits] at this
      rw [this, show (i - 8) % 8 = i % 8 by omega]

theorem iand_u8_one {a : Nat} (h : a < 256) : iand .u8 (a : Int) 1 = ((a % 2 : Nat) : Int) := by
  unfold iand
  have h1 : (BitVec.ofInt IntKind.u8.bits (a : Int) &&& BitVec.ofInt IntKind.u8.bits 1).toNat = a % 2 := by
    rw [show (1 : Int) = ((1 : Nat) : Int) from rfl, ofInt_ofNat, ofInt_ofNat]
    show (BitVec.ofNat 8 a &&& BitVec.ofNat 8 1).toNat = _
    rw [BitVec.toNat_and, BitVec.toNat_ofNat, BitVec.toNat_ofNat, Nat.mod_eq_of_lt (show a < 2 ^ 8 by omega)]
    exact Nat.and_one_is_mod a
  rw [h1, wrap_u8 (by omega) (by omega)]

theorem u8_bit {b r : Nat} (h : b < 256) (hr : r < 8) : decide (iand .u8 (ishr .u8 (b : Int) r) 1 = 1) = b.testBit r := by
  rw [ishr_nat (by omega) (by simp [IntKind.bits]; omega)]
  have e : (b : Int) / 2 ^ r = ((b / 2 ^ r : Nat) : Int) := by push_cast; rfl
  have h1 : b / 2 ^ r ≤ b := Nat.div_le_self _ _
  rw [e, iand_u8_one (by omega)]
  have := @Nat.toNat_testBit b r
  cases ht : b.testBit r <;> rw [ht] at this <;> simp at this ⊢ <;> omega

/-- The first pixels of a row. -/
def rowPart (bits : List Bool) (m : Nat) : List Bool := (List.range 128).map fun k => decide (k < m) && bits.getD k false
theorem rowPart_length (bits : List Bool) (m : Nat) : (rowPart bits m).length = 128 := by simp [rowPart]
theorem rowPart_get {bits : List Bool} {m k : Nat} (h : k < 128) : (rowPart bits m)[k]? = some (decide (k < m) && bits.getD k false) := by
  simp [rowPart, h]
theorem rowPart_zero (bits : List Bool) : rowPart bits 0 = List.replicate 128 false := by
  apply List.ext_getElem?
  intro k
  by_cases h : k < 128
  · rw [rowPart_get h, List.getElem?_replicate, if_pos h]; simp
  · rw [List.getElem?_eq_none (by rw [rowPart_length]; omega), List.getElem?_eq_none (by simp; omega)]
theorem rowPart_succ {bits : List Bool} {m : Nat} {x : Bool} (h : m < 128) (hx : bits.getD m false = x) : (rowPart bits m).set m x = rowPart bits (m + 1) := by
  apply List.ext_getElem?
  intro k
  rw [List.getElem?_set, rowPart_length]
  by_cases hk : k < 128
  · rw [rowPart_get hk, rowPart_get hk]
    by_cases e : m = k
    · subst e; rw [if_pos rfl, if_pos h, hx]; simp
    · rw [if_neg e]
      have : decide (k < m + 1) = decide (k < m) := by simp; omega
      rw [this]
  · rw [if_neg (by omega), List.getElem?_eq_none (by rw [rowPart_length]; omega), List.getElem?_eq_none (by rw [rowPart_length]; omega)]
theorem bools_set (l : List Bool) (i : Nat) (x : Bool) : (bools l).set i (.bool x) = bools (l.set i x) := by simp [bools, List.map_set]

def cleanFrom (bits : List Bool) (i : Nat) : Bool := (bits.drop i).all (! ·)
theorem cleanFrom_step {bits : List Bool} {i : Nat} {x : Bool} (h : bits[i]? = some x) : cleanFrom bits i = (!x && cleanFrom bits (i + 1)) := by
  obtain ⟨hi, hx⟩ := List.getElem?_eq_some_iff.1 h
  unfold cleanFrom
  rw [List.drop_eq_getElem_cons hi, List.all_cons, hx]

theorem bools_sc (l : List Bool) : (bools l).all AV.sc = true := by simp [bools, AV.sc]

theorem unpack_loop {s : List UInt8} {w : Nat} {x tx : Nat} {lx : Bool} (hs : s.length ≤ 16) (hw : w ≤ 128) (hsw : w ≤ 8 * s.length) : ∀ (n i : Nat) (st : St) (e : Env), i + n = 8 * s.length → st.Wf →
    hget st.h x = some (.cells tx lx (bools (rowPart (strBits s) (min i w)))) → eget e 0 = .str s → eget e 1 = .int .i64 w → eget e 4 = .ptr x 0 → eget e 10 = .int .i64 (8 * s.length) → eget e 11 = .int .i64 i →
    Res (run T (.loop B.fax_unpack_l0) e st) fun q e' s' => ((q = .exit 0 ∧ cleanFrom (strBits s) (max i w) = true) ∨ (q = .ret ∧ eget e' 5 = .bool false ∧ cleanFrom (strBits s) (max i w) = false)) ∧ eget e' 4 = .ptr x 0 ∧
      hget s'.h x = some (.cells tx lx (bools (rowPart (strBits s) w))) ∧ Frm [x] st s' := by
  intro n
  induction n with
  | zero =>
    intro i st e hi hwf hx h0 h1 h4 h10 h11
    have hil : ¬ (i : Int) < 8 * s.length := by omega
    rw [run_loop]
    simp (disch := omega) [B.fax_unpack_l0, go_sem, h0, h1, h4, h10, h11, hil]
    have hc : cleanFrom (strBits s) (max i w) = true := by
      unfold cleanFrom
      rw [List.drop_eq_nil_of_le (by rw [strBits_length]; omega)]; rfl
    rw [show min i w = w by omega] at hx
    try rw [show max i w = i by omega] at hc
    exact ⟨hc, hx, .refl hwf _⟩
  | succ n ih =>
    intro i st e hi hwf hx h0 h1 h4 h10 h11
    have hil : (i : Int) < 8 * s.length := by omega
    obtain ⟨b, hb⟩ : ∃ b, s[i / 8]? = some b := ⟨s[i / 8]'(by omega), by simp⟩
    have hbit := strBits_get s i b hb
    have hbb : s[i / 8]'(by omega) = b := by rw [List.getElem?_eq_getElem (by omega)] at hb; exact Option.some.inj hb
    have hq : (i : Int).tdiv 8 = (i / 8 : Nat) := by rw [Int.tdiv_eq_ediv_of_nonneg (by omega)]; omega
    have hd : (i : Int).tmod 8 = (i % 8 : Nat) := by rw [Int.tmod_eq_emod_of_nonneg (by omega)]; omega
    have hq' : ((i : Int) / 8).toNat = i / 8 := by omega
    have hu := u8_bit (b := b.toNat) (r := 7 - i % 8) (by have := b.toNat_lt; omega) (by omega)
    have h7 : ((7 - i % 8 : Nat) : Int) = 7 - (i : Int) % 8 := by omega
    rw [h7] at hu
    have h70 : 0 ≤ 7 - (i : Int) % 8 := by omega
    have h71 : 0 ≤ (i : Int) / 8 := by omega
    generalize b.toNat.testBit (7 - i % 8) = y at hbit hu
    have hu : (iand .u8 (ishr .u8 (b.toNat : Int) (7 - (i : Int) % 8)) 1 = 1) = (y = true) := by rw [← hu]; simp
    rw [run_loop]
    by_cases hiw : i < w
    · have hiw' : ¬ (w : Int) ≤ i := by omega
      have hwr := wr_cells (o := i) (v := .bool y) hx rfl (by rw [bools_len, rowPart_length]; omega)
      rw [show min i w = i by omega, bools_set, rowPart_succ (x := y) (by omega) (by rw [List.getD_eq_getElem?_getD, hbit]; rfl)] at hwr
      have hi0 : (0 : Int) ≤ i ∧ (i : Int) < 128 := by omega
      simp (disch := omega) [B.fax_unpack_l0, go_sem, h0, h1, h4, h10, h11, hil, hq, hd, hb, hq', hu, h70, h71, hiw', wrap64, if_neg, hi0, hwr, hbb]
      have hS := Frm.set (o := .cells tx lx (bools (rowPart (strBits s) (i + 1)))) hwf hx
      refine (ih (i + 1) ⟨_, _⟩ _ (by omega) hS.wf ?_ ?_ ?_ ?_ ?_ ?_).mono ?_
      · rw [hget_hset hx, if_pos rfl, show min (i + 1) w = i + 1 by omega]
      · simp [go_sem]
      · simp [go_sem]
      · simp [go_sem]
      · simp [go_sem]
      · simp [go_sem]
      rintro q e' s' ⟨a1, a2, a3, a4⟩
      rw [show max (i + 1) w = w by omega] at a1
      try rw [show max i w = w by omega]
      exact ⟨a1, a2, a3, hS.trans a4 (by simp)⟩
    · have hiw' : (w : Int) ≤ i := by omega
      have hrd : rdCells st.h x 0 128 = some (bools (rowPart (strBits s) w)) := by
        simp only [rdCells, hx, bools_len, rowPart_length]
        rw [if_pos (by omega), show min i w = w by omega, List.drop_zero, List.take_of_length_le (by rw [bools_len, rowPart_length]; omega)]
      have hcl := cleanFrom_step hbit
      rw [show min i w = w by omega] at hx
      have hlen128 : (bools (rowPart (strBits s) w)).length = 128 := by rw [bools_len, rowPart_length]
      have hwr : wrCells st.h x 0 (bools (rowPart (strBits s) w)) = some (hset st.h x (.cells tx lx (bools (rowPart (strBits s) w)))) := by
        simp only [wrCells, hx]
        rw [if_pos ⟨by omega, bools_sc _⟩, splice_whole rfl]
      cases y with
      | true =>
        simp (disch := omega) [B.fax_unpack_l0, go_sem, h0, h1, h4, h10, h11, hil, hq, hd, hb, hq', hu, h70, h71, hiw', wrap64, if_neg, hrd, hlen128, hwr, hbb]
        try rw [show max i w = i by omega]
        rw [hcl]
        exact ⟨by simp, by rw [hget_hset hx, if_pos rfl], Frm.set hwf hx⟩
      | false =>
        simp (disch := omega) [B.fax_unpack_l0, go_sem, h0, h1, h4, h10, h11, hil, hq, hd, hb, hq', hu, h70, h71, hiw', wrap64, if_neg, hbb]
        refine (ih (i + 1) st _ (by omega) hwf ?_ ?_ ?_ ?_ ?_ ?_).mono ?_
        · rw [show min (i + 1) w = w by omega]; exact hx
        · simp [go_sem]
        · simp [go_sem]
        · simp [go_sem]
        · simp [go_sem]
        · simp [go_sem]
        rintro q e' s' ⟨a1, a2, a3, a4⟩
        rw [show max (i + 1) w = i + 1 by omega] at a1
        try rw [show max i w = i by omega]
        rw [hcl]
        exact ⟨by simpa using a1, a2, a3, a4⟩

/-- The pixels of a row, and whether nothing is set after them. -/
theorem unpack_tells (H : B.HasFax T) (hwf : st.Wf) {s : List UInt8} {w : Nat} (hs : s.length ≤ 16) (hw : w ≤ 128) (hsw : w ≤ 8 * s.length) :
    Tells T st (.fn 17 [] []) [.str s, .int .i64 w] (.tuple [.agg (bools (rowPart (strBits s) w)), .bool (cleanFrom (strBits s) w)]) := by
  refine tells_of H.e17 H.f17 rfl ?_
  have hx := Ext.new hwf (.cells 54 true (List.replicate 128 (.bool false)))
  have hg : hget ((st.nx, AObj.cells 54 true (List.replicate 128 (.bool false))) :: st.h) st.nx = some (.cells 54 true (bools (rowPart (strBits s) (min 0 w)))) := by
    rw [hget_cons, if_pos rfl, Nat.zero_min, rowPart_zero, bools, List.map_replicate]
  simp (disch := omega) [B.fax_unpack, go_sem, wrap64, -List.reduceReplicate]
  refine (unpack_loop (w := w) hs hw hsw (8 * s.length) 0 ⟨_, _⟩ _ (by omega) hx.wf hg ?_ ?_ ?_ ?_ ?_).mono ?_
  · simp [go_sem]
  · simp [go_sem]
  · simp [go_sem]
  · simp [go_sem]
  · simp [go_sem]
  rintro q e s' ⟨a1, a2, a3, a4⟩
  obtain ⟨sh, sn⟩ := s'
  have hrd : rdCells sh st.nx 0 128 = some (bools (rowPart (strBits s) w)) := by
    simp only [rdCells, a3, bools_len, rowPart_length]
    rw [if_pos (by omega), List.drop_zero, List.take_of_length_le (by rw [bools_len, rowPart_length]; omega)]
  have hlen128 : (bools (rowPart (strBits s) w)).length = 128 := by rw [bools_len, rowPart_length]
  have hwr : wrCells sh st.nx 0 (bools (rowPart (strBits s) w)) = some (hset sh st.nx (.cells 54 true (bools (rowPart (strBits s) w)))) := by
    simp only [wrCells, a3]
    rw [if_pos ⟨by omega, bools_sc _⟩, splice_whole rfl]
  have hrd2 : rdCells (hset sh st.nx (.cells 54 true (bools (rowPart (strBits s) w)))) st.nx 0 128 = some (bools (rowPart (strBits s) w)) := by
    exact rd_all (by rw [hget_hset a3, if_pos rfl]) hlen128
  rw [show max 0 w = w by omega] at a1
  rcases a1 with ⟨rfl, a1⟩ | ⟨rfl, a5, a1⟩
  · have hE : Ext st ⟨hset sh st.nx (.cells 54 true (bools (rowPart (strBits s) w))), sn⟩ := (((hx.fr [st.nx]).trans a4 (by simp)).trans (Frm.set a4.wf a3) (by simp)).ext (by simp)
    simp [go_sem, a2, hrd, hlen128, hwr, a1, fresults, resVals, resVal, hrd2, hE]
  · have hE : Ext st ⟨sh, sn⟩ := ((hx.fr [st.nx]).trans a4 (by simp)).ext (by simp)
    simp [go_sem, a1, fresults, resVals, resVal, a2, hrd, hE, a5]

end Go.Ev

/- Encode: what the program makes of octets. -/
namespace Go.Ev
open Go
set_option linter.unusedSimpArgs false
set_option linter.unusedVariables false

variable {T : Tab} {st : St}

theorem asubS_some {s : List UInt8} {i j : Int} {k k' : IntKind} (h0 : 0 ≤ i) (h1 : i ≤ j) (h2 : j ≤ s.length) : asubS s (some (.int k i)) (some (.int k' j)) = some (.str ((s.drop i.toNat).take (j.toNat - i.toNat))) := by
  simp only [asubS, abounds, bnd, abound]
  rw [if_pos ⟨by omega, h2⟩]
  simp only
  rw [if_pos ⟨h0, by omega⟩]

theorem cellsEqK_bools : ∀ (x y : List Bool), x.length = y.length → cellsEqK (List.replicate x.length .b) (bools x) (bools y) = some (decide (x = y))
  | [], [], _ => rfl
  | a :: x, b :: y, h => by
    simp only [List.length_cons, Nat.add_right_cancel_iff] at h
    have ih := cellsEqK_bools x y h
    simp only [bools, List.length_cons, List.replicate_succ, List.map_cons, cellsEqK, cellEqK] at ih ⊢
    cases hab : (a == b) with
    | true =>
      simp only
      rw [ih]
      have : a = b := by simpa using hab
      subst this
      simp
    | false =>
      simp only
      have : ¬ a = b := by simpa using hab
      rw [if_pos (by simp [h])]
      simp [this]

def white : List Bool := List.replicate 128 false
theorem white_length : white.length = 128 := by simp [white]
/-- A white row below a white one. -/
theorem encRow_white {w : Nat} (h1 : 1 ≤ w) (h2 : w ≤ 128) : encRow white white w 129 (-1) false = [true] := by
  have hb : ∀ i : Int, bit white i = false := fun i => by
    rw [bit, white, List.getD_eq_getElem?_getD, List.getElem?_replicate]
    split <;> rfl
  have hf : ∀ {p : Int → Bool} (hp : ∀ i, p i = false) (n : Nat) (i : Int), firstN p i n = i + n := by
    intro p hp n
    induction n with
    | zero => intro i; simp [firstN]
    | succ n ih => intro i; simp only [firstN, hp]; rw [if_neg (by simp), ih]; omega
  have hB : encB white (w : Int) (-1) false = w := by
    unfold encB firstZ
    rw [hf (fun i => by simp [edgeP, hb])]
    omega
  have hP : encP white (w : Int) (-1) false = w := by
    unfold encP firstZ
    rw [hf (fun i => by simp [hb])]
    omega
  have hD : encD white (w : Int) (-1) false = w := by
    unfold encD
    rw [hB]
    unfold firstZ
    have : ((w : Int) - min ((w : Int) + 1) (w : Int)).toNat = 0 := by omega
    rw [this]
    simp only [firstN]
    omega
  have hstep : encStep white white (w : Int) (-1) false = ([(1, 1)], (w : Int), true) := by
    unfold encStep
    rw [hB, hP, hD, if_neg (by omega), if_pos (by omega)]
    simp [vertP]
  have hgo : ∀ n, encRow white white (w : Int) (n + 1) (w : Int) true = [] := fun n => by simp only [encRow]; rw [if_neg (by omega)]
  have h1 : ∀ n, encRow white white (w : Int) (n + 1 + 1) (-1) false = [true] := fun n => by
    rw [encRow, hstep, if_pos (by omega)]
    simp only
    rw [hgo]; rfl
  exact h1 127

/-- The bits of some rows; none where a row has a bit after its last pixel. -/
def encK (w n : Nat) : Nat → List UInt8 → List Bool → Option (List Bool)
  | 0, _, _ => some []
  | m + 1, s, before =>
    if cleanFrom (strBits (s.take n)) w = true then
      (encK w n m (s.drop n) (rowPart (strBits (s.take n)) w)).map (encRow (rowPart (strBits (s.take n)) w) before w 129 (-1) false ++ ·)
    else none

theorem cc_take_row {row before : List Bool} {wide a : Int} {x : Bool} (hr : row.length = 128) : ((coderCells row before wide a x).drop 0).take 128 = bools row := by
  rw [List.drop_zero, coderCells, List.take_append_of_le_length (by rw [bools_len]; omega), List.take_of_length_le (by rw [bools_len]; omega)]
theorem cc_take_before {row before : List Bool} {wide a : Int} {x : Bool} (hr : row.length = 128) (hb : before.length = 128) : ((coderCells row before wide a x).drop 128).take 128 = bools before := by
  rw [coderCells, List.drop_append, List.drop_eq_nil_of_le (by rw [bools_len]; omega), bools_len, hr]
  simp only [List.nil_append, Nat.sub_self, List.drop_zero]
  rw [List.take_append_of_le_length (by rw [bools_len]; omega), List.take_of_length_le (by rw [bools_len]; omega)]
theorem cc_put_row {row row' before : List Bool} {wide a : Int} {x : Bool} (hr : row.length = 128) (hr' : row'.length = 128) (hb : before.length = 128) :
    splice (coderCells row before wide a x) 0 (bools row') = coderCells row' before wide a x := by
  have := splice_mid (bools row') (bools row) (bools before ++ [.int .i64 wide, .int .i64 a, .bool x]) [] (by rw [bools_len, bools_len, hr, hr'])
  exact this
theorem cc_put_before {row before' before : List Bool} {wide a : Int} {x : Bool} (hr : row.length = 128) (hr' : before'.length = 128) (hb : before.length = 128) :
    splice (coderCells row before wide a x) 128 (bools before') = coderCells row before' wide a x := by
  have := splice_mid (bools before') (bools before) [.int .i64 wide, .int .i64 a, .bool x] (bools row) (by rw [bools_len, bools_len, hb, hr'])
  rw [bools_len, hr] at this
  exact this

theorem enc_loop (H : B.HasFax T) {s0 : List UInt8} {w n : Nat} {c o ty tc : Nat} {loc lc : Bool} (hs0 : s0.length ≤ 65536) (hw : 1 ≤ w) (hw' : w ≤ 128) (hn : n = (w + 7) / 8) (hco : c ≠ o) :
    ∀ (m i : Nat) (st : St) (nm : Nat) (v : AV) (L : List Bool) (e : Env) (row before : List Bool) (a : Int) (x : Bool), i + m * n = s0.length → row.length = 128 → before.length = 128 → st.Wf → WriterAt st o nm ty loc v L → c ≠ nm →
    hget st.h c = some (.cells tc lc (coderCells row before w a x)) → eget e 0 = .str s0 → eget e 1 = .int .i64 w → eget e 6 = .int .i64 n → eget e 7 = .ptr o 0 → eget e 8 = .ptr c 0 → eget e 9 = .int .i64 i →
    L.length + 6000 * m + 6000 < 1000000000000 →
    Res (run T (.loop B.fax_Encode_l0) e st) fun q e' s => ((q = .exit 0 ∧ ∃ bits, encK w n m (s0.drop i) before = some bits ∧ Wrote st s o nm ty loc (L ++ bits) ∧ eget e' 7 = .ptr o 0) ∨
      (q = .ret ∧ encK w n m (s0.drop i) before = none ∧ eget e' 4 = .str [] ∧ eget e' 5 = .int .i64 170)) ∧ Frm [o, nm, c] st s := by
  intro m
  induction m with
  | zero =>
    intro i st nm v L e row before a x hi hr hb hwf hW hcn hc h0 h1 h6 h7 h8 h9 hlen
    have hil : ¬ (i : Int) < s0.length := by omega
    rw [run_loop]
    simp (disch := omega) [B.fax_Encode_l0, go_sem, h0, h1, h6, h7, h8, h9, hil, encK, -List.reduceReplicate]
    exact ⟨⟨nm, v, by simpa using hW, .inl rfl⟩, .refl hwf _⟩
  | succ m ih =>
    intro i st nm v L e row before a x hi hr hb hwf hW hcn hc h0 h1 h6 h7 h8 h9 hlen
    have hlenA : L.length + 6000 < 1000000000000 := by omega
    have hlenB : ∀ E : List Bool, E.length ≤ 40 * 129 → (L ++ E).length + 6000 * m + 6000 < 1000000000000 := fun E hE => by rw [List.length_append]; omega
    have hmn : (m + 1) * n = m * n + n := by rw [Nat.add_mul, Nat.one_mul]
    have hn1 : 1 ≤ n := by omega
    have hn16 : n ≤ 16 := by omega
    have hil : (i : Int) < s0.length := by omega
    have hlen1 : ((s0.drop i).take n).length = n := by simp; omega
    have hin : ((i : Int) + n).toNat - i = n := by omega
    rw [run_loop]
    simp (disch := omega) [B.fax_Encode_l0, go_sem, h0, h1, h6, h7, h8, h9, hil, wrap64, asubS_some, -List.reduceReplicate, hin]
    refine (unpack_tells H hwf (s := (s0.drop i).take n) (w := w) (by omega) hw' (by omega)).use fun s1 hs1 => ?_
    simp only [encK]
    generalize hR : rowPart (strBits ((s0.drop i).take n)) w = R
    have hRl : R.length = 128 := by rw [← hR, rowPart_length]
    generalize cleanFrom (strBits ((s0.drop i).take n)) w = ok
    have hEl := encRow_length R before (w := (w : Int)) (by omega) (by omega) 129 (-1) false (by omega)
    generalize hER : encRow R before (w : Int) 129 (-1) false = ER at hEl
    have hc1 := hs1.get hwf hc
    have hx2 := Ext.new hs1.wf (.cells 54 true (bools R))
    have hgx : hget ((s1.nx, AObj.cells 54 true (List.replicate 128 (.bool false))) :: s1.h) s1.nx = some (.cells 54 true (List.replicate 128 (.bool false))) := by simp [hget_cons, -List.reduceReplicate]
    have hwA := wr_all hgx (vs := bools R) (by simp [bools_len, hRl, -List.reduceReplicate]) (bools_sc _)
    rw [hset_cons, if_pos rfl] at hwA
    have hRl' : (bools R).length = 128 := by rw [bools_len, hRl]
    simp (disch := omega) [go_sem, -List.reduceReplicate, hRl', hwA]
    cases ok with
    | false =>
      simp (disch := omega) [go_sem, -List.reduceReplicate]
      exact ((hs1.trans hx2).fr _)
    | true =>
      obtain ⟨x2, hx2e⟩ : ∃ x2, x2 = s1.nx := ⟨_, rfl⟩
      rw [← hx2e] at hx2 hgx hwA ⊢
      obtain ⟨h2, hh2⟩ : ∃ h2, h2 = (x2, AObj.cells 54 true (bools R)) :: s1.h := ⟨_, rfl⟩
      rw [← hh2] at hx2 ⊢
      have hcl : c < st.nx := hwf.lt _ _ hc
      have hol : o < st.nx := hwf.lt _ _ hW.at'
      have hnl : nm < st.nx := hW.lt
      have hs1n := hs1.nx
      have hg2 : hget h2 x2 = some (.cells 54 true (bools R)) := by rw [hh2, hget_cons, if_pos rfl]
      have hc2 : hget h2 c = some (.cells tc lc (coderCells row before w a x)) := hx2.get hs1.wf hc1
      have hr2 := rd_all hg2 hRl'
      have hwr := wr_part hc2 (o := 0) (vs := bools R) (by rw [cc_len hr hb, hRl']; omega) (bools_sc _)
      rw [cc_put_row hr hRl hb] at hwr
      obtain ⟨h3, hh3⟩ : ∃ h3, h3 = hset h2 c (.cells tc lc (coderCells R before w a x)) := ⟨_, rfl⟩
      rw [← hh3] at hwr
      have hF3 : Frm [c] ⟨h2, x2 + 1⟩ ⟨h3, x2 + 1⟩ := by rw [hh3]; exact Frm.set hx2.wf hc2
      have hg3 : hget h3 x2 = some (.cells 54 true (bools R)) := hF3.get hx2.wf hg2 (by simp; omega)
      have hc3 : hget h3 c = some (.cells tc lc (coderCells R before w a x)) := by rw [hh3, hget_hset hc2, if_pos rfl]
      have hr3 := rd_all hg3 hRl'
      have hrb := rd_part hc3 (o := 128) (k := 128) (by rw [cc_len hRl hb]; omega)
      rw [cc_take_before hRl hb] at hrb
      have heq1 := cellsEqK_bools R before (by omega)
      have heq2 := cellsEqK_bools R white (by rw [white_length]; omega)
      rw [hRl] at heq1 heq2
      rw [show bools white = List.replicate 128 (AV.bool false) by simp [bools, white, -List.reduceReplicate]] at heq2
      have hW3 : WriterAt ⟨h3, x2 + 1⟩ o nm ty loc v L := by
        have h := (hW.ext hwf hs1).ext hs1.wf hx2
        exact ⟨hF3.get hx2.wf h.at' (by simpa using fun h => hco h.symm), h.sl.frm hF3 hx2.wf (by simpa using fun h => hcn h.symm), h.ne, h.lt⟩
      have hF03 : Frm [o, nm, c] st ⟨h3, x2 + 1⟩ := ((hs1.trans hx2).fr _).trans hF3 (by simp)
      have hx2n : st.nx ≤ x2 := by omega
      by_cases hs : R = before
      · rw [decide_eq_true hs] at heq1
        by_cases hs2 : R = white
        · rw [decide_eq_true hs2] at heq2
          simp (disch := omega) [go_sem, -List.reduceReplicate, hRl', hr2, hwr, hr3, hrb, heq1, heq2]
          have hx4 := Ext.aside hF3.wf 12
          have hx5 := Ext.new hx4.wf (.cells 62 false (pairCells [(1, 1)]))
          refine put_use (st := ⟨_, _⟩) (l := [(1, 1)]) (n := nm) H rfl (by simp) (by simp) hx5.wf ((hW3.ext hF3.wf hx4).ext hx4.wf hx5) (p := x2 + 1 + 12) (tp := 62) (lp := false) (by simp [hget_cons, pairCells]) (by omega) (by omega) (by simp [pairBits, bitsMS_length]; omega) ?_
          intro s' n' v' hW' hn' hF'
          have hE1 : ER = [true] := by rw [← hER, ← hs, hs2]; exact encRow_white hw hw'
          rw [show pairBits [(1, 1)] = [true] from rfl, ← hE1] at hW'
          have hn' : n' = nm ∨ st.nx ≤ n' := hn'.imp id fun h => by simp at h; omega
          have hxs' : hget s'.h x2 = _ := hF'.get hx5.wf ((hx4.trans hx5).get hF3.wf hg3) (by simp; omega)
          have hk' : CoderAt s' c tc lc R before w := ⟨a, x, hF'.get hx5.wf ((hx4.trans hx5).get hF3.wf hc3) (by simp [hco, hcn])⟩
          have hFs : Frm [o, nm, c] st s' := (hF03.trans ((hx4.trans hx5).fr []) (by simp)).trans hF' (fun k hk => .inl (by simp at hk; rcases hk with rfl | rfl <;> simp))
          obtain ⟨a', x', hc'⟩ := hk'
          have hxs : hget s'.h x2 = some (.cells 54 true (bools R)) := hxs'
          have hrx' : rdCells s'.h x2 0 128 = some (bools R) := rd_all hxs hRl'
          have hwp := wr_part hc' (o := 128) (vs := bools R) (by rw [cc_len hRl hb, hRl']; omega) (bools_sc _)
          rw [cc_put_before hRl hRl hb] at hwp
          have hS := Frm.set (o := .cells tc lc (coderCells R R w a' x')) hFs.wf hc'
          have hnn : n' = nm ∨ st.nx ≤ n' := hn'
          have hcn' : c ≠ n' := by
            rcases hnn with h | h
            · rw [h]; exact hcn
            · omega
          simp (disch := omega) [go_sem, -List.reduceReplicate, hrx', hwp, hRl', wrap64]
          refine (ih (i + n) ⟨_, _⟩ n' v' (L ++ ER) _ R R a' x' (by omega) hRl hRl hS.wf ⟨hS.get hFs.wf hW'.at' (by simpa using fun h => hco h.symm), hW'.sl.frm hS hFs.wf (by simpa using fun h => hcn' h.symm), hW'.ne, hW'.lt⟩ hcn' (by rw [hget_hset hc', if_pos rfl]) ?_ ?_ ?_ ?_ ?_ ?_ (hlenB _ hEl)).mono ?_
          · simp [go_sem]
          · simp [go_sem]
          · simp [go_sem]
          · simp [go_sem]
          · simp [go_sem]
          · simp [go_sem]
          rintro q e' s3 ⟨h1, h2⟩
          have hFA : Frm [o, nm, c] st s3 := by
            refine (hFs.trans hS (by simp)).trans h2 ?_
            intro k hk
            simp at hk
            rcases hk with rfl | rfl | rfl
            · simp
            · rcases hnn with h | h
              · simp [h]
              · exact .inr h
            · simp
          refine ⟨?_, hFA⟩
          rcases h1 with ⟨rfl, bits, hb1, hb2, hb3⟩ | ⟨rfl, hb1, hb2⟩
          · refine .inl ⟨rfl, ER ++ bits, ⟨bits, hb1, rfl⟩, ?_, hb3⟩
            rw [← List.append_assoc]
            exact hb2.trans hFs.nx hnn
          · exact .inr ⟨rfl, hb1, hb2⟩

        · rw [decide_eq_false hs2] at heq2
          simp (disch := omega) [go_sem, -List.reduceReplicate, hRl', hr2, hwr, hr3, hrb, heq1, heq2]
          have hx4 := Ext.aside hF3.wf 12
          refine write_call (st := ⟨_, _⟩) (n := nm) H hRl hb (by omega) (by omega) hco hcn hx4.wf (hW3.ext hF3.wf hx4) hc3 hlenA ?_
          intro s' n' v' hW' hn' hk' hF'
          rw [hER] at hW'
          have hn' : n' = nm ∨ st.nx ≤ n' := hn'.imp id fun h => by simp at h; omega
          have hxs' : hget s'.h x2 = _ := hF'.get hx4.wf (hx4.get hF3.wf hg3) (by simp; omega)
          have hFs : Frm [o, nm, c] st s' := (hF03.trans (hx4.fr []) (by simp)).trans hF' (fun k hk => .inl hk)
          obtain ⟨a', x', hc'⟩ := hk'
          have hxs : hget s'.h x2 = some (.cells 54 true (bools R)) := hxs'
          have hrx' : rdCells s'.h x2 0 128 = some (bools R) := rd_all hxs hRl'
          have hwp := wr_part hc' (o := 128) (vs := bools R) (by rw [cc_len hRl hb, hRl']; omega) (bools_sc _)
          rw [cc_put_before hRl hRl hb] at hwp
          have hS := Frm.set (o := .cells tc lc (coderCells R R w a' x')) hFs.wf hc'
          have hnn : n' = nm ∨ st.nx ≤ n' := hn'
          have hcn' : c ≠ n' := by
            rcases hnn with h | h
            · rw [h]; exact hcn
            · omega
          simp (disch := omega) [go_sem, -List.reduceReplicate, hrx', hwp, hRl', wrap64]
          refine (ih (i + n) ⟨_, _⟩ n' v' (L ++ ER) _ R R a' x' (by omega) hRl hRl hS.wf ⟨hS.get hFs.wf hW'.at' (by simpa using fun h => hco h.symm), hW'.sl.frm hS hFs.wf (by simpa using fun h => hcn' h.symm), hW'.ne, hW'.lt⟩ hcn' (by rw [hget_hset hc', if_pos rfl]) ?_ ?_ ?_ ?_ ?_ ?_ (hlenB _ hEl)).mono ?_
          · simp [go_sem]
          · simp [go_sem]
          · simp [go_sem]
          · simp [go_sem]
          · simp [go_sem]
          · simp [go_sem]
          rintro q e' s3 ⟨h1, h2⟩
          have hFA : Frm [o, nm, c] st s3 := by
            refine (hFs.trans hS (by simp)).trans h2 ?_
            intro k hk
            simp at hk
            rcases hk with rfl | rfl | rfl
            · simp
            · rcases hnn with h | h
              · simp [h]
              · exact .inr h
            · simp
          refine ⟨?_, hFA⟩
          rcases h1 with ⟨rfl, bits, hb1, hb2, hb3⟩ | ⟨rfl, hb1, hb2⟩
          · refine .inl ⟨rfl, ER ++ bits, ⟨bits, hb1, rfl⟩, ?_, hb3⟩
            rw [← List.append_assoc]
            exact hb2.trans hFs.nx hnn
          · exact .inr ⟨rfl, hb1, hb2⟩

      · rw [decide_eq_false hs] at heq1
        simp (disch := omega) [go_sem, -List.reduceReplicate, hRl', hr2, hwr, hr3, hrb, heq1, heq2]
        have hx4 := Ext.aside hF3.wf 12
        refine write_call (st := ⟨_, _⟩) (n := nm) H hRl hb (by omega) (by omega) hco hcn hx4.wf (hW3.ext hF3.wf hx4) hc3 hlenA ?_
        intro s' n' v' hW' hn' hk' hF'
        rw [hER] at hW'
        have hn' : n' = nm ∨ st.nx ≤ n' := hn'.imp id fun h => by simp at h; omega
        have hxs' : hget s'.h x2 = _ := hF'.get hx4.wf (hx4.get hF3.wf hg3) (by simp; omega)
        have hFs : Frm [o, nm, c] st s' := (hF03.trans (hx4.fr []) (by simp)).trans hF' (fun k hk => .inl hk)
        obtain ⟨a', x', hc'⟩ := hk'
        have hxs : hget s'.h x2 = some (.cells 54 true (bools R)) := hxs'
        have hrx' : rdCells s'.h x2 0 128 = some (bools R) := rd_all hxs hRl'
        have hwp := wr_part hc' (o := 128) (vs := bools R) (by rw [cc_len hRl hb, hRl']; omega) (bools_sc _)
        rw [cc_put_before hRl hRl hb] at hwp
        have hS := Frm.set (o := .cells tc lc (coderCells R R w a' x')) hFs.wf hc'
        have hnn : n' = nm ∨ st.nx ≤ n' := hn'
        have hcn' : c ≠ n' := by
          rcases hnn with h | h
          · rw [h]; exact hcn
          · omega
        simp (disch := omega) [go_sem, -List.reduceReplicate, hrx', hwp, hRl', wrap64]
        refine (ih (i + n) ⟨_, _⟩ n' v' (L ++ ER) _ R R a' x' (by omega) hRl hRl hS.wf ⟨hS.get hFs.wf hW'.at' (by simpa using fun h => hco h.symm), hW'.sl.frm hS hFs.wf (by simpa using fun h => hcn' h.symm), hW'.ne, hW'.lt⟩ hcn' (by rw [hget_hset hc', if_pos rfl]) ?_ ?_ ?_ ?_ ?_ ?_ (hlenB _ hEl)).mono ?_
        · simp [go_sem]
        · simp [go_sem]
        · simp [go_sem]
        · simp [go_sem]
        · simp [go_sem]
        · simp [go_sem]
        rintro q e' s3 ⟨h1, h2⟩
        have hFA : Frm [o, nm, c] st s3 := by
          refine (hFs.trans hS (by simp)).trans h2 ?_
          intro k hk
          simp at hk
          rcases hk with rfl | rfl | rfl
          · simp
          · rcases hnn with h | h
            · simp [h]
            · exact .inr h
          · simp
        refine ⟨?_, hFA⟩
        rcases h1 with ⟨rfl, bits, hb1, hb2, hb3⟩ | ⟨rfl, hb1, hb2⟩
        · refine .inl ⟨rfl, ER ++ bits, ⟨bits, hb1, rfl⟩, ?_, hb3⟩
          rw [← List.append_assoc]
          exact hb2.trans hFs.nx hnn
        · exact .inr ⟨rfl, hb1, hb2⟩

open B in
def encodeC : MFun := ⟨2, [.t 4, .t 5], (.seq (.reg [⟨(some 4), none, .p (.mov (.k (.str [])))⟩, ⟨(some 5), none, .p (.mov (.k (.int .i64 0)))⟩]) (.seq (.seq (.reg [⟨(some 12), none, .p (.mov (.t 0))⟩, ⟨(some 13), none, .p (.lenOf true (.t 12))⟩, ⟨(some 14), none, .p (.bin .gtr (.t 13) (.k (.int .i64 65536)))⟩]) (.cond (.t 14) (.seq (.reg [⟨(some 4), none, .p (.mov (.k (.str [])))⟩, ⟨(some 5), none, .p (.mov (.k (.int .i64 3)))⟩]) .ret) .skip)) (.seq (.seq (.reg [⟨(some 15), none, .p (.mov (.t 1))⟩, ⟨(some 16), none, .p (.bin .lss (.t 15) (.k (.int .i64 1)))⟩, ⟨(some 17), none, .p (.mov (.t 16))⟩, ⟨(some 18), some (17, false), .p (.mov (.t 1))⟩, ⟨(some 19), some (17, false), .p (.bin .gtr (.t 18) (.k (.int .i64 128)))⟩, ⟨(some 20), none, .p (.pick (.t 17) (.k (.bool true)) (.t 19))⟩]) (.cond (.t 20) (.seq (.reg [⟨(some 4), none, .p (.mov (.k (.str [])))⟩, ⟨(some 5), none, .p (.mov (.k (.int .i64 2)))⟩]) .ret) .skip)) (.seq (.keep [0, 1]) (.seq (.reg [⟨(some 21), none, .p (.mov (.t 1))⟩, ⟨(some 22), none, .w (.call (.k (.fn 16 [] [])) [(.t 21)])⟩, ⟨(some 6), none, .p (.mov (.t 22))⟩]) (.seq (.seq (.reg [⟨(some 23), none, .p (.mov (.t 0))⟩, ⟨(some 24), none, .p (.lenOf true (.t 23))⟩, ⟨(some 25), none, .p (.mov (.t 6))⟩, ⟨(some 26), none, .p (.bin .rem (.t 24) (.t 25))⟩, ⟨(some 27), none, .p (.bin .neq (.t 26) (.k (.int .i64 0)))⟩]) (.cond (.t 27) (.seq (.reg [⟨(some 4), none, .p (.mov (.k (.str [])))⟩, ⟨(some 5), none, .p (.mov (.k (.int .i64 170)))⟩]) .ret) .skip)) (.seq (.reg [⟨(some 28), none, .p (.build [.nilslice, (.int .i64 0)] [])⟩, ⟨(some 29), none, .n (.box 51 false (.t 28))⟩, ⟨(some 7), none, .p (.mov (.t 29))⟩]) (.seq (.reg [⟨(some 30), none, .p (.mov (.t 1))⟩, ⟨(some 31), none, .p (.build (coderCells white white 0 0 false) [(256, 1, (.t 30))])⟩, ⟨(some 32), none, .n (.box 58 false (.t 31))⟩, ⟨(some 8), none, .p (.mov (.t 32))⟩]) (.seq (.seq (.reg [⟨(some 9), none, .p (.mov (.k (.int .i64 0)))⟩]) (.block 0 (.loop fax_Encode_l0))) (.seq (.keep [7]) (.seq (.reg [⟨(some 82), none, .p (.mov (.t 7))⟩, ⟨(some 83), none, .p (.build [(.int .i64 0), (.int .i64 0)] [(0, 1, (.k (.int .i64 1))), (1, 1, (.k (.int .i64 8)))])⟩, ⟨(some 84), none, .n (.buildSl 62 1 [(.int .i64 0), (.int .i64 0)] [(0, 2, (.t 83))])⟩, ⟨(some 85), none, .w (.call (.k (.fn 18 [] [])) [(.t 82), (.t 84)])⟩]) (.seq (.seq (.reg [⟨(some 86), none, .p (.mov (.t 7))⟩, ⟨(some 87), none, .p (.nilck (.t 86))⟩, ⟨(some 88), none, .p (.faddr 0 (.t 87))⟩, ⟨(some 89), none, .r (.load none (.t 88))⟩, ⟨(some 90), none, .p (.lenOf false (.t 89))⟩, ⟨(some 91), none, .p (.bin .gtr (.t 90) (.k (.int .i64 65536)))⟩]) (.cond (.t 91) (.seq (.reg [⟨(some 4), none, .p (.mov (.k (.str [])))⟩, ⟨(some 5), none, .p (.mov (.k (.int .i64 3)))⟩]) .ret) .skip)) (.seq (.keep [7]) (.seq (.reg [⟨(some 92), none, .p (.mov (.t 7))⟩, ⟨(some 93), none, .p (.nilck (.t 92))⟩, ⟨(some 94), none, .p (.faddr 0 (.t 93))⟩, ⟨(some 95), none, .r (.load none (.t 94))⟩, ⟨(some 96), none, .r (.b2s (.t 95))⟩, ⟨(some 4), none, .p (.mov (.t 96))⟩, ⟨(some 5), none, .p (.mov (.k (.int .i64 0)))⟩]) .ret))))))))))))))⟩
set_option maxRecDepth 20000 in
theorem encodeC_eq : B.fax_Encode = encodeC := rfl

theorem cc_set_wide {row before : List Bool} {wide at' : Int} {black : Bool} (hr : row.length = 128) (hb : before.length = 128) (a : Int) :
    (coderCells row before wide at' black).set 256 (.int .i64 a) = coderCells row before a at' black := by
  simp only [coderCells]
  rw [List.set_append_right _ _ (by rw [bools_len]; omega), List.set_append_right _ _ (by rw [bools_len, bools_len]; omega), bools_len, bools_len, hr, hb]
  rfl

theorem toBytes_octs : ∀ l : List Nat, toBytes (octs l) = some (l.map UInt8.ofNat)
  | [] => rfl
  | a :: l => by
    have := toBytes_octs l
    simp only [octs, List.map_cons, toBytes] at this ⊢
    rw [this]; rfl

/-- What Encode answers: the octets, and the error. -/
def encSpec (s : List UInt8) (w : Int) : List UInt8 × Int :=
  if 65536 < s.length then ([], 3) else if w < 1 ∨ 128 < w then ([], 2)
  else if s.length % ((w.toNat + 7) / 8) ≠ 0 then ([], 170)
  else match encK w.toNat ((w.toNat + 7) / 8) (s.length / ((w.toNat + 7) / 8)) s white with
    | none => ([], 170)
    | some bits => if 65536 < (packN (bits ++ bitsMS 1 8)).length then ([], 3) else ((packN (bits ++ bitsMS 1 8)).map UInt8.ofNat, 0)

theorem encK_length {w n : Nat} (hw : 1 ≤ w) (hw' : w ≤ 128) : ∀ (m : Nat) (s : List UInt8) (before : List Bool) (bits : List Bool), encK w n m s before = some bits → bits.length ≤ 5160 * m
  | 0, s, before, bits, h => by simp [encK] at h; simp [← h]
  | m + 1, s, before, bits, h => by
    simp only [encK] at h
    split at h
    · cases h1 : encK w n m (s.drop n) (rowPart (strBits (s.take n)) w) with
      | none => rw [h1] at h; cases h
      | some b =>
        rw [h1] at h
        simp only [Option.map_some, Option.some.injEq] at h
        have h2 := encK_length hw hw' m _ _ b h1
        have h3 := encRow_length (rowPart (strBits (s.take n)) w) before (w := (w : Int)) (by omega) (by omega) 129 (-1) false (by omega)
        rw [← h, List.length_append]
        omega
    · cases h

/-- A writer's block is of its own making. -/
theorem WriterAt.own {s : St} {o ty n n' b c : Nat} {loc : Bool} {v v' : AV} {L L' : List Bool} (h : WriterAt s o n ty loc v L) (h' : WriterAt s o n' ty loc v' L') (hn : n = 0 ∨ b ≤ n) (hn' : n' = 1 ∨ b ≤ n') (hb : 1 < b) (hc : b ≤ c) (hco : c ≠ o) (hcl : c < s.nx) :
    ∃ n4, WriterAt s o n4 ty loc v L ∧ b ≤ n4 := by
  have hv : v' = v := by
    have := h.at'.symm.trans h'.at'
    simp at this
    exact this.1.symm
  have key : ∀ {cp : Cap} {k : Nat}, v = .slice n 0 k cp → b ≤ n := by
    intro cp k e
    have : n' = n := by
      rcases h'.sl with ⟨h1, h2, h3⟩ | ⟨h1, h2, h3⟩ | ⟨ty', h1, h2, h3⟩ <;> rw [hv, e] at h1 <;> simp at h1 <;> first | exact h1.1.symm | exact h1.symm
    omega
  rcases hsl : h.sl with ⟨h1, h2, h3⟩ | ⟨h1, h2, h3⟩ | ⟨ty', h1, h2, h3⟩
  · exact ⟨c, ⟨h.at', .nil h1 h2 h3, hco, hcl⟩, hc⟩
  · exact ⟨n, h, key h1⟩
  · exact ⟨n, h, key h1⟩

theorem encode_tells (H : B.HasFax T) (hwf : st.Wf) (h0 : 1 < st.nx) (s : List UInt8) (w : Int) (hs : s.length < 4611686018427387904) :
    Tells T st (.fn 9 [] []) [.str s, .int .i64 w] (.tuple [.str (encSpec s w).1, .int .i64 (encSpec s w).2]) := by
  refine tells_of H.e9 (encodeC_eq ▸ H.f9) rfl ?_
  generalize hV : encSpec s w = V
  unfold encSpec at hV
  by_cases hl : 65536 < s.length
  · have hl' : (65536 : Int) < s.length := by omega
    rw [if_pos hl] at hV
    simp (disch := omega) [encodeC, go_sem, hl', hl, Ext.refl hwf, ← hV]
  have hl' : ¬ (65536 : Int) < s.length := by omega
  rw [if_neg hl] at hV
  by_cases hw : w < 1
  · rw [if_pos (.inl hw)] at hV
    simp (disch := omega) [encodeC, go_sem, hl', hl, hw, Ext.refl hwf, ← hV]
  by_cases hw2 : 128 < w
  · rw [if_pos (.inr hw2)] at hV
    simp (disch := omega) [encodeC, go_sem, hl', hl, hw, hw2, Ext.refl hwf, ← hV]
  obtain ⟨w, rfl⟩ := Int.eq_ofNat_of_zero_le (show 0 ≤ w by omega)
  rw [if_neg (by omega)] at hV
  obtain ⟨n, hn⟩ : ∃ n, n = (w + 7) / 8 := ⟨_, rfl⟩
  simp only [Int.toNat_natCast] at hV
  rw [← hn] at hV
  have hw' : ¬ (w : Int) < 1 := hw
  have hoct := octets_tells (T := T) H hwf (w := (w : Int)) (by omega) (by omega)
  rw [show ((w : Int) + 7) / 8 = (n : Nat) by omega] at hoct
  have hmod : (s.length : Int).tmod n = ((s.length % n : Nat) : Int) := by rw [Int.tmod_eq_emod_of_nonneg (by omega)]; simp
  simp (disch := omega) [encodeC, go_sem, hl', hw', hw2]
  refine hoct.use fun s1 hs1 => ?_
  have hn0 : ¬ n = 0 := by omega
  by_cases hd : s.length % n = 0
  · have hd' : (s.length : Int) % n = 0 := by exact_mod_cast hd
    rw [if_neg (fun h => h hd)] at hV
    have hmul : s.length / n * n = s.length := Nat.div_mul_cancel (Nat.dvd_of_mod_eq_zero hd)
    have hqs : s.length / n ≤ 65536 := Nat.le_trans (Nat.div_le_self _ _) (by omega)
    obtain ⟨m, hm⟩ : ∃ m, m = s.length / n := ⟨_, rfl⟩
    rw [← hm] at hmul hqs hV
    have hx1 := Ext.new hs1.wf (.cells 51 false [.nilslice, .int .i64 0])
    have hx2 := Ext.new hx1.wf (.cells 58 false (coderCells white white w 0 false))
    have hcl : (coderCells white white 0 0 false).length = 259 := cc_len white_length white_length
    have hac : ∀ x y z, acells (.agg (coderCells white white x y z)) = coderCells white white x y z := fun _ _ _ => rfl
    have hs1n := hs1.nx
    simp (disch := omega) [go_sem, hmod, hd', hn0, hcl, cc_set_wide white_length white_length, hac]
    refine (Res.and (enc_loop (s0 := s) (n := n) (o := s1.nx) (c := s1.nx + 1) (ty := 51) (loc := false) (tc := 58) (lc := false) H (by omega) (by omega) (by omega) hn (by omega) m 0 ⟨_, _⟩ 0 .nilslice [] _ white white 0 false (by omega) white_length white_length hx2.wf
      ⟨by simp [hget_cons], .nil rfl rfl rfl, by omega, by simp⟩ (by omega) (by simp [hget_cons]) ?_ ?_ ?_ ?_ ?_ ?_ (by simp; omega)) (enc_loop (s0 := s) (n := n) (o := s1.nx) (c := s1.nx + 1) (ty := 51) (loc := false) (tc := 58) (lc := false) H (by omega) (by omega) (by omega) hn (by omega) m 0 ⟨_, _⟩ 1 .nilslice [] _ white white 0 false (by omega) white_length white_length hx2.wf
      ⟨by simp [hget_cons], .nil rfl rfl rfl, by omega, by simp⟩ (by omega) (by simp [hget_cons]) ?_ ?_ ?_ ?_ ?_ ?_ (by simp; omega))).mono ?_
    iterate 12 · simp [go_sem]
    rintro q e s2 ⟨⟨h1, hF⟩, h1', hF'⟩
    have hE2 : Ext st s2 := by
      have hA := (((hs1.trans hx1).trans hx2).fr [s1.nx, 0, s1.nx + 1]).trans hF (fun k hk => .inl hk)
      have hB := (((hs1.trans hx1).trans hx2).fr [s1.nx, 1, s1.nx + 1]).trans hF' (fun k hk => .inl hk)
      refine hA.both hB ?_
      intro k h1 h2
      simp at h1 h2
      omega
    rw [List.drop_zero] at h1
    rcases h1 with ⟨rfl, bits, hb1, ⟨n3, v3, hW3, hn3⟩, h7⟩ | ⟨rfl, hb1, h4, h5⟩
    · rw [hb1] at hV
      simp only at hV
      obtain ⟨bits', n3', v3', hW3', hn3'⟩ : ∃ bits' n3' v3', WriterAt s2 s1.nx n3' 51 false v3' bits' ∧ (n3' = 1 ∨ s1.nx + 1 + 1 ≤ n3') := by
        rcases h1' with ⟨-, bits', hb1', ⟨n3', v3', hW3', hn3'⟩, -⟩ | ⟨h, -⟩
        · exact ⟨_, n3', v3', hW3', hn3'⟩
        · cases h
      have hE2n := hF.nx
      simp only at hE2n
      replace hn3 : n3 = 0 ∨ s1.nx ≤ n3 := hn3.imp id fun h => by simp at h; omega
      replace hn3' : n3' = 1 ∨ s1.nx ≤ n3' := hn3'.imp id fun h => by omega
      obtain ⟨n4, hW4, hn4⟩ := hW3.own hW3' hn3 hn3' (by omega) (c := s1.nx + 1) (by omega) (by omega) (by omega)
      clear hW3 hn3
      have hW3 := hW4
      have hbl := encK_length (by omega) (by omega) _ _ _ _ hb1
      rw [List.nil_append] at hW3
      simp (disch := omega) [go_sem, h7]
      have hx5 := Ext.new hE2.wf (.cells 62 false (pairCells [(1, 8)]))
      have hol := hW3.lt
      refine put_use (st := ⟨_, _⟩) (l := [(1, 8)]) (n := n4) H rfl (by simp) (by simp) hx5.wf (hW3.ext hE2.wf hx5) (p := s2.nx) (tp := 62) (lp := false) (by simp [hget_cons, pairCells]) (by omega) (by omega) (by simp [pairBits, bitsMS_length]; omega) ?_
      intro s' n' v' hW' hn' hF3
      rw [show pairBits [(1, 8)] = bitsMS 1 8 from by simp [pairBits]] at hW'
      have hE3 : Ext st s' := ((hE2.trans hx5).fr [s1.nx, n4]).trans hF3 (fun k hk => .inl hk) |>.ext (fun k hk => by
        simp at hk
        rcases hk with rfl | rfl
        · exact hs1n
        · omega)
      have hr0 : rdCell s'.h s1.nx 0 = some v' := by simp [rdCell, hW'.at']
      have hpl := packN_length (bits ++ bitsMS 1 8)
      have hol2 : (octs (packN (bits ++ bitsMS 1 8))).length = ((bits ++ bitsMS 1 8).length + 7) / 8 := by simp [octs, packN_length]
      have hk8 : (bits ++ bitsMS 1 8).length = bits.length + 8 := by simp [bitsMS_length]
      rw [hpl] at hV
      generalize hk : ((bits ++ bitsMS 1 8).length + 7) / 8 = k at hV hpl hol2 hW'
      have hkk : ((bits ++ bitsMS 1 8).length + 7) / 8 = k := hk
      have hb2 := toBytes_octs (packN (bits ++ bitsMS 1 8))
      have hsl : SlAt s'.h v' n' 5 1 k (octs (packN (bits ++ bitsMS 1 8))) := by have := hW'.sl; rw [hkk] at this; exact this
      obtain ⟨cp, hv', hrd⟩ : ∃ cp, v' = .slice n' 0 k cp ∧ rdCells s'.h n' 0 k = some (octs (packN (bits ++ bitsMS 1 8))) := by
        rcases hsl with ⟨h1, h2, h3⟩ | ⟨h1, h2, h3⟩ | ⟨ty', h1, h2, h3⟩
        · omega
        · refine ⟨_, h1, ?_⟩
          simp only [rdCells, h2]
          rw [if_pos (by omega), List.drop_zero, List.take_of_length_le (by omega)]
        · exact ⟨_, h1, rd_all h2 (by omega)⟩
      subst hv'
      by_cases hbig : 65536 < k
      · have hbig' : (65536 : Int) < k := by omega
        rw [if_pos hbig] at hV
        simp (disch := omega) [go_sem, hr0, hbig', hE3, ← hV]
      · have hbig' : ¬ (65536 : Int) < k := by omega
        rw [if_neg hbig] at hV
        simp (disch := omega) [go_sem, hr0, hbig', hE3, ← hV, hrd, hb2]
    · rw [hb1] at hV
      simp [go_sem, h4, h5, hE2, ← hV]
  · have hd' : ¬ (s.length : Int) % n = 0 := by exact_mod_cast hd
    rw [if_pos hd] at hV
    simp (disch := omega) [go_sem, hmod, hd, hd', hs1, hn0, ← hV]

end Go.Ev
