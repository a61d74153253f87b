/- Lists that grow: a slice value, and the cells that it holds. -/
import Derived.Test.YtodphnhkhnebcaaDoorP04
import Derived.Test.YtodphnhkhnebcaaDoorP05
namespace Go.Ev
open Go
set_option linter.unusedSimpArgs false
set_option linter.unusedVariables false

variable {T : Tab} {st : St}

/-- The state by what is known of it. -/
theorem Res.abs {c : MCode} {e : Env} {st : St} {Q : Ex → Env → St → Prop} (P : St → Prop) (hP : P st) (h : ∀ s, P s → Res (run T c e s) Q) : Res (run T c e st) Q := h st hP
theorem Res.and {r : Option (Ex × Env × St)} {P Q : Ex → Env → St → Prop} (a : Res r P) (b : Res r Q) : Res r fun x e s => P x e s ∧ Q x e s := by
  unfold Res at *
  split at a
  · exact ⟨a, b⟩
  · exact a.elim
theorem Frm.both {S R : List Nat} {st st' : St} (a : Frm S st st') (b : Frm R st st') (h : ∀ n ∈ S, n ∈ R → st.nx ≤ n) : Ext st st' :=
  ⟨a.nx, a.wf, fun n hn => by
    by_cases h1 : n ∈ S
    · by_cases h2 : n ∈ R
      · have := h n h1 h2; omega
      · exact b.keep n hn h2
    · exact a.keep n hn h1⟩
theorem Frm.hdel (h : st.Wf) (n : Nat) : Frm [n] st ⟨hdel st.h n, st.nx⟩ :=
  ⟨Nat.le_refl _, ⟨fun m q hq => by
    rw [hget_hdel] at hq
    split at hq
    · cases hq
    · exact h.lt _ _ hq, h.nd.sublist hdel_sub⟩, fun m hm hs => by
    rw [hget_hdel, if_neg]
    rintro rfl
    exact hs List.mem_cons_self⟩
theorem Frm.refl (h : st.Wf) (S : List Nat) : Frm S st st := (Ext.refl h).fr S

/-- A new object is written. -/
theorem Ext.setNew {st s : St} (a : Ext st s) {n : Nat} {o p : AObj} (hg : hget s.h n = some p) (hn : st.nx ≤ n) : Ext st ⟨hset s.h n o, s.nx⟩ :=
  ((a.fr []).trans (Frm.set a.wf hg) (fun m hm => .inr (by simp at hm; omega))).ext (by simp)

/-- What a slice holds: nothing, a block that has grown, or a block just made. -/
inductive SlAt (h : Heap) (v : AV) (n ty es k : Nat) (cs : List AV) : Prop where
  | nil : v = .nilslice → cs = [] → k = 0 → SlAt h v n ty es k cs
  | buf : v = .slice n 0 k .full → hget h n = some (.buf ty es cs) → cs.length = k * es → SlAt h v n ty es k cs
  | made (ty' : Nat) : v = .slice n 0 k (.known k) → hget h n = some (.cells ty' false cs) → cs.length = k * es → SlAt h v n ty es k cs

theorem SlAt.len {h : Heap} {v : AV} {n ty es k : Nat} {cs : List AV} (a : SlAt h v n ty es k cs) : cs.length = k * es := by
  rcases a with ⟨_, h2, h3⟩ | ⟨_, _, h⟩ | ⟨_, _, _, h⟩
  · subst h2; subst h3; simp
  · exact h
  · exact h

/-- The slice itself, seen by another state. -/
theorem SlAt.frm {st st' : St} {v : AV} {n ty es k : Nat} {cs : List AV} {S : List Nat} (a : SlAt st.h v n ty es k cs) (f : Frm S st st') (hw : st.Wf) (hn : n ∉ S) : SlAt st'.h v n ty es k cs := by
  rcases a with ⟨h1, h2, h3⟩ | ⟨h1, h2, h3⟩ | ⟨ty', h1, h2, h3⟩
  · exact .nil h1 h2 h3
  · exact .buf h1 (f.get hw h2 hn) h3
  · exact .made ty' h1 (f.get hw h2 hn) h3
theorem SlAt.ext {st st' : St} {v : AV} {n ty es k : Nat} {cs : List AV} (a : SlAt st.h v n ty es k cs) (f : Ext st st') (hw : st.Wf) : SlAt st'.h v n ty es k cs := a.frm (f.fr []) hw (by simp)

theorem SlAt.lenOf {h : Heap} {v : AV} {n ty es k : Nat} {cs : List AV} {ev : AO → AV} {x : AO} (a : SlAt h v n ty es k cs) (hx : ev x = v) : PO.run ev (.lenOf false x) = some (.int .i64 k) := by
  rcases a with ⟨h1, h2, h3⟩ | ⟨h1, h2, h3⟩ | ⟨ty', h1, h2, h3⟩
  · subst h3; simp [PO.run, hx, h1]
  · simp [PO.run, hx, h1]
  · simp [PO.run, hx, h1]

theorem SlAt.src {h : Heap} {v : AV} {n ty es k : Nat} {cs : List AV} (a : SlAt h v n ty es k cs) : srcCells h es v = some (k, cs) := by
  rcases a with ⟨h1, h2, h3⟩ | ⟨h1, h2, h3⟩ | ⟨ty', h1, h2, h3⟩
  · subst h1; subst h2; subst h3; rfl
  · subst h1; simp only [srcCells, rdCells, h2]; rw [if_pos (by omega)]; simp [← h3]
  · subst h1; simp only [srcCells, rdCells, h2]; rw [if_pos (by omega)]; simp [← h3]

/-- What append makes. -/
structure Grown (st : St) (n ty es k : Nat) (cs : List AV) (v : AV) (s : St) (n' : Nat) : Prop where
  sl : SlAt s.h v n' ty es k cs
  frm : Frm [n] st s
  new : n' = n ∨ st.nx ≤ n'
  lt : n < st.nx → n' < s.nx

theorem SlAt.append (hwf : st.Wf) {v x : AV} {n ty es k j b : Nat} {cs new : List AV} (a : SlAt st.h v n ty es k cs) (hx : srcCells st.h es x = some (j, new)) (hj : new.length = j * es)
    (hsc : new.all AV.sc = true) (hb : (k + j) * b ≤ 35184372088832) (hb' : k + j ≤ 35184372088832) (hm : 0 < j ∨ ¬ ∃ c, v = .slice n 0 k (.known c)) :
    CRes (aappend ty es b st v x) fun v' s => ∃ n', Grown st n ty es (k + j) (cs ++ new) v' s n' := by
  unfold aappend
  rw [hx]
  simp only
  have hnil0 : j = 0 → new = [] := fun h => List.length_eq_zero_iff.1 (by rw [hj, h]; simp)
  rcases a with ⟨h1, h2, h3⟩ | ⟨h1, h2, h3⟩ | ⟨ty', h1, h2, h3⟩
  · subst h1; subst h2; subst h3
    simp only [Nat.zero_add] at hb hb' ⊢
    by_cases hj0 : j = 0
    · rw [if_pos hj0]
      exact ⟨n, .nil rfl (by rw [hnil0 hj0]; rfl) hj0, .refl hwf _, .inl rfl, id⟩
    · rw [if_neg hj0, if_pos ⟨hb, hb'⟩]
      refine ⟨st.nx, .buf rfl (by simp [hget]) (by simpa using hj), (Ext.new hwf _).fr _, .inr (Nat.le_refl _), fun _ => Nat.lt_succ_self _⟩
  · subst h1
    simp only
    rw [if_pos ⟨hb, hb'⟩]
    simp only [h2]
    rw [if_pos ⟨trivial, trivial, trivial, h3, hsc⟩]
    by_cases hj0 : j = 0
    · rw [if_pos hj0]
      refine ⟨n, ?_, .refl hwf _, .inl rfl, id⟩
      subst hj0
      rw [hnil0 rfl]
      exact .buf rfl (by simpa using h2) (by simpa using h3)
    · rw [if_neg hj0]
      refine ⟨st.nx, .buf rfl (by simp [hget]) (by simp [h3, hj, Nat.add_mul]), ?_, .inr (Nat.le_refl _), fun _ => Nat.lt_succ_self _⟩
      exact (Frm.hdel hwf n).trans ((Ext.new (Frm.hdel hwf n).wf _).fr [n]) (by simp)
  · subst h1
    simp only
    have hj0 : 0 < j := by
      rcases hm with h | h
      · exact h
      · exact absurd ⟨k, rfl⟩ h
    rw [if_pos ⟨hb, hb'⟩, if_neg (by omega)]
    simp only [rdCells, h2]
    rw [if_pos (by omega)]
    refine ⟨st.nx, .buf rfl (by simp [hget, ← h3]) (by simp [h3, hj, Nat.add_mul]), (Ext.new hwf _).fr _, .inr (Nat.le_refl _), fun _ => Nat.lt_succ_self _⟩

/-- The value that append makes is no block just made. -/
theorem SlAt.grown_full {h : Heap} {n ty es k : Nat} {cs : List AV} (ty' : Nat) (hg : hget h n = some (.buf ty es cs)) (hl : cs.length = k * es) : SlAt h (.slice n 0 k .full) n ty es k cs := .buf rfl hg hl

theorem SlAt.rd {h : Heap} {v : AV} {n ty es k : Nat} {cs : List AV} (a : SlAt h v n ty es k cs) {o : Nat} (ho : o < cs.length) : rdCell h n o = cs[o]? := by
  rcases a with ⟨h1, h2, h3⟩ | ⟨h1, h2, h3⟩ | ⟨ty', h1, h2, h3⟩
  · subst h2; simp at ho
  · simp [rdCell, h2]
  · simp [rdCell, h2]
theorem SlAt.iaddr {h : Heap} {v : AV} {n ty es k : Nat} {cs : List AV} (a : SlAt h v n ty es k cs) {ev : AO → AV} {x i : AO} {kk : IntKind} {j : Int} (hx : ev x = v) (hi : ev i = .int kk j) (h0 : 0 ≤ j) (hk : j < k) :
    PO.run ev (.iaddrS es x i) = some (.ptr n (j.toNat * es)) := by
  rcases a with ⟨h1, h2, h3⟩ | ⟨h1, h2, h3⟩ | ⟨ty', h1, h2, h3⟩
  · omega
  · simp [PO.run, hx, hi, h1, h0, hk]
  · simp [PO.run, hx, hi, h1, h0, hk]
theorem SlAt.store (hwf : st.Wf) {v : AV} {n ty es k : Nat} {cs : List AV} (a : SlAt st.h v n ty es k cs) {o : Nat} (ho : o < cs.length) {x : AV} (hx : x.sc = true) :
    ∃ h', wrCells st.h n o [x] = some h' ∧ SlAt h' v n ty es k (cs.set o x) ∧ Frm [n] st ⟨h', st.nx⟩ := by
  rcases a with ⟨h1, h2, h3⟩ | ⟨h1, h2, h3⟩ | ⟨ty', h1, h2, h3⟩
  · subst h2; simp at ho
  · exact ⟨_, wr_buf h2 hx ho, .buf h1 (by rw [hget_hset h2, if_pos rfl]) (by simpa using h3), .set hwf h2⟩
  · exact ⟨_, wr_cells h2 hx ho, .made ty' h1 (by rw [hget_hset h2, if_pos rfl]) (by simpa using h3), .set hwf h2⟩

/-- What a slice holds stays when a call's own blocks go. -/
theorem SlAt.dropLoc (hwf : st.Wf) {v : AV} {n ty es k c : Nat} {cs : List AV} (a : SlAt st.h v n ty es k cs) : SlAt (Go.Ev.dropLoc c st.h) v n ty es k cs := by
  rcases a with ⟨h1, h2, h3⟩ | ⟨h1, h2, h3⟩ | ⟨ty', h1, h2, h3⟩
  · exact .nil h1 h2 h3
  · exact .buf h1 (hget_dropLoc_keep hwf h2 rfl) h3
  · exact .made ty' h1 (hget_dropLoc_keep hwf h2 rfl) h3
theorem splice_all : ∀ (a b : List AV) (o : Nat), o + b.length = a.length → splice a o b = a.take o ++ b
  | a, [], o, h => by simp only [splice, List.append_nil]; rw [List.take_of_length_le (by simpa using Nat.le_of_eq h.symm)]
  | a, v :: b, o, h => by
    simp only [splice]
    simp only [List.length_cons] at h
    rw [splice_all _ b (o + 1) (by simp; omega)]
    have h1 : (a.set o v).take (o + 1) = a.take o ++ [v] := by
      rw [List.take_set]
      apply List.ext_getElem?
      intro k
      rw [List.getElem?_set]
      by_cases e : o = k
      · subst e
        rw [if_pos rfl, if_pos (by simp; omega), List.getElem?_append_right (by simp; omega)]
        simp [show min o a.length = o by omega]
      · rw [if_neg e]
        by_cases hk : k < o
        · rw [List.getElem?_append_left (by simp; omega), List.getElem?_take, List.getElem?_take]
          rw [if_pos (by omega), if_pos hk]
        · rw [List.getElem?_eq_none (by simp; omega), List.getElem?_eq_none (by simp; omega)]
    rw [h1, List.append_assoc]; rfl
theorem splice_whole {a b : List AV} (h : b.length = a.length) : splice a 0 b = b := by
  rw [splice_all a b 0 (by omega)]; simp


theorem splice_mid : ∀ (b' b c a : List AV), b'.length = b.length → splice (a ++ (b ++ c)) a.length b' = a ++ (b' ++ c)
  | [], [], c, a, _ => rfl
  | v :: b', x :: b, c, a, h => by
    simp only [List.length_cons, Nat.add_right_cancel_iff] at h
    have h1 : (a ++ (x :: b ++ c)).set a.length v = (a ++ [v]) ++ (b ++ c) := by
      rw [List.set_append_right _ _ (Nat.le_refl _)]; simp
    simp only [splice]
    rw [h1]
    have := splice_mid b' b c (a ++ [v]) h
    rw [List.length_append, List.length_singleton] at this
    rw [this]; simp

theorem rd_all {h : Heap} {n ty k : Nat} {l : Bool} {cs : List AV} (hg : hget h n = some (.cells ty l cs)) (hk : cs.length = k) : rdCells h n 0 k = some cs := by
  simp only [rdCells, hg]
  rw [if_pos (by omega), List.drop_zero, List.take_of_length_le (by omega)]
theorem rd_part {h : Heap} {n ty k o : Nat} {l : Bool} {cs : List AV} (hg : hget h n = some (.cells ty l cs)) (hk : o + k ≤ cs.length) : rdCells h n o k = some ((cs.drop o).take k) := by
  simp only [rdCells, hg]
  rw [if_pos (by omega)]
theorem wr_all {h : Heap} {n ty : Nat} {l : Bool} {cs vs : List AV} (hg : hget h n = some (.cells ty l cs)) (hk : vs.length = cs.length) (hs : vs.all AV.sc = true) : wrCells h n 0 vs = some (hset h n (.cells ty l vs)) := by
  simp only [wrCells, hg]
  rw [if_pos ⟨by omega, hs⟩, splice_whole hk]
theorem wr_part {h : Heap} {n ty o : Nat} {l : Bool} {cs vs : List AV} (hg : hget h n = some (.cells ty l cs)) (hk : o + vs.length ≤ cs.length) (hs : vs.all AV.sc = true) : wrCells h n o vs = some (hset h n (.cells ty l (splice cs o vs))) := by
  simp only [wrCells, hg]
  rw [if_pos ⟨hk, hs⟩]

attribute [go_sem] RO.run NO.run WO.run afill splice AV.nb apart

end Go.Ev

/- What the functions of lex tell: octets, regular characters, digits. -/
namespace Go.Ev
open Go
set_option linter.unusedSimpArgs false
set_option linter.unusedSectionVars false
set_option linter.unusedVariables false

theorem wrap64' {n : Int} (h1 : -9223372036854775808 ≤ n) (h2 : n ≤ 9223372036854775807) : IntKind.i64.wrap n = n := wrap64_id h1 h2

variable {T : Tab} {st : St}

theorem indexByte_call (H : B.H_strings_IndexByte T) {s : List UInt8} {c : Int} : call T (.fn 84 [] []) [.str s, .int .u8 c] st = some (.int .i64 (Lib.indexByte s c.toNat.toUInt8), st) := by
  rw [call_entry H.en]
  rfl
theorem index1_call (H : B.H_stringslite_Index T) {s : List UInt8} {c : UInt8} : call T (.fn 142 [] []) [.str s, .str [c]] st = some (.int .i64 (Lib.indexByte s c), st) := by
  rw [call_entry H.en]
  rfl

/-- Octets that are not regular, but for 128 to 159. -/
def marks : List UInt8 := [0, 9, 10, 12, 13, 32, 40, 41, 60, 62, 91, 93, 123, 125, 47, 37]
def isReg (c : UInt8) : Bool := !(decide (128 ≤ c.toNat) && decide (c.toNat < 160)) && decide (Lib.indexByte marks c < 0)

/-- All of a string's octets are regular. -/
def regAll : List UInt8 → Bool
  | [] => true
  | c :: r => isReg c && regAll r

theorem regular_tells (H : B.H_lex_Regular T) (hwf : st.Wf) (c : UInt8) : Tells T st (.fn 67 [] []) [.int .u8 c.toNat] (.bool (isReg c)) := by
  refine tells_of H.e H.f rfl ?_
  have hi := fun st => indexByte_call (st := st) H.strings_IndexByte (s := [0, 9, 10, 12, 13, 32, 40, 41, 60, 62, 91, 93, 123, 125, 47, 37]) (c := c.toNat)
  by_cases h1 : 128 ≤ c.toNat
  · have h1' : (128 : Int) ≤ c.toNat := by omega
    by_cases h2 : c.toNat < 160
    · have h2' : (c.toNat : Int) < 160 := by omega
      simp [B.lex_Regular, go_sem, h1', h2', isReg, h1, h2, Ext.refl hwf]
    · have h2' : ¬ (c.toNat : Int) < 160 := by omega
      simp [B.lex_Regular, go_sem, h1', h2', isReg, h1, h2, hi, Ext.refl hwf]
      rfl
  · have h1' : ¬ (128 : Int) ≤ c.toNat := by omega
    simp [B.lex_Regular, go_sem, h1', isReg, h1, hi, Ext.refl hwf]
    rfl

theorem refRegular_tells (H : B.H_chaseref03_Regular T) (hwf : st.Wf) (c : UInt8) : Tells T st (.fn 68 [] []) [.int .u8 c.toNat] (.bool (isReg c)) := by
  have h : (List.range 256).all (fun c => saysP (T1 85 B.chaseref02_Blank) 40 B.chaseref03_Regular [.int .u8 c] (.bool (isReg (UInt8.ofNat c)))) = true := by kernel_rfl
  have := all_octets h c
  simp only [UInt8.ofNat_toNat] at this
  exact tells_pure (pureIn1 H.chaseref02_Blank.e H.chaseref02_Blank.f (by kernel_rfl) (by kernel_rfl)) H.e H.f hwf rfl this

theorem idx_some {s : List UInt8} {i : Nat} (h : i < s.length) : ∃ c, s[i]? = some c ∧ s.drop i = c :: s.drop (i + 1) := ⟨s[i], List.getElem?_eq_getElem h, List.drop_eq_getElem_cons h⟩

theorem regular_loop (H : B.H_lex_regular T) (hwf : st.Wf) {s : List UInt8} (hs : s.length < 9223372036854775807) : ∀ (m i : Nat) (e : Env) (st1 : St), i + m = s.length → Ext st st1 → eget e 0 = .str s → eget e 5 = .int .i64 s.length → eget e 6 = .int .i64 i →
    Res (run T (.loop B.lex_regular_l0) e st1) fun x e' s' => Ext st s' ∧ ((x = .exit 0 ∧ regAll (s.drop i) = true) ∨ (x = .ret ∧ eget e' 2 = .bool false ∧ regAll (s.drop i) = false)) := by
  intro m
  induction m with
  | zero =>
    intro i e st1 hi hx g0 g5 g6
    have hil : i = s.length := by omega
    subst hil
    rw [run_loop]
    simp [B.lex_regular_l0, go_sem, g0, g5, g6, hx, regAll]
  | succ m ih =>
    intro i e st1 hi hx g0 g5 g6
    have hil : i < s.length := by omega
    have hil' : (i : Int) < s.length := by omega
    obtain ⟨c, hc, hd⟩ := idx_some hil
    have ht := fun st (h : St.Wf st) => regular_tells H.lex_Regular h c
    rw [run_loop]
    simp [B.lex_regular_l0, go_sem, g0, g5, g6, hil', hc]
    refine (ht _ hx.wf).use fun s1 hs1 => ?_
    have hx1 := hx.trans hs1
    cases hr : isReg c with
    | false => simp [go_sem, hr, hd, hx1, regAll]
    | true =>
      simp [go_sem, hr, hd, regAll]
      refine (ih (i + 1) _ s1 (by omega) hx1 ?_ ?_ ?_)
      · simp [go_sem]
      · simp [go_sem]
      · simp [go_sem]; rw [wrap64' (by omega) (by omega)]

theorem lexregular_tells (H : B.H_lex_regular T) (hwf : st.Wf) {s : List UInt8} (hs : s.length < 9223372036854775807) : Tells T st (.fn 82 [] []) [.str s] (.bool (regAll s)) := by
  refine tells_of H.e H.f rfl ?_
  simp [B.lex_regular, go_sem]
  refine (regular_loop H hwf hs s.length 0 _ st (by simp) (.refl hwf) ?_ ?_ ?_).mono ?_
  · simp [go_sem]
  · simp [go_sem]
  · simp [go_sem]
  · rintro x e s' ⟨hx, ⟨rfl, h⟩ | ⟨rfl, h2, h⟩⟩
    · simp only [List.drop_zero] at h
      simp [go_sem, h, hx]
    · simp only [List.drop_zero] at h
      simp [go_sem, h, h2, hx]

theorem refAll_loop (H : B.H_chaseref03_All T) (hwf : st.Wf) {s : List UInt8} (hs : s.length < 9223372036854775807) : ∀ (m i : Nat) (e : Env) (st1 : St), i + m = s.length → Ext st st1 → eget e 0 = .str s → eget e 3 = .int .i64 i →
    Res (run T (.loop B.chaseref03_All_l0) e st1) fun x e' s' => Ext st s' ∧ ((x = .exit 0 ∧ regAll (s.drop i) = true) ∨ (x = .ret ∧ eget e' 2 = .bool false ∧ regAll (s.drop i) = false)) := by
  intro m
  induction m with
  | zero =>
    intro i e st1 hi hx g0 g6
    have hil : i = s.length := by omega
    subst hil
    rw [run_loop]
    simp [B.chaseref03_All_l0, go_sem, g0, g6, hx, regAll]
  | succ m ih =>
    intro i e st1 hi hx g0 g6
    have hil : i < s.length := by omega
    have hil' : (i : Int) < s.length := by omega
    obtain ⟨c, hc, hd⟩ := idx_some hil
    have ht := fun st (h : St.Wf st) => refRegular_tells H.chaseref03_Regular h c
    rw [run_loop]
    simp [B.chaseref03_All_l0, go_sem, g0, g6, hil', hc]
    refine (ht _ hx.wf).use fun s1 hs1 => ?_
    have hx1 := hx.trans hs1
    cases hr : isReg c with
    | false => simp [go_sem, hr, hd, hx1, regAll]
    | true =>
      simp [go_sem, hr, hd, regAll]
      refine (ih (i + 1) _ s1 (by omega) hx1 ?_ ?_)
      · simp [go_sem]
      · simp [go_sem]; rw [wrap64' (by omega) (by omega)]

theorem refAll_tells (H : B.H_chaseref03_All T) (hwf : st.Wf) {s : List UInt8} (hs : s.length < 9223372036854775807) : Tells T st (.fn 83 [] []) [.str s] (.bool (regAll s)) := by
  refine tells_of H.e H.f rfl ?_
  simp [B.chaseref03_All, go_sem]
  refine (refAll_loop H hwf hs s.length 0 _ st (by simp) (.refl hwf) ?_ ?_).mono ?_
  · simp [go_sem]
  · simp [go_sem]
  · rintro x e s' ⟨hx, ⟨rfl, h⟩ | ⟨rfl, h2, h⟩⟩
    · simp only [List.drop_zero] at h
      simp [go_sem, h, hx]
    · simp only [List.drop_zero] at h
      simp [go_sem, h, h2, hx]

end Go.Ev

/- Loops over functions on symbolic data. -/
namespace Go.Ev
open Go
set_option linter.unusedSimpArgs false
set_option linter.unusedVariables false

variable {T : Tab} {e : Env} {st : St}

theorem res_rangeFunc {f : AO} {ps : List Nat} {assign body : MCode} {Q : Ex → Env → St → Prop}
    (h : CRes (call T (f.ev e) [.yield st.nx] ⟨(st.nx, .loop .ready e ps assign body) :: st.h, st.nx + 1⟩) fun _ s =>
      (hget s.h st.nx = some (.loop .ready e ps assign body) ∧ Q .norm e ⟨hdel s.h st.nx, s.nx⟩) ∨ (∃ x, hget s.h st.nx = some (.loop (.done x) e ps assign body) ∧ Q x e ⟨hdel s.h st.nx, s.nx⟩)) :
    Res (run T (.rangeFunc f ps assign body) e st) Q := by
  obtain ⟨v, s, h1, h2⟩ := h.elim
  rw [run_eq]
  have h1' : evCall T (run T) (f.ev e) [.yield st.nx] ⟨(st.nx, .loop .ready e ps assign body) :: st.h, st.nx + 1⟩ = some (v, s) := h1
  simp only [evStep, h1']
  rcases h2 with ⟨h3, h4⟩ | ⟨x, h3, h4⟩
  · simp only [h3]; exact h4
  · simp only [h3]; exact h4

/-- What a round of a loop over a function comes to. -/
def yEnd (l : Nat) (env : Env) (ps : List Nat) (assign body : MCode) (Q : AV → St → Prop) (x : Ex) (s : St) : Prop :=
  hget s.h l = some (.loop .busy env ps assign body) ∧
    match x with
    | .norm => Q (.bool true) ⟨hset s.h l (.loop .ready env ps assign body), s.nx⟩
    | x => Q (.bool false) ⟨hset s.h l (.loop (.done x) env ps assign body), s.nx⟩

theorem cres_yield {l : Nat} {args : List AV} {env : Env} {ps : List Nat} {assign body : MCode} {Q : AV → St → Prop} (hg : hget st.h l = some (.loop .ready env ps assign body)) (hl : args.length = ps.length)
    (h : Res (run T assign (bindEnv env ps args) st) fun x e1 s1 => x = .norm ∧ hget s1.h l = some (.loop .ready env ps assign body) ∧
      Res (run T body e1 ⟨hset s1.h l (.loop .busy env ps assign body), s1.nx⟩) fun x _ s2 => yEnd l env ps assign body Q x s2) : CRes (call T (.yield l) args st) Q := by
  obtain ⟨x, e1, s1, h1, rfl, h2, h3⟩ := h.elim
  obtain ⟨x, e2, s2, h4, h5, h6⟩ := h3.elim
  simp only [call, evCall, evYield, hg]
  rw [if_pos hl]
  simp only [h1, h2, h4, h5]
  cases x with
  | norm => exact h6
  | exit i => exact h6
  | ret => exact h6

@[go_sem] theorem bindEnv_one (e : Env) (t : Nat) (v : AV) : bindEnv e [t] [v] = (t, v) :: e := rfl
@[go_sem] theorem bindEnv_two (e : Env) (t u : Nat) (v w : AV) : bindEnv e [t, u] [v, w] = (u, w) :: (t, v) :: e := rfl

/-- A closure's body, left by any way but through a block. -/
theorem call_any {k : Nat} {mf : MFun} (hen : T.en k = none) (hf : T.fn k = some mf) {first args cap : List AV} (hl : (first ++ args ++ cap).length = mf.nargs) (hr : mf.results = []) {Q : St → Prop}
    (h : Res (run T mf.body (argEnv 0 (first ++ args ++ cap)) st) fun x _ s => (x = .norm ∨ x = .ret) ∧ Q ⟨dropLoc st.nx s.h, s.nx⟩) : CRes (call T (.fn k first cap) args st) fun _ s => Q s :=
  call_res hen hf hl (h.mono fun _ _ _ ⟨h1, h2⟩ => ⟨h1, .tuple [], by rw [hr]; rfl, h2⟩)

end Go.Ev

/- Parts of strings. -/
namespace Go.Ev
open Go
@[go_sem] theorem acells_fn (f : Nat) (a b : List AV) : acells (.fn f a b) = [.fn f a b] := rfl
@[go_sem] theorem acells_map (n : Nat) : acells (.map n) = [.map n] := rfl
@[go_sem] theorem acells_nilptr : acells .nilptr = [.nilptr] := rfl
@[go_sem] theorem acells_nilmap : acells .nilmap = [.nilmap] := rfl
@[go_sem] theorem acells_nilfn : acells .nilfn = [.nilfn] := rfl
@[go_sem] theorem acells_niliface : acells .niliface = [.niliface] := rfl
@[go_sem] theorem sc_fn (f : Nat) (a b : List AV) : (AV.fn f a b).sc = true := rfl
@[go_sem] theorem sc_map (n : Nat) : (AV.map n).sc = true := rfl
@[go_sem] theorem sc_nilptr : AV.nilptr.sc = true := rfl
@[go_sem] theorem sc_nilmap : AV.nilmap.sc = true := rfl
@[go_sem] theorem sc_nilfn : AV.nilfn.sc = true := rfl
@[go_sem] theorem sc_niliface : AV.niliface.sc = true := rfl
theorem asubS_to {s : List UInt8} {j : Int} {k : IntKind} (h0 : 0 ≤ j) (h1 : j ≤ s.length) : asubS s none (some (.int k j)) = some (.str (s.take j.toNat)) := by
  simp only [asubS, abounds, bnd, abound]
  rw [if_pos ⟨h0, h1⟩]
  simp
theorem asubS_from {s : List UInt8} {i : Int} {k : IntKind} (h0 : 0 ≤ i) (h1 : i ≤ s.length) : asubS s (some (.int k i)) none = some (.str (s.drop i.toNat)) := by
  simp only [asubS, abounds, bnd, abound]
  rw [if_pos ⟨h0, h1⟩]
  simp only [Option.some.injEq, AV.str.injEq]
  rw [List.take_of_length_le (by simp)]
theorem asubS_some {s : List UInt8} {i j : Int} {k k' : IntKind} (h0 : 0 ≤ i) (h1 : i ≤ j) (h2 : j ≤ s.length) : asubS s (some (.int k i)) (some (.int k' j)) = some (.str ((s.drop i.toNat).take (j.toNat - i.toNat))) := by
  simp only [asubS, abounds, bnd, abound]
  rw [if_pos ⟨by omega, h2⟩]
  simp only
  rw [if_pos ⟨h0, by omega⟩]

theorem Frm.get' {S : List Nat} {st st' : St} (a : Frm S st st') {n : Nat} {o : AObj} (hl : n < st.nx) (h : hget st.h n = some o) (hn : n ∉ S) : hget st'.h n = some o := by
  rw [a.keep n hl hn, h]
theorem hget_hset_ne {h : Heap} {n m : Nat} {o p : AObj} (hg : hget h n = some p) (hne : n ≠ m) : hget (hset h n o) m = hget h m := by
  rw [hget_hset hg, if_neg hne]
theorem hget_hset_self {h : Heap} {n : Nat} {o p : AObj} (hg : hget h n = some p) : hget (hset h n o) n = some o := by
  rw [hget_hset hg, if_pos rfl]
theorem Ext.frm {S : List Nat} {st s s' : St} (a : Ext st s) (b : Frm S s s') (h : ∀ n ∈ S, st.nx ≤ n) : Ext st s' :=
  ⟨Nat.le_trans a.nx b.nx, b.wf, fun n hn => by
    rw [b.keep n (Nat.lt_of_lt_of_le hn a.nx) (fun hs => by have := h n hs; omega), a.keep n hn]⟩
/-- What follows a first part, by what is known of it. -/
theorem put_cut {T : Tab} {d : Option Nat} {e : Env} {l : List MI} {K : Env → St → Prop} {v : AV} {s : St} (P : Env → St → Prop) (h : kPut d e (kOps (call T) l P) v s) (hk : ∀ e s, P e s → K e s) : kPut d e (kOps (call T) l K) v s := by
  simp only [kPut_eq, kOps_eq] at h ⊢
  obtain ⟨e1, s1, h1, h2⟩ := h.elim
  rw [h1]
  exact hk _ _ h2
theorem putI_cut {T : Tab} {nm : Nat} {d : Option Nat} {e : Env} {dn : List (Nat × MI)} {l : List RI} {K : Env → St → Prop} {v : AV} {s : St} (P : Env → St → Prop) (h : kPutI nm d e (kR (call T) dn l P) v s) (hk : ∀ e s, P e s → K e s) : kPutI nm d e (kR (call T) dn l K) v s := by
  simp only [kPutI_eq, kR_eq] at h ⊢
  obtain ⟨e1, s1, h1, h2⟩ := h.elim
  rw [h1]
  exact hk _ _ h2
theorem seq_cut {T : Tab} {A C : MCode} {e : Env} {st : St} {Q : Ex → Env → St → Prop} (P : Ex → Env → St → Prop) (hA : ∀ l, A ≠ .keep l) (h1 : Res (run T A e st) P) (h2 : ∀ x e s, P x e s → kSeq T C Q x e s) : Res (run T (.seq A C) e st) Q := by
  rw [run_seq' hA, Res_seqR]
  exact h1.mono h2
theorem rd_one {h : Heap} {n ty : Nat} {l : Bool} {v : AV} (hg : hget h n = some (.cells ty l [v])) : rdCell h n 0 = some v := by simp [rdCell, hg]
theorem wr_one {h : Heap} {n ty : Nat} {l : Bool} {u v : AV} (hg : hget h n = some (.cells ty l [u])) (hs : v.sc = true) : wrCells h n 0 [v] = some (hset h n (.cells ty l [v])) := wr_all hg rfl (by simp [hs])
end Go.Ev

/- Digits are counted: lex.count and the reference's count. -/
namespace Go.Ev
open Go
set_option linter.unusedSimpArgs false
set_option linter.unusedSectionVars false
set_option linter.unusedVariables false

variable {T : Tab} {st : St}

/-- A digit's value in bases up to 36; 99 for other octets. -/
def digV (c : UInt8) : Nat := if 48 ≤ c.toNat ∧ c.toNat ≤ 57 then c.toNat - 48 else if 97 ≤ c.toNat ∧ c.toNat ≤ 122 then c.toNat - 87 else if 65 ≤ c.toNat ∧ c.toNat ≤ 90 then c.toNat - 55 else 99

theorem digV_le (c : UInt8) : digV c ≤ 99 := by unfold digV; (repeat' split) <;> omega

theorem value_tells (H : B.H_lex_value T) (hwf : st.Wf) (c : UInt8) : Tells T st (.fn 122 [] []) [.int .u8 c.toNat] (.int .i64 (digV c)) := by
  have h : (List.range 256).all (fun c => saysP T0 40 B.lex_value [.int .u8 c] (.int .i64 (digV (UInt8.ofNat c)))) = true := by kernel_rfl
  have := all_octets h c
  simp only [UInt8.ofNat_toNat] at this
  exact tells_pure pureIn0 H.e H.f hwf rfl this

def digR (c : UInt8) : Nat := if digV c = 99 then 36 else digV c
theorem refDigit_tells (H : B.H_chaseref03_digit T) (hwf : st.Wf) (c : UInt8) : Tells T st (.fn 101 [] []) [.int .u8 c.toNat] (.int .i64 (digR c)) := by
  have h : (List.range 256).all (fun c => saysP T0 40 B.chaseref03_digit [.int .u8 c] (.int .i64 (digR (UInt8.ofNat c)))) = true := by kernel_rfl
  have := all_octets h c
  simp only [UInt8.ofNat_toNat] at this
  exact tells_pure pureIn0 H.e H.f hwf rfl this

/-- What a yield of a digit is given. -/
def digY (base : Int) (c : UInt8) : Int := if (digV c : Int) ≥ base then -1 else digV c

/-- The closure of lex.digits: a state that the rounds keep. -/
theorem digits1_loop (H : B.H_lex_digits_1 T) {Y : AV} {a b ty tb : Nat} {la lb : Bool} {s : List UInt8} {base : Int} (hs : s.length < 9223372036854775807) (P : Nat → St → Prop) (R : St → Prop)
    (hwf : ∀ i s1, P i s1 → s1.Wf) (ha : ∀ i s1, P i s1 → hget s1.h a = some (.cells ty la [.str s])) (hb : ∀ i s1, P i s1 → hget s1.h b = some (.cells tb lb [.int .i64 base]))
    (hext : ∀ i s1 s2, P i s1 → Ext s1 s2 → P i s2)
    (hY : ∀ i s1 c, P i s1 → s[i]? = some c → CRes (call T Y [.int .i64 (digY base c)] s1) fun v s2 => (v = .bool true ∧ P (i + 1) s2) ∨ (v = .bool false ∧ R s2)) :
    ∀ (m i : Nat) (e : Env) (st1 : St), i + m = s.length → P i st1 → eget e 0 = Y → eget e 1 = .ptr a 0 → eget e 2 = .ptr b 0 → eget e 7 = .int .i64 s.length → eget e 8 = .int .i64 i →
    Res (run T (.loop B.lex_digits_1_l0) e st1) fun x e' s' => (x = .exit 0 ∧ P s.length s') ∨ (x = .ret ∧ R s') := by
  intro m
  induction m with
  | zero =>
    intro i e st1 hi hP g0 g1 g2 g7 g8
    have hil : i = s.length := by omega
    subst hil
    rw [run_loop]
    simp [B.lex_digits_1_l0, go_sem, g0, g1, g2, g7, g8, hP]
  | succ m ih =>
    intro i e st1 hi hP g0 g1 g2 g7 g8
    have hil : i < s.length := by omega
    have hil' : (i : Int) < s.length := by omega
    obtain ⟨c, hc, hd⟩ := idx_some hil
    have ra := rd_one (ha _ _ hP)
    rw [run_loop]
    simp [B.lex_digits_1_l0, go_sem, g0, g1, g2, g7, g8, hil', RO.run, ra, hc]
    refine (value_tells H.lex_value (hwf _ _ hP) c).use fun s1 hs1 => ?_
    have hP1 := hext _ _ _ hP hs1
    have rb := rd_one (hb _ _ hP1)
    have hy := hY i s1 c hP1 hc
    by_cases hq : base ≤ (digV c : Int)
    · have hdy : digY base c = -1 := by simp [digY, hq]
      rw [hdy] at hy
      simp [go_sem, RO.run, rb, hq]
      refine hy.mono ?_
      rintro v s2 (⟨rfl, hP2⟩ | ⟨rfl, hR⟩)
      · simp [go_sem]
        refine ih (i + 1) _ s2 (by omega) hP2 ?_ ?_ ?_ ?_ ?_
        · simp [go_sem]
        · simp [go_sem]
        · simp [go_sem]
        · simp [go_sem]
        · simp [go_sem]; rw [wrap64' (by omega) (by omega)]
      · simp [go_sem, hR]
    · have hdy : digY base c = digV c := by simp [digY, hq]
      rw [hdy] at hy
      simp [go_sem, RO.run, rb, hq]
      refine hy.mono ?_
      rintro v s2 (⟨rfl, hP2⟩ | ⟨rfl, hR⟩)
      · simp [go_sem]
        refine ih (i + 1) _ s2 (by omega) hP2 ?_ ?_ ?_ ?_ ?_
        · simp [go_sem]
        · simp [go_sem]
        · simp [go_sem]
        · simp [go_sem]
        · simp [go_sem]; rw [wrap64' (by omega) (by omega)]
      · simp [go_sem, hR]

/-- What count comes to: the number so far, from the digits that are left. -/
def cntFrom (cap : Nat) (base : Int) : Nat → List UInt8 → Option Nat
  | n, [] => some n
  | n, c :: r => if (digV c : Int) ≥ base then none else cntFrom cap base (min (n * base.toNat + digV c) cap) r

def cntS (base : Int) (s : List UInt8) : Nat × Bool :=
  match cntFrom 1099511627776 base 0 s with
  | some n => (n, !decide (s = []))
  | none => (0, false)

theorem digits_call (H : B.H_lex_digits T) (hwf : st.Wf) {s : List UInt8} {base : Int} {Q : AV → St → Prop}
    (h : Q (.fn 119 [] [.ptr st.nx 0, .ptr (st.nx + 1) 0]) ⟨(st.nx + 1, .cells 3 false [.int .i64 base]) :: (st.nx, .cells 9 false [.str s]) :: st.h, st.nx + 2⟩) :
    CRes (call T (.fn 112 [] []) [.str s, .int .i64 base] st) Q := by
  refine call_res H.e H.f rfl ?_
  have hd : dropLoc st.nx ((st.nx + 1, AObj.cells 3 false [.int .i64 base]) :: (st.nx, .cells 9 false [.str s]) :: st.h) = (st.nx + 1, AObj.cells 3 false [.int .i64 base]) :: (st.nx, .cells 9 false [.str s]) :: st.h := by
    have : locNames st.nx ((st.nx + 1, AObj.cells 3 false [.int .i64 base]) :: (st.nx, .cells 9 false [.str s]) :: st.h) = [] := by
      simp only [locNames]
      exact locNames_nil fun n o ho => hwf.lt n o ho
    rw [dropLoc_eq, this, hdrop_nil]
  simp [B.lex_digits, go_sem, NO.run, AV.nb, hd]
  exact h

theorem frm_drop {S : List Nat} {st s : St} {c : Nat} (h : Frm S st s) (hc : st.nx ≤ c) : Frm S st ⟨dropLoc c s.h, s.nx⟩ :=
  ⟨h.nx, h.wf.dropLoc _, fun n hn hs => by rw [hget_dropLoc_lt (by omega), h.keep n hn hs]⟩

theorem hget_new {h : Heap} {n : Nat} {o : AObj} : hget ((n, o) :: h) n = some o := by simp [hget]

theorem count_tells (H : B.H_lex_count T) (hwf : st.Wf) {s : List UInt8} (hs : s.length < 9223372036854775807) {base : Int} (h0 : 0 ≤ base) (h1 : base ≤ 1000000) :
    Tells T st (.fn 95 [] []) [.str s, .int .i64 base] (.tuple [.int .i64 (cntS base s).1, .bool (cntS base s).2]) := by
  refine tells_of H.e H.f rfl ?_
  have x1 := Ext.new hwf (.cells 3 true [.int .i64 base])
  have x2 := x1.trans (Ext.new x1.wf (.cells 3 true [.int .i64 0]))
  have x3 := x2.trans (Ext.new x2.wf (.cells 4 true [.bool false]))
  have x4 := x3.trans (Ext.new x3.wf (.cells 3 true [.int .i64 0]))
  simp only [Nat.add_assoc, Nat.reduceAdd] at x2 x3 x4
  simp [B.lex_count, go_sem, NO.run, AV.nb, WO.run, wrCells, hget_cons, hset_cons, splice, RO.run, rdCell, Nat.add_assoc]
  refine digits_call H.lex_digits x4.wf ?_
  simp [go_sem, Nat.add_assoc]
  refine res_rangeFunc ?_
  simp [go_sem, Nat.add_assoc]
  refine call_any H.lex_digits.lex_digits_1.e H.lex_digits.lex_digits_1.f rfl rfl ?_
  have x5 := x4.trans (Ext.new x4.wf (.cells 9 false [.str s]))
  have x6 := x5.trans (Ext.new x5.wf (.cells 3 false [.int .i64 base]))
  simp only [Nat.add_assoc, Nat.reduceAdd] at x5 x6
  generalize hE : ([(10, AV.fn 119 [] [.ptr (st.nx + 4) 0, .ptr (st.nx + 5) 0]), (9, .int .i64 base), (8, .str s), (6, .ptr (st.nx + 3) 0), (5, .ptr (st.nx + 2) 0), (4, .ptr (st.nx + 1) 0), (3, .ptr st.nx 0), (0, .str s), (1, .int .i64 base)] : Env) = E
  have q0 : eget E 0 = .str s := by rw [← hE]; simp [go_sem]
  have q3 : eget E 3 = .ptr st.nx 0 := by rw [← hE]; simp [go_sem]
  have q4 : eget E 4 = .ptr (st.nx + 1) 0 := by rw [← hE]; simp [go_sem]
  have q5 : eget E 5 = .ptr (st.nx + 2) 0 := by rw [← hE]; simp [go_sem]
  have q6 : eget E 6 = .ptr (st.nx + 3) 0 := by rw [← hE]; simp [go_sem]
  clear hE
  have x7 := x6.trans (Ext.new x6.wf (.loop .ready E [11] (.reg [⟨some 7, none, .p (.mov (.t 11))⟩]) B.lex_count_l0))
  simp only [Nat.add_assoc, Nat.reduceAdd] at x7
  generalize hS : (⟨(st.nx + 6, AObj.loop .ready E [11] (.reg [⟨some 7, none, .p (.mov (.t 11))⟩]) B.lex_count_l0) :: (st.nx + 5, .cells 3 false [.int .i64 base]) :: (st.nx + 4, .cells 9 false [.str s]) ::
    (st.nx + 3, .cells 3 true [.int .i64 0]) :: (st.nx + 2, .cells 4 true [.bool false]) :: (st.nx + 1, .cells 3 true [.int .i64 0]) :: (st.nx, .cells 3 true [.int .i64 base]) :: st.h, st.nx + 7⟩ : St) = st7 at x7 ⊢
  have n7 : st7.nx = st.nx + 7 := by rw [← hS]
  have gl : hget st7.h (st.nx + 6) = some (.loop .ready E [11] (.reg [⟨some 7, none, .p (.mov (.t 11))⟩]) B.lex_count_l0) := by rw [← hS]; simp [hget_cons]
  have gb : hget st7.h (st.nx + 5) = some (.cells 3 false [.int .i64 base]) := by rw [← hS]; simp [hget_cons]
  have ga : hget st7.h (st.nx + 4) = some (.cells 9 false [.str s]) := by rw [← hS]; simp [hget_cons]
  have gn : hget st7.h (st.nx + 3) = some (.cells 3 true [.int .i64 0]) := by rw [← hS]; simp [hget_cons]
  have g2 : hget st7.h (st.nx + 2) = some (.cells 4 true [.bool false]) := by rw [← hS]; simp [hget_cons]
  have g1 : hget st7.h (st.nx + 1) = some (.cells 3 true [.int .i64 0]) := by rw [← hS]; simp [hget_cons]
  have g0 : hget st7.h st.nx = some (.cells 3 true [.int .i64 base]) := by rw [← hS]; simp [hget_cons]
  clear hS x1 x2 x3 x4 x5 x6
  have ra := rd_one ga
  simp [B.lex_digits_1, go_sem, RO.run, ra]
  refine (digits1_loop H.lex_digits.lex_digits_1 (Y := .yield (st.nx + 6)) (a := st.nx + 4) (b := st.nx + 5) (ty := 9) (tb := 3) (la := false) (lb := false) (s := s) (base := base) hs
    (fun i s1 => ∃ v, cntFrom 1099511627776 base 0 s = cntFrom 1099511627776 base v (s.drop i) ∧ v ≤ 1099511627776 ∧ Frm [st.nx + 3, st.nx + 6] st7 s1 ∧
      hget s1.h (st.nx + 6) = some (.loop .ready E [11] (.reg [⟨some 7, none, .p (.mov (.t 11))⟩]) B.lex_count_l0) ∧ hget s1.h (st.nx + 3) = some (.cells 3 true [.int .i64 v]))
    (fun s1 => cntFrom 1099511627776 base 0 s = none ∧ Frm [st.nx + 1, st.nx + 2, st.nx + 3, st.nx + 6] st7 s1 ∧ hget s1.h (st.nx + 6) = some (.loop (.done .ret) E [11] (.reg [⟨some 7, none, .p (.mov (.t 11))⟩]) B.lex_count_l0) ∧
      hget s1.h (st.nx + 1) = some (.cells 3 true [.int .i64 0]) ∧ hget s1.h (st.nx + 2) = some (.cells 4 true [.bool false]))
    ?_ ?_ ?_ ?_ ?_ s.length 0 _ st7 (by simp) ?_ ?_ ?_ ?_ ?_ ?_).mono ?_
  · rintro i s1 ⟨v, _, _, hf, _⟩; exact hf.wf
  · rintro i s1 ⟨v, _, _, hf, _⟩; exact hf.get' (by omega) ga (by simp)
  · rintro i s1 ⟨v, _, _, hf, _⟩; exact hf.get' (by omega) gb (by simp)
  · rintro i s1 s2 ⟨v, h1, h2, hf, h3, h4⟩ hx
    exact ⟨v, h1, h2, hf.trans (hx.fr []) (by simp), hx.get hf.wf h3, hx.get hf.wf h4⟩
  · rintro i s1 c ⟨v, k1, k2, hf, k3, k4⟩ hc
    have hil : i < s.length := (List.getElem?_eq_some_iff.1 hc).1
    have hd : s.drop i = c :: s.drop (i + 1) := by
      rw [List.drop_eq_getElem_cons hil, (List.getElem?_eq_some_iff.1 hc).2]
    have hnx := hf.nx
    have hwl := Frm.set hf.wf k3 (o := .loop .busy E [11] (.reg [⟨some 7, none, .p (.mov (.t 11))⟩]) B.lex_count_l0)
    have fb := hf.trans hwl (by simp)
    refine cres_yield k3 rfl ?_
    simp [go_sem, k3]
    generalize hB : (⟨hset s1.h (st.nx + 6) (AObj.loop .busy E [11] (.reg [⟨some 7, none, .p (.mov (.t 11))⟩]) B.lex_count_l0), s1.nx⟩ : St) = s2 at fb ⊢
    have nb : s2.nx = s1.nx := by rw [← hB]
    have bl : hget s2.h (st.nx + 6) = some (.loop .busy E [11] (.reg [⟨some 7, none, .p (.mov (.t 11))⟩]) B.lex_count_l0) := by rw [← hB]; exact hget_hset_self k3
    have bn : hget s2.h (st.nx + 3) = some (.cells 3 true [.int .i64 v]) := by rw [← hB]; exact (hget_hset_ne k3 (by omega)).trans k4
    have bb := fb.get' (by omega) gb (by simp)
    have b1 := fb.get' (by omega) g1 (by simp)
    have b2 := fb.get' (by omega) g2 (by simp)
    have b0 := fb.get' (by omega) g0 (by simp)
    clear hB
    by_cases hq : base ≤ (digV c : Int)
    · have hdy : digY base c = -1 := by simp [digY, hq]
      have w1 := wr_one b1 (v := .int .i64 0) rfl
      have f1 := Frm.set fb.wf b1 (o := .cells 3 true [.int .i64 0])
      have b2' := (hget_hset_ne (m := st.nx + 2) b1 (o := .cells 3 true [.int .i64 0]) (by omega)).trans b2
      have w2 := wr_one b2' (v := .bool false) rfl
      have f2 := Frm.set (st := ⟨_, _⟩) f1.wf b2' (o := .cells 4 true [.bool false])
      have b6' := (hget_hset_ne (m := st.nx + 6) b2' (o := .cells 4 true [.bool false]) (by omega)).trans ((hget_hset_ne (m := st.nx + 6) b1 (o := .cells 3 true [.int .i64 0]) (by omega)).trans bl)
      simp [B.lex_count_l0, go_sem, hdy, q0, q3, q4, q5, q6, WO.run, w1, w2, yEnd]
      refine ⟨b6', by rw [k1, hd]; simp [cntFrom, hq], ?_, hget_hset_self b6', ?_, ?_⟩
      · exact (((fb.mono (R := [st.nx + 1, st.nx + 2, st.nx + 3, st.nx + 6]) (by simp)).trans f1 (by simp)).trans f2 (by simp)).trans (Frm.set (st := ⟨_, _⟩) f2.wf b6') (by simp)
      · rw [hget_hset_ne b6' (by omega), hget_hset_ne b2' (by omega), hget_hset_self b1]
      · rw [hget_hset_ne b6' (by omega), hget_hset_self b2']
    · have hdy : digY base c = digV c := by simp [digY, hq]
      have hnn : ¬ (digV c : Int) < 0 := by omega
      have hle := digV_le c
      have hm : (v : Int) * base ≤ 1099511627776 * 1000000 := Int.mul_le_mul (by omega) h1 h0 (by omega)
      have hm0 : 0 ≤ (v : Int) * base := Int.mul_nonneg (by omega) h0
      have e1 : IntKind.i64.wrap ((v : Int) * base) = v * base := wrap64' (by omega) (by omega)
      have e2 : IntKind.i64.wrap ((v : Int) * base + digV c) = v * base + digV c := wrap64' (by omega) (by omega)
      have e3 : (if (1099511627776 : Int) < v * base + digV c then 1099511627776 else v * base + digV c) = ((min (v * base.toNat + digV c) 1099511627776 : Nat) : Int) := by
        have : ((v * base.toNat : Nat) : Int) = v * base := by rw [Int.natCast_mul, Int.toNat_of_nonneg h0]
        split <;> omega
      have w1 := wr_one bn (v := .int .i64 ((min (v * base.toNat + digV c) 1099511627776 : Nat) : Int)) rfl
      have f1 := Frm.set fb.wf bn (o := .cells 3 true [.int .i64 ((min (v * base.toNat + digV c) 1099511627776 : Nat) : Int)])
      have b6' := (hget_hset_ne (m := st.nx + 6) bn (o := .cells 3 true [.int .i64 ((min (v * base.toNat + digV c) 1099511627776 : Nat) : Int)]) (by omega)).trans bl
      simp [B.lex_count_l0, go_sem, hdy, q0, q3, q4, q5, q6, RO.run, WO.run, rd_one bn, rd_one b0, hnn, e1, e2]
      rw [e3, w1]
      simp [go_sem, yEnd]
      refine ⟨b6', min (v * base.toNat + digV c) 1099511627776, by rw [k1, hd]; simp [cntFrom, hq], by omega, ?_, hget_hset_self b6', ?_⟩
      · exact (fb.trans f1 (by simp)).trans (Frm.set (st := ⟨_, _⟩) f1.wf b6') (by simp)
      · rw [hget_hset_ne b6' (by omega), hget_hset_self bn]
  · exact ⟨0, by simp, by omega, .refl x7.wf _, gl, gn⟩
  · simp [go_sem]
  · simp [go_sem]
  · simp [go_sem]
  · simp [go_sem]
  · simp [go_sem]
  · have hnl : (Ext.refl x7.wf).nx = (Ext.refl x7.wf).nx := rfl
    have hlast : ∀ (s2 : St) (o : AObj) (S : List Nat), Frm S st7 s2 → hget s2.h (st.nx + 6) = some o → hget (dropLoc st7.nx s2.h) (st.nx + 6) = some o ∧ Frm ((st.nx + 6) :: S) st7 ⟨hdel (dropLoc st7.nx s2.h) (st.nx + 6), s2.nx⟩ := fun s2 o S hf hg => by
      have f1 := frm_drop hf (Nat.le_refl _)
      refine ⟨by rw [hget_dropLoc_lt (by omega)]; exact hg, ?_⟩
      exact (f1.mono (R := (st.nx + 6) :: S) (fun n hn => List.mem_cons_of_mem _ hn)).trans (Frm.hdel (st := ⟨_, _⟩) f1.wf (st.nx + 6)) (by simp)
    rintro x e s2 (⟨rfl, v, k1, k2, hf, k3, k4⟩ | ⟨rfl, k1, hf, k3, k4, k5⟩)
    · obtain ⟨m1, m2⟩ := hlast s2 _ _ hf k3
      have m4 : hget (hdel (dropLoc st7.nx s2.h) (st.nx + 6)) (st.nx + 3) = some (.cells 3 true [.int .i64 v]) := by
        rw [hget_hdel, if_neg (by omega), hget_dropLoc_lt (by omega)]; exact k4
      have m5 := m2.get' (by omega) g1 (by simp)
      have m6 := m2.get' (by omega) g2 (by simp)
      have w1 := wr_one m5 (v := .int .i64 v) rfl
      have f1 := Frm.set (st := ⟨_, _⟩) m2.wf m5 (o := .cells 3 true [.int .i64 v])
      have m6' := (hget_hset_ne (m := st.nx + 2) m5 (o := .cells 3 true [.int .i64 v]) (by omega)).trans m6
      have w2 := wr_one m6' (v := .bool !decide (s = [])) rfl
      have f2 := Frm.set (st := ⟨_, _⟩) f1.wf m6' (o := .cells 4 true [.bool !decide (s = [])])
      have m7 := hget_hset_self m6' (o := .cells 4 true [.bool !decide (s = [])])
      have m8 := (hget_hset_ne (m := st.nx + 1) m6' (o := .cells 4 true [.bool !decide (s = [])]) (by omega)).trans (hget_hset_self m5 (o := .cells 3 true [.int .i64 v]))
      have hc : cntS base s = (v, !decide (s = [])) := by
        simp only [cntS, k1]
        simp [cntFrom]
      have hq : seq8 s [] = decide (s = []) := by cases s <;> rfl
      simp [go_sem, m1, rd_one m4, WO.run, w1, w2, fresults, resVals, resVal, RO.run, rd_one m7, rd_one m8, hc, hq, q0, q4, q5, q6]
      exact x7.frm (((m2.mono (R := [st.nx + 1, st.nx + 2, st.nx + 3, st.nx + 6]) (by simp)).trans f1 (by simp)).trans f2 (by simp)) (by simp)
    · obtain ⟨m1, m2⟩ := hlast s2 _ _ hf k3
      have m4 : hget (hdel (dropLoc st7.nx s2.h) (st.nx + 6)) (st.nx + 1) = some (.cells 3 true [.int .i64 0]) := by
        rw [hget_hdel, if_neg (by omega), hget_dropLoc_lt (by omega)]; exact k4
      have m5 : hget (hdel (dropLoc st7.nx s2.h) (st.nx + 6)) (st.nx + 2) = some (.cells 4 true [.bool false]) := by
        rw [hget_hdel, if_neg (by omega), hget_dropLoc_lt (by omega)]; exact k5
      have hc : cntS base s = (0, false) := by simp only [cntS, k1]
      simp [go_sem, m1, fresults, resVals, resVal, RO.run, rd_one m4, rd_one m5, q4, q5, hc]
      exact x7.frm m2 (by simp)

end Go.Ev

/- Number texts: ints, with and without a base. -/
namespace Go.Ev
open Go
set_option linter.unusedSimpArgs false
set_option linter.unusedSectionVars false
set_option linter.unusedVariables false

variable {T : Tab} {st : St}

/-- A token's cells; a token with an error. -/
def tokC (k n : Int) (t : List UInt8) : List AV := [.int .i64 k, .int .i64 n, .str t]
def tokA (k n : Int) (t : List UInt8) (e : Int) : AV := .tuple [.agg (tokC k n t), .int .i64 e]

theorem tok_wr {h : Heap} {m ty : Nat} {l : Bool} {k n k' n' : Int} {t t' : List UInt8} (hg : hget h m = some (.cells ty l [.int .i64 k, .int .i64 n, .str t])) :
    wrCells h m 0 [.int .i64 k', .int .i64 n', .str t'] = some (hset h m (.cells ty l [.int .i64 k', .int .i64 n', .str t'])) := wr_all hg rfl rfl
theorem tok_rd {h : Heap} {m ty : Nat} {l : Bool} {k n : Int} {t : List UInt8} (hg : hget h m = some (.cells ty l [.int .i64 k, .int .i64 n, .str t])) :
    rdCells h m 0 3 = some [.int .i64 k, .int .i64 n, .str t] := rd_all hg rfl
attribute [go_sem] afill splice AV.nb apart

theorem rd_tok (h : Heap) (m ty : Nat) (l : Bool) (a b c : AV) : rdCells ((m, .cells ty l [a, b, c]) :: h) m 0 3 = some [a, b, c] := rd_all (ty := ty) (l := l) (by simp [hget_cons]) rfl
theorem wr_tok (h : Heap) (m ty : Nat) (l : Bool) (a b c : AV) {k n : Int} {t : List UInt8} : wrCells ((m, .cells ty l [a, b, c]) :: h) m 0 [.int .i64 k, .int .i64 n, .str t] = some ((m, .cells ty l [.int .i64 k, .int .i64 n, .str t]) :: h) := by
  rw [wr_all (ty := ty) (l := l) (cs := [a, b, c]) (vs := [.int .i64 k, .int .i64 n, .str t]) (by simp [hget_cons]) rfl rfl]; simp [hset_cons]

/-- An int's token, or LimitCheck. -/
def ansS (n : Int) (len : Nat) : AV := if 40 < len ∨ n < -2147483648 ∨ 2147483647 < n then tokA 0 0 [] 26 else tokA 1 n [] 0

theorem answer_tells (H : B.H_lex_numeral_answer T) (hwf : st.Wf) {s : List UInt8} {n : Int} : Tells T st (.fn 96 [] []) [.str s, .int .i64 n] (ansS n s.length) := by
  refine tells_of H.e H.f rfl ?_
  have hx := fun o => Ext.new hwf o
  by_cases h1 : (40 : Int) < s.length
  · have h1' : 40 < s.length := by omega
    simp [B.lex_numeral_answer, go_sem, NO.run, WO.run, wr_tok, rd_tok, fresults, resVals, resVal, RO.run, h1, h1', ansS, tokA, tokC, hx]
  · have h1' : ¬ 40 < s.length := by omega
    by_cases h2 : n < -2147483648
    · simp [B.lex_numeral_answer, go_sem, NO.run, WO.run, wr_tok, rd_tok, fresults, resVals, resVal, RO.run, h1, h1', h2, ansS, tokA, tokC, hx]
    · by_cases h3 : 2147483647 < n
      · simp [B.lex_numeral_answer, go_sem, NO.run, WO.run, wr_tok, rd_tok, fresults, resVals, resVal, RO.run, h1, h1', h2, h3, ansS, tokA, tokC, hx]
      · simp [B.lex_numeral_answer, go_sem, NO.run, WO.run, wr_tok, rd_tok, fresults, resVals, resVal, RO.run, h1, h1', h2, h3, ansS, tokA, tokC, hx]

theorem refWhole_tells (H : B.H_chaseref03_whole T) (hwf : st.Wf) {k : Nat} {n : Int} : Tells T st (.fn 79 [] []) [.int .i64 n, .int .i64 k] (ansS n k) := by
  refine tells_of H.e H.f rfl ?_
  have hx := fun o => Ext.new hwf o
  by_cases h1 : (40 : Int) < k
  · have h1' : 40 < k := by omega
    simp [B.chaseref03_whole, go_sem, NO.run, WO.run, wr_tok, rd_tok, fresults, resVals, resVal, RO.run, h1, h1', ansS, tokA, tokC, hx]
  · have h1' : ¬ 40 < k := by omega
    by_cases h2 : n < -2147483648
    · simp [B.chaseref03_whole, go_sem, NO.run, WO.run, wr_tok, rd_tok, fresults, resVals, resVal, RO.run, h1, h1', h2, ansS, tokA, tokC, hx]
    · by_cases h3 : 2147483647 < n
      · simp [B.chaseref03_whole, go_sem, NO.run, WO.run, wr_tok, rd_tok, fresults, resVals, resVal, RO.run, h1, h1', h2, h3, ansS, tokA, tokC, hx]
      · simp [B.chaseref03_whole, go_sem, NO.run, WO.run, wr_tok, rd_tok, fresults, resVals, resVal, RO.run, h1, h1', h2, h3, ansS, tokA, tokC, hx]

theorem u8_ne {c d : UInt8} (h : ¬ c = d) {n : Int} (hn : (d.toNat : Int) = n) : ¬ (c.toNat : Int) = n := fun e => h (UInt8.toNat_inj.1 (by omega))

/-- Does a string begin with an octet? -/
def begins (d : UInt8) : List UInt8 → Bool
  | [] => false
  | c :: _ => decide (c = d)

theorem prefix1_tells (H : B.H_strings_HasPrefix T) (hwf : st.Wf) {s : List UInt8} {d : UInt8} (hs : s.length < 9223372036854775807) : Tells T st (.fn 94 [] []) [.str s, .str [d]] (.bool (begins d s)) := by
  refine tells_of H.e H.f rfl ?_
  simp [B.strings_HasPrefix, go_sem]
  have : Tells T st (.fn 123 [] []) [.str s, .str [d]] (.bool (begins d s)) := by
    refine tells_of H.stringslite_HasPrefix.e H.stringslite_HasPrefix.f rfl ?_
    cases s with
    | nil => simp [B.stringslite_HasPrefix, go_sem, begins, Ext.refl hwf]
    | cons c r =>
      have h1 : (1 : Int) ≤ r.length + 1 := by omega
      have hq : asubS (c :: r) none (some (.int .i64 1)) = some (.str [c]) := by
        rw [asubS_to (by omega) (by simp; omega)]; rfl
      simp [B.stringslite_HasPrefix, go_sem, begins, h1, hq, seq8, Ext.refl hwf]
      exact UInt8.toNat_inj
  refine this.use fun s1 hs1 => ?_
  simp [go_sem, hs1]

/-- The text behind a sign, and what it is multiplied by. -/
def unsign : List UInt8 → List UInt8 × Int
  | 45 :: r => (r, -1)
  | 43 :: r => (r, 1)
  | s => (s, 1)

def wholeS (s : List UInt8) : AV :=
  if (cntS 10 (unsign s).1).2 = true then ansS ((unsign s).2 * (cntS 10 (unsign s).1).1) s.length else tokA 0 0 [] 5

theorem cntS_le (base : Int) (s : List UInt8) : (cntS base s).1 ≤ 1099511627776 := by
  have : ∀ (s : List UInt8) (v n : Nat), v ≤ 1099511627776 → cntFrom 1099511627776 base v s = some n → n ≤ 1099511627776 := by
    intro s
    induction s with
    | nil => intro v n hv h; simp only [cntFrom, Option.some.injEq] at h; omega
    | cons c r ih =>
      intro v n hv h
      simp only [cntFrom] at h
      split at h
      · cases h
      · exact ih _ _ (by omega) h
  unfold cntS
  split
  · rename_i n h; exact this s 0 n (by omega) h
  · simp

theorem whole_tells (H : B.H_lex_numeral_whole T) (hwf : st.Wf) {s : List UInt8} (hs : s.length < 9223372036854775807) : Tells T st (.fn 75 [] []) [.str s] (wholeS s) := by
  refine tells_of H.e H.f rfl ?_
  have hx := Ext.new hwf (.cells 134 true [.int .i64 0, .int .i64 0, .str []])
  have hg : hget ((st.nx, AObj.cells 134 true [.int .i64 0, .int .i64 0, .str []]) :: st.h) st.nx = some (.cells 134 true [.int .i64 0, .int .i64 0, .str []]) := by simp [hget_cons]
  simp [B.lex_numeral_whole, go_sem, NO.run]
  refine (prefix1_tells H.strings_HasPrefix hx.wf hs).use fun s1 hs1 => ?_
  have hg1 := hs1.get hx.wf hg
  have e1 := hx.trans hs1
  have hcnt := fun (t : List UInt8) (ht : t.length ≤ s.length) => count_tells H.lex_count e1.wf (s := t) (by omega) (base := 10) (by omega) (by omega)
  have fin : ∀ (t : List UInt8) (sg : Int), (sg = 1 ∨ sg = -1) → unsign s = (t, sg) → t.length ≤ s.length → (∀ {Q : AV → St → Prop}, (∀ s2, Ext s1 s2 → Q (.tuple [.int .i64 (cntS 10 t).1, .bool (cntS 10 t).2]) s2) → CRes (call T (.fn 95 [] []) [.str t, .int .i64 10] s1) Q) ∧
      IntKind.i64.wrap (sg * (cntS 10 t).1) = sg * (cntS 10 t).1 := by
    intro t sg h1 h2 h3
    have := cntS_le 10 t
    refine ⟨fun hQ => (hcnt t h3).use hQ, ?_⟩
    rcases h1 with rfl | rfl
    · rw [Int.one_mul]; exact wrap64' (by omega) (by omega)
    · exact wrap64' (by omega) (by omega)
  have tail : ∀ (t : List UInt8) (sg : Int) (s2 : St), unsign s = (t, sg) → Ext s1 s2 → hget s2.h st.nx = some (.cells 134 true [.int .i64 0, .int .i64 0, .str []]) ∧ Ext st s2 ∧
      (∀ {Q : AV → St → Prop}, (∀ s3, Ext s2 s3 → Q (ansS (sg * (cntS 10 t).1) s.length) s3) → CRes (call T (.fn 96 [] []) [.str s, .int .i64 (sg * (cntS 10 t).1)] s2) Q) ∧
      wholeS s = (if (cntS 10 t).2 = true then ansS (sg * (cntS 10 t).1) s.length else tokA 0 0 [] 5) := by
    intro t sg s2 h1 h2
    exact ⟨h2.get e1.wf hg1, e1.trans h2, fun hQ => (answer_tells H.lex_numeral_answer h2.wf).use hQ, by simp only [wholeS, h1]⟩
  have ansC : ∀ n k, ∃ a b c e, ansS n k = .tuple [.agg [.int .i64 a, .int .i64 b, .str c], .int .i64 e] := by
    intro n k
    unfold ansS
    split <;> exact ⟨_, _, _, _, rfl⟩
  match s, hs with
  | [], _ =>
    obtain ⟨f1, f2⟩ := fin [] 1 (.inl rfl) rfl (by simp)
    simp [go_sem, begins, seq8]
    refine f1 fun s2 hs2 => ?_
    obtain ⟨t1, t2, t3, t4⟩ := tail [] 1 s2 rfl hs2
    simp [go_sem, cntS, cntFrom, tok_wr t1, WO.run, fresults, resVals, resVal, RO.run, tok_rd (hget_hset_self t1), t4, tokA, tokC]
    exact t2.setNew t1 (Nat.le_refl _)
  | c :: r, hs =>
    have hsub : asubS (c :: r) (some (.int .i64 1)) none = some (.str r) := by rw [asubS_from (by omega) (by simp; omega)]; rfl
    have done' : ∀ (t : List UInt8) (sg : Int) (s2 : St), unsign (c :: r) = (t, sg) → Ext s1 s2 → (cntS 10 t).2 = true → ∀ (Q : AV → St → Prop), (∀ a b d e s3, ansS (sg * (cntS 10 t).1) (r.length + 1) = .tuple [.agg [.int .i64 a, .int .i64 b, .str d], .int .i64 e] →
        hget s3.h st.nx = some (.cells 134 true [.int .i64 0, .int .i64 0, .str []]) → Ext st s3 → Q (.tuple [.agg [.int .i64 a, .int .i64 b, .str d], .int .i64 e]) s3) → CRes (call T (.fn 96 [] []) [.str (c :: r), .int .i64 (sg * (cntS 10 t).1)] s2) Q := by
      intro t sg s2 h1 h2 h3 Q hQ
      obtain ⟨t1, t2, t3, t4⟩ := tail t sg s2 h1 h2
      obtain ⟨a, b, d, e, h4⟩ := ansC (sg * (cntS 10 t).1) (r.length + 1)
      refine t3 fun s3 hs3 => ?_
      simp only [List.length_cons, h4]
      exact hQ a b d e s3 h4 (hs3.get t2.wf t1) (t2.trans hs3)
    by_cases h45 : c = 45
    · subst h45
      obtain ⟨f1, f2⟩ := fin r (-1) (.inr rfl) rfl (by simp)
      simp [go_sem, begins, seq8, hsub]
      refine f1 fun s2 hs2 => ?_
      obtain ⟨t1, t2, t3, t4⟩ := tail r (-1) s2 rfl hs2
      cases hc : (cntS 10 r).2 with
      | false =>
        simp [go_sem, hc, tok_wr t1, WO.run, fresults, resVals, resVal, RO.run, tok_rd (hget_hset_self t1), t4, tokA, tokC]
        exact t2.setNew t1 (Nat.le_refl _)
      | true =>
        simp only [Int.neg_one_mul] at f2
        simp [go_sem, hc, f2]
        have hd := done' r (-1) s2 rfl hs2 hc
        simp only [Int.neg_one_mul] at hd
        refine hd _ fun a b d e s3 h4 h5 h6 => ?_
        rw [Int.neg_one_mul] at t4
        simp [go_sem, tok_wr h5, WO.run, fresults, resVals, resVal, RO.run, tok_rd (hget_hset_self h5), t4, hc, h4]
        exact h6.setNew h5 (Nat.le_refl _)
    · have h45i : ¬ (c.toNat : Int) = 45 := u8_ne h45 rfl
      by_cases h43 : c = 43
      · subst h43
        obtain ⟨f1, f2⟩ := fin r 1 (.inl rfl) rfl (by simp)
        simp [go_sem, begins, seq8, hsub]
        refine f1 fun s2 hs2 => ?_
        obtain ⟨t1, t2, t3, t4⟩ := tail r 1 s2 rfl hs2
        cases hc : (cntS 10 r).2 with
        | false =>
          simp [go_sem, hc, tok_wr t1, WO.run, fresults, resVals, resVal, RO.run, tok_rd (hget_hset_self t1), t4, tokA, tokC]
          exact t2.setNew t1 (Nat.le_refl _)
        | true =>
          simp only [Int.one_mul] at f2
          simp [go_sem, hc, f2]
          have hd := done' r 1 s2 rfl hs2 hc
          simp only [Int.one_mul] at hd
          refine hd _ fun a b d e s3 h4 h5 h6 => ?_
          rw [Int.one_mul] at t4
          simp [go_sem, tok_wr h5, WO.run, fresults, resVals, resVal, RO.run, tok_rd (hget_hset_self h5), t4, hc, h4]
          exact h6.setNew h5 (Nat.le_refl _)
      · have h43i : ¬ (c.toNat : Int) = 43 := u8_ne h43 rfl
        have hu : unsign (c :: r) = (c :: r, 1) := by
          unfold unsign
          split
          · rename_i h; cases h; exact absurd rfl h45
          · rename_i h; cases h; exact absurd rfl h43
          · rfl
        obtain ⟨f1, f2⟩ := fin (c :: r) 1 (.inl rfl) hu (by simp)
        simp [go_sem, begins, seq8, hsub, h45, h45i, h43i]
        refine f1 fun s2 hs2 => ?_
        obtain ⟨t1, t2, t3, t4⟩ := tail (c :: r) 1 s2 hu hs2
        cases hc : (cntS 10 (c :: r)).2 with
        | false =>
          simp [go_sem, hc, tok_wr t1, WO.run, fresults, resVals, resVal, RO.run, tok_rd (hget_hset_self t1), t4, tokA, tokC]
          exact t2.setNew t1 (Nat.le_refl _)
        | true =>
          simp only [Int.one_mul] at f2
          simp [go_sem, hc, f2]
          have hd := done' (c :: r) 1 s2 hu hs2 hc
          simp only [Int.one_mul] at hd
          refine hd _ fun a b d e s3 h4 h5 h6 => ?_
          rw [Int.one_mul] at t4
          simp [go_sem, tok_wr h5, WO.run, fresults, resVals, resVal, RO.run, tok_rd (hget_hset_self h5), t4, hc, h4]
          exact h6.setNew h5 (Nat.le_refl _)

end Go.Ev

/- Radix texts. -/
namespace Go.Ev
open Go
set_option linter.unusedSimpArgs false
set_option linter.unusedSectionVars false
set_option linter.unusedVariables false

variable {T : Tab} {st : St}

/-- What lies ahead of the first octet of a kind, what behind it, and whether there is one. -/
def cutS (d : UInt8) (s : List UInt8) : List UInt8 × List UInt8 × Bool :=
  if 0 ≤ Lib.indexByte s d then (s.take (Lib.indexByte s d).toNat, s.drop ((Lib.indexByte s d).toNat + 1), true) else (s, [], false)

theorem indexByte_lt' : ∀ (s : List UInt8) (d : UInt8), Lib.indexByte s d < s.length
  | [], _ => by simp [Lib.indexByte]
  | c :: r, d => by
    have := indexByte_lt' r d
    simp only [Lib.indexByte, List.length_cons]
    split
    · omega
    · split <;> omega

theorem cut_tells (H : B.H_strings_Cut T) (hwf : st.Wf) {s : List UInt8} {d : UInt8} (hs : s.length < 9223372036854775806) :
    Tells T st (.fn 97 [] []) [.str s, .str [d]] (.tuple [.str (cutS d s).1, .str (cutS d s).2.1, .bool (cutS d s).2.2]) := by
  refine tells_of H.e H.f rfl ?_
  have : ∀ st : St, st.Wf → Tells T st (.fn 140 [] []) [.str s, .str [d]] (.tuple [.str (cutS d s).1, .str (cutS d s).2.1, .bool (cutS d s).2.2]) := by
    intro st hwf
    refine tells_of H.stringslite_Cut.e H.stringslite_Cut.f rfl ?_
    have hlt := indexByte_lt' s d
    have hi := fun st => index1_call (st := st) H.stringslite_Cut.stringslite_Index (s := s) (c := d)
    by_cases h : 0 ≤ Lib.indexByte s d
    · have h1 := asubS_to (s := s) (j := Lib.indexByte s d) (k := .i64) h (by omega)
      have h2 := asubS_from (s := s) (i := Lib.indexByte s d + 1) (k := .i64) (by omega) (by omega)
      have h3 : (Lib.indexByte s d + 1).toNat = (Lib.indexByte s d).toNat + 1 := by omega
      have h4 : IntKind.i64.wrap (Lib.indexByte s d + 1) = Lib.indexByte s d + 1 := wrap64' (by omega) (by omega)
      simp [B.stringslite_Cut, go_sem, hi, h, h1, h2, h4, cutS, h3, Ext.aside hwf]
    · simp [B.stringslite_Cut, go_sem, hi, h, cutS, Ext.refl hwf]
  simp [B.strings_Cut, go_sem]
  refine (this st hwf).use fun s1 hs1 => ?_
  simp [go_sem, hs1]

def radixS (s : List UInt8) : AV :=
  if (cutS 35 s).2.2 = false ∨ (cntS 10 (cutS 35 s).1).2 = false ∨ 2 < (cutS 35 s).1.length ∨ (cntS 10 (cutS 35 s).1).1 < 2 ∨ 36 < (cntS 10 (cutS 35 s).1).1 then tokA 0 0 [] 5
  else if (cntS (cntS 10 (cutS 35 s).1).1 (cutS 35 s).2.1).2 = true then ansS (cntS (cntS 10 (cutS 35 s).1).1 (cutS 35 s).2.1).1 s.length
  else tokA 0 0 [] 5

theorem ansC (n : Int) (k : Nat) : ∃ a b c e, ansS n k = .tuple [.agg [.int .i64 a, .int .i64 b, .str c], .int .i64 e] := by
  unfold ansS
  split <;> exact ⟨_, _, _, _, rfl⟩

theorem cutS_le (d : UInt8) (s : List UInt8) : (cutS d s).1.length ≤ s.length ∧ (cutS d s).2.1.length ≤ s.length := by
  unfold cutS
  split <;> simp <;> omega

theorem radix_tells (H : B.H_lex_numeral_radix T) (hwf : st.Wf) {s : List UInt8} (hs : s.length < 9223372036854775806) : Tells T st (.fn 76 [] []) [.str s] (radixS s) := by
  refine tells_of H.e H.f rfl ?_
  have hx := Ext.new hwf (.cells 134 true [.int .i64 0, .int .i64 0, .str []])
  have hg : hget ((st.nx, AObj.cells 134 true [.int .i64 0, .int .i64 0, .str []]) :: st.h) st.nx = some (.cells 134 true [.int .i64 0, .int .i64 0, .str []]) := by simp [hget_cons]
  obtain ⟨l1, l2⟩ := cutS_le 35 s
  simp [B.lex_numeral_radix, go_sem, NO.run]
  refine (cut_tells H.strings_Cut hx.wf hs).use fun s1 hs1 => ?_
  have e1 := hx.trans hs1
  generalize hF : (cutS 35 s).1 = F at *
  generalize hR : (cutS 35 s).2.1 = R at *
  generalize hI : (cutS 35 s).2.2 = I at *
  simp [go_sem]
  refine (count_tells H.lex_count e1.wf (s := F) (by omega) (base := 10) (by omega) (by omega)).use fun s2 hs2 => ?_
  have e2 := e1.trans hs2
  have g2 := (hs1.trans hs2).get hx.wf hg
  obtain ⟨b, hb⟩ : ∃ b, b = (cntS 10 F).1 := ⟨_, rfl⟩
  obtain ⟨ok, hok⟩ : ∃ ok, ok = (cntS 10 F).2 := ⟨_, rfl⟩
  have hdef : radixS s = (if I = false ∨ ok = false ∨ 2 < F.length ∨ b < 2 ∨ 36 < b then tokA 0 0 [] 5 else if (cntS b R).2 = true then ansS (cntS b R).1 s.length else tokA 0 0 [] 5) := by
    simp only [radixS, hF, hR, hI, ← hb, ← hok]
  simp only [← hb, ← hok]
  clear hb hok hF hR hI
  have bad : ∀ e : Env, True := fun _ => trivial
  cases I with
  | false =>
    simp [go_sem, tok_wr g2, WO.run, fresults, resVals, resVal, RO.run, tok_rd (hget_hset_self g2), hdef, tokA, tokC]
    exact e2.setNew g2 (Nat.le_refl _)
  | true =>
  cases ok with
  | false =>
    simp [go_sem, tok_wr g2, WO.run, fresults, resVals, resVal, RO.run, tok_rd (hget_hset_self g2), hdef, tokA, tokC]
    exact e2.setNew g2 (Nat.le_refl _)
  | true =>
  by_cases c1 : 2 < F.length
  · have c1' : (2 : Int) < F.length := by omega
    simp [go_sem, c1, c1', tok_wr g2, WO.run, fresults, resVals, resVal, RO.run, tok_rd (hget_hset_self g2), hdef, tokA, tokC]
    exact e2.setNew g2 (Nat.le_refl _)
  · have c1' : ¬ (2 : Int) < F.length := by omega
    by_cases c2 : b < 2
    · have c2' : (b : Int) < 2 := by omega
      simp [go_sem, c1, c1', c2, c2', tok_wr g2, WO.run, fresults, resVals, resVal, RO.run, tok_rd (hget_hset_self g2), hdef, tokA, tokC]
      exact e2.setNew g2 (Nat.le_refl _)
    · have c2' : ¬ (b : Int) < 2 := by omega
      by_cases c3 : 36 < b
      · have c3' : (36 : Int) < b := by omega
        simp [go_sem, c1, c1', c2, c2', c3, c3', tok_wr g2, WO.run, fresults, resVals, resVal, RO.run, tok_rd (hget_hset_self g2), hdef, tokA, tokC]
        exact e2.setNew g2 (Nat.le_refl _)
      · have c3' : ¬ (36 : Int) < b := by omega
        simp [go_sem, c1, c1', c2, c2', c3, c3']
        refine (count_tells H.lex_count e2.wf (s := R) (by omega) (base := b) (by omega) (by omega)).use fun s3 hs3 => ?_
        have e3 := e2.trans hs3
        have g3 := hs3.get e2.wf g2
        cases hc : (cntS b R).2 with
        | false =>
          simp [go_sem, hc, c1, c2, c3, tok_wr g3, WO.run, fresults, resVals, resVal, RO.run, tok_rd (hget_hset_self g3), hdef, tokA, tokC]
          exact e3.setNew g3 (Nat.le_refl _)
        | true =>
          simp [go_sem, hc]
          refine (answer_tells H.lex_numeral_answer e3.wf).use fun s4 hs4 => ?_
          have e4 := e3.trans hs4
          have g4 := hs4.get e3.wf g3
          obtain ⟨a1, a2, a3, a4, h4⟩ := ansC (cntS b R).1 s.length
          simp [go_sem, hc, c1, c2, c3, h4, tok_wr g4, WO.run, fresults, resVals, resVal, RO.run, tok_rd (hget_hset_self g4), hdef, tokA, tokC]
          exact e4.setNew g4 (Nat.le_refl _)

end Go.Ev

/- Slices by what they hold, whatever their block is called. -/
namespace Go.Ev
open Go
set_option linter.unusedSimpArgs false
set_option linter.unusedVariables false

variable {T : Tab} {st : St}

/-- The block of a slice. -/
def AV.nms : AV → List Nat
  | .slice n _ _ _ => [n]
  | _ => []

/-- A slice that can grow. -/
def Sl (s : St) (v : AV) (ty es k : Nat) (cs : List AV) : Prop := ∃ n, SlAt s.h v n ty es k cs
/-- A slice that can be read. -/
def Rd (h : Heap) (v : AV) (es k : Nat) (cs : List AV) : Prop := (v = .nilslice ∧ k = 0 ∧ cs = []) ∨ ∃ n off cp, v = .slice n off k cp ∧ rdCells h n off (k * es) = some cs
/-- Its block is one of these, or new. -/
def Mine (S : List Nat) (st : St) (v : AV) : Prop := ∀ n ∈ v.nms, n ∈ S ∨ st.nx ≤ n

theorem Sl.nil (s : St) (ty es : Nat) : Sl s .nilslice ty es 0 [] := ⟨0, .nil rfl rfl rfl⟩
theorem Mine.nil (S : List Nat) (s : St) : Mine S s .nilslice := fun n h => by cases h
theorem Mine.mono {S R : List Nat} {st s : St} {v : AV} (a : Mine S s v) (h : ∀ n ∈ S, n ∈ R ∨ st.nx ≤ n) (hn : st.nx ≤ s.nx) : Mine R st v := fun n hm => by
  rcases a n hm with h1 | h1
  · exact h n h1
  · exact .inr (Nat.le_trans hn h1)
theorem Mine.ext {S : List Nat} {st s : St} {v : AV} (a : Mine S s v) (hn : st.nx ≤ s.nx) : Mine S st v := a.mono (fun n h => .inl h) hn

theorem rdCells_len {h : Heap} {n off c : Nat} {cs : List AV} (a : rdCells h n off c = some cs) : cs.length = c := by
  unfold rdCells at a
  split at a
  all_goals
    first
    | (split at a
       · injection a with a; rw [← a]; simp; omega
       · cases a)
    | cases a
theorem rdCells_get {h : Heap} {n off c i : Nat} {cs : List AV} (a : rdCells h n off c = some cs) (hi : i < c) : rdCell h n (off + i) = cs[i]? := by
  unfold rdCells at a
  unfold rdCell
  split at a
  all_goals
    first
    | (split at a
       · injection a with a; rw [← a]; simp [hi]
       · cases a)
    | cases a
theorem rdCells_some {h : Heap} {n off c : Nat} {cs : List AV} (a : rdCells h n off c = some cs) : ∃ o, hget h n = some o := by
  unfold rdCells at a
  split at a
  · exact ⟨_, by assumption⟩
  · exact ⟨_, by assumption⟩
  · exact ⟨_, by assumption⟩
  · cases a

theorem Rd.len {h : Heap} {v : AV} {es k : Nat} {cs : List AV} (a : Rd h v es k cs) : cs.length = k * es := by
  rcases a with ⟨_, h2, h3⟩ | ⟨n, off, cp, _, h2⟩
  · subst h2; subst h3; simp
  · exact rdCells_len h2
theorem Rd.lenOf {h : Heap} {v : AV} {es k : Nat} {cs : List AV} {ev : AO → AV} {x : AO} (a : Rd h v es k cs) (hx : ev x = v) : PO.run ev (.lenOf false x) = some (.int .i64 k) := by
  rcases a with ⟨h1, h2, h3⟩ | ⟨n, off, cp, h1, h2⟩
  · subst h2; simp [PO.run, hx, h1]
  · simp [PO.run, hx, h1]
theorem Rd.src {h : Heap} {v : AV} {es k : Nat} {cs : List AV} (a : Rd h v es k cs) : srcCells h es v = some (k, cs) := by
  rcases a with ⟨h1, h2, h3⟩ | ⟨n, off, cp, h1, h2⟩
  · subst h1; subst h2; subst h3; rfl
  · subst h1; simp only [srcCells, h2, Option.map_some]
theorem Rd.frm {st st' : St} {v : AV} {es k : Nat} {cs : List AV} {S : List Nat} (a : Rd st.h v es k cs) (f : Frm S st st') (hw : st.Wf) (hn : ∀ n ∈ v.nms, n ∉ S) : Rd st'.h v es k cs := by
  rcases a with ⟨h1, h2, h3⟩ | ⟨n, off, cp, h1, h2⟩
  · exact .inl ⟨h1, h2, h3⟩
  · refine .inr ⟨n, off, cp, h1, ?_⟩
    obtain ⟨o, ho⟩ := rdCells_some h2
    have := f.get hw ho (hn n (by simp [h1, AV.nms]))
    unfold rdCells at h2 ⊢
    rw [ho] at h2
    rw [this]
    exact h2
theorem Rd.ext {st st' : St} {v : AV} {es k : Nat} {cs : List AV} (a : Rd st.h v es k cs) (f : Ext st st') (hw : st.Wf) : Rd st'.h v es k cs := a.frm (f.fr []) hw (by simp)
theorem Rd.lt {v : AV} {es k : Nat} {cs : List AV} (a : Rd st.h v es k cs) (hw : st.Wf) : ∀ n ∈ v.nms, n < st.nx := by
  rcases a with ⟨h1, h2, h3⟩ | ⟨n, off, cp, h1, h2⟩
  · subst h1; intro n h; cases h
  · subst h1
    intro m h
    simp [AV.nms] at h
    subst h
    obtain ⟨o, ho⟩ := rdCells_some h2
    exact hw.lt _ _ ho

theorem SlAt.rd' {h : Heap} {v : AV} {n ty es k : Nat} {cs : List AV} (a : SlAt h v n ty es k cs) : Rd h v es k cs := by
  rcases a with ⟨h1, h2, h3⟩ | ⟨h1, h2, h3⟩ | ⟨ty', h1, h2, h3⟩
  · exact .inl ⟨h1, h3, h2⟩
  · refine .inr ⟨n, 0, _, h1, ?_⟩
    simp only [rdCells, h2]
    rw [if_pos (by omega), List.drop_zero, List.take_of_length_le (by omega)]
  · exact .inr ⟨n, 0, _, h1, rd_all h2 h3⟩
theorem Sl.rd {s : St} {v : AV} {ty es k : Nat} {cs : List AV} (a : Sl s v ty es k cs) : Rd s.h v es k cs := by
  obtain ⟨n, a⟩ := a; exact a.rd'

theorem SlAt.frm' {st st' : St} {v : AV} {n ty es k : Nat} {cs : List AV} {S : List Nat} (a : SlAt st.h v n ty es k cs) (f : Frm S st st') (hw : st.Wf) (hn : ∀ n ∈ v.nms, n ∉ S) : SlAt st'.h v n ty es k cs := by
  rcases a with ⟨h1, h2, h3⟩ | ⟨h1, h2, h3⟩ | ⟨ty', h1, h2, h3⟩
  · exact .nil h1 h2 h3
  · exact .buf h1 (f.get hw h2 (hn n (by simp [h1, AV.nms]))) h3
  · exact .made ty' h1 (f.get hw h2 (hn n (by simp [h1, AV.nms]))) h3
theorem Sl.frm {st st' : St} {v : AV} {ty es k : Nat} {cs : List AV} {S : List Nat} (a : Sl st v ty es k cs) (f : Frm S st st') (hw : st.Wf) (hn : ∀ n ∈ v.nms, n ∉ S) : Sl st' v ty es k cs := by
  obtain ⟨n, a⟩ := a; exact ⟨n, a.frm' f hw hn⟩
theorem Sl.ext {st st' : St} {v : AV} {ty es k : Nat} {cs : List AV} (a : Sl st v ty es k cs) (f : Ext st st') (hw : st.Wf) : Sl st' v ty es k cs := a.frm (f.fr []) hw (by simp)
theorem Sl.dropLoc {v : AV} {ty es k c : Nat} {cs : List AV} (hwf : st.Wf) (a : Sl st v ty es k cs) : Sl ⟨Go.Ev.dropLoc c st.h, st.nx⟩ v ty es k cs := by
  obtain ⟨n, a⟩ := a; exact ⟨n, a.dropLoc hwf⟩

/-- What append makes: of the slice's own block or of a new one. -/
theorem Sl.append {st0 : St} {S : List Nat} (hF : Frm S st0 st) {v x : AV} {ty es k j b : Nat} {cs new : List AV} (hv : Mine S st0 v) (a : Sl st v ty es k cs) (hx : Rd st.h x es j new) (hsc : new.all AV.sc = true)
    (hb : (k + j) * b ≤ 35184372088832) (hb' : k + j ≤ 35184372088832) (hm : 0 < j ∨ ∀ n c, v ≠ .slice n 0 k (.known c)) :
    CRes (aappend ty es b st v x) fun v' s => Sl s v' ty es (k + j) (cs ++ new) ∧ Frm S st0 s ∧ Mine S st0 v' ∧ Frm v.nms st s := by
  obtain ⟨n, a⟩ := a
  cases hv0 : v with
  | slice m o l c =>
    have hmn : n = m := by
      rcases a with ⟨h1, h2, h3⟩ | ⟨h1, h2, h3⟩ | ⟨ty', h1, h2, h3⟩ <;> rw [hv0] at h1 <;> simp at h1 <;> first | exact h1.1.symm | exact h1.symm
    subst hmn
    rw [← hv0]
    refine (a.append hF.wf hx.src hx.len hsc hb hb' ?_).mono ?_
    · rcases hm with h | h
      · exact .inl h
      · exact .inr (fun ⟨c, hc⟩ => h _ _ hc)
    · rintro v' s ⟨n', hs, hf, hn, _⟩
      have hfs : Frm v.nms st s := by rw [hv0]; exact hf
      refine ⟨⟨n', hs⟩, hF.trans hfs hv, ?_, hfs⟩
      intro k hk
      have hk' : k = n' := by
        rcases hs with ⟨h1, h2, h3⟩ | ⟨h1, h2, h3⟩ | ⟨ty', h1, h2, h3⟩ <;> rw [h1] at hk <;> simp [AV.nms] at hk <;> exact hk
      subst hk'
      rcases hn with h | h
      · subst h; exact hv _ (by simp [hv0, AV.nms])
      · exact .inr (Nat.le_trans hF.nx h)
  | nilslice =>
    have hk0 : k = 0 ∧ cs = [] := by
      rcases a with ⟨h1, h2, h3⟩ | ⟨h1, h2, h3⟩ | ⟨ty', h1, h2, h3⟩
      · exact ⟨h3, h2⟩
      · rw [hv0] at h1; cases h1
      · rw [hv0] at h1; cases h1
    obtain ⟨rfl, rfl⟩ := hk0
    unfold aappend
    rw [hx.src]
    simp only [Nat.zero_add] at hb hb' ⊢
    by_cases hj0 : j = 0
    · rw [if_pos hj0]
      refine ⟨?_, hF, Mine.nil _ _, Frm.refl hF.wf _⟩
      have : new = [] := List.length_eq_zero_iff.1 (by rw [hx.len, hj0]; simp)
      subst this; subst hj0
      exact .nil _ _ _
    · rw [if_neg hj0, if_pos ⟨hb, hb'⟩]
      refine ⟨⟨st.nx, .buf rfl (by simp [hget]) (by simpa using hx.len)⟩, hF.trans ((Ext.new hF.wf _).fr []) (by simp), ?_, (Ext.new hF.wf _).fr _⟩
      intro n hn
      simp [AV.nms] at hn
      subst hn
      exact .inr hF.nx
  | _ =>
    rcases a with ⟨h1, h2, h3⟩ | ⟨h1, h2, h3⟩ | ⟨ty', h1, h2, h3⟩ <;> rw [hv0] at h1 <;> cases h1

/-- One value appended, out of a block made for it. -/
theorem Sl.push {st0 : St} {S : List Nat} (hF : Frm S st0 st) {v y : AV} {ty k b : Nat} {cs : List AV} {Q : AV → St → Prop} (hv : Mine S st0 v) (a : Sl st v ty 1 k cs) (hsc : y.sc = true) (hb : (k + 1) * b ≤ 35184372088832) (hb' : k + 1 ≤ 35184372088832)
    (hq : ∀ v' s, Sl s v' ty 1 (k + 1) (cs ++ [y]) → Frm S st0 s → Mine S st0 v' → Frm v.nms st s → Q v' s) :
    CRes (aappend ty 1 b ⟨(st.nx, .cells ty false [y]) :: st.h, st.nx + 1⟩ v (.slice st.nx 0 1 (.known 1))) Q := by
  have hx := Ext.new hF.wf (.cells ty false [y])
  refine (Sl.append (j := 1) (new := [y]) (hF.trans (hx.fr []) (by simp)) hv (a.ext hx hF.wf) (.inr ⟨_, _, _, rfl, ?_⟩) (by simp [hsc]) hb hb' (.inl (by omega))).mono ?_
  · exact rd_all (ty := ty) (l := false) (by simp [hget]) rfl
  · rintro v' s ⟨h1, h2, h3, h4⟩
    exact hq v' s h1 h2 h3 ((hx.fr v.nms).trans h4 (fun n h => .inl h))

def ints (l : List Bool) : List AV := l.map fun b => .int .i64 (b.toNat : Nat)
theorem ints_len (l : List Bool) : (ints l).length = l.length := by simp [ints]
theorem ints_sc (l : List Bool) : (ints l).all AV.sc = true := by simp [ints, AV.sc]
theorem ints_append (a b : List Bool) : ints (a ++ b) = ints a ++ ints b := by simp [ints]
theorem ints_get {l : List Bool} {i : Nat} (h : i < l.length) : (ints l)[i]? = some (.int .i64 ((l.getD i false).toNat : Nat)) := by
  simp [ints, List.getD_eq_getElem?_getD, List.getElem?_eq_getElem h]

theorem abounds_hi {len top : Nat} {k : IntKind} {j : Int} (h0 : 0 ≤ j) (h1 : j ≤ top) : abounds len top none (some (.int k j)) none = some (0, j.toNat, none) := by
  simp only [abounds, bnd, abound]
  rw [if_pos ⟨h0, h1⟩]
theorem asubL_hi_full {es n len : Nat} {k : IntKind} {j : Int} (h0 : 0 ≤ j) (h1 : j ≤ len) : asubL es n 0 len .full none (some (.int k j)) none = some (.slice n 0 j.toNat .full) := by
  have : abounds len (topOf len .full) none (some (.int k j)) none = some (0, j.toNat, none) := abounds_hi h0 h1
  simp only [asubL, this]
  rfl
theorem asubL_hi_known {es n len : Nat} {k : IntKind} {j : Int} (h0 : 0 ≤ j) (h1 : j ≤ len) (h2 : 0 < len) : asubL es n 0 len (.known len) none (some (.int k j)) none = some (.slice n 0 j.toNat (.known len)) := by
  have : abounds len (topOf len (.known len)) none (some (.int k j)) none = some (0, j.toNat, none) := abounds_hi h0 h1
  simp only [asubL, this, subCap, Nat.sub_zero]
  cases len with
  | zero => omega
  | succ z => simp

/-- Blocks that do not go with a call. -/
def NL (s : St) (v : AV) : Prop := ∀ n ∈ v.nms, ∃ o, hget s.h n = some o ∧ o.lc = false
theorem NL.frm {st st' : St} {v : AV} {S : List Nat} (a : NL st v) (f : Frm S st st') (hw : st.Wf) (hn : ∀ n ∈ v.nms, n ∉ S) : NL st' v := fun n h => by
  obtain ⟨o, h1, h2⟩ := a n h
  exact ⟨o, f.get hw h1 (hn n h), h2⟩
theorem NL.ext {st st' : St} {v : AV} (a : NL st v) (f : Ext st st') (hw : st.Wf) : NL st' v := a.frm (f.fr []) hw (by simp)
theorem NL.dropLoc {v : AV} {c : Nat} (hwf : st.Wf) (a : NL st v) : NL ⟨Go.Ev.dropLoc c st.h, st.nx⟩ v := fun n h => by
  obtain ⟨o, h1, h2⟩ := a n h
  exact ⟨o, hget_dropLoc_keep hwf h1 h2, h2⟩
theorem Rd.dropLoc {v : AV} {es k c : Nat} {cs : List AV} (hwf : st.Wf) (a : Rd st.h v es k cs) (b : NL st v) : Rd (Go.Ev.dropLoc c st.h) v es k cs := by
  rcases a with ⟨h1, h2, h3⟩ | ⟨n, off, cp, h1, h2⟩
  · exact .inl ⟨h1, h2, h3⟩
  · refine .inr ⟨n, off, cp, h1, ?_⟩
    obtain ⟨o, h3, h4⟩ := b n (by simp [h1, AV.nms])
    have := hget_dropLoc_keep (c := c) hwf h3 h4
    unfold rdCells at h2 ⊢
    rw [h3] at h2
    rw [this]
    exact h2
theorem Sl.nl {s : St} {v : AV} {ty es k : Nat} {cs : List AV} (a : Sl s v ty es k cs) : NL s v := by
  obtain ⟨n, a⟩ := a
  intro m hm
  rcases a with ⟨h1, h2, h3⟩ | ⟨h1, h2, h3⟩ | ⟨ty', h1, h2, h3⟩ <;> rw [h1] at hm <;> simp [AV.nms] at hm <;> subst hm
  · exact ⟨_, h2, rfl⟩
  · exact ⟨_, h2, rfl⟩

end Go.Ev

/- Bits and octets: plain laws. -/
namespace Go.Ev
open Go
set_option linter.unusedSimpArgs false
set_option linter.unusedVariables false

/-- The number that bits write. -/
def horner (l : List Bool) : Nat := l.foldl (fun a b => 2 * a + b.toNat) 0

theorem horner_snoc (l : List Bool) (x : Bool) : horner (l ++ [x]) = 2 * horner l + x.toNat := by simp [horner]

def chunk (l : List Bool) (k : Nat) : List Bool := (l.drop (8 * k)).take 8

/-- The octet of up to eight bits. -/
def octet (c : List Bool) : Nat := horner c * 2 ^ (8 - c.length)

def packN (l : List Bool) : List Nat := (List.range ((l.length + 7) / 8)).map fun k => octet (chunk l k)

theorem packN_length (l : List Bool) : (packN l).length = (l.length + 7) / 8 := by simp [packN]

theorem packN_get {l : List Bool} {k : Nat} (h : k < (l.length + 7) / 8) : (packN l)[k]? = some (octet (chunk l k)) := by
  simp [packN, h]

theorem foldl_lt : ∀ (l : List Bool) (a : Nat), l.foldl (fun a b => 2 * a + b.toNat) a < (a + 1) * 2 ^ l.length
  | [], a => by simp
  | x :: l, a => by
    have h := foldl_lt l (2 * a + x.toNat)
    have hx : x.toNat ≤ 1 := by cases x <;> simp
    rw [List.foldl_cons, List.length_cons, Nat.pow_succ]
    have h2 : (2 * a + x.toNat + 1) * 2 ^ l.length ≤ (2 * (a + 1)) * 2 ^ l.length := Nat.mul_le_mul_right _ (by omega)
    have h3 : (2 * (a + 1)) * 2 ^ l.length = (a + 1) * (2 ^ l.length * 2) := by rw [Nat.mul_comm 2, Nat.mul_assoc, Nat.mul_comm 2]
    omega

theorem horner_lt (l : List Bool) : horner l < 2 ^ l.length := by
  have := foldl_lt l 0
  simpa [horner] using this

theorem octet_lt {c : List Bool} (h : c.length ≤ 8) : octet c < 256 := by
  unfold octet
  have h1 := horner_lt c
  have h2 : 2 ^ c.length * 2 ^ (8 - c.length) = 256 := by rw [← Nat.pow_add]; rw [show c.length + (8 - c.length) = 8 by omega]
  calc horner c * 2 ^ (8 - c.length) < 2 ^ c.length * 2 ^ (8 - c.length) := Nat.mul_lt_mul_of_pos_right h1 (Nat.two_pow_pos _)
    _ = 256 := h2

theorem chunk_length (l : List Bool) (k : Nat) : (chunk l k).length = min 8 (l.length - 8 * k) := by simp [chunk]

theorem chunk_old {l : List Bool} {x : Bool} {k : Nat} (h : 8 * k + 8 ≤ l.length) : chunk (l ++ [x]) k = chunk l k := by
  unfold chunk
  rw [List.drop_append_of_le_length (by omega), List.take_append_of_le_length (by simp; omega)]

theorem chunk_new {l : List Bool} {x : Bool} : chunk (l ++ [x]) (l.length / 8) = chunk l (l.length / 8) ++ [x] := by
  unfold chunk
  rw [List.drop_append_of_le_length (by omega), List.take_of_length_le (by simp; omega), List.take_of_length_le (by simp; omega)]

theorem octet_snoc {c : List Bool} {x : Bool} (h : c.length < 8) : octet (c ++ [x]) = octet c ||| (x.toNat * 2 ^ (7 - c.length)) := by
  unfold octet
  rw [horner_snoc, List.length_append, List.length_singleton]
  have e : 8 - c.length = (7 - c.length) + 1 := by omega
  have hx : x.toNat * 2 ^ (7 - c.length) < 2 ^ (8 - c.length) := by
    rw [e, Nat.pow_succ]
    have := Nat.two_pow_pos (7 - c.length)
    cases x
    · simp; omega
    · simp; omega
  rw [Nat.mul_comm (horner c), ← Nat.two_pow_add_eq_or_of_lt hx]
  rw [show 8 - (c.length + 1) = 7 - c.length by omega, e, Nat.pow_succ, Nat.add_mul]
  congr 1
  rw [Nat.mul_comm 2 (horner c), Nat.mul_assoc, Nat.mul_comm]
  rw [Nat.mul_comm 2]

theorem ofInt_ofNat (k n : Nat) : BitVec.ofInt k (n : Int) = BitVec.ofNat k n := BitVec.ofInt_natCast k n

theorem u8_or {a b : Nat} (ha : a < 256) (hb : b < 256) : IntKind.u8.wrap ((BitVec.ofInt IntKind.u8.bits (a : Int) ||| BitVec.ofInt IntKind.u8.bits (b : Int)).toNat : Int) = ((a ||| b : Nat) : Int) := by
  have hor : a ||| b < 2 ^ 8 := Nat.or_lt_two_pow ha hb
  have h1 : (BitVec.ofInt IntKind.u8.bits (a : Int) ||| BitVec.ofInt IntKind.u8.bits (b : Int)).toNat = a ||| b := by
    rw [ofInt_ofNat, ofInt_ofNat]
    show (BitVec.ofNat 8 a ||| BitVec.ofNat 8 b).toNat = _
    rw [BitVec.toNat_or, BitVec.toNat_ofNat, BitVec.toNat_ofNat, Nat.mod_eq_of_lt ha, Nat.mod_eq_of_lt hb]
  rw [h1]
  simp [IntKind.wrap, IntKind.signed, IntKind.bits]
  omega

theorem i64_and_one {a : Nat} (ha : a < 2 ^ 63) : IntKind.i64.wrap ((BitVec.ofInt IntKind.i64.bits (a : Int) &&& BitVec.ofInt IntKind.i64.bits 1).toNat : Int) = ((a % 2 : Nat) : Int) := by
  have h1 : (BitVec.ofInt IntKind.i64.bits (a : Int) &&& BitVec.ofInt IntKind.i64.bits 1).toNat = a % 2 := by
    rw [show (1 : Int) = ((1 : Nat) : Int) from rfl, ofInt_ofNat, ofInt_ofNat]
    show (BitVec.ofNat 64 a &&& BitVec.ofNat 64 1).toNat = _
    rw [BitVec.toNat_and, BitVec.toNat_ofNat, BitVec.toNat_ofNat, Nat.mod_eq_of_lt (show a < 2 ^ 64 by omega)]
    exact Nat.and_one_is_mod a
  rw [h1]
  rw [wrap64_id (by omega) (by omega)]

/-- One bit more. -/
theorem packN_snoc_in {l : List Bool} {x : Bool} (h : l.length % 8 ≠ 0) :
    packN (l ++ [x]) = (packN l).set (l.length / 8) (octet (chunk l (l.length / 8)) ||| (x.toNat * 2 ^ (7 - l.length % 8))) := by
  apply List.ext_getElem?
  intro k
  have hlen : (l ++ [x]).length = l.length + 1 := by simp
  have hn : (l.length + 1 + 7) / 8 = (l.length + 7) / 8 := by omega
  rw [List.getElem?_set, packN_length]
  by_cases hk : k < (l.length + 7) / 8
  · rw [packN_get (by rw [hlen]; omega)]
    by_cases he : l.length / 8 = k
    · subst he
      rw [if_pos rfl, if_pos (by omega), chunk_new]
      have hcl : (chunk l (l.length / 8)).length = l.length % 8 := by rw [chunk_length]; omega
      rw [octet_snoc (by omega), hcl]
    · rw [if_neg he, packN_get hk, chunk_old (by omega)]
  · rw [List.getElem?_eq_none (by rw [packN_length, hlen]; omega)]
    rw [if_neg (by omega), List.getElem?_eq_none (by rw [packN_length]; omega)]

theorem packN_snoc_new {l : List Bool} {x : Bool} (h : l.length % 8 = 0) :
    packN (l ++ [x]) = (packN l ++ [0]).set (l.length / 8) (0 ||| (x.toNat * 2 ^ (7 - l.length % 8))) := by
  apply List.ext_getElem?
  intro k
  have hlen : (l ++ [x]).length = l.length + 1 := by simp
  rw [List.getElem?_set, List.length_append, packN_length, List.length_singleton]
  by_cases hk : k < (l.length + 1 + 7) / 8
  · rw [packN_get (by rw [hlen]; omega)]
    by_cases he : l.length / 8 = k
    · subst he
      rw [if_pos rfl, if_pos (by omega), chunk_new]
      have hcl : (chunk l (l.length / 8)).length = 0 := by rw [chunk_length]; omega
      have hc0 : chunk l (l.length / 8) = [] := List.length_eq_zero_iff.1 hcl
      rw [octet_snoc (by omega), hcl, hc0, h]
      rfl
    · rw [if_neg he, List.getElem?_append_left (by rw [packN_length]; omega), packN_get (by omega), chunk_old (by omega)]
  · rw [List.getElem?_eq_none (by rw [packN_length, hlen]; omega)]
    rw [if_neg (by omega), List.getElem?_eq_none (by rw [List.length_append, packN_length, List.length_singleton]; omega)]

theorem iand_one {a : Int} (h0 : 0 ≤ a) (h1 : a < 9223372036854775808) : iand .i64 a 1 = a % 2 := by
  obtain ⟨n, rfl⟩ := Int.eq_ofNat_of_zero_le h0
  unfold iand
  rw [i64_and_one (by omega)]
  omega

theorem ior_u8 {a b : Nat} (ha : a < 256) (hb : b < 256) : ior .u8 (a : Int) (b : Int) = ((a ||| b : Nat) : Int) := u8_or ha hb

theorem ishr_nat {k : IntKind} {a : Int} {b : Nat} (h0 : 0 ≤ a) (hb : b ≤ k.bits) : ishr k a (b : Int) = a / 2 ^ b := by
  unfold ishr
  rw [Int.toNat_natCast, Nat.min_eq_left hb, Int.fdiv_eq_ediv_of_nonneg _ (Int.natCast_nonneg _)]
  push_cast; rfl

theorem wrap_u8 {a : Int} (h0 : 0 ≤ a) (h1 : a < 256) : IntKind.u8.wrap a = a := by
  simp [IntKind.wrap, IntKind.signed, IntKind.bits]; omega

theorem ishl_bit {x : Bool} {r : Nat} (hr : r < 8) : ishl .u8 (x.toNat : Int) (7 - (r : Int)) = ((x.toNat * 2 ^ (7 - r) : Nat) : Int) := by
  unfold ishl
  have h1 : (7 - (r : Int)).toNat = 7 - r := by omega
  have h2 : min (7 - r) IntKind.u8.bits = 7 - r := by simp [IntKind.bits]; omega
  rw [h1, h2]
  have h3 : (x.toNat : Int) * ((2 ^ (7 - r) : Nat) : Int) = ((x.toNat * 2 ^ (7 - r) : Nat) : Int) := by push_cast; rfl
  rw [h3]
  have h4 : 2 ^ (7 - r) ≤ 2 ^ 7 := Nat.pow_le_pow_right (by omega) (by omega)
  have h5 : x.toNat * 2 ^ (7 - r) ≤ 2 ^ 7 := by cases x <;> simp <;> omega
  rw [wrap_u8 (by omega) (by omega)]

end Go.Ev

/- The scanner of decimals. -/
namespace Go.Ev
open Go
set_option linter.unusedSimpArgs false
set_option linter.unusedSectionVars false
set_option linter.unusedVariables false

variable {T : Tab} {st : St}

/-- A scanner in memory: what it reads, and where it is. -/
def ScnAt (s' : St) (q : Nat) (s : List UInt8) (k : Nat) : Prop := hget s'.h q = some (.cells 187 false [.str s, .int .i64 k])

theorem ScnAt.r0 {s' : St} {q k : Nat} {s : List UInt8} (h : ScnAt s' q s k) : rdCell s'.h q 0 = some (.str s) := by unfold ScnAt at h; simp [rdCell, h]
theorem ScnAt.r1 {s' : St} {q k : Nat} {s : List UInt8} (h : ScnAt s' q s k) : rdCell s'.h q 1 = some (.int .i64 k) := by unfold ScnAt at h; simp [rdCell, h]
theorem ScnAt.w1 {s' : St} {q k : Nat} {s : List UInt8} {n : Int} (h : ScnAt s' q s k) : wrCells s'.h q 1 [.int .i64 n] = some (hset s'.h q (.cells 187 false [.str s, .int .i64 n])) := wr_cells h rfl (by simp)
theorem ScnAt.ext {s1 s2 : St} {q k : Nat} {s : List UInt8} (h : ScnAt s1 q s k) (hw : s1.Wf) (x : Ext s1 s2) : ScnAt s2 q s k := x.get hw h

/-- Is the first octet one of a set? -/
def oneB (set : List UInt8) : List UInt8 → Bool
  | [] => false
  | c :: _ => decide (c ∈ set)

theorem one_loop (H : B.H_real_scanner_one T) {q k : Nat} {s set : List UInt8} {c : UInt8} (hk : k < 9223372036854775806) (hc : s[k]? = some c) (hset' : set.length < 9223372036854775806) :
    ∀ (m i : Nat) (e : Env) (st1 : St), i + m = set.length → st1.Wf → ScnAt st1 q s k → eget e 0 = .ptr q 0 → eget e 1 = .str set → eget e 19 = .int .i64 set.length → eget e 20 = .int .i64 i →
    Res (run T (.loop B.real_scanner_one_l0) e st1) fun x e' s' => (x = .exit 0 ∧ Ext st1 s' ∧ ¬ c ∈ set.drop i) ∨ (x = .ret ∧ eget e' 4 = .bool true ∧ Frm [q] st1 s' ∧ ScnAt s' q s (k + 1) ∧ c ∈ set.drop i) := by
  intro m
  induction m with
  | zero =>
    intro i e st1 hi hw hq g0 g1 g19 g20
    have hil : i = set.length := by omega
    subst hil
    rw [run_loop]
    simp [B.real_scanner_one_l0, go_sem, g0, g1, g19, g20, Ext.refl hw]
  | succ m ih =>
    intro i e st1 hi hw hq g0 g1 g19 g20
    have hil : i < set.length := by omega
    have hil' : (i : Int) < set.length := by omega
    obtain ⟨d, hd, hdr⟩ := idx_some hil
    have r0 := hq.r0
    have r1 := hq.r1
    have x1 := Ext.aside hw 15
    have hq1 : ScnAt ⟨st1.h, st1.nx + 15⟩ q s k := hq
    rw [run_loop]
    by_cases hcd : c = d
    · subst hcd
      have hw1 := hq.w1 (n := (k : Int) + 1)
      have hwk : IntKind.i64.wrap ((k : Int) + 1) = (k : Int) + 1 := wrap64' (by omega) (by omega)
      simp [B.real_scanner_one_l0, go_sem, g0, g1, g19, g20, hil', RO.run, WO.run, r0, r1, hc, hd, hwk, hw1, hdr]
      refine ⟨?_, ?_⟩
      · exact (x1.fr [q]).trans (Frm.set (st := ⟨_, _⟩) x1.wf hq1) (by simp)
      · exact hget_hset_self hq1
    · have hne : ¬ (c.toNat : Int) = d.toNat := u8_ne hcd rfl
      have hne' : ¬ c.toNat = d.toNat := fun e => hcd (UInt8.toNat_inj.1 e)
      simp [B.real_scanner_one_l0, go_sem, g0, g1, g19, g20, hil', RO.run, r0, r1, hc, hd, hne, hne', hcd, hdr]
      refine (ih (i + 1) _ _ (by omega) x1.wf hq1 ?_ ?_ ?_ ?_).mono ?_
      · simp [go_sem]
      · simp [go_sem]
      · simp [go_sem]
      · simp [go_sem]; rw [wrap64' (by omega) (by omega)]
      · rintro x e' s' (⟨rfl, h1, h2⟩ | ⟨rfl, h1, h2, h3, h4⟩)
        · exact .inl ⟨rfl, x1.trans h1, h2⟩
        · exact .inr ⟨rfl, h1, (x1.fr [q]).trans h2 (by simp), h3, h4⟩

/-- One octet out of a set, or none. -/
theorem one_res (H : B.H_real_scanner_one T) (hwf : st.Wf) {q k : Nat} {s set : List UInt8} (hs : s.length < 9223372036854775806) (hk : k ≤ s.length) (hset' : set.length < 9223372036854775806) (hq : ScnAt st q s k) :
    CRes (call T (.fn 120 [.ptr q 0] []) [.str set] st) fun v s' => v = .bool (oneB set (s.drop k)) ∧ Frm [q] st s' ∧ ScnAt s' q s (if oneB set (s.drop k) = true then k + 1 else k) := by
  refine call_res H.e H.f rfl ?_
  have r0 := hq.r0
  have r1 := hq.r1
  have x1 := Ext.aside hwf 12
  have hqn : q < st.nx := hwf.lt _ _ hq
  by_cases hkl : k = s.length
  · subst hkl
    simp [B.real_scanner_one, go_sem, RO.run, r0, r1, oneB]
    refine ⟨(x1.dropLoc).fr _, ?_⟩
    exact hget_dropLoc_keep hwf hq rfl
  · have hkl' : ¬ (k : Int) = s.length := by omega
    obtain ⟨c, hc, hd⟩ := idx_some (s := s) (i := k) (by omega)
    simp [B.real_scanner_one, go_sem, RO.run, r0, r1, hkl', hkl]
    refine (one_loop H (q := q) (s := s) (set := set) (by omega) hc hset' set.length 0 _ _ (by simp) x1.wf (show ScnAt ⟨st.h, st.nx + 12⟩ q s k from hq) ?_ ?_ ?_ ?_).mono ?_
    · simp [go_sem]
    · simp [go_sem]
    · simp [go_sem]
    · simp [go_sem]
    · rintro x e' s' (⟨rfl, h1, h2⟩ | ⟨rfl, h1, h2, h3, h4⟩)
      · rw [List.drop_zero] at h2
        simp [go_sem, hd, oneB, h2]
        have y := x1.trans h1
        exact ⟨(y.dropLoc).fr _, hget_dropLoc_keep y.wf (h1.get x1.wf hq) rfl⟩
      · rw [List.drop_zero] at h4
        simp [go_sem, hd, oneB, h4, h1]
        have y := (x1.fr [q]).trans h2 (by simp)
        exact ⟨y.dropLoc, hget_dropLoc_keep y.wf h3 rfl⟩

/-- Digits ahead, by value, and what is left. -/
def spanD : List UInt8 → List Nat × List UInt8
  | [] => ([], [])
  | c :: r => if 48 ≤ c.toNat ∧ c.toNat ≤ 57 then ((c.toNat - 48) :: (spanD r).1, (spanD r).2) else ([], c :: r)

def ten : List UInt8 := [48, 49, 50, 51, 52, 53, 54, 55, 56, 57]
theorem mem_ten (c : UInt8) : c ∈ ten ↔ 48 ≤ c.toNat ∧ c.toNat ≤ 57 := by
  have h : (List.range 256).all (fun n => decide (UInt8.ofNat n ∈ ten) == decide (48 ≤ n ∧ n ≤ 57)) = true := by kernel_rfl
  have := all_octets h c
  simp only [UInt8.ofNat_toNat, beq_iff_eq, decide_eq_decide] at this
  exact this

def octs (l : List Nat) : List AV := l.map fun n => .int .u8 ((n : Nat) : Int)
theorem octs_len (l : List Nat) : (octs l).length = l.length := by simp [octs]
theorem octs_sc (l : List Nat) : (octs l).all AV.sc = true := by simp [octs, AV.sc]
theorem octs_snoc (l : List Nat) (n : Nat) : octs (l ++ [n]) = octs l ++ [.int .u8 (n : Int)] := by simp [octs]

theorem spanD_len (s : List UInt8) : (spanD s).1.length + (spanD s).2.length = s.length := by
  induction s with
  | nil => rfl
  | cons c r ih =>
    simp only [spanD]
    split
    · simp only [List.length_cons]; omega
    · simp

/-- A new object under a name laid aside. -/
theorem Ext.newA (h : st.Wf) (o : AObj) {k : Nat} (hk : 0 < k) : Ext st ⟨(st.nx, o) :: st.h, st.nx + k⟩ := by
  have x := Ext.new h o
  refine ⟨by simp, ⟨fun n p hp => ?_, x.wf.nd⟩, x.keep⟩
  have := x.wf.lt n p hp
  simp only at this ⊢
  omega

theorem oneB_ten (s : List UInt8) : oneB ten s = true ↔ ∃ c r, s = c :: r ∧ 48 ≤ c.toNat ∧ c.toNat ≤ 57 := by
  cases s with
  | nil => simp [oneB]
  | cons c r => simp [oneB, mem_ten]

/-- No block made at once: it grows by appends alone. -/
def NK (v : AV) : Prop := ∀ n o k c, v ≠ .slice n o k (.known c)

theorem aappend_nk {ty es b : Nat} {st st' : St} {v x v' : AV} (h : aappend ty es b st v x = some (v', st')) (hv : NK v) : NK v' := by
  unfold aappend at h
  split at h
  · cases h
  · split at h
    · split at h
      · cases h; exact hv
      · split at h
        · cases h; intro n o k c e; cases e
        · cases h
    · rename_i n o len cap
      split at h
      · split at h
        · exact absurd rfl (hv _ _ _ _)
        · split at h
          · split at h
            · split at h
              · cases h; exact hv
              · cases h; intro n o k c e; cases e
            · cases h
          · cases h
        · cases h
      · cases h
    · cases h

theorem CRes.also {r : Option (AV × St)} {P : AV → St → Prop} {R : AV → Prop} (h : CRes r P) (k : ∀ v s, r = some (v, s) → R v) : CRes r fun v s => P v s ∧ R v := by
  obtain ⟨v, s, h1, h2⟩ := h.elim
  rw [h1]
  exact ⟨h2, k v s h1⟩

theorem digits_loop (H : B.H_real_scanner_digits T) {q : Nat} {s : List UInt8} (hs : s.length < 35184372088832) (st0 : St) (hq0 : q < st0.nx) :
    ∀ (m k : Nat) (e : Env) (st1 : St) (v : AV) (l : List Nat), k + m = s.length → Frm [q] st0 st1 → ScnAt st1 q s k → eget e 0 = .ptr q 0 → eget e 3 = v → Sl st1 v 5 1 l.length (octs l) → Mine [] st0 v → NK v → l.length ≤ k →
    Res (run T (.loop B.real_scanner_digits_l0) e st1) fun x e' s' => x = .exit 0 ∧ Frm [q] st0 s' ∧ Mine [] st0 (eget e' 3) ∧ NK (eget e' 3) ∧ Sl s' (eget e' 3) 5 1 (l ++ (spanD (s.drop k)).1).length (octs (l ++ (spanD (s.drop k)).1)) ∧ ScnAt s' q s (k + (spanD (s.drop k)).1.length) := by
  intro m
  induction m with
  | zero =>
    intro k e st1 v l hi hf hq g0 g3 hv hm hnk hl
    have hkl : k = s.length := by omega
    subst hkl
    rw [run_loop]
    simp [B.real_scanner_digits_l0, go_sem, g0]
    refine (one_res H.real_scanner_one hf.wf (s := s) (k := s.length) (by omega) (Nat.le_refl _) (by simp) hq).mono ?_
    rintro v1 s1 ⟨rfl, h1, h2⟩
    simp [oneB] at h2
    simp [go_sem, oneB, spanD, g3]
    exact ⟨hf.trans h1 (by simp), hm, hnk, hv.frm h1 hf.wf (fun n hn => by
      rcases hm n hn with h | h
      · cases h
      · simp; omega), h2⟩
  | succ m ih =>
    intro k e st1 v l hi hf hq g0 g3 hv hm hnk hl
    obtain ⟨c, hc, hd⟩ := idx_some (s := s) (i := k) (by omega)
    have hge : ∀ n ∈ v.nms, st0.nx ≤ n := fun n hn => by
      rcases hm n hn with h | h
      · cases h
      · exact h
    rw [run_loop]
    simp [B.real_scanner_digits_l0, go_sem, g0]
    refine (one_res H.real_scanner_one hf.wf (s := s) (k := k) (by omega) (by omega) (by simp) hq).mono ?_
    rintro v1 s1 ⟨rfl, h1, h2⟩
    have hv1 := hv.frm h1 hf.wf (fun n hn => by have := hge n hn; simp; omega)
    have f1 := hf.trans h1 (by simp)
    change ScnAt s1 q s (if oneB ten (s.drop k) = true then k + 1 else k) at h2
    by_cases hcd : 48 ≤ c.toNat ∧ c.toNat ≤ 57
    · have hb : oneB ten (s.drop k) = true := by rw [hd]; simp [oneB, mem_ten, hcd]
      have hb' : oneB [48, 49, 50, 51, 52, 53, 54, 55, 56, 57] (s.drop k) = true := hb
      rw [if_pos hb] at h2
      have r0 := h2.r0
      have r1 := h2.r1
      have e1 : IntKind.i64.wrap (k : Int) = k := wrap64' (by omega) (by omega)
      have e2 : IntKind.u8.wrap ((c.toNat : Int) - 48) = ((c.toNat - 48 : Nat) : Int) := by
        rw [wrap_u8 (by omega) (by have := c.toNat_lt; omega)]; omega
      have xa := Ext.newA f1.wf (.cells 5 false [.int .u8 ((c.toNat - 48 : Nat) : Int)]) (k := 17) (by omega)
      have fa := f1.trans (xa.fr [q]) (by simp)
      have hva := hv1.ext xa f1.wf
      have hap := Sl.append (x := .slice s1.nx 0 1 (.known 1)) (j := 1) (new := [.int .u8 ((c.toNat - 48 : Nat) : Int)]) (b := 1) (Frm.refl xa.wf v.nms) (fun n h => .inl h) hva
        (.inr ⟨_, _, _, rfl, rd_all (ty := 5) (l := false) (by simp [hget_cons]) rfl⟩) (by simp [AV.sc]) (by omega) (by omega) (.inl (by omega))
      simp [go_sem, hb', RO.run, NO.run, r0, r1, e1, hc, e2, reps, g3]
      refine (hap.also (fun _ _ h => aappend_nk h hnk)).mono ?_
      rintro v2 s2 ⟨⟨k1, k2, k3, _⟩, hnk2⟩
      have k2' := fa.trans k2 (fun n hn => .inr (hge n hn))
      have hnx := fa.nx
      have hm2 : Mine [] st0 v2 := fun n hn => by
        rcases k3 n hn with h | h
        · exact .inr (hge n h)
        · exact .inr (Nat.le_trans hnx h)
      simp [go_sem]
      have hq2 : ScnAt s2 q s (k + 1) := k2.get xa.wf (h2.ext f1.wf xa) (fun h => by have := hge q h; omega)
      have hsp : spanD (s.drop k) = ((c.toNat - 48) :: (spanD (s.drop (k + 1))).1, (spanD (s.drop (k + 1))).2) := by rw [hd]; simp [spanD, hcd]
      refine (ih (k + 1) _ s2 v2 (l ++ [c.toNat - 48]) (by omega) k2' hq2 ?_ ?_ (by rw [octs_snoc]; simpa using k1) hm2 hnk2 (by simp; omega)).mono ?_
      · simp [go_sem]
      · simp [go_sem]
      · rintro x e' s' ⟨rfl, j1, j2, j0, j3, j4⟩
        rw [hsp]
        simp only [List.append_assoc, List.singleton_append] at j3
        refine ⟨by simp, j1, j2, j0, by simpa using j3, ?_⟩
        rw [List.length_cons, show k + ((spanD (s.drop (k + 1))).1.length + 1) = k + 1 + (spanD (s.drop (k + 1))).1.length by omega]
        exact j4
    · have hb : ¬ oneB ten (s.drop k) = true := by rw [hd]; simp [oneB, mem_ten, hcd]
      have hb' : oneB [48, 49, 50, 51, 52, 53, 54, 55, 56, 57] (s.drop k) = false := (by simpa using hb : oneB ten (s.drop k) = false)
      rw [if_neg hb] at h2
      have hsp : spanD (s.drop k) = ([], s.drop k) := by rw [hd]; simp [spanD, hcd]
      simp [go_sem, hb', hsp, g3]
      exact ⟨f1, hm, hnk, hv1, h2⟩

theorem digits_res (H : B.H_real_scanner_digits T) (hwf : st.Wf) {q k : Nat} {s : List UInt8} (hs : s.length < 35184372088832) (hk : k ≤ s.length) (hq : ScnAt st q s k) :
    CRes (call T (.fn 121 [.ptr q 0] []) [] st) fun v s' => Frm [q] st s' ∧ Mine [] st v ∧ NK v ∧ Sl s' v 5 1 (spanD (s.drop k)).1.length (octs (spanD (s.drop k)).1) ∧ ScnAt s' q s (k + (spanD (s.drop k)).1.length) := by
  refine call_res H.e H.f rfl ?_
  have hqn : q < st.nx := hwf.lt _ _ hq
  simp [B.real_scanner_digits, go_sem]
  refine (digits_loop H hs st hqn (s.length - k) k _ st .nilslice [] (by omega) (.refl hwf _) hq ?_ ?_ (.nil _ _ _) (Mine.nil _ _) (fun _ _ _ _ h => by cases h) (by simp)).mono ?_
  · simp [go_sem]
  · simp [go_sem]
  · rintro x e s' ⟨rfl, j1, j2, j0, j3, j4⟩
    simp only [List.nil_append] at j3 j4
    simp [go_sem]
    exact ⟨j1.dropLoc, j2, j0, j3.dropLoc j1.wf, hget_dropLoc_keep j1.wf j4 rfl⟩

end Go.Ev

/- The scanner reads a decimal. -/
namespace Go.Ev
open Go
set_option linter.unusedSimpArgs false
set_option linter.unusedSectionVars false
set_option linter.unusedVariables false

variable {T : Tab} {st : St}

theorem Sl.view {s : St} {v : AV} {ty es k : Nat} {cs : List AV} (a : Sl s v ty es k cs) : (v = .nilslice ∧ k = 0 ∧ cs = []) ∨ ∃ n c, v = .slice n 0 k c ∧ ∀ i, i < cs.length → rdCell s.h n i = cs[i]? := by
  obtain ⟨n, a⟩ := a
  rcases a with ⟨h1, h2, h3⟩ | ⟨h1, h2, h3⟩ | ⟨ty', h1, h2, h3⟩
  · exact .inl ⟨h1, h3, h2⟩
  · exact .inr ⟨n, _, h1, fun i _ => by simp [rdCell, h2]⟩
  · exact .inr ⟨n, _, h1, fun i _ => by simp [rdCell, h2]⟩
theorem Sl.lenOf {s : St} {v : AV} {ty es k : Nat} {cs : List AV} (a : Sl s v ty es k cs) {ev : AO → AV} {x : AO} (hx : ev x = v) : PO.run ev (.lenOf false x) = some (.int .i64 k) := by
  obtain ⟨n, a⟩ := a; exact a.lenOf hx

theorem spanD_rest : ∀ s : List UInt8, (spanD s).2 = s.drop (spanD s).1.length
  | [] => rfl
  | c :: r => by
    simp only [spanD]
    split
    · simp [spanD_rest r]
    · simp
theorem spanD_lt : ∀ s : List UInt8, ∀ d ∈ (spanD s).1, d < 10
  | [], d, h => by cases h
  | c :: r, d, h => by
    simp only [spanD] at h
    split at h
    · rcases List.mem_cons.1 h with rfl | h
      · omega
      · exact spanD_lt r d h
    · cases h

def sgn : List UInt8 → Bool × List UInt8
  | c :: r => if c = 45 then (true, r) else if c = 43 then (false, r) else (false, c :: r)
  | [] => (false, [])

theorem sgn_one (s : List UInt8) : (sgn s).2 = s.drop (if oneB [43, 45] s = true then 1 else 0) ∧ (oneB [43, 45] s = false → (sgn s).1 = false) ∧ (oneB [43, 45] s = true → ∃ c r, s = c :: r ∧ (sgn s).1 = decide (c = 45)) := by
  cases s with
  | nil => simp [sgn, oneB]
  | cons c r =>
    by_cases h1 : c = 45
    · subst h1; simp [sgn, oneB]
    · by_cases h2 : c = 43
      · subst h2; simp [sgn, oneB]
      · simp [sgn, oneB, h1, h2]

def numD (l : List Nat) : Nat := l.foldl (fun a d => 10 * a + d) 0

/-- The mantissa's digits, and what lies behind the mantissa. -/
def decL (s : List UInt8) : List Nat := if oneB [46] (spanD (sgn s).2).2 = true then (spanD (sgn s).2).1 ++ (spanD (spanD (sgn s).2).2.tail).1 else (spanD (sgn s).2).1
def decR (s : List UInt8) : List UInt8 := if oneB [46] (spanD (sgn s).2).2 = true then (spanD (spanD (sgn s).2).2.tail).2 else (spanD (sgn s).2).2

/-- A decimal: is it negative, its digits, and how many of these lie ahead of the point. -/
def decD (s : List UInt8) : Option (Bool × List Nat × Int) :=
  if decL s = [] then none
  else if oneB [101, 69] (decR s) = true then
    if (spanD (sgn (decR s).tail).2).1.length < 1 ∨ 3 < (spanD (sgn (decR s).tail).2).1.length then none
    else if (spanD (sgn (decR s).tail).2).2 = [] then
      some ((sgn s).1, decL s, (spanD (sgn s).2).1.length + (if (sgn (decR s).tail).1 = true then -(numD (spanD (sgn (decR s).tail).2).1 : Int) else numD (spanD (sgn (decR s).tail).2).1))
    else none
  else if decR s = [] then some ((sgn s).1, decL s, (spanD (sgn s).2).1.length) else none

theorem num_loop {n : Nat} {cp : Cap} {l : List Nat} (hl : l.length ≤ 3) (hd : ∀ d ∈ l, d < 10) (st0 : St) (hwf : st0.Wf) (hr : ∀ i, i < l.length → rdCell st0.h n i = (octs l)[i]?) :
    ∀ (m i : Nat) (e : Env), i + m = l.length → eget e 70 = .slice n 0 l.length cp → eget e 71 = .int .i64 l.length → eget e 72 = .int .i64 i → eget e 9 = .int .i64 (numD (l.take i)) → numD (l.take i) < 10 ^ i →
    Res (run T (.loop B.real_scanner_decimal_l0) e st0) fun x e' s' => x = .exit 0 ∧ s' = st0 ∧ eget e' 9 = .int .i64 (numD l) ∧ eget e' 0 = eget e 0 ∧ eget e' 2 = eget e 2 ∧ eget e' 3 = eget e 3 ∧ eget e' 4 = eget e 4 ∧ eget e' 8 = eget e 8 := by
  intro m
  induction m with
  | zero =>
    intro i e hi g70 g71 g72 g9 hb
    have hil : i = l.length := by omega
    subst hil
    rw [List.take_length] at g9
    rw [run_loop]
    simp [B.real_scanner_decimal_l0, go_sem, g70, g71, g72, g9]
  | succ m ih =>
    intro i e hi g70 g71 g72 g9 hb
    have hil : i < l.length := by omega
    have hil' : (i : Int) < l.length := by omega
    have hv := hr i hil
    have hg : (octs l)[i]? = some (.int .u8 (l[i] : Int)) := by simp [octs, List.getElem?_eq_getElem hil]
    rw [hg] at hv
    have hlt := hd l[i] (List.getElem_mem hil)
    have htk : l.take (i + 1) = l.take i ++ [l[i]] := List.take_succ_eq_append_getElem hil
    have hn : numD (l.take (i + 1)) = 10 * numD (l.take i) + l[i] := by unfold numD; rw [htk, List.foldl_append]; rfl
    have hpow : 10 ^ i ≤ 1000 := Nat.le_trans (Nat.pow_le_pow_right (by omega) (show i ≤ 3 by omega)) (by omega)
    have e1 : IntKind.i64.wrap (10 * (numD (l.take i) : Int)) = 10 * numD (l.take i) := wrap64' (by omega) (by omega)
    have e2 : IntKind.i64.wrap (10 * (numD (l.take i) : Int) + l[i]) = numD (l.take (i + 1)) := by rw [wrap64' (by omega) (by omega), hn]; simp
    have e3 : IntKind.i64.wrap (l[i] : Int) = l[i] := wrap64' (by omega) (by omega)
    rw [run_loop]
    simp [B.real_scanner_decimal_l0, go_sem, g70, g71, g72, g9, hil', RO.run, hv, e1, e2, e3]
    refine (ih (i + 1) _ (by omega) ?_ ?_ ?_ ?_ ?_).mono ?_
    · simp [go_sem]
    · simp [go_sem]
    · simp [go_sem]; rw [wrap64' (by omega) (by omega)]
    · simp [go_sem]
    · rw [hn, Nat.pow_succ]; omega
    · rintro x e' s' ⟨rfl, rfl, h1, h2⟩
      simp [go_sem] at h2
      exact ⟨rfl, rfl, h1, h2⟩

theorem foldl_numD_lt : ∀ (l : List Nat) (a : Nat), (∀ d ∈ l, d < 10) → l.foldl (fun a d => 10 * a + d) a < (a + 1) * 10 ^ l.length
  | [], a, _ => by simp
  | d :: l, a, h => by
    have ih := foldl_numD_lt l (10 * a + d) (fun x hx => h x (List.mem_cons_of_mem _ hx))
    have hd := h d List.mem_cons_self
    simp only [List.foldl_cons, List.length_cons]
    refine Nat.lt_of_lt_of_le ih ?_
    rw [Nat.pow_succ, Nat.mul_comm (10 ^ l.length) 10, ← Nat.mul_assoc]
    exact Nat.mul_le_mul_right _ (by omega)
theorem numD_lt {l : List Nat} (h : ∀ d ∈ l, d < 10) : numD l < 10 ^ l.length := by
  have := foldl_numD_lt l 0 h
  simpa [numD] using this

theorem sgnpos {s : List UInt8} {k : Nat} {b : Bool} (hb : b = oneB [43, 45] (s.drop k)) : s.drop (if b = true then k + 1 else k) = (sgn (s.drop k)).2 := by
  rw [(sgn_one (s.drop k)).1, ← hb]
  cases b
  · simp
  · simp

/-- What decimal hands back: all of it where it takes the text, or that it doesn't. -/
def DecOut (st s' : St) (v : AV) (o : Option (Bool × List Nat × Int)) : Prop :=
  match o with
  | some (neg, l, pt) => ∃ sv, v = .tuple [.bool neg, sv, .int .i64 pt, .bool true] ∧ Sl s' sv 5 1 l.length (octs l) ∧ Mine [] st sv
  | none => ∃ a b c, v = .tuple [a, b, c, .bool false]

theorem decimal_res (H : B.H_real_scanner_decimal T) (hwf : st.Wf) {q : Nat} {s : List UInt8} (hs : s.length < 10000000000) (hq : ScnAt st q s 0) :
    CRes (call T (.fn 113 [] []) [.ptr q 0] st) fun v s' => Frm [q] st s' ∧ DecOut st s' v (decD s) := by
  refine call_res H.e H.f rfl ?_
  have hqn : q < st.nx := hwf.lt _ _ hq
  have H1 := H.real_scanner_one
  have H2 := H.real_scanner_digits
  simp [B.real_scanner_decimal, go_sem]
  refine (one_res H1 hwf (set := [43, 45]) (by omega) (Nat.zero_le _) (by simp) hq).mono ?_
  rintro v1 s1 ⟨rfl, f1, q1⟩
  obtain ⟨b1, hb1⟩ : ∃ b, b = oneB [43, 45] s := ⟨_, rfl⟩
  simp only [List.drop_zero, ← hb1, Nat.zero_add] at q1 ⊢
  have p1 : s.drop (if b1 = true then 1 else 0) = (sgn s).2 := by rw [(sgn_one s).1, ← hb1]
  have k1le : (if b1 = true then 1 else 0) ≤ s.length := by
    cases hb : b1 with
    | false => simp
    | true =>
      obtain ⟨c, r, h, _⟩ := (sgn_one s).2.2 (by rw [← hb1, hb])
      subst h; simp
  generalize hk1 : (if b1 = true then 1 else 0) = k1 at q1 p1 k1le
  refine put_cut (fun e s' => s' = s1 ∧ eget e 0 = .ptr q 0 ∧ eget e 2 = .bool (sgn s).1 ∧ eget e 6 = .fn 120 [.ptr q 0] [] ∧ eget e 7 = .fn 121 [.ptr q 0] []) ?_ ?_
  · cases hb : b1 with
    | false =>
      have hneg := (sgn_one s).2.1 (by rw [← hb1, hb])
      simp [go_sem, hneg]
    | true =>
      obtain ⟨c, r, h, hneg⟩ := (sgn_one s).2.2 (by rw [← hb1, hb])
      have r0 := q1.r0
      have hc0 : s[0]? = some c := by rw [h]; rfl
      simp [go_sem, RO.run, r0, hc0, hneg]
      rw [← UInt8.toNat_inj]
      exact ⟨fun h => by have : (45 : UInt8).toNat = 45 := rfl; omega, fun h => by have : (45 : UInt8).toNat = 45 := rfl; omega⟩
  rintro e s' ⟨rfl, g0, g2, g6, g7⟩
  clear hk1
  simp [go_sem, g0, g2, g6, g7]
  refine (digits_res H2 f1.wf (by omega) k1le q1).mono ?_
  rintro v1 s2 ⟨f2, m1, nk1, l1, q2⟩
  simp only [p1] at l1 q2
  have f12 := f1.trans f2 (by simp)
  obtain ⟨D1, hD1⟩ : ∃ D, D = (spanD (sgn s).2).1 := ⟨_, rfl⟩
  obtain ⟨R2, hR2⟩ : ∃ R, R = (spanD (sgn s).2).2 := ⟨_, rfl⟩
  have p2 : s.drop (k1 + D1.length) = R2 := by rw [hR2, spanD_rest, ← p1, List.drop_drop, hD1, p1]
  have hle2 : k1 + D1.length ≤ s.length := by
    have := spanD_len (sgn s).2
    rw [← p1, List.length_drop] at this
    rw [hD1, ← p1]
    omega
  rw [← hD1] at l1 q2
  have hlen1 := l1.lenOf (ev := fun _ => v1) (x := .t 0) rfl
  simp [PO.run] at hlen1
  simp [go_sem, hlen1]
  refine (one_res H1 f2.wf (set := [46]) (by omega) hle2 (by simp) q2).mono ?_
  rintro v2 s3 ⟨rfl, f3, q3⟩
  have f13 := f12.trans f3 (by simp)
  have hge1 : ∀ n ∈ v1.nms, s'.nx ≤ n := fun n hn => by
    rcases m1 n hn with h | h
    · cases h
    · exact h
  have l1' := l1.frm f3 f2.wf (fun n hn => by have := hge1 n hn; have := f1.nx; simp; omega)
  rw [p2] at q3 ⊢
  simp [go_sem]
  obtain ⟨L, hL⟩ : ∃ L, L = (if oneB [46] R2 = true then D1 ++ (spanD R2.tail).1 else D1) := ⟨_, rfl⟩
  obtain ⟨R4, hR4⟩ : ∃ R, R = (if oneB [46] R2 = true then (spanD R2.tail).2 else R2) := ⟨_, rfl⟩
  have hnx1 := f1.nx
  have mst : Mine [] st v1 := fun n hn => .inr (Nat.le_trans hnx1 (hge1 n hn))
  refine Res.mono (Q := fun x e s4 => x = .norm ∧ ∃ k4 sv, eget e 0 = .ptr q 0 ∧ eget e 2 = .bool (sgn s).1 ∧ eget e 3 = sv ∧ eget e 4 = .int .i64 D1.length ∧ eget e 6 = .fn 120 [.ptr q 0] [] ∧ eget e 7 = .fn 121 [.ptr q 0] [] ∧
    Frm [q] st s4 ∧ Sl s4 sv 5 1 L.length (octs L) ∧ Mine [] st sv ∧ ScnAt s4 q s k4 ∧ s.drop k4 = R4 ∧ k4 ≤ s.length) ?_ ?_
  · cases hdot : oneB [46] R2 with
    | false =>
      simp only [hdot, Bool.false_eq_true, if_false] at q3 hL hR4
      subst hL hR4
      simp [go_sem]
      exact ⟨f13, l1', mst, _, q3, p2, hle2⟩
    | true =>
      simp only [hdot, if_true] at q3 hL hR4
      obtain ⟨c, r, hR2'⟩ : ∃ c r, R2 = c :: r := by
        cases R2 with
        | nil => simp [oneB] at hdot
        | cons c r => exact ⟨c, r, rfl⟩
      have hlt : k1 + D1.length < s.length := by
        rcases Nat.lt_or_ge (k1 + D1.length) s.length with h | h
        · exact h
        · rw [List.drop_of_length_le h] at p2; rw [← p2] at hR2'; cases hR2'
      have p3 : s.drop (k1 + D1.length + 1) = R2.tail := by rw [← p2, List.tail_drop]
      simp [go_sem]
      refine (digits_res H2 f3.wf (by omega) (by omega) q3).mono ?_
      rintro v2 s4 ⟨f4, m2, _, l2, q4⟩
      rw [p3] at l2 q4
      have l1'' := l1'.frm f4 f3.wf (fun n hn => by have := hge1 n hn; have := f1.nx; simp; omega)
      have f14 := f13.trans f4 (by simp)
      have hnx3 := f13.nx
      have hlen2 := spanD_len R2.tail
      have hlen1' := spanD_len (sgn s).2
      have hlen0 : (sgn s).2.length ≤ s.length := by rw [← p1]; simp
      have hlR : R2.tail.length ≤ s.length := by rw [← p3]; simp
      have hD1l : D1.length ≤ s.length := by omega
      have hap := Sl.append (b := 1) (Frm.refl f4.wf v1.nms) (fun n h => .inl h) l1'' l2.rd (octs_sc _) (by omega) (by omega) (.inr (fun n c => nk1 _ _ _ _))
      simp [go_sem]
      refine hap.mono ?_
      rintro v3 s5 ⟨j1, j2, j3, _⟩
      simp [go_sem]
      have hm3 : Mine [] st v3 := fun n hn => by
        rcases j3 n hn with h | h
        · exact .inr (Nat.le_trans hnx1 (hge1 n h))
        · exact .inr (Nat.le_trans f14.nx h)
      refine ⟨f14.trans j2 (fun n hn => .inr (Nat.le_trans hnx1 (hge1 n hn))), ?_, hm3, _, j2.get f4.wf q4 (fun h => by have := hge1 q h; omega), ?_, ?_⟩
      · rw [hL, List.length_append]; rw [show octs (D1 ++ (spanD R2.tail).1) = octs D1 ++ octs (spanD R2.tail).1 by simp [octs]]; exact j1
      · rw [hR4, spanD_rest, ← p3, List.drop_drop]
      · have : R2.tail.length = s.length - (k1 + D1.length + 1) := by rw [← p3]; simp
        omega
  rintro x e s4 ⟨rfl, k4, sv, c0, c2, c3, c4, c6, c7, f14, l4, m4, q4, p4, hle4⟩
  have hdec : decD s = (if L = [] then none else if oneB [101, 69] R4 = true then
      (if (spanD (sgn R4.tail).2).1.length < 1 ∨ 3 < (spanD (sgn R4.tail).2).1.length then none
       else if (spanD (sgn R4.tail).2).2 = [] then some ((sgn s).1, L, D1.length + (if (sgn R4.tail).1 = true then -(numD (spanD (sgn R4.tail).2).1 : Int) else numD (spanD (sgn R4.tail).2).1)) else none)
      else if R4 = [] then some ((sgn s).1, L, (D1.length : Int)) else none) := by
    simp only [decD, decL, decR, ← hD1, ← hR2, ← hL, ← hR4]
  have hgeL : ∀ n ∈ sv.nms, st.nx ≤ n := fun n hn => by
    rcases m4 n hn with h | h
    · cases h
    · exact h
  have hlen4 := l4.lenOf (ev := fun _ => sv) (x := .t 0) rfl
  simp [PO.run] at hlen4
  clear hL hR4 hR2 hD1 p2 l1' l1 q3 q2 q1 hlen1
  by_cases hL0 : L = []
  · subst hL0
    rw [hdec]
    simp only [List.length_nil] at hlen4
    simp [go_sem, c0, c2, c3, c4, c6, c7, hlen4]
    exact ⟨.tuple [.bool false, .nilslice, .int .i64 0, .bool false], by simp [fresults, resVals, resVal, go_sem], f14.dropLoc, _, _, _, rfl⟩
  have hLl : ¬ (L.length : Int) = 0 := by
    have : L.length ≠ 0 := fun h => hL0 (List.length_eq_zero_iff.1 h)
    omega
  simp [go_sem, c0, c2, c3, c4, c6, c7, hlen4, hL0]
  refine (one_res H1 f14.wf (set := [101, 69]) (by omega) hle4 (by simp) q4).mono ?_
  rintro v2 s5 ⟨rfl, f5, q5⟩
  have f15 := f14.trans f5 (by simp)
  have l5 := l4.frm f5 f14.wf (fun n hn => by have := hgeL n hn; simp; omega)
  rw [p4] at q5 ⊢
  simp [go_sem, c0, c2, c3, c4, c6, c7]
  refine Res.mono (Q := fun x e s6 => (x = .norm ∧ ∃ (k : Nat) (pt : Int), eget e 0 = .ptr q 0 ∧ eget e 2 = .bool (sgn s).1 ∧ eget e 3 = sv ∧ eget e 4 = .int .i64 pt ∧ Frm [q] st s6 ∧ Sl s6 sv 5 1 L.length (octs L) ∧
      ScnAt s6 q s k ∧ decD s = (if k = s.length then some ((sgn s).1, L, pt) else none)) ∨
      (x = .ret ∧ Frm [q] st s6 ∧ decD s = none ∧ ∃ a b c, eget e 2 = a ∧ eget e 3 = b ∧ eget e 4 = c ∧ eget e 5 = .bool false)) ?_ ?_
  · cases hexp : oneB [101, 69] R4 with
    | false =>
      simp only [hexp, Bool.false_eq_true, if_false] at q5 hdec
      simp [go_sem, c0, c2, c3, c4]
      refine ⟨f15, l5, k4, q5, ?_⟩
      rw [hdec, if_neg hL0]
      have : (R4 = []) ↔ k4 = s.length := by
        rw [← p4]; simp; omega
      simp [this]
    | true =>
      simp only [hexp, if_true] at q5 hdec
      rw [if_neg hL0] at hdec
      obtain ⟨c, r, hR4'⟩ : ∃ c r, R4 = c :: r := by
        cases R4 with
        | nil => simp [oneB] at hexp
        | cons c r => exact ⟨c, r, rfl⟩
      have hlt : k4 < s.length := by
        rcases Nat.lt_or_ge k4 s.length with h | h
        · exact h
        · rw [List.drop_of_length_le h] at p4; rw [← p4] at hR4'; cases hR4'
      have p5 : s.drop (k4 + 1) = R4.tail := by rw [← p4, List.tail_drop]
      have xa := Ext.aside f15.wf 18
      simp [go_sem, c0, c2, c3, c4, c6, c7]
      refine (one_res H1 xa.wf (k := k4 + 1) (set := [43, 45]) (by omega) (by omega) (by simp) (show ScnAt ⟨s5.h, s5.nx + 18⟩ q s (k4 + 1) from q5)).mono ?_
      rintro v3 s6 ⟨rfl, f6, q6⟩
      obtain ⟨b6, hb6⟩ : ∃ b, b = oneB [43, 45] R4.tail := ⟨_, rfl⟩
      rw [p5] at q6 ⊢
      rw [← hb6] at q6 ⊢
      have p6 : s.drop (if b6 = true then k4 + 1 + 1 else k4 + 1) = (sgn R4.tail).2 := by
        rw [← p5]
        exact sgnpos (by rw [p5]; exact hb6)
      have k6le : (if b6 = true then k4 + 1 + 1 else k4 + 1) ≤ s.length := by
        cases hb : b6 with
        | false => simp; omega
        | true =>
          obtain ⟨c, r, h, _⟩ := (sgn_one R4.tail).2.2 (by rw [← hb6, hb])
          have : R4.tail.length = s.length - (k4 + 1) := by rw [← p5]; simp
          rw [h] at this
          simp at this ⊢
          omega
      have f16 := f15.trans ((xa.fr [q]).trans f6 (by simp)) (by simp)
      have l6 := (l5.ext xa f15.wf).frm f6 xa.wf (fun n hn => by have := hgeL n hn; simp; omega)
      refine putI_cut (fun e s' => s' = s6 ∧ eget e 0 = .ptr q 0 ∧ eget e 2 = .bool (sgn s).1 ∧ eget e 3 = sv ∧ eget e 4 = .int .i64 D1.length ∧ eget e 7 = .fn 121 [.ptr q 0] [] ∧ eget e 8 = .bool (sgn R4.tail).1) ?_ ?_
      · cases hb : b6 with
        | false =>
          have hneg := (sgn_one R4.tail).2.1 (by rw [← hb6, hb])
          simp [go_sem, hneg, c0, c2, c3, c4, c7]
        | true =>
          obtain ⟨c, r, h, hneg⟩ := (sgn_one R4.tail).2.2 (by rw [← hb6, hb])
          rw [hb] at q6
          simp only [if_true] at q6
          have r0 := q6.r0
          have r1 := q6.r1
          have hc0 : s[k4 + 1]? = some c := by
            have : (s.drop (k4 + 1))[0]? = some c := by rw [p5, h]; rfl
            simpa using this
          have e1 : IntKind.i64.wrap ((k4 : Int) + 1) = k4 + 1 := wrap64' (by omega) (by omega)
          have e2 : ((k4 : Int) + 1).toNat = k4 + 1 := by omega
          have e3 : (0 : Int) ≤ (k4 : Int) + 1 := by omega
          simp [go_sem, RO.run, r0, r1, hc0, hneg, e1, e2, e3, c0, c2, c3, c4, c7]
          rw [← UInt8.toNat_inj]
          exact ⟨fun h => by have : (45 : UInt8).toNat = 45 := rfl; omega, fun h => by have : (45 : UInt8).toNat = 45 := rfl; omega⟩
      rintro e' s' ⟨rfl, d0, d2, d3, d4, d7, d8⟩
      generalize hk6 : (if b6 = true then k4 + 1 + 1 else k4 + 1) = k6 at q6 p6 k6le
      simp [go_sem, d0, d2, d3, d4, d7, d8]
      refine (digits_res H2 f16.wf (by omega) k6le q6).mono ?_
      rintro v4 s7 ⟨f7, m7, _, l7, q7⟩
      have f17 := f16.trans f7 (by simp)
      have l67 := l6.frm f7 f16.wf (fun n hn => by have := hgeL n hn; simp; omega)
      rw [p6] at l7 q7
      generalize hE : (spanD (sgn R4.tail).2).1 = E at l7 q7 hdec
      have hR7 : (spanD (sgn R4.tail).2).2 = s.drop (k6 + E.length) := by rw [spanD_rest, hE, ← p6, List.drop_drop]
      have hlen7 := l7.lenOf (ev := fun _ => v4) (x := .t 0) rfl
      simp [PO.run] at hlen7
      by_cases hbad : E.length < 1 ∨ 3 < E.length
      · rw [if_pos hbad] at hdec
        by_cases h1 : E.length < 1
        · have h1' : (E.length : Int) < 1 := by omega
          simp [go_sem, hlen7, h1', f17, hdec]
        · have h1' : ¬ (E.length : Int) < 1 := by omega
          have h2' : (3 : Int) < E.length := by omega
          simp [go_sem, hlen7, h1', h2', f17, hdec]
      · rw [if_neg hbad] at hdec
        have h1' : ¬ (E.length : Int) < 1 := by omega
        have h2' : ¬ (3 : Int) < E.length := by omega
        simp [go_sem, hlen7, h1', h2']
        rcases l7.view with ⟨_, hz, _⟩ | ⟨n, cp, hv4, hrd⟩
        · omega
        subst hv4
        refine (num_loop (n := n) (cp := cp) (l := E) (by omega) (fun d hd => spanD_lt _ d (by rw [hE]; exact hd)) s7 f17.wf (fun i hi => hrd i (by rw [octs_len]; exact hi)) E.length 0 _ (by simp) ?_ ?_ ?_ ?_ ?_).mono ?_
        · simp [go_sem]
        · simp [go_sem]
        · simp [go_sem]
        · simp [go_sem, numD]
        · simp [numD]
        · rintro x e9 s8 ⟨rfl, rfl, w9, w0, w2, w3, w4, w8⟩
          simp [go_sem] at w0 w2 w3 w4 w8
          have hnb : numD E < 1000 := by
            have := numD_lt (l := E) (fun d hd => spanD_lt _ d (by rw [hE]; exact hd))
            have hp : 10 ^ E.length ≤ 10 ^ 3 := Nat.pow_le_pow_right (by omega) (by omega)
            omega
          have hD1l : D1.length ≤ s.length := by omega
          have hend : (s.drop (k6 + E.length) = []) ↔ k6 + E.length = s.length := by
            have : k6 + E.length ≤ s.length := by
              have := spanD_len (sgn R4.tail).2
              rw [hE, ← p6, List.length_drop] at this
              omega
            rw [List.drop_eq_nil_iff]
            omega
          rw [hR7] at hdec
          cases hdn : (sgn R4.tail).1 with
          | false =>
            rw [hdn] at hdec w8
            simp only [Bool.false_eq_true, if_false] at hdec
            have e1 : IntKind.i64.wrap ((D1.length : Int) + numD E) = D1.length + numD E := wrap64' (by omega) (by omega)
            simp [go_sem, w9, w0, w2, w3, w4, w8, e1]
            refine ⟨f17, l67, _, q7, ?_⟩
            rw [hdec]
            simp only [hend]
          | true =>
            rw [hdn] at hdec w8
            simp only [if_true] at hdec
            have e0 : IntKind.i64.wrap (-(numD E : Int)) = -(numD E : Int) := wrap64' (by omega) (by omega)
            have e1 : IntKind.i64.wrap ((D1.length : Int) + -(numD E : Int)) = D1.length + -(numD E : Int) := wrap64' (by omega) (by omega)
            simp [go_sem, w9, w0, w2, w3, w4, w8, e0, e1]
            refine ⟨f17, l67, _, q7, ?_⟩
            rw [hdec]
            simp only [hend]
  · rintro x e s6 (⟨rfl, k, pt, d0, d2, d3, d4, f16, l6, q6, hd⟩ | ⟨rfl, f16, hd, a, b, c, d2, d3, d4, d5⟩)
    · have r0 := q6.r0
      have r1 := q6.r1
      have xa := Ext.aside f16.wf 19
      have f17 := f16.trans (xa.fr [q]) (by simp)
      simp [go_sem, d0, d2, d3, d4, RO.run, r0, r1, fresults, resVals, resVal]
      refine ⟨f17.dropLoc, ?_⟩
      rw [hd]
      by_cases hk : k = s.length
      · subst hk
        simp only [if_true]
        exact ⟨sv, by simp, l6.dropLoc f16.wf, m4⟩
      · have hk' : ¬ (k : Int) = s.length := by omega
        rw [if_neg hk]
        exact ⟨.bool (sgn s).1, sv, .int .i64 pt, by simp [hk']⟩
    · simp [go_sem, d2, d3, d4, d5, fresults, resVals, resVal]
      refine ⟨f16.dropLoc, ?_⟩
      rw [hd]
      exact ⟨_, _, _, rfl⟩

end Go.Ev

/- Reals parsed. -/
namespace Go.Ev
open Go
set_option linter.unusedSimpArgs false
set_option linter.unusedSectionVars false
set_option linter.unusedVariables false

variable {T : Tab} {st : St}

theorem realIs_tells (H : B.H_real_Is T) (hwf : st.Wf) {n : Int} : Tells T st (.fn 110 [] []) [.int .i64 n] (.bool (decide (-2147483648 ≤ n) && decide (n ≤ 2147483648))) := by
  refine tells_of H.e H.f rfl ?_
  by_cases h1 : -2147483648 ≤ n
  · simp [B.real_Is, go_sem, h1, Ext.refl hwf]
  · simp [B.real_Is, go_sem, h1, Ext.refl hwf]

/-- The digits ahead of the point, one by one, up to a number that is too great. -/
def frontF : Nat → List Nat → Nat
  | n, [] => n
  | n, d :: r => if 2147483648 < 10 * n + d then 10 * n + d else frontF (10 * n + d) r

/-- The digits ahead of the point. -/
def intD (l : List Nat) (pt : Int) : List Nat := (List.range pt.toNat).map fun i => l.getD i 0

/-- What is known of a slice that is read. -/
def SlR (h : Heap) (v : AV) (l : List Nat) : Prop := (v = .nilslice ∧ l = []) ∨ ∃ n c, v = .slice n 0 l.length c ∧ ∀ i, i < l.length → rdCell h n i = some (.int .u8 (l.getD i 0 : Nat))

theorem Sl.slR {s : St} {v : AV} {l : List Nat} (a : Sl s v 5 1 l.length (octs l)) : SlR s.h v l := by
  rcases a.view with ⟨h1, h2, h3⟩ | ⟨n, c, h1, h2⟩
  · exact .inl ⟨h1, List.length_eq_zero_iff.1 h2⟩
  · refine .inr ⟨n, c, h1, fun i hi => ?_⟩
    rw [h2 i (by rw [octs_len]; exact hi)]
    simp [octs, List.getElem?_eq_getElem hi]

theorem front_loop {v : AV} {l : List Nat} {pt : Int} (hd : ∀ i, l.getD i 0 < 10) (hll : l.length < 9223372036854775807) (hpt : pt ≤ 9223372036854775807) (st0 : St) (hwf : st0.Wf) (hv : SlR st0.h v l) :
    ∀ (m i n : Nat) (e : Env), (pt - i).toNat = m → (i : Int) ≤ pt → n ≤ 2147483648 → eget e 0 = v → eget e 1 = .int .i64 pt → eget e 5 = .int .i64 n → eget e 6 = .int .i64 i →
    Res (run T (.loop B.real_front_l0) e st0) fun x e' s' => s' = st0 ∧ ((x = .exit 0 ∧ eget e' 5 = .int .i64 (frontF n ((List.range' i m).map fun i => l.getD i 0))) ∨ (x = .ret ∧ eget e' 4 = .int .i64 (frontF n ((List.range' i m).map fun i => l.getD i 0)))) := by
  intro m
  induction m with
  | zero =>
    intro i n e hi hle hn g0 g1 g5 g6
    have hil : ¬ (i : Int) < pt := by omega
    rw [run_loop]
    simp [B.real_front_l0, go_sem, g0, g1, g5, g6, hil, frontF]
  | succ m ih =>
    intro i n e hi hle hn g0 g1 g5 g6
    have hil : (i : Int) < pt := by omega
    have hd' := hd i
    rw [List.range'_succ]
    generalize hdi : l.getD i 0 = d at hd'
    have e1 : IntKind.i64.wrap (10 * (n : Int)) = 10 * n := wrap64' (by omega) (by omega)
    have e2 : IntKind.i64.wrap (10 * (n : Int) + d) = ((10 * n + d : Nat) : Int) := by rw [wrap64' (by omega) (by omega)]; omega
    have e3 : IntKind.i64.wrap (d : Int) = d := wrap64' (by omega) (by omega)
    have hd0 : l.length ≤ i → d = 0 := fun h => by rw [← hdi, List.getD_eq_getElem?_getD, List.getElem?_eq_none h]; rfl
    have big : (2147483648 < (10 * (n : Int) + d)) ↔ 2147483648 < 10 * n + d := by omega
    simp only [List.map_cons, hdi, frontF]
    rw [run_loop]
    by_cases hin : i < l.length
    · have hin' : (i : Int) < l.length := by omega
      rcases hv with ⟨_, rfl⟩ | ⟨nn, c, rfl, hr⟩
      · simp at hin
      have hri := hr i hin
      rw [hdi] at hri
      by_cases hb : 2147483648 < 10 * n + d
      · have hb' : 2147483648 < 10 * (n : Int) + d := by omega
        simp [B.real_front_l0, go_sem, g0, g1, g5, g6, hil, hin', RO.run, hri, e1, e2, e3, hb, hb']
      · have hb' : ¬ 2147483648 < 10 * (n : Int) + d := by omega
        simp [B.real_front_l0, go_sem, g0, g1, g5, g6, hil, hin', RO.run, hri, e1, e2, e3, hb, hb']
        refine (ih (i + 1) (10 * n + d) _ (by omega) (by omega) (by omega) ?_ ?_ ?_ ?_).mono fun x e' s' h => h
        · simp [go_sem]
        · simp [go_sem]
        · simp [go_sem]
        · simp [go_sem]; rw [wrap64' (by omega) (by omega)]
    · have hd1 := hd0 (by omega)
      subst hd1
      simp only [Nat.add_zero, Int.natCast_zero, Int.add_zero] at e2 big ⊢
      have hin' : ¬ (i : Int) < l.length := by omega
      rcases hv with ⟨rfl, rfl⟩ | ⟨nn, c, rfl, hr⟩
      · have hi0 : ¬ (i : Int) < 0 := by omega
        by_cases hb : 2147483648 < 10 * n
        · have hb' : 2147483648 < 10 * (n : Int) := by omega
          simp [B.real_front_l0, go_sem, g0, g1, g5, g6, hil, hi0, e1, hb, hb']
        · have hb' : ¬ 2147483648 < 10 * (n : Int) := by omega
          simp [B.real_front_l0, go_sem, g0, g1, g5, g6, hil, hi0, e1, hb, hb']
          refine (ih (i + 1) (10 * n) _ (by omega) (by omega) (by omega) ?_ ?_ ?_ ?_).mono fun x e' s' h => by simpa using h
          · simp [go_sem]
          · simp [go_sem]
          · simp [go_sem]
          · simp [go_sem]; rw [wrap64' (by omega) (by omega)]
      · by_cases hb : 2147483648 < 10 * n
        · have hb' : 2147483648 < 10 * (n : Int) := by omega
          simp [B.real_front_l0, go_sem, g0, g1, g5, g6, hil, hin', e1, hb, hb']
        · have hb' : ¬ 2147483648 < 10 * (n : Int) := by omega
          simp [B.real_front_l0, go_sem, g0, g1, g5, g6, hil, hin', e1, hb, hb']
          refine (ih (i + 1) (10 * n) _ (by omega) (by omega) (by omega) ?_ ?_ ?_ ?_).mono fun x e' s' h => h
          · simp [go_sem]
          · simp [go_sem]
          · simp [go_sem]
          · simp [go_sem]; rw [wrap64' (by omega) (by omega)]

theorem front_tells (H : B.H_real_front T) (hwf : st.Wf) {v : AV} {l : List Nat} {pt : Int} (hd : ∀ i, l.getD i 0 < 10) (hll : l.length < 9223372036854775807) (hpt : pt ≤ 9223372036854775807) (hv : SlR st.h v l) :
    Tells T st (.fn 114 [] []) [v, .int .i64 pt] (.int .i64 (frontF 0 (intD l pt))) := by
  refine tells_of H.e H.f rfl ?_
  have hI : intD l pt = (List.range' 0 pt.toNat).map fun i => l.getD i 0 := by rw [intD, List.range_eq_range']
  by_cases h0 : 0 ≤ pt
  · simp [B.real_front, go_sem]
    refine (front_loop hd hll hpt st hwf hv pt.toNat 0 0 _ (by omega) (by omega) (by omega) ?_ ?_ ?_ ?_).mono ?_
    · simp [go_sem]
    · simp [go_sem]
    · simp [go_sem]
    · simp [go_sem]
    · rw [hI]
      rintro x e s' ⟨rfl, ⟨rfl, h⟩ | ⟨rfl, h⟩⟩
      · simp [go_sem, h, Ext.refl hwf]
      · simp [go_sem, h, Ext.refl hwf]
  · have hz : intD l pt = [] := by rw [hI, show pt.toNat = 0 by omega]; rfl
    rw [hz]
    have hn : ¬ 0 < pt := by omega
    simp [B.real_front, go_sem]
    rw [run_loop]
    simp [B.real_front_l0, go_sem, hn, frontF, Ext.refl hwf]

/-- The digits behind the point. -/
def fracD (l : List Nat) (pt : Int) : List Nat := List.replicate (-pt).toNat 0 ++ l.drop pt.toNat

theorem SlR.ext {st st' : St} {v : AV} {l : List Nat} (h : SlR st.h v l) (hw : st.Wf) (x : Ext st st') : SlR st'.h v l := by
  rcases h with h | ⟨n, c, h1, h2⟩
  · exact .inl h
  · refine .inr ⟨n, c, h1, fun i hi => ?_⟩
    have h3 := h2 i hi
    have : ∃ o, hget st.h n = some o := by
      unfold rdCell at h3
      split at h3
      · exact ⟨_, by assumption⟩
      · exact ⟨_, by assumption⟩
      · exact ⟨_, by assumption⟩
      · cases h3
    obtain ⟨o, ho⟩ := this
    have h4 := x.get hw ho
    unfold rdCell at h3 ⊢
    rw [h4]
    rw [ho] at h3
    exact h3

def remD (l : List Nat) (pt i : Int) : List Nat := List.replicate (-i).toNat 0 ++ l.drop (max i pt).toNat

theorem fraction_loop {v0 : AV} {l : List Nat} {pt : Int} (hll : l.length < 1000000000) (hpt : -1000000000 ≤ pt) (st0 : St) (hwf0 : st0.Wf) (hv0 : SlR st0.h v0 l) :
    ∀ (m : Nat) (i : Int) (e : Env) (st1 : St) (v : AV) (acc : List Nat), (l.length - i).toNat = m → min pt 0 ≤ i → i ≤ l.length → Ext st0 st1 → Sl st1 v 5 1 acc.length (octs acc) → Mine [] st0 v → NK v → (acc.length : Int) ≤ i - min pt 0 →
      eget e 0 = v0 → eget e 1 = .int .i64 pt → eget e 5 = v → eget e 6 = .int .i64 i →
    Res (run T (.loop B.real_fraction_l0) e st1) fun x e' s' => x = .exit 0 ∧ Ext st0 s' ∧ Sl s' (eget e' 5) 5 1 (acc ++ remD l pt i).length (octs (acc ++ remD l pt i)) ∧ Mine [] st0 (eget e' 5) ∧ NK (eget e' 5) := by
  intro m
  induction m with
  | zero =>
    intro i e st1 v acc hi hlo hle hx hv hm hnk hacc g0 g1 g5 g6
    have hil : i = l.length := by omega
    subst hil
    have hlen : ∃ k : Nat, k = l.length ∧ (v0 = .nilslice ∨ ∃ n c, v0 = .slice n 0 k c) := by
      rcases hv0 with ⟨h1, rfl⟩ | ⟨n, c, h1, _⟩
      · exact ⟨0, rfl, .inl h1⟩
      · exact ⟨_, rfl, .inr ⟨n, c, h1⟩⟩
    have hr : remD l pt l.length = [] := by
      unfold remD
      rw [show (-(l.length : Int)).toNat = 0 by omega, List.drop_of_length_le (by omega)]
      rfl
    rw [hr, List.append_nil, run_loop]
    rcases hv0 with ⟨rfl, rfl⟩ | ⟨n, c, rfl, _⟩
    · simp [B.real_fraction_l0, go_sem, g0, g1, g5, g6]
      exact ⟨hx, hv, hm, hnk⟩
    · simp [B.real_fraction_l0, go_sem, g0, g1, g5, g6]
      exact ⟨hx, hv, hm, hnk⟩
  | succ m ih =>
    intro i e st1 v acc hi hlo hle hx hv hm hnk hacc g0 g1 g5 g6
    have hil : i < l.length := by omega
    have hge : ∀ n ∈ v.nms, st0.nx ≤ n := fun n hn => by
      rcases hm n hn with h | h
      · cases h
      · exact h
    have e1 : IntKind.i64.wrap (i + 1) = i + 1 := wrap64' (by omega) (by omega)
    have push : ∀ (y : Nat) (K : AV → St → Prop), (∀ v' s, Ext st0 s → Sl s v' 5 1 (acc ++ [y]).length (octs (acc ++ [y])) → Mine [] st0 v' → NK v' → K v' s) →
        CRes (aappend 5 1 1 ⟨(st1.nx, .cells 5 false [.int .u8 (y : Int)]) :: st1.h, st1.nx + 1⟩ v (.slice st1.nx 0 1 (.known 1))) K := by
      intro y K hK
      have h1 := Sl.push (b := 1) (y := .int .u8 (y : Int)) (st0 := st1) (Frm.refl hx.wf v.nms) (fun n h => .inl h) hv rfl (by omega) (by omega)
        (Q := fun v' s => Sl s v' 5 1 (acc.length + 1) (octs acc ++ [.int .u8 (y : Int)]) ∧ Frm v.nms st1 s ∧ Mine v.nms st1 v') (fun v' s a b c _ => ⟨a, b, c⟩)
      refine (h1.also (fun _ _ h => aappend_nk h hnk)).mono ?_
      rintro v' s ⟨⟨a, b, c⟩, d⟩
      refine hK v' s ((hx.fr v.nms).trans b (fun n h => .inl h) |>.ext hge) (by rw [octs_snoc]; simpa using a) (fun n hn => ?_) d
      rcases c n hn with h | h
      · exact .inr (hge n h)
      · exact .inr (Nat.le_trans hx.nx h)
    rw [run_loop]
    have lenE : ∃ k : Nat, k = l.length := ⟨_, rfl⟩
    by_cases hneg : i < 0
    · have hrem : remD l pt i = 0 :: remD l pt (i + 1) := by
        unfold remD
        rw [show (-i).toNat = (-(i + 1)).toNat + 1 by omega, List.replicate_succ, show (max i pt).toNat = (max (i + 1) pt).toNat by omega]
        rfl
      rcases hv0 with ⟨rfl, rfl⟩ | ⟨n, c, rfl, hr⟩
      · simp at hil
        simp [B.real_fraction_l0, go_sem, g0, g1, g5, g6, hneg, NO.run, reps]
        refine push 0 _ fun v' s a1 a2 a3 a4 => ?_
        simp [go_sem, e1]
        refine (ih (i + 1) _ s v' (acc ++ [0]) (by omega) (by omega) (by simp; omega) a1 a2 a3 a4 (by simp; omega) ?_ ?_ ?_ ?_).mono ?_
        · simp [go_sem]
        · simp [go_sem]
        · simp [go_sem]
        · simp [go_sem]
        · rintro x e' s' ⟨rfl, b1, b2, b3, b4⟩
          rw [hrem]
          exact ⟨rfl, b1, by simpa using b2, b3, b4⟩
      · simp [B.real_fraction_l0, go_sem, g0, g1, g5, g6, hneg, hil, NO.run, reps]
        refine push 0 _ fun v' s a1 a2 a3 a4 => ?_
        simp [go_sem, e1]
        refine (ih (i + 1) _ s v' (acc ++ [0]) (by omega) (by omega) (by omega) a1 a2 a3 a4 (by simp; omega) ?_ ?_ ?_ ?_).mono ?_
        · simp [go_sem]
        · simp [go_sem]
        · simp [go_sem]
        · simp [go_sem]
        · rintro x e' s' ⟨rfl, b1, b2, b3, b4⟩
          rw [hrem]
          exact ⟨rfl, b1, by simpa using b2, b3, b4⟩
    · obtain ⟨j, rfl⟩ := Int.eq_ofNat_of_zero_le (show 0 ≤ i by omega)
      have hjl : j < l.length := by omega
      have hn0 : ¬ (j : Int) < 0 := by omega
      have hv1 := hv0.ext hwf0 hx
      rcases hv0 with ⟨rfl, rfl⟩ | ⟨n, c, rfl, _⟩
      · simp at hjl
      have hrj : rdCell st1.h n j = some (.int .u8 (l.getD j 0 : Nat)) := by
        rcases hv1 with ⟨h, _⟩ | ⟨n', c', h, hr⟩
        · cases h
        · cases h; exact hr j hjl
      by_cases hp : pt ≤ (j : Int)
      · have hrem : remD l pt j = l.getD j 0 :: remD l pt (j + 1) := by
          unfold remD
          rw [show (-(j : Int)).toNat = 0 by omega, show (-((j : Int) + 1)).toNat = 0 by omega, show (max (j : Int) pt).toNat = j by omega, show (max ((j : Int) + 1) pt).toNat = j + 1 by omega,
            List.drop_eq_getElem_cons hjl]
          simp [List.getElem?_eq_getElem hjl]
        generalize hy : l.getD j 0 = y at hrj hrem
        simp [B.real_fraction_l0, go_sem, g0, g1, g5, g6, hil, hn0, hp, NO.run, RO.run, hrj, reps]
        refine push y _ fun v' s a1 a2 a3 a4 => ?_
        simp [go_sem, e1]
        refine (ih (j + 1) _ s v' (acc ++ [y]) (by omega) (by omega) (by omega) a1 a2 a3 a4 (by simp; omega) ?_ ?_ ?_ ?_).mono ?_
        · simp [go_sem]
        · simp [go_sem]
        · simp [go_sem]
        · simp [go_sem]
        · rintro x e' s' ⟨rfl, b1, b2, b3, b4⟩
          rw [hrem]
          exact ⟨rfl, b1, by simpa using b2, b3, b4⟩
      · have hrem : remD l pt j = remD l pt (j + 1) := by
          unfold remD
          rw [show (-(j : Int)).toNat = 0 by omega, show (-((j : Int) + 1)).toNat = 0 by omega, show (max (j : Int) pt).toNat = (max ((j : Int) + 1) pt).toNat by omega]
        simp [B.real_fraction_l0, go_sem, g0, g1, g5, g6, hil, hn0, hp, e1]
        rw [hrem]
        refine (ih (j + 1) _ st1 v acc (by omega) (by omega) (by omega) hx hv hm hnk (by omega) ?_ ?_ ?_ ?_).mono ?_
        · simp [go_sem]
        · simp [go_sem]
        · simp [go_sem]
        · simp [go_sem]
        · rintro x e' s' ⟨rfl, b1, b2, b3, b4⟩
          exact ⟨rfl, b1, by simpa using b2, b3, b4⟩

theorem fraction_res (H : B.H_real_fraction T) (hwf : st.Wf) {v : AV} {l : List Nat} {pt : Int} (hll : l.length < 1000000000) (hpt : -1000000000 ≤ pt) (hv : SlR st.h v l) :
    CRes (call T (.fn 115 [] []) [v, .int .i64 pt] st) fun v' s' => Ext st s' ∧ Sl s' v' 5 1 (fracD l pt).length (octs (fracD l pt)) ∧ Mine [] st v' ∧ NK v' := by
  refine call_res H.e H.f rfl ?_
  have hmin : (if (0 : Int) < pt then 0 else pt) = min pt 0 := by omega
  have hrem : fracD l pt = remD l pt (min pt 0) := by
    unfold fracD remD
    rw [show (-(min pt 0)).toNat = (-pt).toNat by omega, show (max (min pt 0) pt).toNat = pt.toNat by omega]
  simp [B.real_fraction, go_sem, hmin]
  refine (fraction_loop hll hpt st hwf hv (l.length - min pt 0).toNat (min pt 0) _ st .nilslice [] rfl (Int.le_refl _) (by omega) (.refl hwf) (.nil _ _ _) (Mine.nil _ _) (fun _ _ _ _ h => by cases h) (by simp) ?_ ?_ ?_ ?_).mono ?_
  · simp [go_sem]
  · simp [go_sem]
  · simp [go_sem]
  · simp [go_sem]
  · rintro x e' s' ⟨rfl, b1, b2, b3, b4⟩
    simp only [List.nil_append] at b2
    simp [go_sem, hrem]
    exact ⟨b1.dropLoc, b2.dropLoc b1.wf, b3, b4⟩

end Go.Ev

/- real.Parse told. -/
namespace Go.Ev
open Go
set_option linter.unusedSimpArgs false
set_option linter.unusedSectionVars false
set_option linter.unusedVariables false

variable {T : Tab} {st : St}

/-- Digits doubled: what is carried out, and the digits. -/
def dbl : List Nat → Nat × List Nat
  | [] => (0, [])
  | d :: r => ((2 * d + (dbl r).1) / 10, (2 * d + (dbl r).1) % 10 :: (dbl r).2)

theorem dbl_len : ∀ l, (dbl l).2.length = l.length
  | [] => rfl
  | d :: r => by simp [dbl, dbl_len r]
theorem dbl_carry : ∀ l, (∀ d ∈ l, d < 10) → (dbl l).1 ≤ 1
  | [], _ => by simp [dbl]
  | d :: r, h => by
    have := dbl_carry r (fun x hx => h x (List.mem_cons_of_mem _ hx))
    have := h d List.mem_cons_self
    simp only [dbl]; omega
theorem dbl_lt : ∀ l, ∀ d ∈ (dbl l).2, d < 10
  | [], d, h => by cases h
  | x :: r, d, h => by
    simp only [dbl] at h
    rcases List.mem_cons.1 h with rfl | h
    · omega
    · exact dbl_lt r d h

theorem SlAt.form {h : Heap} {v : AV} {n ty es k : Nat} {cs : List AV} (a : SlAt h v n ty es k cs) (hk : 0 < k) : ∃ c, v = .slice n 0 k c := by
  rcases a with ⟨h1, h2, h3⟩ | ⟨h1, h2, h3⟩ | ⟨ty', h1, h2, h3⟩
  · omega
  · exact ⟨_, h1⟩
  · exact ⟨_, h1⟩

theorem double_loop {v : AV} {n : Nat} {l : List Nat} (hd : ∀ d ∈ l, d < 10) (hll : l.length < 9223372036854775807) (st0 : St) :
    ∀ (m : Nat) (e : Env) (st1 : St), m ≤ l.length → Frm [n] st0 st1 → SlAt st1.h v n 5 1 l.length (octs (l.take m ++ (dbl (l.drop m)).2)) → eget e 0 = v → eget e 3 = .int .u8 (dbl (l.drop m)).1 → eget e 4 = .int .i64 ((m : Int) - 1) →
    Res (run T (.loop B.real_double_l0) e st1) fun x e' s' => x = .exit 0 ∧ Frm [n] st0 s' ∧ SlAt s'.h v n 5 1 l.length (octs (dbl l).2) ∧ eget e' 3 = .int .u8 (dbl l).1 := by
  intro m
  induction m with
  | zero =>
    intro e st1 hm hf ha g0 g3 g4
    rw [run_loop]
    simp only [List.drop_zero, List.take_zero, List.nil_append] at ha g3
    simp [B.real_double_l0, go_sem, g0, g3, g4]
    exact ⟨hf, ha⟩
  | succ m ih =>
    intro e st1 hm hf ha g0 g3 g4
    have hml : m < l.length := by omega
    obtain ⟨c, rfl⟩ := ha.form (by omega)
    have hdr : l.drop m = l[m] :: l.drop (m + 1) := List.drop_eq_getElem_cons hml
    have htk : l.take (m + 1) = l.take m ++ [l[m]] := List.take_succ_eq_append_getElem hml
    have hdm := hd l[m] (List.getElem_mem hml)
    have hcr := dbl_carry (l.drop (m + 1)) (fun d h => hd d (List.mem_of_mem_drop h))
    have hdb : dbl (l.drop m) = ((2 * l[m] + (dbl (l.drop (m + 1))).1) / 10, (2 * l[m] + (dbl (l.drop (m + 1))).1) % 10 :: (dbl (l.drop (m + 1))).2) := by rw [hdr]; rfl
    generalize hcc : dbl (l.drop (m + 1)) = D at *
    generalize hdd : l[m] = d at *
    obtain ⟨q, hq⟩ : ∃ q, q = (2 * d + D.1) % 10 := ⟨_, rfl⟩
    obtain ⟨r, hr⟩ : ∃ r, r = (2 * d + D.1) / 10 := ⟨_, rfl⟩
    rw [← hq, ← hr] at hdb
    have hlen0 : (octs (l.take (m + 1) ++ D.2)).length = l.length := by
      rw [octs_len, List.length_append, ← hcc, dbl_len]; simp; omega
    have hrd := ha.rd (o := m) (by rw [hlen0]; exact hml)
    have hval : (octs (l.take (m + 1) ++ D.2))[m]? = some (.int .u8 (d : Int)) := by
      simp only [octs, List.getElem?_map]
      rw [List.getElem?_append_left (by simp; omega), htk, List.getElem?_append_right (by simp only [List.length_take]; omega)]
      simp [Nat.min_eq_left (Nat.le_of_lt hml)]
    rw [hval] at hrd
    have hset : (octs (l.take (m + 1) ++ D.2)).set m (.int .u8 (q : Int)) = octs (l.take m ++ (dbl (l.drop m)).2) := by
      rw [hdb, htk]
      simp only [octs, List.map_append, List.map_cons, List.map_nil, List.append_assoc, List.singleton_append]
      rw [List.set_append_right _ _ (by simp only [List.length_map, List.length_take]; omega)]
      simp [Nat.min_eq_left (Nat.le_of_lt hml)]
    obtain ⟨h', w1, w2, w3⟩ := ha.store hf.wf (o := m) (x := .int .u8 (q : Int)) (by rw [hlen0]; exact hml) rfl
    rw [hset] at w2
    have e1 : IntKind.u8.wrap (2 * (d : Int)) = 2 * d := wrap_u8 (by omega) (by omega)
    have e2 : IntKind.u8.wrap (2 * (d : Int) + D.1) = 2 * d + D.1 := wrap_u8 (by omega) (by omega)
    have e3 : (2 * (d : Int) + D.1).tmod 10 = (q : Int) := by rw [Int.tmod_eq_emod_of_nonneg (by omega)]; omega
    have e4 : IntKind.u8.wrap ((2 * (d : Int) + D.1).tdiv 10) = (r : Int) := by
      rw [Int.tdiv_eq_ediv_of_nonneg (by omega), wrap_u8 (by omega) (by omega)]; omega
    have e5 : IntKind.i64.wrap ((m : Int) - 1) = m - 1 := wrap64' (by omega) (by omega)
    have e6 : ((m : Int) + 1 - 1) = m := by omega
    rw [Int.natCast_add, Int.natCast_one, e6] at g4
    have hmi : (m : Int) < l.length := by omega
    rw [run_loop]
    simp [B.real_double_l0, go_sem, g0, g3, g4, hmi, RO.run, WO.run, hrd, e1, e2, e3, e4, e5, w1]
    refine (ih _ ⟨h', st1.nx⟩ (by omega) (hf.trans w3 (by simp)) w2 ?_ ?_ ?_).mono fun x e' s' h => h
    · simp [go_sem]
    · simp [go_sem, hdb]
    · simp [go_sem]

theorem double_res (H : B.H_real_double T) (hwf : st.Wf) {v : AV} {l : List Nat} (hd : ∀ d ∈ l, d < 10) (hll : l.length < 9223372036854775807) (hv : Sl st v 5 1 l.length (octs l)) :
    CRes (call T (.fn 116 [] []) [v] st) fun r s' => r = .int .i64 (dbl l).1 ∧ Frm v.nms st s' ∧ Sl s' v 5 1 (dbl l).2.length (octs (dbl l).2) := by
  refine call_res H.e H.f rfl ?_
  have hv0 := hv
  obtain ⟨n, a⟩ := hv
  have hcr := dbl_carry l hd
  have e1 : IntKind.i64.wrap ((dbl l).1 : Int) = (dbl l).1 := wrap64' (by omega) (by omega)
  have ew : IntKind.i64.wrap (-1) = -1 := wrap64' (by omega) (by omega)
  have ew0 : IntKind.i64.wrap 0 = 0 := wrap64' (by omega) (by omega)
  cases l with
  | nil =>
    rcases hv0.view with ⟨rfl, _, _⟩ | ⟨n', c, rfl, _⟩
    · simp [B.real_double, go_sem, ew]
      rw [run_loop]
      simp [B.real_double_l0, go_sem, dbl, ew0]
      exact ⟨(Ext.refl hwf).dropLoc.fr _, Sl.nil _ _ _⟩
    · simp [B.real_double, go_sem, ew]
      rw [run_loop]
      simp [B.real_double_l0, go_sem, dbl, ew0]
      exact ⟨(Ext.refl hwf).dropLoc.fr _, hv0.dropLoc hwf⟩
  | cons d r =>
    obtain ⟨c, rfl⟩ := a.form (by simp)
    have hlen : IntKind.i64.wrap ((r.length : Int) + 1 - 1) = r.length := by
      rw [Int.add_sub_cancel]; exact wrap64' (by omega) (by simp at hll; omega)
    have hlen' : IntKind.i64.wrap (r.length : Int) = r.length := wrap64' (by omega) (by simp at hll; omega)
    simp [B.real_double, go_sem, hlen']
    refine (double_loop (v := .slice n 0 (r.length + 1) c) (n := n) hd hll st (d :: r).length _ st (Nat.le_refl _) (.refl hwf _) ?_ ?_ ?_ ?_).mono ?_
    · simpa [dbl] using a
    · simp [go_sem]
    · simp [go_sem, dbl]
    · simp [go_sem, hlen']
    · rintro x e s' ⟨rfl, h1, h2, h3⟩
      simp [go_sem, h3, e1]
      have hn : (AV.slice n 0 (r.length + 1) c).nms = [n] := rfl
      simp only [List.length_cons] at h2
      refine ⟨h1.dropLoc, ?_⟩
      rw [dbl_len]
      exact Sl.dropLoc h1.wf ⟨n, h2⟩

/-- The rest doubled so many times: the bits, and what is left. -/
def bitsF : Nat → Nat → List Nat → Nat × List Nat
  | 0, n, l => (n, l)
  | k + 1, n, l => bitsF k (2 * n + (dbl l).1) (dbl l).2

theorem bits_loop (H : B.H_real_double T) (st0 : St) {v : AV} {neg : Bool} : ∀ (m : Nat) (n : Nat) (l : List Nat) (e : Env) (st1 : St), m ≤ 16 → n + 1 ≤ 2 ^ (48 - m) → (∀ d ∈ l, d < 10) → l.length < 1000000000 → Frm v.nms st0 st1 → Sl st1 v 5 1 l.length (octs l) →
    eget e 5 = .bool neg → eget e 9 = .int .i64 n → eget e 10 = v → eget e 39 = .int .i64 (16 - (m : Int)) →
    Res (run T (.loop B.real_Parse_l0) e st1) fun x e' s' => x = .exit 0 ∧ Frm v.nms st0 s' ∧ Sl s' v 5 1 (bitsF m n l).2.length (octs (bitsF m n l).2) ∧ eget e' 9 = .int .i64 (bitsF m n l).1 ∧ eget e' 5 = .bool neg ∧ eget e' 10 = v ∧ (∀ d ∈ (bitsF m n l).2, d < 10) ∧ (bitsF m n l).2.length = l.length := by
  intro m
  induction m with
  | zero =>
    intro n l e st1 hm hn hd hll hf hv g5 g9 g10 g39
    rw [run_loop]
    simp [B.real_Parse_l0, go_sem, g5, g9, g10, g39, bitsF]
    exact ⟨hf, hv, hd⟩
  | succ m ih =>
    intro n l e st1 hm hn hd hll hf hv g5 g9 g10 g39
    have hlt : (16 : Int) - ((m + 1 : Nat) : Int) < 16 := by omega
    have hcr := dbl_carry l hd
    have hpow : 2 ^ (48 - (m + 1)) * 2 = 2 ^ (48 - m) := by rw [← Nat.pow_succ]; congr 1; omega
    have hpow2 : 2 ^ (48 - m) ≤ 2 ^ 48 := Nat.pow_le_pow_right (by omega) (by omega)
    have hn2 : 2 * n + (dbl l).1 + 1 ≤ 2 ^ (48 - m) := by omega
    have e1 : IntKind.i64.wrap (2 * (n : Int)) = 2 * n := wrap64' (by omega) (by omega)
    have e2 : IntKind.i64.wrap (2 * (n : Int) + (dbl l).1) = ((2 * n + (dbl l).1 : Nat) : Int) := by rw [wrap64' (by omega) (by omega)]; omega
    have e3 : IntKind.i64.wrap ((16 : Int) - ((m : Int) + 1) + 1) = 16 - m := by rw [wrap64' (by omega) (by omega)]; omega
    rw [run_loop]
    simp only [Int.natCast_add, Int.natCast_one] at hlt g39
    simp [B.real_Parse_l0, go_sem, g5, g9, g10, g39, hlt, e1]
    refine (double_res H hf.wf hd (by omega) hv).mono ?_
    rintro r s1 ⟨rfl, f1, h1⟩
    simp [go_sem, e2, e3]
    simp only [bitsF]
    have hd2 := dbl_lt l
    have hl2 := dbl_len l
    refine (ih (2 * n + (dbl l).1) (dbl l).2 _ s1 (by omega) hn2 hd2 (by omega) (hf.trans f1 (fun n h => .inl h)) h1 ?_ ?_ ?_ ?_).mono ?_
    · simp [go_sem]
    · simp [go_sem]
    · simp [go_sem]
    · simp [go_sem]
    · rintro x e' s' ⟨rfl, a1, a2, a3, a4, a5, a6, a7⟩
      exact ⟨rfl, a1, a2, a3, a4, a5, a6, by rw [a7, hl2]⟩

theorem more_loop {v : AV} {l : List Nat} (hll : l.length < 1000000000) (st0 : St) (hwf : st0.Wf) (hv : SlR st0.h v l) {neg half : Bool} {n : Int} : ∀ (m i : Nat) (mo : Bool) (e : Env), i + m = l.length → eget e 50 = v → eget e 51 = .int .i64 l.length → eget e 52 = .int .i64 i → eget e 12 = .bool mo →
      eget e 5 = .bool neg → eget e 9 = .int .i64 n → eget e 11 = .bool half →
    Res (run T (.loop B.real_Parse_l1) e st0) fun x e' s' => x = .exit 2 ∧ s' = st0 ∧ eget e' 12 = .bool (mo || (l.drop i).any fun d => decide (d ≠ 0)) ∧ eget e' 5 = .bool neg ∧ eget e' 9 = .int .i64 n ∧ eget e' 11 = .bool half := by
  intro m
  induction m with
  | zero =>
    intro i mo e hi g50 g51 g52 g12 g5 g9 g11
    have hil : i = l.length := by omega
    subst hil
    rw [run_loop]
    simp [B.real_Parse_l1, go_sem, g50, g51, g52, g12, g5, g9, g11]
  | succ m ih =>
    intro i mo e hi g50 g51 g52 g12 g5 g9 g11
    have hil : i < l.length := by omega
    have hil' : (i : Int) < l.length := by omega
    rcases hv with ⟨_, rfl⟩ | ⟨nn, c, rfl, hr⟩
    · simp at hil
    have hri := hr i hil
    have hdr : l.drop i = l.getD i 0 :: l.drop (i + 1) := by rw [List.drop_eq_getElem_cons hil]; simp [List.getElem?_eq_getElem hil]
    generalize l.getD i 0 = d at hri hdr
    have e1 : IntKind.i64.wrap ((i : Int) + 1) = ((i + 1 : Nat) : Int) := wrap64' (by omega) (by omega)
    rw [run_loop, hdr]
    cases mo with
    | true =>
      simp [B.real_Parse_l1, go_sem, g50, g51, g52, g12, g5, g9, g11, hil', RO.run, hri]
      refine (ih (i + 1) true _ (by omega) ?_ ?_ ?_ ?_ ?_ ?_ ?_).mono fun x e' s' h => by simpa using h
      · simp [go_sem]
      · simp [go_sem]
      · simp [go_sem, e1]
      · simp [go_sem]
      · simp [go_sem]
      · simp [go_sem]
      · simp [go_sem]
    | false =>
      simp [B.real_Parse_l1, go_sem, g50, g51, g52, g12, g5, g9, g11, hil', RO.run, hri]
      refine (ih (i + 1) (decide (d ≠ 0)) _ (by omega) ?_ ?_ ?_ ?_ ?_ ?_ ?_).mono fun x e' s' h => by simpa using h
      · simp [go_sem]
      · simp [go_sem]
      · simp [go_sem, e1]
      · simp [go_sem]
      · simp [go_sem]
      · simp [go_sem]
      · simp [go_sem]

end Go.Ev
