/- A loop over a map whose rounds leave all as it was. -/
import Derived.Test.YtcjbjemfobdkgaaGreatDoorP02
import Derived.Orders
import Derived.Below
namespace Go.Ev
open Go

variable {X : Cx} {N N' N'' : Nu} {D : ChkD}

mutual
theorem VR.back (hl : N.Le N') : ∀ (x : AV) {u0 u : Value}, VR X N x u0 → VR X N' x u → VR X N x u
  | .bot, _, _, _, _ => trivial
  | .bool _, _, _, _, h => h
  | .int _ _, _, _, _, h => h
  | .str _, _, _, _, h => h
  | .ptr n o, _, _, ⟨a, h1, _⟩, ⟨c, h2, h3⟩ => by
    have := (hl n a h1).1
    rw [this] at h2
    cases h2
    exact ⟨a, h1, h3⟩
  | .nilptr, _, _, _, h => h
  | .slice n o l c, _, _, ⟨a, _, h1, _⟩, ⟨a', cp, h2, h3, h4, h5⟩ => by
    have hk := hl n a h1
    rw [hk.1] at h2
    cases h2
    refine ⟨a, cp, h1, h3, h4, ?_⟩
    cases c with
    | known k => exact h5
    | full => exact ⟨h5.1, by rw [← hk.2]; exact h5.2⟩
    | unk => trivial
  | .nilslice, _, _, _, h => h
  | .map n, _, _, ⟨a, h1, _⟩, ⟨c, h2, h3⟩ => by
    rw [(hl n a h1).1] at h2
    cases h2
    exact ⟨a, h1, h3⟩
  | .nilmap, _, _, _, h => h
  | .fn f xs ys, _, _, ⟨us0, vs0, _, h1, h2⟩, ⟨us, vs, h3, h4, h5⟩ => ⟨us, vs, h3, VRs.back hl xs h1 h4, VRs.back hl ys h2 h5⟩
  | .yield n, _, _, ⟨a, h1, _⟩, ⟨c, h2, h3⟩ => by
    rw [(hl n a h1).1] at h2
    cases h2
    exact ⟨a, h1, h3⟩
  | .nilfn, _, _, _, h => h
  | .iface t x, _, _, ⟨_, _, h1⟩, ⟨u, h2, h3⟩ => ⟨u, h2, VR.back hl x h1 h3⟩
  | .niliface, _, _, _, h => h
  | .agg cs, _, _, ⟨_, _, h1⟩, ⟨us, h2, h3⟩ => ⟨us, h2, VRs.back hl cs h1 h3⟩
  | .tuple cs, _, _, ⟨_, _, h1⟩, ⟨us, h2, h3⟩ => ⟨us, h2, VRs.back hl cs h1 h3⟩
theorem VRs.back (hl : N.Le N') : ∀ (xs : List AV) {us0 us : List Value}, VRs X N xs us0 → VRs X N' xs us → VRs X N xs us
  | [], _, _, _, h => h
  | x :: xs, _, _, ⟨_, _, _, h1, h2⟩, ⟨u, ur, h3, h4, h5⟩ => ⟨u, ur, h3, VR.back hl x h1 h4, VRs.back hl xs h2 h5⟩
end

theorem EnvR.back (hl : N.Le N') {e : Env} {t0 t : Array Value} (h0 : EnvR X N e t0) (h : EnvR X N' e t) : EnvR X N e t := fun i => VR.back hl _ (h0 i) (h i)

theorem EntsR.back (hl : N.Le N') : ∀ {es : List (AV × AV)} {ms0 ms : List MapEntry}, EntsR X N es ms0 → EntsR X N' es ms → EntsR X N es ms
  | [], _, _, _, h => h
  | (_, _) :: _, _, _, ⟨_, _, _, h1, h2, h3⟩, ⟨e, er, k0, k1, k2, k3⟩ => ⟨e, er, k0, VR.back hl _ h1 k1, VR.back hl _ h2 k2, EntsR.back hl h3 k3⟩

theorem ObjR.back (hl : N.Le N') {w0 w : World} {n : Nat} {o : AObj} (h0 : ObjR D X N w0 n o) (h : ObjR D X N' w n o) : ObjR D X N w n o := by
  cases o with
  | cells ty l cs =>
    obtain ⟨b0, us0, fz0, a1, a2, a3, a4⟩ := h0
    obtain ⟨b, us, fz, h1, h2, h3, h4⟩ := h
    rw [(hl _ _ a1).1] at h1
    cases h1
    exact ⟨_, us, fz, a1, h2, VRs.back hl _ a3 h3, h4⟩
  | buf ty es cs =>
    obtain ⟨b0, us0, fz0, a1, a2, a3, a4, a5, a6⟩ := h0
    obtain ⟨b, us, fz, h1, h2, h3, h4, h5, h6⟩ := h
    have hk := hl _ _ a1
    rw [hk.1] at h1
    cases h1
    exact ⟨_, us, fz, a1, h2, by rw [← hk.2]; exact h3, h4, VRs.back hl _ a5 h5, h6⟩
  | ro cs =>
    obtain ⟨a0, b1, b2, b3⟩ := h0
    obtain ⟨a, h1, h2, h3⟩ := h
    rw [(hl _ _ b1).1] at h1
    cases h1
    refine ⟨_, b1, h2, fun i x hx => ?_⟩
    obtain ⟨u0, _, hv0⟩ := b3 i x hx
    obtain ⟨u, hu, hv⟩ := h3 i x hx
    exact ⟨u, hu, VR.back hl _ hv0 hv⟩
  | map es =>
    obtain ⟨b0, mes0, clk0, a1, a2, a3, a4⟩ := h0
    obtain ⟨b, mes, clk, h1, h2, h3, h4⟩ := h
    rw [(hl _ _ a1).1] at h1
    cases h1
    exact ⟨_, mes, clk, a1, h2, EntsR.back hl a3 h3, h4⟩
  | glob g cs =>
    obtain ⟨us0, t0, fz0, a1, a2, a3⟩ := h0
    obtain ⟨us, t, fz, h1, h2, h3⟩ := h
    exact ⟨us, t, fz, a1, h2, VRs.back hl _ a3 h3⟩
  | iter s pos =>
    obtain ⟨b0, a1, a2⟩ := h0
    obtain ⟨b, h1, h2⟩ := h
    rw [(hl _ _ a1).1] at h1
    cases h1
    exact ⟨_, a1, h2⟩
  | loop st env ps assign body =>
    obtain ⟨b0, l0, S0, a1, a2, a3, a4, a5⟩ := h0
    obtain ⟨b, l, S, h1, h2, h3, h4, h5⟩ := h
    rw [(hl _ _ a1).1] at h1
    cases h1
    exact ⟨_, l, S, a1, h2, h3, EnvR.back hl a4 h4, h5⟩

theorem HR.back (hl : N.Le N') {h : Heap} {w0 w : World} (h0 : HR D X N h w0) (h1 : HR D X N' h w) : HR D X N h w :=
  ⟨fun n o ho => (h0.objs n o ho).back hl (h1.objs n o ho), h0.sep⟩

/-- The operations of a part of a region. -/
theorem ops_part {call : CallF} (hcall : CallOK D X call) {S : Nat} {ops : Array Oper} (b : Frame) (d : List Deferred) (k : List Item) (cs : List Frame) (rest : List Nat) (tl : List Oper) :
    ∀ (is : List MI) (i : Nat) (os : List Oper) (N : Nu) (e e' : Env) (st st' : St) (t : Array Value) (w : World), runOps call is e st = some (e', st') → chkL X S ops is os = true → ops.toList.drop i = os ++ tl →
      EnvR X N e t → S ≤ t.size → SR D X N st w →
      ∃ N' t' w', EnvR X N' e' t' ∧ t'.size = t.size ∧ SR D X N' st' w' ∧ Gd N st.h w N' st'.h w' ∧ st.nx ≤ st'.nx ∧ (∀ n, n < st.nx → N'.ρ n = N.ρ n) ∧
        Steps X.P (lone (Fr b t d (.inRegion ops (List.range' i os.length ++ rest) :: k)) cs w) (lone (Fr b t' d (.inRegion ops rest :: k)) cs w')
  | [], i, os, N, e, e', st, st', t, w, hv, hc, hd, he, hs, hr => by
    cases os with
    | cons => simp [chkL] at hc
    | nil =>
      cases hv
      exact ⟨N, t, w, he, rfl, hr, .refl _ _ _, Nat.le_refl _, fun _ _ => rfl, .refl _ _⟩
  | mi :: is, i, os, N, e, e', st, st', t, w, hv, hc, hd, he, hs, hr => by
    cases os with
    | nil => simp [chkL] at hc
    | cons o os =>
      simp only [chkL, bool_and] at hc
      simp only [runOps] at hv
      split at hv
      · rename_i e1 st1 h1
        have ho : ops[i]? = some o := by
          rw [← Array.getElem?_toList]
          have := congrArg List.head? hd
          rw [List.head?_drop] at this
          exact this
        have hd' : ops.toList.drop (i + 1) = os ++ tl := by
          have := congrArg List.tail hd
          rw [List.tail_drop] at this
          exact this
        obtain ⟨N1, t1, w1, a1, a2, a3, a4, a5, a6, a7⟩ := MI_sound hcall h1 hc.1 ho he hs hr b d (List.range' (i + 1) os.length ++ rest) k cs
        obtain ⟨N2, t2, w2, b1, b2, b3, b4, b5, b6, b7⟩ := ops_part hcall b d k cs rest tl is (i + 1) os N1 e1 e' st1 st' t1 w1 hv hc.2 hd' a1 (by omega) a3
        refine ⟨N2, t2, w2, b1, by omega, b3, a4.trans b4, by omega, fun n hn => by rw [b6 n (by omega), a6 n hn], ?_⟩
        rw [List.length_cons, List.range'_succ]
        exact a7.trans b7
      · cases hv

theorem run_range {P : Program} {w : World} {t kt et : TypeId} {mb clk : Nat} {mes : Array MapEntry} (ht : P.underlying t = some (.map kt et)) (h : w.heap[mb]? = some (.map mes clk)) :
    (Instr.range t (.map (some mb))).run P w = .ok (.pointer (some ⟨w.heap.size, 0, none⟩)) { w with heap := w.heap.push (.mapIter (some mb) clk #[] clk) } := by
  simp [Instr.range, run_underlying ht, getObj, newObj, Sem.run, h]

theorem run_next {P : Program} {w : World} {r mb since clk : Nat} {seen : Array Nat} {mes : Array MapEntry} (h1 : w.heap[r]? = some (.mapIter (some mb) since seen clk)) (h2 : w.heap[mb]? = some (.map mes clk)) (hb : ∀ e ∈ mes.toList, e.born < clk) (t : TypeId) :
    ∃ dr, ((Instr.next (.pointer (some ⟨r, 0, none⟩)) false t).run P w = .ok (.tuple #[.bool false]) { w with drawn := dr } ∨
      ∃ e ∈ mes.toList, e.born ∉ seen.toList ∧ (Instr.next (.pointer (some ⟨r, 0, none⟩)) false t).run P w = .ok (.tuple #[.bool true, e.key, e.val]) { w with drawn := dr, heap := w.heap.setIfInBounds r (.mapIter (some mb) since (seen.push e.born) clk) }) := by
  have hcond : (!seen.isEmpty && !mes.isEmpty && mes.all (fun e => decide (e.born ≥ clk))) = false := by
    by_cases he : mes = #[]
    · subst he; simp
    · have : mes.all (fun e => decide (e.born ≥ clk)) = false := by
        obtain ⟨e, hm⟩ : ∃ e, e ∈ mes.toList := by
          cases hl : mes.toList with
          | nil => exact absurd (by apply Array.ext'; simpa using hl) he
          | cons a l => exact ⟨a, List.mem_cons_self⟩
        have := hb e hm
        rw [Array.all_eq_false']
        exact ⟨e, by simpa using hm, by simp; omega⟩
      simp [this]
  let left := mes.filter fun e => !seen.contains e.born
  let cands := (if (left.filter (fun e => decide (e.born < since))).isEmpty then #[none] else #[]) ++ (left.filter (fun e => decide (e.born < since)) ++ left.filter (fun e => decide (e.born ≥ since))).map some
  have hpos : 0 < cands.size := by
    by_cases ho : (left.filter (fun e => decide (e.born < since))).isEmpty = true
    · simp [cands, ho]; omega
    · have : 0 < (left.filter (fun e => decide (e.born < since))).size := by
        rw [Array.isEmpty_iff_size_eq_zero] at ho
        omega
      simp only [cands]
      rw [if_neg ho]
      simp only [Array.size_append, Array.size_map]
      omega
  have hmem : ∀ e, some e ∈ cands → e ∈ mes.toList ∧ e.born ∉ seen.toList := by
    intro e he
    have he2 : e ∈ left := by
      simp only [cands, Array.mem_append, Array.mem_map] at he
      rcases he with he | ⟨x, hx, hxe⟩
      · split at he <;> simp at he
      · cases hxe
        rcases hx with hx | hx
        · exact (Array.mem_filter.1 hx).1
        · exact (Array.mem_filter.1 hx).1
    have := Array.mem_filter.1 he2
    exact ⟨by simpa using this.1, by simpa using this.2⟩
  obtain ⟨i, dr, hi, hch⟩ : ∃ i dr, i < cands.size ∧ (choose (.mapNext cands.size)).run P w = .ok i { w with drawn := dr } := by
    by_cases hf : (Question.mapNext cands.size).forced = true
    · exact ⟨0, w.drawn, hpos, by simp [choose, Sem.run, hf]⟩
    · refine ⟨_, w.drawn + 1, Nat.mod_lt (w.tape w.drawn (.mapNext cands.size)) hpos, ?_⟩
      simp [choose, Sem.run, hf, Question.cut]
  obtain ⟨c, hc⟩ : ∃ c, cands[i]? = some c := ⟨cands[i], by simp [hi]⟩
  refine ⟨dr, ?_⟩
  have hcm : c ∈ cands := Array.mem_of_getElem? hc
  have hnext : (Instr.next (.pointer (some ⟨r, 0, none⟩)) false t).run P w = (match c with
      | some e => (do setObj r (.mapIter (some mb) since (seen.push e.born) clk); pure (.tuple #[.bool true, e.key, e.val]) : Sem Value)
      | none => pure (.tuple #[.bool false])).run P { w with drawn := dr } := by
    have hg1 : (getObj r).run P w = .ok (.mapIter (some mb) since seen clk) w := by simp [getObj, Sem.run, h1]
    have hg2 : (getObj mb).run P w = .ok (.map mes clk) w := by simp [getObj, Sem.run, h2]
    simp only [Instr.next, Sem.run_bind, hg1, Result.andThen, hg2, hcond, Bool.false_eq_true, if_false]
    dsimp only [cands, left] at hch hc
    rw [hch]
    dsimp only
    rw [hc]
    cases c <;> rfl
  rw [hnext]
  cases c with
  | none => exact .inl (by simp)
  | some e =>
    right
    obtain ⟨m1, m2⟩ := hmem e hcm
    refine ⟨e, m1, m2, ?_⟩
    simp [setObj, Sem.run, h1]

theorem run_entry {P : Program} {w : World} {r mb since clk b : Nat} {seen : Array Nat} {mes : Array MapEntry} (h1 : w.heap[r]? = some (.mapIter (some mb) since (seen.push b) clk)) (h2 : w.heap[mb]? = some (.map mes clk)) {e : MapEntry} (he : e ∈ mes.toList) (hb : e.born = b) :
    ∃ e' ∈ mes.toList, (Instr.entry (.pointer (some ⟨r, 0, none⟩))).run P w = .ok (.tuple #[e'.key, e'.val]) w := by
  obtain ⟨e', hf⟩ : ∃ e', mes.find? (fun x => x.born == b) = some e' := by
    cases hq : mes.find? (fun x => x.born == b) with
    | some x => exact ⟨x, rfl⟩
    | none =>
      rw [Array.find?_eq_none] at hq
      exact absurd (by simpa using hb) (hq e (by simpa using he))
  refine ⟨e', by simpa using Array.mem_of_find?_eq_some hf, ?_⟩
  simp [Instr.entry, getObj, Sem.run, h1, h2, hf]


theorem EnvR.keep {e : Env} {t : Array Value} (h : EnvR X N e t) (l : List Nat) : EnvR X N (keepE l e) t := by
  have : ∀ (l : List Nat) (i : Nat), eget (l.map fun t => (t, eget e t)) i = eget e i ∨ eget (l.map fun t => (t, eget e t)) i = .bot := by
    intro l i
    induction l with
    | nil => exact .inr rfl
    | cons a l ih =>
      simp only [List.map_cons, eget]
      by_cases h : a = i
      · subst h; rw [if_pos rfl]; exact .inl rfl
      · rw [if_neg h]; exact ih
  intro i
  rcases this l i with h1 | h1
  · simp only [keepE, h1]; exact h i
  · simp only [keepE, h1]; trivial

/-! The rounds. -/
theorem Gd.beside {N0 : Nu} {h0 h : Heap} {w0 w w' : World} {r : Nat} (g : Gd N0 h0 w0 N h w) (hs : w'.heap.size = w.heap.size) (ht : w'.tape = w.tape) (ho : w'.os = w.os) (hu : w'.output = w.output)
    (hb : ∀ k, k ≠ r → w'.heap[k]? = w.heap[k]?) (hr : w0.heap.size ≤ r) : Gd N0 h0 w0 N h w' :=
  ⟨g.le, by rw [hs]; exact g.size, ht.trans g.tape, ho.trans g.os, hu.trans g.output, fun k hk hn => by rw [hb k (by omega)]; exact g.frame k hk hn, g.has⟩

theorem rounds_all {call : CallF} {ex : ExF} {nx more pair : Nat} {post : List MI} {ks : List Nat} {body : MCode} {e : Env} {st : St} : ∀ {es : List (AV × AV)}, rounds call ex nx more pair post ks body e st es = some () →
    ∀ k v, (k, v) ∈ es → ∃ e2 st2 e' st', runOps call post (eset (eset (eset e nx (.tuple [.bool true, .bot, .bot])) more (.bool true)) pair (.tuple [k, v])) st = some (e2, st2) ∧ ex body e2 st2 = some (.norm, e', st') ∧ SameOn ks e e' ∧ KeptIn st.h st'.h
  | [], _, k, v, hm => by cases hm
  | (k0, v0) :: es, h, k, v, hm => by
    simp only [rounds] at h
    split at h
    case h_2 => cases h
    rename_i e2 st2 h1
    split at h
    case h_2 => cases h
    rename_i e' st' h2
    split at h
    case isFalse => cases h
    rename_i h3
    rcases List.mem_cons.1 hm with heq | hm
    · cases heq
      exact ⟨e2, st2, e', st', h1, h2, h3.1, h3.2⟩
    · exact rounds_all h k v hm

theorem keepE_get (l : List Nat) (e : Env) (i : Nat) : eget (keepE l e) i = .bot ∨ i ∈ l := by
  induction l with
  | nil => exact .inl rfl
  | cons a l ih =>
    simp only [keepE, List.map_cons, eget]
    by_cases h : a = i
    · subst h; exact .inr List.mem_cons_self
    · rw [if_neg h]
      rcases ih with ih | ih
      · exact .inl ih
      · exact .inr (List.mem_cons_of_mem _ ih)

theorem EntsR.mem : ∀ {es : List (AV × AV)} {ms : List MapEntry}, EntsR X N es ms → ∀ e, e ∈ ms → ∃ k v, (k, v) ∈ es ∧ VR X N k e.key ∧ VR X N v e.val
  | [], ms, h, e, he => by simp only [EntsR] at h; subst h; cases he
  | (k, v) :: es, ms, h, e, he => by
    obtain ⟨e0, er, rfl, h1, h2, h3⟩ := h
    rcases List.mem_cons.1 he with rfl | he
    · exact ⟨k, v, List.mem_cons_self, h1, h2⟩
    · obtain ⟨k', v', g1, g2⟩ := EntsR.mem h3 e he
      exact ⟨k', v', List.mem_cons_of_mem _ g1, g2⟩

theorem EnvR.back_on (hl : N.Le N') {E e' : Env} {t0 t : Array Value} {ks : List Nat} (h0 : EnvR X N E t0) (hE : ∀ i, eget E i = .bot ∨ i ∈ ks) (hs : SameOn ks E e') (h : EnvR X N' e' t) : EnvR X N E t := by
  intro i
  rcases hE i with h1 | h1
  · rw [h1]; trivial
  · have := h i
    rw [hs i h1] at this
    exact VR.back hl _ (h0 i) this

theorem filter_less {l : List MapEntry} {p q : MapEntry → Bool} (hpq : ∀ e, q e = true → p e = true) {e : MapEntry} (he : e ∈ l) (h1 : p e = true) (h2 : q e = false) : (l.filter q).length < (l.filter p).length := by
  have mono : ∀ l : List MapEntry, (l.filter q).length ≤ (l.filter p).length := by
    intro l
    induction l with
    | nil => simp
    | cons a l ih =>
      simp only [List.filter_cons]
      cases hq : q a with
      | true => rw [hpq a hq]; simpa using ih
      | false => cases hp : p a <;> simp <;> omega
  induction l with
  | nil => cases he
  | cons a l ih =>
    simp only [List.filter_cons]
    rcases List.mem_cons.1 he with rfl | he
    · rw [h1, h2]
      have := mono l
      simp
      omega
    · have := ih he
      cases hq : q a with
      | true => rw [hpq a hq]; simpa using this
      | false => cases hp : p a <;> simp <;> omega

theorem loop_rounds {ex : ExF} {call : CallF} (hx : CodeOK D X ex) (hcall : CallOK D X call) {S d nx more pair next out : Nat} {post : List MI} {ks : List Nat} {body : MCode} {os2 os3 : Array Oper} {r2 r3 : Nat} {code : Code}
    (hd : d < S) (hnx : nx < S) (hpair : pair < S) (hrf : noRF body = true) (hn1 : nx ∉ d :: ks) (hn2 : more ∉ d :: ks) (hcn : chkNext X S d nx more os2 = true) (hce : chkEntry X S d pair post os3 = true) (hcb : chkC D X S body code = true)
    {es : List (AV × AV)} {e1 : Env} {st : St} {it r mb since clk : Nat} {mes : Array MapEntry} {N : Nu} {N0 : Nu} {h0 : Heap} {w0 : World} {b : Frame} {df : List Deferred} {k : List Item} {cs : List Frame} {B : Nat}
    (hro : rounds call ex nx more pair post (d :: ks) body ((d, .ptr it 0) :: keepE ks e1) st es = some ()) (hit : N.ρ it = some ⟨r, 0, none⟩) (hents : EntsR X N es mes.toList) (hborn : ∀ e ∈ mes.toList, e.born < clk)
    (hfr : ∀ n, st.nx ≤ n → N.ρ n = none) (hnr : ∀ n o a, hget st.h n = some o → N.ρ n = some a → a.block ≠ r) (hnm : ¬ Own N st.h mb) (hr0 : w0.heap.size ≤ r) (hmr : mb ≠ r) :
    ∀ (μ : Nat) (t : Array Value) (w : World) (seen : Array Nat), (mes.toList.filter fun e => !seen.toList.contains e.born).length < μ → EnvR X N ((d, .ptr it 0) :: keepE ks e1) t → S ≤ t.size → HR D X N st.h w → Gd N0 h0 w0 N st.h w → DefOK B df w → B ≤ w.heap.size →
      w.heap[r]? = some (.mapIter (some mb) since seen clk) → w.heap[mb]? = some (.map mes clk) →
      ∃ t' w', EnvR X N ((d, .ptr it 0) :: keepE ks e1) t' ∧ t'.size = t.size ∧ HR D X N st.h w' ∧ Gd N0 h0 w0 N st.h w' ∧ DefOK B df w' ∧
        ∀ M, step X.P M = step X.P (lone (Fr b t df (.code (.loop (.seq (.region r2 os2 false) (.seq (.cond (.tmp more) .skip (.exit out)) (.block next (.seq (.region r3 os3 false) code))))) :: .inBlock out :: k)) cs w) → Steps X.P M (lone (Fr b t' df k) cs w') := by
  -- the regions' heads
  obtain ⟨o0, r0, ho0, hc0⟩ : ∃ o0 r0, os2.toList = o0 :: r0 ∧ (o0.dst = some nx ∧ o0.guard = none ∧ o0.op = .next (.tmp d) false ∧ chkL X S os2 [⟨some more, none, .p (.extr 0 (.t nx))⟩] r0 = true) := by
    unfold chkNext at hcn
    split at hcn
    case h_2 => cases hcn
    rename_i o0 r0 h
    simp only [bool_and, beq_iff_eq, Option.isNone_iff_eq_none] at hcn
    obtain ⟨a1, a2, a3, a4⟩ := hcn
    refine ⟨o0, r0, h, a1, a2, ?_, a4⟩
    split at a3
    · rename_i i hop; simp only [beq_iff_eq] at a3; subst a3; exact hop
    · cases a3
  obtain ⟨p0, q0, hp0, hd0⟩ : ∃ p0 q0, os3.toList = p0 :: q0 ∧ (p0.dst = some pair ∧ p0.guard = none ∧ p0.op = .entry (.tmp d) ∧ chkL X S os3 post q0 = true) := by
    unfold chkEntry at hce
    split at hce
    case h_2 => cases hce
    rename_i p0 q0 h
    simp only [bool_and, beq_iff_eq, Option.isNone_iff_eq_none] at hce
    obtain ⟨a1, a2, a3, a4⟩ := hce
    refine ⟨p0, q0, h, a1, a2, ?_, a4⟩
    split at a3
    · rename_i i hop; simp only [beq_iff_eq] at a3; subst a3; exact hop
    · cases a3
  have hall := rounds_all hro
  obtain ⟨E, hE⟩ : ∃ E : Env, E = (d, .ptr it 0) :: keepE ks e1 := ⟨_, rfl⟩
  have hEd : eget E d = .ptr it 0 := by rw [hE]; simp [eget]
  have hEn : ∀ i, eget E i = .bot ∨ i ∈ d :: ks := by
    intro i
    rw [hE]
    simp only [eget]
    by_cases h : d = i
    · subst h; exact .inr List.mem_cons_self
    · rw [if_neg h]
      exact (keepE_get ks e1 i).imp id (fun h => List.mem_cons_of_mem _ h)
  rw [← hE] at hall ⊢
  clear hro hE
  intro μ
  induction μ with
  | zero => intro t w seen hμ; omega
  | succ μ ih =>
    intro t w seen hμ he hs hr hg hdf hB hir himb
    have hsz := lt_of_get hir
    have hdv : evT t (.tmp d) = .pointer (some ⟨r, 0, none⟩) := by
      have := he d
      rw [hEd] at this
      obtain ⟨a, h1, h2⟩ := this
      rw [hit] at h1
      cases h1
      exact h2
    have ho0' : os2[0]? = some o0 := by rw [← Array.getElem?_toList, ho0]; rfl
    have hw0 : ∀ t', Region.wanted o0 (yielded os2 t') = true := fun t' => by unfold Region.wanted; rw [hc0.2.1]
    have hdef0 : ∀ c, o0.op ≠ .defer c := fun c => by rw [hc0.2.2.1]; simp
    have hsize2 : List.range os2.size = 0 :: List.range' 1 r0.length := by
      rw [← Array.length_toList, ho0, List.length_cons, List.range_eq_range', List.range'_succ]
    have hp0' : os3[0]? = some p0 := by rw [← Array.getElem?_toList, hp0]; rfl
    have hw1 : ∀ t', Region.wanted p0 (yielded os3 t') = true := fun t' => by unfold Region.wanted; rw [hd0.2.1]
    have hdef1 : ∀ c, p0.op ≠ .defer c := fun c => by rw [hd0.2.2.1]; simp
    have hsize3 : List.range os3.size = 0 :: List.range' 1 q0.length := by
      rw [← Array.length_toList, hp0, List.length_cons, List.range_eq_range', List.range'_succ]
    have hnr' : ¬ Own N st.h r := fun ⟨n, o, a, h1, _, h3, h4⟩ => hnr n o a h1 h3 h4
    obtain ⟨dr, hnext⟩ := run_next (P := X.P) hir himb hborn o0.type
    -- what the second region makes of the answer
    have second : ∀ (q : Bool) (xs : List AV) (u : Value) (wA : World), VR X N (.tuple (.bool q :: xs)) u → HR D X N st.h wA →
        ∃ t2 w2, EnvR X N (eset (eset E nx (.tuple (.bool q :: xs))) more (.bool q)) t2 ∧ t2.size = t.size ∧ HR D X N st.h w2 ∧ Gd N st.h wA N st.h w2 ∧
          Steps X.P (lone (Fr b (putT t (some nx) u) df (.inRegion os2 (List.range' 1 r0.length) :: (.code (.seq (.cond (.tmp more) .skip (.exit out)) (.block next (.seq (.region r3 os3 false) code))) :: .inLoop (.seq (.region r2 os2 false) (.seq (.cond (.tmp more) .skip (.exit out)) (.block next (.seq (.region r3 os3 false) code)))) :: .inBlock out :: k))) cs wA)
            (lone (Fr b t2 df (.inRegion os2 [] :: (.code (.seq (.cond (.tmp more) .skip (.exit out)) (.block next (.seq (.region r3 os3 false) code))) :: .inLoop (.seq (.region r2 os2 false) (.seq (.cond (.tmp more) .skip (.exit out)) (.block next (.seq (.region r3 os3 false) code)))) :: .inBlock out :: k))) cs w2) := by
      intro q xs u wA hu hrA
      have he1 : EnvR X N (eput E (some nx) (.tuple (.bool q :: xs))) (putT t (some nx) u) := he.put (fun x hx => by cases hx; omega) hu
      have hrun : runOps call [⟨some more, none, .p (.extr 0 (.t nx))⟩] (eput E (some nx) (.tuple (.bool q :: xs))) st = some (eset (eset E nx (.tuple (.bool q :: xs))) more (.bool q), st) := by
        simp [runOps, MI.run, wanted, MO.run, PO.run, AO.ev, eput, eset, eget]
      obtain ⟨N1, t2, w2, a1, a2, a3, a4, a5, a6, a7⟩ := ops_sound hcall b df (.code (.seq (.cond (.tmp more) .skip (.exit out)) (.block next (.seq (.region r3 os3 false) code))) :: .inLoop (.seq (.region r2 os2 false) (.seq (.cond (.tmp more) .skip (.exit out)) (.block next (.seq (.region r3 os3 false) code)))) :: .inBlock out :: k) cs
        _ 1 r0 N _ _ st st (putT t (some nx) u) wA hrun hc0.2.2.2 (by rw [ho0]; rfl) he1 (by rw [putT_size]; exact hs) ⟨hrA, hfr⟩
      have hmore : more < (putT t (some nx) u).size := by
        have := hc0.2.2.2
        cases r0 with
        | nil => simp [chkL] at this
        | cons o1 r1 =>
          simp only [chkL, bool_and, chkI, beq_iff_eq] at this
          obtain ⟨hdst, hlt, _⟩ := this.1
          rw [← hdst] at hlt
          have hlt' : more < S := by simpa using hlt
          rw [putT_size]
          omega
      have he2 : EnvR X N (eput (eput E (some nx) (.tuple (.bool q :: xs))) (some more) (.bool q)) (putT (putT t (some nx) u) (some more) (.bool q)) := he1.put (fun x hx => by cases hx; exact hmore) rfl
      refine ⟨t2, w2, EnvR.back a4.le he2 a1, by rw [a2, putT_size], HR.back a4.le hrA a3.hr, ⟨.refl N, a4.size, a4.tape, a4.os, a4.output, a4.frame, fun n o a h1 h2 => .inl ⟨n, o, a, h1, h2, rfl, id⟩⟩, a7⟩
    have hmv : ∀ {q : Bool} {xs : List AV} {t2 : Array Value}, EnvR X N (eset (eset E nx (.tuple (.bool q :: xs))) more (.bool q)) t2 → evT t2 (.tmp more) = .bool q := by
      intro q xs t2 h
      have := h more
      simp only [eset, eget, if_pos] at this
      exact this
    rcases hnext with hnext | ⟨en, hen, hens, hnext⟩
    · -- the end
      have hex0 : (execOp (evT t) o0).run X.P w = .ok (.value (.tuple #[.bool false])) { w with drawn := dr } := by
        simp only [execOp, hc0.2.2.1, hdv]
        simp [hnext]
      obtain ⟨t2, w2, b1, b2, b3, b4, b5⟩ := second false [] (.tuple #[.bool false]) { w with drawn := dr } ⟨_, rfl, _, _, rfl, rfl, rfl⟩ (hr.drawn dr)
      have g2 := (hg.trans (Gd.drawn N st.h w dr)).trans b4
      refine ⟨t2, w2, EnvR.back_on (.refl N) he hEn (fun i hi => ?_) b1, b2, b3, g2, (hdf.keep hr (Gd.drawn N st.h w dr)).keep (hr.drawn dr) b4, fun M hM => ?_⟩
      · have e1 : nx ≠ i := fun h => hn1 (h ▸ hi)
        have e2 : more ≠ i := fun h => hn2 (h ▸ hi)
        simp only [eset, eget, if_neg e1, if_neg e2]
      · refine .head (hM.trans fr_loop) (.head fr_seq (.head fr_region ?_))
        rw [hsize2]
        refine .head (fr_op_value ho0' (hw0 _) hdef0 hex0 rfl) ?_
        rw [hc0.1]
        refine Steps.trans b5 (.head fr_region_end (.head fr_seq (.head (fr_cond (hmv b1)) ?_)))
        simp only [Bool.false_eq_true, if_false]
        exact .one (fr_exit (by simp [exitTo]))
    · -- a round
      obtain ⟨wA, hwA⟩ : ∃ wA : World, wA = { w with drawn := dr, heap := w.heap.setIfInBounds r (.mapIter (some mb) since (seen.push en.born) clk) } := ⟨_, rfl⟩
      have hne : ∀ q, q ≠ r → wA.heap[q]? = w.heap[q]? := fun q hq => by
        rw [hwA]
        show (w.heap.setIfInBounds _ _)[q]? = _
        rw [Array.getElem?_setIfInBounds, if_neg (fun e => hq e.symm)]
      have hszA : wA.heap.size = w.heap.size := by rw [hwA]; simp
      have hirA : wA.heap[r]? = some (.mapIter (some mb) since (seen.push en.born) clk) := by
        rw [hwA]
        show (w.heap.setIfInBounds _ _)[r]? = _
        rw [Array.getElem?_setIfInBounds, if_pos rfl, if_pos hsz]
      have himbA : wA.heap[mb]? = some (.map mes clk) := by rw [hne mb hmr]; exact himb
      have hrA : HR D X N st.h wA := ⟨fun n o ho => (hr.objs n o ho).keep (.refl N) (by omega) (fun a ha => hne _ (hnr n o a ho ha)), hr.sep⟩
      have hgA : Gd N0 h0 w0 N st.h wA := hg.beside (r := r) hszA (by rw [hwA]) (by rw [hwA]) (by rw [hwA]) hne hr0
      have hdA : DefOK B df wA := by
        obtain ⟨rs, q1, q2, q3⟩ := hdf
        refine ⟨rs, q1, q2, fun x hx => ⟨(q3 x hx).1, ?_⟩⟩
        rw [hne x ?_]
        · exact (q3 x hx).2
        · rintro rfl
          have := (q3 _ hx).2
          rw [hir] at this
          cases this
      have hex0 : (execOp (evT t) o0).run X.P w = .ok (.value (.tuple #[.bool true, en.key, en.val])) wA := by
        simp only [execOp, hc0.2.2.1, hdv]
        simp [hnext, hwA]
      obtain ⟨t2, w2, b1, b2, b3, b4, b5⟩ := second true [.bot, .bot] (.tuple #[.bool true, en.key, en.val]) wA ⟨_, rfl, _, _, rfl, rfl, _, _, rfl, trivial, _, _, rfl, trivial, rfl⟩ hrA
      have hir2 : w2.heap[r]? = some (.mapIter (some mb) since (seen.push en.born) clk) := by rw [b4.frame r (by omega) hnr']; exact hirA
      have himb2 : w2.heap[mb]? = some (.map mes clk) := by rw [b4.frame mb (lt_of_get himbA) hnm]; exact himbA
      obtain ⟨en', hen', hentry⟩ := run_entry (P := X.P) hir2 himb2 hen rfl
      obtain ⟨kA, vA, hkv, hvk, hvv⟩ := EntsR.mem hents en' hen'
      obtain ⟨e2, st2, e', st', hpost, hbody, hsame, hkept⟩ := hall kA vA hkv
      have hdv2 : evT t2 (.tmp d) = .pointer (some ⟨r, 0, none⟩) := by
        have := b1 d
        have e1 : nx ≠ d := fun h => hn1 (h ▸ List.mem_cons_self)
        have e2 : more ≠ d := fun h => hn2 (h ▸ List.mem_cons_self)
        simp only [eset, eget, if_neg e1, if_neg e2] at this
        rw [hEd] at this
        obtain ⟨a, h1, h2⟩ := this
        rw [hit] at h1
        cases h1
        exact h2
      have hex1 : (execOp (evT t2) p0).run X.P w2 = .ok (.value (.tuple #[en'.key, en'.val])) w2 := by
        simp only [execOp, hd0.2.2.1, hdv2]
        simp [hentry]
      have he3 : EnvR X N (eput (eset (eset E nx (.tuple [.bool true, .bot, .bot])) more (.bool true)) (some pair) (.tuple [kA, vA])) (putT t2 (some pair) (.tuple #[en'.key, en'.val])) :=
        b1.put (fun x hx => by cases hx; omega) ⟨_, rfl, _, _, rfl, hvk, _, _, rfl, hvv, rfl⟩
      obtain ⟨N3, t4, w4, c1, c2, c3, c4, c5, c6, c7⟩ := ops_sound hcall b df (.code code :: .inBlock next :: .inLoop (.seq (.region r2 os2 false) (.seq (.cond (.tmp more) .skip (.exit out)) (.block next (.seq (.region r3 os3 false) code)))) :: .inBlock out :: k) cs
        _ 1 q0 N _ _ st st2 _ w2 hpost hd0.2.2.2 (by rw [hp0]; rfl) he3 (by rw [putT_size]; omega) ⟨b3, hfr⟩
      rw [putT_size] at c2
      have hd4 : DefOK B df w4 := (hdA.keep hrA b4).keep b3 c4
      obtain ⟨N5, t5, d5, w5, f1, f2, f3, f4, f5, f6, f7, f8, f9⟩ := hx body code S _ _ _ _ _ hbody hcb N3 b t4 df (.inBlock next :: .inLoop (.seq (.region r2 os2 false) (.seq (.cond (.tmp more) .skip (.exit out)) (.block next (.seq (.region r3 os3 false) code)))) :: .inBlock out :: k) cs w4 B c1 (by omega) c3 hd4 (Nat.le_trans hB (by have := b4.size; have := c4.size; omega)) (.inr hrf)
      have f8 := (f8 hrf).symm
      subst f8
      have g5 := c4.trans f4
      have hr5 : HR D X N st.h w5 := HR.back g5.le b3 (f3.hr.weaken (fun n o ho => hkept n o ho))
      have g5' : Gd N st.h w2 N st.h w5 := ⟨.refl N, g5.size, g5.tape, g5.os, g5.output, g5.frame, fun n o a h1 h2 => .inl ⟨n, o, a, h1, h2, rfl, id⟩⟩
      have hir5 : w5.heap[r]? = some (.mapIter (some mb) since (seen.push en.born) clk) := by rw [g5'.frame r (lt_of_get hir2) hnr']; exact hir2
      have himb5 : w5.heap[mb]? = some (.map mes clk) := by rw [g5'.frame mb (lt_of_get himb2) hnm]; exact himb2
      have he5 : EnvR X N E t5 := EnvR.back_on g5.le he hEn hsame f1
      have hsz5 := (hgA.trans b4).trans g5'
      obtain ⟨t', w', i1, i2, i3, i4, i5, i6⟩ := ih t5 w5 (seen.push en.born) (by
          refine Nat.lt_of_lt_of_le (filter_less (p := fun e => !seen.toList.contains e.born) (e := en) (fun e h => ?_) hen ?_ ?_) (Nat.le_of_lt_succ hμ)
          · simp at h ⊢; exact h.1
          · simpa using hens
          · simp) he5 (by omega) hr5 hsz5 f7 (Nat.le_trans hB (by have := b4.size; have := g5'.size; omega)) hir5 himb5
      refine ⟨t', w', i1, by omega, i3, i4, i5, fun M hM => ?_⟩
      have i6 := i6 (lone (Fr b t5 df (.inLoop (.seq (.region r2 os2 false) (.seq (.cond (.tmp more) .skip (.exit out)) (.block next (.seq (.region r3 os3 false) code)))) :: .inBlock out :: k)) cs w5) (fr_inLoop.trans fr_loop.symm)
      have f9 := f9 _ rfl
      simp only [OutM] at f9
      refine .head (hM.trans fr_loop) (.head fr_seq (.head fr_region ?_))
      rw [hsize2]
      refine .head (fr_op_value ho0' (hw0 _) hdef0 hex0 rfl) ?_
      rw [hc0.1]
      refine Steps.trans b5 (.head fr_region_end (.head fr_seq (.head (fr_cond (hmv b1)) ?_)))
      simp only [if_true]
      refine .head fr_skip (.head fr_block (.head fr_seq (.head fr_region ?_)))
      rw [hsize3]
      refine .head (fr_op_value hp0' (hw1 _) hdef1 hex1 rfl) ?_
      rw [hd0.1]
      exact Steps.trans c7 (.head fr_region_end (Steps.trans f9 (.head fr_inBlock i6)))

theorem ObjR.namedT {w : World} {n : Nat} {o : AObj} (h : ObjR D X N w n o) : ∃ a, N.ρ n = some a := by
  cases o with
  | cells ty l cs => obtain ⟨b, us, fz, h1, _⟩ := h; exact ⟨_, h1⟩
  | buf ty es cs => obtain ⟨b, us, fz, h1, _⟩ := h; exact ⟨_, h1⟩
  | ro cs => obtain ⟨a, h1, _⟩ := h; exact ⟨_, h1⟩
  | map es => obtain ⟨b, mes, clk, h1, _⟩ := h; exact ⟨_, h1⟩
  | glob g cs => obtain ⟨us, t, fz, h1, _⟩ := h; exact ⟨_, h1⟩
  | iter s pos => obtain ⟨b, h1, _⟩ := h; exact ⟨_, h1⟩
  | loop st env ps assign body => obtain ⟨b, l, S, h1, _⟩ := h; exact ⟨_, h1⟩

/-- The loop over a map, with the region ahead of it. -/
theorem rangeMap_ok {ex : ExF} {call : CallF} (hx : CodeOK D X ex) (hcall : CallOK D X call) {S d nx more pair next out : Nat} {pre post : List MI} {mo : AO} {ks : List Nat} {body : MCode} {os os2 os3 : Array Oper} {r1 r2 r3 : Nat} {code : Code}
    (hd : d < S) (hnx : nx < S) (hpair : pair < S) (hrf : noRF body = true) (hn1 : nx ∉ d :: ks) (hn2 : more ∉ d :: ks) (hcr : chkRange X S pre mo d os = true) (hcn : chkNext X S d nx more os2 = true) (hce : chkEntry X S d pair post os3 = true) (hcb : chkC D X S body code = true)
    {e e1 : Env} {st st1 : St} {n : Nat} {es : List (AV × AV)} (hpre : runOps call pre e st = some (e1, st1)) (hmo : mo.ev e1 = .map n) (hmap : hget st1.h n = some (.map es))
    (hro : rounds call ex nx more pair post (d :: ks) body ((d, .ptr st1.nx 0) :: keepE ks e1) ⟨hdel st1.h n, st1.nx + 1⟩ es = some ())
    {N : Nu} {b : Frame} {t : Array Value} {df : List Deferred} {k : List Item} {cs : List Frame} {w : World} {B : Nat} (he : EnvR X N e t) (hs : S ≤ t.size) (hr : SR D X N st w) (hdf : DefOK B df w) (hB : B ≤ w.heap.size) :
    ∃ N' t' w', EnvR X N' ((d, .ptr st1.nx 0) :: keepE ks e1) t' ∧ t'.size = t.size ∧ SR D X N' ⟨hdel st1.h n, st1.nx + 1⟩ w' ∧ Gd N st.h w N' (hdel st1.h n) w' ∧ st.nx ≤ st1.nx + 1 ∧ (∀ n, n < st.nx → N'.ρ n = N.ρ n) ∧ DefOK B df w' ∧
      ∀ M, step X.P M = step X.P (lone (Fr b t df (.code (.seq (.region r1 os false) (.block out (.loop (.seq (.region r2 os2 false) (.seq (.cond (.tmp more) .skip (.exit out)) (.block next (.seq (.region r3 os3 false) code))))))) :: k)) cs w) → Steps X.P M (lone (Fr b t' df k) cs w') := by
  unfold chkRange at hcr
  simp only [bool_and] at hcr
  obtain ⟨hcp, hcl⟩ := hcr
  split at hcl
  case h_2 => cases hcl
  rename_i o hlast
  simp only [bool_and, beq_iff_eq, Option.isNone_iff_eq_none] at hcl
  obtain ⟨hdst, hgu, hop⟩ := hcl
  split at hop
  case h_2 => cases hop
  rename_i tt xo hopr
  simp only [bool_and] at hop
  obtain ⟨hxo, hty⟩ := hop
  split at hty
  case h_2 => cases hty
  rename_i kt et hty'
  have hne : os.toList ≠ [] := by intro h; rw [h] at hlast; cases hlast
  have hsplit : os.toList = os.toList.dropLast ++ [o] := by
    have h1 := List.dropLast_concat_getLast hne
    rw [List.getLast?_eq_some_getLast hne] at hlast
    rw [← Option.some.inj hlast]
    exact h1.symm
  obtain ⟨L, hL⟩ : ∃ L, L = os.toList.dropLast := ⟨_, rfl⟩
  rw [← hL] at hsplit hcp
  obtain ⟨N1, t1, w1, a1, a2, a3, a4, a5, a6, a7⟩ := ops_part hcall b df (.code (.block out (.loop (.seq (.region r2 os2 false) (.seq (.cond (.tmp more) .skip (.exit out)) (.block next (.seq (.region r3 os3 false) code)))))) :: k) cs [L.length] [o] pre 0 L N e e1 st st1 t w hpre hcp (by rw [List.drop_zero]; exact hsplit) he hs hr
  have ho : os[L.length]? = some o := by
    rw [← Array.getElem?_toList, hsplit]
    simp
  have hrange : List.range os.size = List.range' 0 L.length ++ [L.length] := by
    rw [← Array.length_toList, hsplit, List.length_append, List.length_singleton, List.range_eq_range', List.range'_concat]
    simp
  have hmv := evs_of a1 _ _ hxo
  rw [hmo] at hmv
  obtain ⟨ad, hρ, hval⟩ := hmv
  obtain ⟨mb, mes, clk, m1, m2, m3, m4⟩ := a3.hr.objs _ _ hmap
  rw [hρ] at m1
  cases m1
  simp only at hval
  have hrun := run_range (P := X.P) hty' m2
  obtain ⟨wR, hwR⟩ : ∃ wR : World, wR = { w1 with heap := w1.heap.push (.mapIter (some mb) clk #[] clk) } := ⟨_, rfl⟩
  rw [← hwR] at hrun
  have hexo : (execOp (evT t1) o).run X.P w1 = .ok (.value (.pointer (some ⟨w1.heap.size, 0, none⟩))) wR := by
    simp only [execOp, hopr, hval]
    simp [hrun]
  have hold : ∀ q, q < w1.heap.size → wR.heap[q]? = w1.heap[q]? := fun q hq => by rw [hwR]; exact heap_push_lt w1 _ hq
  have hszR : wR.heap.size = w1.heap.size + 1 := by rw [hwR]; simp
  have hfresh := a3.fresh st1.nx (Nat.le_refl _)
  obtain ⟨N2, hN2⟩ : ∃ N2, N2 = N1.add st1.nx ⟨w1.heap.size, 0, none⟩ 0 := ⟨_, rfl⟩
  have hle : N1.Le N2 := by rw [hN2]; exact Nu.le_add hfresh
  have hρ2 : ∀ m a, N1.ρ m = some a → N2.ρ m = some a := fun m a h => (hle m a h).1
  have hsub : ∀ m o, hget (hdel st1.h n) m = some o → hget st1.h m = some o ∧ m ≠ n := by
    intro m o ho
    rw [hget_hdel] at ho
    split at ho
    · cases ho
    · rename_i h; exact ⟨ho, fun e => h e.symm⟩
  have hnm : ∀ m o a, hget st1.h m = some o → N2.ρ m = some a → N1.ρ m = some a := by
    intro m o a h1 h2
    obtain ⟨a', h3⟩ := (a3.hr.objs m o h1).namedT
    rw [hρ2 m a' h3] at h2
    rw [h3, h2]
  have hr2 : HR D X N2 (hdel st1.h n) wR := by
    refine ⟨fun m o ho => (a3.hr.objs m o (hsub m o ho).1).keep hle (by omega) (fun a ha => hold _ ((a3.hr.objs m o (hsub m o ho).1).lt ha)), fun m m' o p a c h1 h2 h3 h4 h5 h6 => ?_⟩
    exact a3.hr.sep m m' o p a c (hsub _ _ h1).1 (hsub _ _ h2).1 h3 (hnm _ _ _ (hsub _ _ h1).1 h4) (hnm _ _ _ (hsub _ _ h2).1 h5) h6
  have g1 : Gd N1 st1.h w1 N2 (hdel st1.h n) wR :=
    ⟨hle, by omega, by rw [hwR], by rw [hwR], by rw [hwR], fun q hq _ => hold q hq, fun m o a h1 h2 => .inl ⟨m, o, a, (hsub _ _ h1).1, hnm _ _ _ (hsub _ _ h1).1 h2, rfl, id⟩⟩
  have g2 := a4.trans g1
  have hitN : N2.ρ st1.nx = some ⟨w1.heap.size, 0, none⟩ := by rw [hN2]; simp [Nu.add]
  have hE : EnvR X N2 ((d, .ptr st1.nx 0) :: keepE ks e1) (putT t1 (some d) (.pointer (some ⟨w1.heap.size, 0, none⟩))) :=
    (EnvR.keep (a1.mono hle) ks).put (dst := some d) (v := .ptr st1.nx 0) (fun x hx => by cases hx; omega) ⟨_, hitN, rfl⟩
  have hfr2 : ∀ m, st1.nx + 1 ≤ m → N2.ρ m = none := by
    intro m hm
    rw [hN2]
    simp only [Nu.add]
    rw [if_neg (by omega)]
    exact a3.fresh m (by omega)
  have hsz1 := a4.size
  obtain ⟨t', w', i1, i2, i3, i4, i5, i6⟩ := loop_rounds (b := b) (k := k) (cs := cs) (r2 := r2) (r3 := r3) (next := next) (out := out) (B := B) (df := df) hx hcall hd hnx hpair hrf hn1 hn2 hcn hce hcb hro hitN (EntsR.mono hle m3) m4 hfr2
    (fun m o a h1 h2 => Nat.ne_of_lt ((a3.hr.objs m o (hsub _ _ h1).1).lt (hnm _ _ _ (hsub _ _ h1).1 h2)))
    (fun ⟨m, o, a, h1, h2, h3, h4⟩ => (hsub _ _ h1).2 (a3.hr.sep m n o _ a _ (hsub _ _ h1).1 hmap h2 (hnm _ _ _ (hsub _ _ h1).1 h3) hρ h4))
    (w0 := w) (r := w1.heap.size) (since := clk) hsz1 (Nat.ne_of_lt (lt_of_get m2)) ((mes.toList.filter fun e => !(#[] : Array Nat).toList.contains e.born).length + 1) (putT t1 (some d) (.pointer (some ⟨w1.heap.size, 0, none⟩))) wR #[] (Nat.lt_succ_self _) hE (by rw [putT_size]; omega) hr2 g2
    ((hdf.keep hr.hr a4).keep a3.hr g1) (by omega) (by rw [hwR]; simp) (by rw [hold _ (lt_of_get m2)]; exact m2)
  rw [putT_size] at i2
  refine ⟨N2, t', w', i1, by omega, ⟨i3, hfr2⟩, i4, by omega, fun m hm => ?_, i5, fun M hM => ?_⟩
  · rw [hN2]
    simp only [Nu.add]
    rw [if_neg (by omega)]
    exact a6 m hm
  · refine .head (hM.trans fr_seq) (.head fr_region ?_)
    rw [hrange]
    refine Steps.trans a7 (.head (fr_op_value ho (by unfold Region.wanted; rw [hgu]) (fun c => by rw [hopr]; simp) hexo rfl) ?_)
    rw [hdst]
    exact .head fr_region_end (.head fr_block (i6 _ rfl))

end Go.Ev

/- The evaluator's code does what the model's machine does. -/
namespace Go.Ev
open Go

variable {X : Cx} {N N' N'' : Nu} {D : ChkD}

section
variable {P : Program} {b : Frame} {t : Array Value} {d : List Deferred} {k : List Item} {cs : List Frame} {w : World}

def rfWorld (w : World) (fn : FuncId) (t : Array Value) (ps : Array Tmp) (as bd : Code) : World :=
  { w with heap := (w.heap.push (.deferred (some []))).push (.loop { state := .ready, pending := none, fn, tmps := t, params := ps, assign := as, body := bd, defers := w.heap.size }) }

theorem rf_sem (f : Operand) (l : Nat) (b : Frame) (t : Array Value) (d : List Deferred) (todo : List Item) :
    (do let dd ← resolve (Fr b t d todo).eval { callee := .value f, args := #[.const (.func (.yield l) #[] #[])], argTypes := #[] } 0; invoke dd.target dd.args : Sem Next) = callSem (evT t f) #[.func (.yield l) #[] #[]] := by
  rw [Fr_eval]
  simp [resolve, callSem, evT]

theorem rf_enter {ps : Array Tmp} {as bd : Code} :
    (Instr.enterLoop b.fn t ps as bd none).run P w = .ok (w.heap.size + 1, [{ target := .collected w.heap.size, args := #[] }]) (rfWorld w b.fn t ps as bd) := by
  simp [Instr.enterLoop, rfWorld]
  rfl

theorem frG_rangeFunc {f : Operand} {ps : Array Tmp} {as bd : Code} (hb : b.roundOf = none) :
    (stepG P true { frame := Fr b t d (.code (.rangeFunc f ps as bd) :: k), callers := cs, status := .running, dying := none } w).bare =
      (stepG.apply P true (Fr b t ({ target := .collected w.heap.size, args := #[] } :: d) (.inRangeFunc (w.heap.size + 1) :: k)) cs none
        (callSem (evT t f) #[.func (.yield (w.heap.size + 1)) #[] #[]]) (rfWorld w b.fn t ps as bd)).bare := by
  have hs := rf_sem f (w.heap.size + 1) b t ({ target := .collected w.heap.size, args := #[] } :: d) (.inRangeFunc (w.heap.size + 1) :: k)
  have he := rf_enter (P := P) (b := b) (t := t) (w := w) (ps := ps) (as := as) (bd := bd)
  simp only [Fr, hb] at hs
  simp only [stepG, stepG.exec, Fr, hb, Sem.runT_eq, he, GStep.bare_after, List.singleton_append, hs]

/-- A loop over a function, up to where the function has returned. -/
theorem fr_rangeFunc {f : Operand} {ps : Array Tmp} {as bd : Code} (hb : b.roundOf = none) {u : Value} {w' : World}
    (hc : CallsTo P (callSem (evT t f) #[.func (.yield (w.heap.size + 1)) #[] #[]]) (rfWorld w b.fn t ps as bd) (Fr b t ({ target := .collected w.heap.size, args := #[] } :: d) (.inRangeFunc (w.heap.size + 1) :: k)) cs u w') :
    Steps P (lone (Fr b t d (.code (.rangeFunc f ps as bd) :: k)) cs w) (lone (Fr b t ({ target := .collected w.heap.size, args := #[] } :: d) (.endRangeFunc (w.heap.size + 1) :: k)) cs w') := by
  obtain ⟨nx, w1, hrun, h⟩ := hc
  have hg := frG_rangeFunc (P := P) (d := d) (k := k) (cs := cs) (w := w) (f := f) (ps := ps) (as := as) (bd := bd) (t := t) hb
  have hfin : (Fr b t ({ target := .collected w.heap.size, args := #[] } :: d) (.inRangeFunc (w.heap.size + 1) :: k)).finish u = Fr b t ({ target := .collected w.heap.size, args := #[] } :: d) (.endRangeFunc (w.heap.size + 1) :: k) := rfl
  rcases h with ⟨hu, rfl⟩ | ⟨g, us, rfl, hst⟩ | ⟨l, g, us, a, e, rfl, hst⟩
  · refine .one (step_lone_go ?_)
    rw [hg, ← hfin]
    cases nx <;> simp only [outOf] at hu <;> first | (cases hu; done) | skip
    · cases hu; simp [stepG.apply, hrun]
    · cases hu; simp [stepG.apply, hrun]
  · rw [← hfin]
    refine .head (step_lone_go ?_) hst
    rw [hg]
    simp [stepG.apply, hrun, Fr]
  · rw [← hfin]
    refine .head (step_lone_go ?_) hst
    rw [hg]
    simp [stepG.apply, hrun, Fr]

theorem fr_endRangeFunc {l : Nat} {r : Loop} (hl : w.heap[l]? = some (.loop r)) (hr : r.state ≠ .busy) :
    step P (lone (Fr b t d (.endRangeFunc l :: k)) cs w) = .next (lone (Fr b t d ((r.pending.map Item.code).toList ++ k)) cs { w with heap := w.heap.setIfInBounds l (.loop { r with state := .exhausted }) }) := by
  refine step_lone_go ?_
  have he : (Instr.endLoop l).run P w = .ok r.pending { w with heap := w.heap.setIfInBounds l (.loop { r with state := .exhausted }) } := by
    simp [Instr.endLoop, Instr.getLoop, getObj, setObj, Sem.run, hl, hr]
  simp [stepG, stepG.exec, Fr, he]

end

/-- What is asked of the regions whose order is drawn. -/
def DrawOK (D : ChkD) (X : Cx) : Prop :=
  ∀ call, CallOK D X call → ∀ S ops is e st e' st', runR call [] st.nx is e ⟨st.h, st.nx + is.length⟩ = some (e', st') → D X S is ops = true →
    ∀ N b t d k cs w tt, EnvR X N e t → S ≤ t.size → SR D X N st w →
      ∃ N' t' w', EnvR X N' e' t' ∧ t'.size = t.size ∧ SR D X N' st' w' ∧ Gd N st.h w N' st'.h w' ∧ st.nx ≤ st'.nx ∧ (∀ n, n < st.nx → N'.ρ n = N.ρ n) ∧
        Steps X.P (lone (Fr b t d (.inRegion ops (Region.schedule (X.P.follows .mixedOrders) ops tt) :: k)) cs w) (lone (Fr b t' d (.inRegion ops [] :: k)) cs w')

/-- The world of a loop over a function, as the relation sees it. -/
theorem rf_world {S : Nat} {e : Env} {st : St} {t : Array Value} {w : World} {ps : Array Nat} {as bd : MCode} {asC bdC : Code} {fn : FuncId} (hr : SR D X N st w) (he : EnvR X N e t) (hs : S ≤ t.size)
    (hps : ∀ p ∈ ps.toList, p < S) (h1 : noRF as = true) (h2 : noRF bd = true) (h3 : chkC D X S as asC = true) (h4 : chkC D X S bd bdC = true) :
    ∃ N', SR D X N' ⟨(st.nx, .loop .ready e ps.toList as bd) :: st.h, st.nx + 1⟩ (rfWorld w fn t ps asC bdC) ∧ Gd N st.h w N' ((st.nx, .loop .ready e ps.toList as bd) :: st.h) (rfWorld w fn t ps asC bdC) ∧
      N'.ρ st.nx = some ⟨w.heap.size + 1, 0, none⟩ ∧ ∀ n, n < st.nx → N'.ρ n = N.ρ n := by
  have hn := hr.fresh st.nx (Nat.le_refl _)
  let w1 : World := { w with heap := w.heap.push (.deferred (some [])) }
  have hr1 : HR D X N st.h w1 := ⟨fun n o ho => (hr.hr.objs n o ho).keep (.refl N) (by simp [w1]) (fun a ha => heap_push_lt w _ ((hr.hr.objs n o ho).lt ha)), hr.hr.sep⟩
  have g1 : Gd N st.h w N st.h w1 := ⟨.refl N, by simp [w1], rfl, rfl, rfl, fun b hb _ => heap_push_lt w _ hb, fun n o a h1 h2 => .inl ⟨n, o, a, h1, h2, rfl, id⟩⟩
  have hsz : w1.heap.size = w.heap.size + 1 := by simp [w1]
  obtain ⟨a1, a2⟩ := hr1.new (n := st.nx) (k := 0) (obj := .loop { state := .ready, pending := none, fn, tmps := t, params := ps, assign := asC, body := bdC, defers := w.heap.size })
    (o := .loop .ready e ps.toList as bd) hn
    ⟨w1.heap.size, _, S, by simp [Nu.add], by simp; rfl, ⟨rfl, rfl⟩, he.mono (Nu.le_add hn), rfl, hs, hps, h1, h2, h3, h4⟩
  rw [hsz] at a1 a2
  refine ⟨_, ⟨a1, fun n hn' => ?_⟩, g1.trans a2, by simp [Nu.add], fun n hlt => by simp [Nu.add, Nat.ne_of_lt hlt]⟩
  have : n ≠ st.nx := by simp only at hn'; omega
  simp only [Nu.add, if_neg this]
  exact hr.fresh n (by simp only at hn'; omega)

theorem evStep_ok {ex : ExF} {T : Tab} (hx : CodeOK D X ex) (hT : TabOK D X T) (hD : DrawOK D X) : CodeOK D X (evStep T ex) := by
  intro c code S e st x e' st' hv hc N b t d k cs w B he hs hr hd hB hrf
  have hcall := evCall_sound hx hT
  unfold chkC at hc
  split at hc <;> (first | (cases hc; done) | skip) <;> (try simp only [bool_and, beq_iff_eq, List.all_eq_true, decide_eq_true_eq] at hc)
  · -- an annotation ahead
    simp only [evStep] at hv
    obtain ⟨N', t', d', w', a1, a2, a3, a4, a5, a6, a7, a8, a9⟩ := hx _ _ S _ _ _ _ _ hv hc N b t d k cs w B (he.keep _) hs hr hd hB (hrf.imp id (fun h => by simpa [noRF] using h))
    exact ⟨N', t', d', w', a1, a2, a3, a4, a5, a6, a7, fun h => a8 (by simpa [noRF] using h), a9⟩
  · -- skip
    simp only [evStep] at hv
    cases hv
    exact ⟨N, t, d, w, he, rfl, hr, .refl _ _ _, Nat.le_refl _, fun _ _ => rfl, hd, fun _ => rfl, fun M hM => .one (hM.trans fr_skip)⟩
  · simp only [evStep] at hv
    cases hv
    exact ⟨N, t, d, w, he, rfl, hr, .refl _ _ _, Nat.le_refl _, fun _ _ => rfl, hd, fun _ => rfl, fun M hM => .one (hM.trans fr_label)⟩
  · -- a region
    rename_i is i os
    simp only [evStep] at hv
    split at hv
    · rename_i e1 st1 hops
      cases hv
      obtain ⟨N', t', w', a1, a2, a3, a4, a5, a6, a7⟩ := ops_sound hcall b d k cs is 0 os.toList N e e' st st' t w hops hc (by simp) he hs hr
      refine ⟨N', t', d, w', a1, a2, a3, a4, a5, a6, hd.keep hr.hr a4, fun _ => rfl, fun M hM => ?_⟩
      simp only [Array.length_toList] at a7
      rw [← List.range_eq_range'] at a7
      exact .head (hM.trans fr_region) (Steps.trans a7 (.one fr_region_end))
    · cases hv
  · -- a region that draws
    rename_i is i os
    simp only [evStep] at hv
    split at hv
    · rename_i e1 st1 hops
      cases hv
      have hr0 : SR D X N st { w with drawn := w.drawn + 1 } := ⟨hr.hr.drawn _, hr.fresh⟩
      obtain ⟨N', t', w', a1, a2, a3, a4, a5, a6, a7⟩ := hD _ hcall S os is e st e' st' hops hc N b t d k cs { w with drawn := w.drawn + 1 } (w.tape w.drawn (.order b.fn i)) he hs hr0
      have g := (Gd.drawn N st.h w (w.drawn + 1)).trans a4
      exact ⟨N', t', d, w', a1, a2, a3, g, a5, a6, hd.keep hr.hr g, fun _ => rfl, fun M hM => .head (hM.trans fr_region_draw) (Steps.trans a7 (.one fr_region_end))⟩
    · cases hv
  · -- seq
    rename_i a b1 c1 d1 hnk
    have hrfa : b.roundOf = none ∨ noRF a = true := hrf.imp id (fun h => by simp only [noRF, bool_and] at h; exact h.1)
    have hrfb : b.roundOf = none ∨ noRF b1 = true := hrf.imp id (fun h => by simp only [noRF, bool_and] at h; exact h.2)
    have hnrf : noRF (.seq a b1) = true → noRF a = true ∧ noRF b1 = true := fun h => by simpa [noRF] using h
    have hv' : (match ex a e st with | some (.norm, e, st) => ex b1 e st | r => r) = some (x, e', st') := by
      unfold evStep at hv
      split at hv <;> first | (exfalso; rename_i heq; cases heq; done) | skip
      · rename_i heq
        cases heq
        exact (hnk _ rfl).elim
      · rename_i heq
        cases heq
        exact hv
    have first : ∀ x1 e1 st1, ex a e st = some (x1, e1, st1) → ∃ N' t' d' w', EnvR X N' e1 t' ∧ t'.size = t.size ∧ SR D X N' st1 w' ∧ Gd N st.h w N' st1.h w' ∧ st.nx ≤ st1.nx ∧ (∀ n, n < st.nx → N'.ρ n = N.ρ n) ∧ DefOK B d' w' ∧
        (noRF a = true → d' = d) ∧ ∀ M, step X.P M = step X.P (lone (Fr b t d (.code (.seq c1 d1) :: k)) cs w) → OutM X.P b (.code d1 :: k) cs M t' d' w' x1 := by
      intro x1 e1 st1 h1
      obtain ⟨N', t', d', w', a1, a2, a3, a4, a5, a6, a7, a8, a9⟩ := hx _ _ S _ _ _ _ _ h1 hc.1 N b t d (.code d1 :: k) cs w B he hs hr hd hB hrfa
      refine ⟨N', t', d', w', a1, a2, a3, a4, a5, a6, a7, a8, fun M hM => ?_⟩
      have a9 := a9 _ rfl
      cases x1 with
      | norm => exact .head (hM.trans fr_seq) a9
      | exit i => obtain ⟨k2, M', g1, g2, g3⟩ := a9; exact ⟨k2, M', g1, .head (hM.trans fr_seq) g2, g3⟩
      | ret => obtain ⟨k2, M', g2, g3⟩ := a9; exact ⟨k2, M', .head (hM.trans fr_seq) g2, g3⟩
    split at hv'
    · rename_i e1 st1 h1
      obtain ⟨N1, t1, d1', w1, a1, a2, a3, a4, a5, a6, a7, a8, a9⟩ := first _ _ _ h1
      obtain ⟨N2, t2, d2, w2, b1', b2, b3, b4, b5, b6, b7, b8, b9⟩ := hx _ _ S _ _ _ _ _ hv' hc.2 N1 b t1 d1' k cs w1 B a1 (by omega) a3 a7 (Nat.le_trans hB a4.size) hrfb
      refine ⟨N2, t2, d2, w2, b1', by omega, b3, a4.trans b4, by omega, fun n hn => by rw [b6 n (by omega), a6 n hn], b7, fun h => by rw [b8 (hnrf h).2, a8 (hnrf h).1], fun M hM => ?_⟩
      have a9 := a9 M hM
      have b9 := b9 _ rfl
      simp only [OutM] at a9
      cases x with
      | norm => exact Steps.trans a9 b9
      | exit i => obtain ⟨k2, M', g1, g2, g3⟩ := b9; exact ⟨k2, M', g1, Steps.trans a9 g2, g3⟩
      | ret => obtain ⟨k2, M', g2, g3⟩ := b9; exact ⟨k2, M', Steps.trans a9 g2, g3⟩
    · rename_i hne
      obtain ⟨N1, t1, d1', w1, a1, a2, a3, a4, a5, a6, a7, a8, a9⟩ := first _ _ _ hv'
      refine ⟨N1, t1, d1', w1, a1, a2, a3, a4, a5, a6, a7, fun h => a8 (hnrf h).1, fun M hM => ?_⟩
      have a9 := a9 M hM
      cases x with
      | norm => exact (hne _ _ hv').elim
      | exit i => obtain ⟨k2, M', g1, g2, g3⟩ := a9; exact ⟨k2, M', by rw [g1]; rfl, g2, g3⟩
      | ret => exact a9
  · -- cond
    rename_i xo a b1 yo c1 d1
    have h1 := evs_of he _ _ hc.1
    simp only [evStep] at hv
    split at hv
    · rename_i hb
      rw [hb] at h1
      simp only [VR] at h1
      obtain ⟨N', t', d', w', a1, a2, a3, a4, a5, a6, a7, a8, a9⟩ := hx _ _ S _ _ _ _ _ hv hc.2.1 N b t d k cs w B he hs hr hd hB (hrf.imp id (fun h => by simp only [noRF, bool_and] at h; exact h.1))
      refine ⟨N', t', d', w', a1, a2, a3, a4, a5, a6, a7, fun h => a8 (by simp only [noRF, bool_and] at h; exact h.1), fun M hM => ?_⟩
      have a9 := a9 _ rfl
      have hst := fr_cond (P := X.P) (b := b) (d := d) (k := k) (cs := cs) (w := w) (x := c1) (y := d1) h1
      simp only [if_true] at hst
      cases x with
      | norm => exact Steps.head (hM.trans hst) a9
      | exit i => obtain ⟨k2, M', g1, g2, g3⟩ := a9; exact ⟨k2, M', g1, Steps.head (hM.trans hst) g2, g3⟩
      | ret => obtain ⟨k2, M', g2, g3⟩ := a9; exact ⟨k2, M', Steps.head (hM.trans hst) g2, g3⟩
    · rename_i hb
      rw [hb] at h1
      simp only [VR] at h1
      obtain ⟨N', t', d', w', a1, a2, a3, a4, a5, a6, a7, a8, a9⟩ := hx _ _ S _ _ _ _ _ hv hc.2.2 N b t d k cs w B he hs hr hd hB (hrf.imp id (fun h => by simp only [noRF, bool_and] at h; exact h.2))
      refine ⟨N', t', d', w', a1, a2, a3, a4, a5, a6, a7, fun h => a8 (by simp only [noRF, bool_and] at h; exact h.2), fun M hM => ?_⟩
      have a9 := a9 _ rfl
      have hst := fr_cond (P := X.P) (b := b) (d := d) (k := k) (cs := cs) (w := w) (x := c1) (y := d1) h1
      simp only [Bool.false_eq_true, if_false] at hst
      cases x with
      | norm => exact Steps.head (hM.trans hst) a9
      | exit i => obtain ⟨k2, M', g1, g2, g3⟩ := a9; exact ⟨k2, M', g1, Steps.head (hM.trans hst) g2, g3⟩
      | ret => obtain ⟨k2, M', g2, g3⟩ := a9; exact ⟨k2, M', Steps.head (hM.trans hst) g2, g3⟩
    · cases hv
  · -- block
    rename_i i b1 j c1
    obtain ⟨rfl, hc⟩ := hc
    simp only [evStep] at hv
    have main : ∀ x1 e1 st1, ex b1 e st = some (x1, e1, st1) → ∃ N' t' d' w', EnvR X N' e1 t' ∧ t'.size = t.size ∧ SR D X N' st1 w' ∧ Gd N st.h w N' st1.h w' ∧ st.nx ≤ st1.nx ∧ (∀ n, n < st.nx → N'.ρ n = N.ρ n) ∧ DefOK B d' w' ∧
        (noRF b1 = true → d' = d) ∧ ∀ M, step X.P M = step X.P (lone (Fr b t d (.code (.block i c1) :: k)) cs w) → OutM X.P b (.inBlock i :: k) cs M t' d' w' x1 := by
      intro x1 e1 st1 h1
      obtain ⟨N', t', d', w', a1, a2, a3, a4, a5, a6, a7, a8, a9⟩ := hx _ _ S _ _ _ _ _ h1 hc N b t d (.inBlock i :: k) cs w B he hs hr hd hB (hrf.imp id (fun h => by simpa [noRF] using h))
      refine ⟨N', t', d', w', a1, a2, a3, a4, a5, a6, a7, a8, fun M hM => ?_⟩
      have a9 := a9 _ rfl
      cases x1 with
      | norm => exact .head (hM.trans fr_block) a9
      | exit i => obtain ⟨k2, M', g1, g2, g3⟩ := a9; exact ⟨k2, M', g1, .head (hM.trans fr_block) g2, g3⟩
      | ret => obtain ⟨k2, M', g2, g3⟩ := a9; exact ⟨k2, M', .head (hM.trans fr_block) g2, g3⟩
    have hnrf : noRF (.block i b1) = true → noRF b1 = true := fun h => by simpa [noRF] using h
    split at hv
    · rename_i id' e1 st1 h1
      obtain ⟨N1, t1, d1', w1, a1, a2, a3, a4, a5, a6, a7, a8, a9⟩ := main _ _ _ h1
      split at hv
      · rename_i hid
        cases hv
        subst hid
        refine ⟨N1, t1, d1', w1, a1, a2, a3, a4, a5, a6, a7, fun h => a8 (hnrf h), fun M hM => ?_⟩
        obtain ⟨k2, M', g1, g2, g3⟩ := a9 M hM
        exact Steps.trans g2 (.one (g3.trans (fr_exit (by rw [g1]; simp [exitTo]))))
      · rename_i hid
        cases hv
        refine ⟨N1, t1, d1', w1, a1, a2, a3, a4, a5, a6, a7, fun h => a8 (hnrf h), fun M hM => ?_⟩
        obtain ⟨k2, M', g1, g2, g3⟩ := a9 M hM
        refine ⟨k2, M', ?_, g2, g3⟩
        rw [g1]
        have : (i == id') = false := by simp; exact fun h => hid h.symm
        simp [exitTo, this]
    · rename_i hne
      obtain ⟨N1, t1, d1', w1, a1, a2, a3, a4, a5, a6, a7, a8, a9⟩ := main _ _ _ hv
      refine ⟨N1, t1, d1', w1, a1, a2, a3, a4, a5, a6, a7, fun h => a8 (hnrf h), fun M hM => ?_⟩
      have a9 := a9 M hM
      cases x with
      | norm => exact Steps.trans a9 (.one fr_inBlock)
      | exit id' => exact (hne _ _ _ hv).elim
      | ret => exact a9
  · -- loop
    rename_i b1 c1
    simp only [evStep] at hv
    have hrf1 : b.roundOf = none ∨ noRF b1 = true := hrf.imp id (fun h => by simpa [noRF] using h)
    have hnrf : noRF (.loop b1) = true → noRF b1 = true := fun h => by simpa [noRF] using h
    have main : ∀ x1 e1 st1, ex b1 e st = some (x1, e1, st1) → ∃ N' t' d' w', EnvR X N' e1 t' ∧ t'.size = t.size ∧ SR D X N' st1 w' ∧ Gd N st.h w N' st1.h w' ∧ st.nx ≤ st1.nx ∧ (∀ n, n < st.nx → N'.ρ n = N.ρ n) ∧ DefOK B d' w' ∧
        (noRF b1 = true → d' = d) ∧ ∀ M, step X.P M = step X.P (lone (Fr b t d (.code (.loop c1) :: k)) cs w) → OutM X.P b (.inLoop c1 :: k) cs M t' d' w' x1 := by
      intro x1 e1 st1 h1
      obtain ⟨N', t', d', w', a1, a2, a3, a4, a5, a6, a7, a8, a9⟩ := hx _ _ S _ _ _ _ _ h1 hc N b t d (.inLoop c1 :: k) cs w B he hs hr hd hB hrf1
      refine ⟨N', t', d', w', a1, a2, a3, a4, a5, a6, a7, a8, fun M hM => ?_⟩
      have a9 := a9 _ rfl
      cases x1 with
      | norm => exact .head (hM.trans fr_loop) a9
      | exit i => obtain ⟨k2, M', g1, g2, g3⟩ := a9; exact ⟨k2, M', g1, .head (hM.trans fr_loop) g2, g3⟩
      | ret => obtain ⟨k2, M', g2, g3⟩ := a9; exact ⟨k2, M', .head (hM.trans fr_loop) g2, g3⟩
    split at hv
    · rename_i e1 st1 h1
      obtain ⟨N1, t1, d1', w1, a1, a2, a3, a4, a5, a6, a7, a8, a9⟩ := main _ _ _ h1
      obtain ⟨N2, t2, d2, w2, b1', b2, b3, b4, b5, b6, b7, b8, b9⟩ := hx (.loop b1) (.loop c1) S _ _ _ _ _ hv (by simpa [chkC] using hc) N1 b t1 d1' k cs w1 B a1 (by omega) a3 a7 (Nat.le_trans hB a4.size) hrf
      refine ⟨N2, t2, d2, w2, b1', by omega, b3, a4.trans b4, by omega, fun n hn => by rw [b6 n (by omega), a6 n hn], b7, fun h => by rw [b8 h, a8 (hnrf h)], fun M hM => ?_⟩
      -- the frame stands at the loop's next round: the same place to which the loop itself steps
      have b9 := b9 (lone (Fr b t1 d1' (.inLoop c1 :: k)) cs w1) (fr_inLoop.trans fr_loop.symm)
      have a9 := a9 M hM
      simp only [OutM] at a9
      cases x with
      | norm => exact Steps.trans a9 b9
      | exit i => obtain ⟨k2, M', g1, g2, g3⟩ := b9; exact ⟨k2, M', g1, Steps.trans a9 g2, g3⟩
      | ret => obtain ⟨k2, M', g2, g3⟩ := b9; exact ⟨k2, M', Steps.trans a9 g2, g3⟩
    · rename_i hne
      obtain ⟨N1, t1, d1', w1, a1, a2, a3, a4, a5, a6, a7, a8, a9⟩ := main _ _ _ hv
      refine ⟨N1, t1, d1', w1, a1, a2, a3, a4, a5, a6, a7, fun h => a8 (hnrf h), fun M hM => ?_⟩
      have a9 := a9 M hM
      cases x with
      | norm => exact (hne _ _ hv).elim
      | exit i => obtain ⟨k2, M', g1, g2, g3⟩ := a9; exact ⟨k2, M', by rw [g1]; rfl, g2, g3⟩
      | ret => exact a9
  · -- scope
    rename_i b1 c1
    simp only [evStep] at hv
    obtain ⟨N', t', d', w', a1, a2, a3, a4, a5, a6, a7, a8, a9⟩ := hx _ _ S _ _ _ _ _ hv hc N b t d (.inScope c1 :: k) cs w B he hs hr hd hB (hrf.imp id (fun h => by simpa [noRF] using h))
    refine ⟨N', t', d', w', a1, a2, a3, a4, a5, a6, a7, fun h => a8 (by simpa [noRF] using h), fun M hM => ?_⟩
    have a9 := a9 _ rfl
    cases x with
    | norm => exact .head (hM.trans fr_scope) (Steps.trans a9 (.one fr_inScope))
    | exit i => obtain ⟨k2, M', g1, g2, g3⟩ := a9; exact ⟨k2, M', by rw [g1]; rfl, .head (hM.trans fr_scope) g2, g3⟩
    | ret => obtain ⟨k2, M', g2, g3⟩ := a9; exact ⟨k2, M', .head (hM.trans fr_scope) g2, g3⟩
  · -- a loop over a function
    rename_i f ps as bd g qs asC bdC
    obtain ⟨hf, rfl, hps, h1, h2, h3, h4⟩ := hc
    have hb : b.roundOf = none := hrf.elim id (fun h => by simp [noRF] at h)
    simp only [evStep] at hv
    split at hv
    case h_2 => cases hv
    rename_i v1 st1 hcl
    obtain ⟨N1, s1, s2, s3, s4⟩ := rf_world (fn := b.fn) (ps := qs) hr he hs hps h1 h2 h3 h4
    have hyl : VR X N1 (.yield st.nx) (.func (.yield (w.heap.size + 1)) #[] #[]) := ⟨_, s3, rfl⟩
    have hfv : VR X N1 (f.ev e) (evT t g) := evs_of (he.mono s2.le) _ _ hf
    obtain ⟨N2, u, w2, c1, c2, c3, c4, c5, c6⟩ := hcall _ _ _ _ _ hcl N1 _ _ _ s1 hfv (VRs.one hyl) (Fr b t ({ target := .collected w.heap.size, args := #[] } :: d) (.inRangeFunc (w.heap.size + 1) :: k)) cs
    have hρ2 : N2.ρ st.nx = some ⟨w.heap.size + 1, 0, none⟩ := (c3.le _ _ s3).1
    have hgd : Gd N st.h w N2 st1.h w2 := s2.trans c3
    have hsteps := fr_rangeFunc (P := X.P) (d := d) (k := k) (cs := cs) (t := t) hb c6
    have hd2 : DefOK B ({ target := .collected w.heap.size, args := #[] } :: d) w2 := by
      have e1 : DefOK B ({ target := .collected w.heap.size, args := #[] } :: d) (rfWorld w b.fn t qs asC bdC) := by
        obtain ⟨rs, rfl, hn, hdr⟩ := hd
        refine ⟨w.heap.size :: rs, rfl, List.nodup_cons.2 ⟨fun hm => ?_, hn⟩, fun r hr' => ?_⟩
        · have := lt_of_get (hdr _ hm).2
          omega
        · rcases List.mem_cons.1 hr' with rfl | hm
          · refine ⟨hB, ?_⟩
            simp only [rfWorld]
            rw [Array.getElem?_push, if_neg (by simp), Array.getElem?_push, if_pos rfl]
          · obtain ⟨q1, q2⟩ := hdr _ hm
            have := lt_of_get q2
            refine ⟨q1, ?_⟩
            simp only [rfWorld]
            rw [Array.getElem?_push, if_neg (by simp; omega), Array.getElem?_push, if_neg (by omega)]
            exact q2
      exact e1.keep s1.hr c3
    -- what both ends have in common
    have fin : ∀ (lst : LSt) (env : Env) (ps' : List Nat) (as' bd' : MCode) (x' : Ex), hget st1.h st.nx = some (.loop lst env ps' as' bd') → (∀ s p, LStR lst s p → s ≠ .busy ∧ p = jumpOf x') →
        ∃ N' t' d' w', EnvR X N' e t' ∧ t'.size = t.size ∧ SR D X N' ⟨hdel st1.h st.nx, st1.nx⟩ w' ∧ Gd N st.h w N' (hdel st1.h st.nx) w' ∧ st.nx ≤ st1.nx ∧ (∀ n, n < st.nx → N'.ρ n = N.ρ n) ∧ DefOK B d' w' ∧
          (noRF (.rangeFunc f qs.toList as bd) = true → d' = d) ∧ ∀ M, step X.P M = step X.P (lone (Fr b t d (.code (.rangeFunc g qs asC bdC) :: k)) cs w) → OutM X.P b k cs M t' d' w' x' := by
      intro lst env ps' as' bd' x' hg hl
      obtain ⟨bk, r, S1, i1, i2, i3, i4⟩ := loop_obj c2.hr hg
      rw [hρ2] at i1
      cases i1
      obtain ⟨l1, l2⟩ := hl _ _ i3
      let w3 : World := { w2 with heap := w2.heap.setIfInBounds (w.heap.size + 1) (.loop { r with state := .exhausted }) }
      have hne : ∀ q, q ≠ w.heap.size + 1 → w3.heap[q]? = w2.heap[q]? := fun q hq => by
        show (w2.heap.setIfInBounds _ _)[q]? = _
        rw [Array.getElem?_setIfInBounds, if_neg (fun e => hq e.symm)]
      have hsub : ∀ m o, hget (hdel st1.h st.nx) m = some o → hget st1.h m = some o := by
        intro m o ho
        rw [hget_hdel] at ho
        split at ho
        · cases ho
        · exact ho
      have hr3 : HR D X N2 (hdel st1.h st.nx) w3 := by
        refine ⟨fun n o ho => ?_, (c2.hr.weaken hsub).sep⟩
        refine (c2.hr.objs n o (hsub n o ho)).keep (.refl _) (by simp [w3]) (fun a ha => hne _ ?_)
        intro e
        have hnn : n ≠ st.nx := by
          rintro rfl
          rw [hget_hdel, if_pos rfl] at ho
          cases ho
        exact hnn (c2.hr.sep st.nx n _ _ _ a hg (hsub n o ho) rfl hρ2 ha (by simpa using e.symm)).symm
      have hg3 : Gd N st.h w N2 (hdel st1.h st.nx) w3 :=
        ⟨hgd.le, by simpa [w3] using hgd.size, hgd.tape, hgd.os, hgd.output, fun q hq hn => by rw [hne q (by omega)]; exact hgd.frame q hq hn, fun n o a h1 h2 => hgd.has n o a (hsub _ _ h1) h2⟩
      refine ⟨N2, t, { target := .collected w.heap.size, args := #[] } :: d, w3, he.mono hgd.le, rfl, ⟨hr3, c2.fresh⟩, hg3, by simp only at c4; omega, fun n hn => by rw [c5 n (by simp only; omega), s4 n hn], ?_, fun h => by simp [noRF] at h, fun M hM => ?_⟩
      · obtain ⟨rs, q1, q2, q3⟩ := hd2
        refine ⟨rs, q1, q2, fun r' hr' => ⟨(q3 r' hr').1, ?_⟩⟩
        rw [hne r' ?_]
        · exact (q3 r' hr').2
        · rintro rfl
          have := (q3 _ hr').2
          rw [i2] at this
          cases this
      · have hend := fr_endRangeFunc (P := X.P) (b := b) (t := t) (d := { target := .collected w.heap.size, args := #[] } :: d) (k := k) (cs := cs) i2 l1
        have hp : (r.pending.map Item.code).toList = ((jumpOf x').map Item.code).toList := by rw [l2]
        rw [hp] at hend
        have hall : Steps X.P M (lone (Fr b t ({ target := .collected w.heap.size, args := #[] } :: d) (((jumpOf x').map Item.code).toList ++ k)) cs w3) := by
          have h0 : Steps X.P (lone (Fr b t d (.code (.rangeFunc g qs asC bdC) :: k)) cs w) (lone (Fr b t ({ target := .collected w.heap.size, args := #[] } :: d) (((jumpOf x').map Item.code).toList ++ k)) cs w3) := Steps.trans hsteps (.one hend)
          obtain ⟨n, hn⟩ := h0
          cases n with
          | zero =>
            exfalso
            simp only [runN, Stepped.next.injEq] at hn
            have := congrArg (fun m : Machine => (m.gs[0]?).map (fun g => g.frame.defers.length)) hn
            simp [lone, Fr] at this
          | succ n =>
            refine ⟨n + 1, ?_⟩
            simp only [runN] at hn ⊢
            rw [hM]
            exact hn
        cases x' with
        | norm => exact hall
        | exit i => exact ⟨k, _, rfl, hall, rfl⟩
        | ret => exact ⟨k, _, hall, rfl⟩
    split at hv
    · rename_i env ps' as' bd' hg
      cases hv
      exact fin _ _ _ _ _ .norm hg (fun s p h => ⟨by rw [h.1]; simp, h.2⟩)
    · rename_i x1 env ps' as' bd' hg
      cases hv
      exact fin _ _ _ _ _ x hg (fun s p h => ⟨by rw [h.1]; simp, h.2⟩)
    · cases hv
  · -- exit
    simp only [evStep] at hv
    cases hv
    subst hc
    exact ⟨N, t, d, w, he, rfl, hr, .refl _ _ _, Nat.le_refl _, fun _ _ => rfl, hd, fun _ => rfl, fun M hM => ⟨k, M, rfl, .refl _ _, hM⟩⟩
  · -- ret
    simp only [evStep] at hv
    cases hv
    exact ⟨N, t, d, w, he, rfl, hr, .refl _ _ _, Nat.le_refl _, fun _ _ => rfl, hd, fun _ => rfl, fun M hM => ⟨k, M, .refl _ _, hM⟩⟩
  · -- a loop over a map
    rename_i pre mo dd nx more pair post ks out next body r1 os out1 r2 os2 c out2 next1 r3 os3 code
    obtain ⟨rfl, rfl, rfl, rfl, h1, h2, h3, h4, h5, h6, h7, h8, h9, h10⟩ := hc
    simp only [evStep] at hv
    split at hv
    case h_2 => cases hv
    rename_i e1 st1 hpre
    split at hv
    case h_2 => cases hv
    rename_i n hmo
    split at hv
    case h_2 => cases hv
    rename_i es hmap
    split at hv
    case h_2 => cases hv
    rename_i hro
    cases hv
    obtain ⟨N', t', w', a1, a2, a3, a4, a5, a6, a7, a8⟩ := rangeMap_ok (b := b) (k := k) (cs := cs) (r1 := r1) (r2 := r2) (r3 := r3) hx hcall h1 h2 h3 h4 (by simpa using h5) (by simpa using h6) h7 h8 h9 h10 hpre hmo hmap hro he hs hr hd hB
    exact ⟨N', t', d, w', a1, a2, a3, a4, a5, a6, a7, fun _ => rfl, a8⟩
  · -- stuck
    cases hv

/-- The evaluator is sound. -/
theorem exec_ok {T : Tab} (hT : TabOK D X T) (hD : DrawOK D X) : ∀ n, CodeOK D X (exec T n)
  | 0 => by intro c code S e st x e' st' hv; cases hv
  | n + 1 => evStep_ok (exec_ok hT hD n) hT hD

end Go.Ev

/- What an operation looks at; it answers alike where that is alike. -/
namespace Go.Ev
open Go

def PO.aos : PO → List AO
  | .mov x | .un _ x | .conv _ x | .faddr _ x | .field _ _ x | .extr _ x | .lenOf _ x | .capOf x | .nilck x | .iface _ x | .same x | .sldata x | .r2s x => [x]
  | .pick a b c => [a, b, c]
  | .bin _ x y | .iaddrA _ _ x y | .iaddrS _ x y | .idxA _ _ _ x y | .idxS x y | .eqA _ _ x y | .eqB _ x y | .eqN _ _ x y => [x, y]
  | .mkfn _ a b => a ++ b
  | .build _ ps => ps.map (·.2.2)
  | .subS x a b => x :: (a.toList ++ b.toList)
  | .subL _ x a b c | .subA _ _ x a b c => x :: (a.toList ++ (b.toList ++ c.toList))
  | .minmax _ xs => xs
  | .konst _ | .stuck => []

def RO.aos : RO → List AO
  | .load _ x | .b2s x | .mlen x | .toU x | .ofU _ _ x => [x]
  | .lookup _ _ _ m k => [m, k]

def NO.aos : NO → List AO
  | .alloc .. | .mkMap => []
  | .box _ _ x | .s2b _ x | .rangeS x => [x]
  | .buildSl _ _ _ ps => ps.map (·.2.2)
  | .mkSl _ _ _ _ a b => [a, b]

def WO.aos : WO → List AO
  | .store _ a x | .append _ _ _ _ a x | .copy _ a x => [a, x]
  | .mput _ a b c => [a, b, c]
  | .call f xs => f :: xs
  | .ustr _ p l => [p, l]
  | .nextS x => [x]

def MO.aos : MO → List AO
  | .p o => o.aos
  | .r o => o.aos
  | .n o => o.aos
  | .w o => o.aos

theorem afill_congr {e1 e2 : AO → AV} : ∀ {ps : List (Nat × Nat × AO)} {cs : List AV}, (∀ a ∈ ps.map (·.2.2), e1 a = e2 a) → afill e1 cs ps = afill e2 cs ps
  | [], _, _ => rfl
  | (o, s, x) :: ps, cs, h => by
    have hx : e1 x = e2 x := h x (by simp)
    simp only [afill, hx]
    split
    · exact afill_congr (fun a ha => h a (by simp only [List.map_cons, List.mem_cons]; exact .inr ha))
    · rfl

theorem opt_congr {e1 e2 : AO → AV} {a : Option AO} (h : ∀ x ∈ a.toList, e1 x = e2 x) : a.map e1 = a.map e2 := by
  cases a with
  | none => rfl
  | some x => simp [h x (by simp)]

theorem PO.congr {e1 e2 : AO → AV} {o : PO} (h : ∀ a ∈ o.aos, e1 a = e2 a) : PO.run e1 o = PO.run e2 o := by
  cases o with
  | mkfn f a b =>
    simp only [PO.aos, List.mem_append] at h
    simp only [PO.run]
    rw [List.map_congr_left (fun x hx => h x (.inl hx)), List.map_congr_left (fun x hx => h x (.inr hx))]
  | build z ps => simp only [PO.run]; rw [afill_congr h]
  | minmax m xs => simp only [PO.run]; rw [show List.map e1 xs = List.map e2 xs from List.map_congr_left h]
  | konst v => rfl
  | stuck => rfl
  | subS x a b =>
    simp only [PO.aos, List.mem_cons, List.mem_append] at h
    simp only [PO.run, h x (.inl rfl), opt_congr (fun y hy => h y (.inr (.inl hy))), opt_congr (fun y hy => h y (.inr (.inr hy)))]
  | subL es x a b c =>
    simp only [PO.aos, List.mem_cons, List.mem_append] at h
    simp only [PO.run, h x (.inl rfl), opt_congr (fun y hy => h y (.inr (.inl hy))), opt_congr (fun y hy => h y (.inr (.inr (.inl hy)))), opt_congr (fun y hy => h y (.inr (.inr (.inr hy))))]
  | subA n es x a b c =>
    simp only [PO.aos, List.mem_cons, List.mem_append] at h
    simp only [PO.run, h x (.inl rfl), opt_congr (fun y hy => h y (.inr (.inl hy))), opt_congr (fun y hy => h y (.inr (.inr (.inl hy)))), opt_congr (fun y hy => h y (.inr (.inr (.inr hy))))]
  | pick a b c =>
    simp only [PO.aos, List.mem_cons, List.not_mem_nil, or_false] at h
    simp only [PO.run, h a (.inl rfl), h b (.inr (.inl rfl)), h c (.inr (.inr rfl))]
  | bin op x y => simp only [PO.aos, List.mem_cons, List.not_mem_nil, or_false] at h; simp only [PO.run, h x (.inl rfl), h y (.inr rfl)]
  | iaddrA n es x y => simp only [PO.aos, List.mem_cons, List.not_mem_nil, or_false] at h; simp only [PO.run, h x (.inl rfl), h y (.inr rfl)]
  | iaddrS es x y => simp only [PO.aos, List.mem_cons, List.not_mem_nil, or_false] at h; simp only [PO.run, h x (.inl rfl), h y (.inr rfl)]
  | idxA n es s x y => simp only [PO.aos, List.mem_cons, List.not_mem_nil, or_false] at h; simp only [PO.run, h x (.inl rfl), h y (.inr rfl)]
  | idxS x y => simp only [PO.aos, List.mem_cons, List.not_mem_nil, or_false] at h; simp only [PO.run, h x (.inl rfl), h y (.inr rfl)]
  | eqA g ks x y => simp only [PO.aos, List.mem_cons, List.not_mem_nil, or_false] at h; simp only [PO.run, h x (.inl rfl), h y (.inr rfl)]
  | eqB g x y => simp only [PO.aos, List.mem_cons, List.not_mem_nil, or_false] at h; simp only [PO.run, h x (.inl rfl), h y (.inr rfl)]
  | eqN g k x y => simp only [PO.aos, List.mem_cons, List.not_mem_nil, or_false] at h; simp only [PO.run, h x (.inl rfl), h y (.inr rfl)]
  | mov x => simp only [PO.run, h x (by simp [PO.aos])]
  | un op x => simp only [PO.run, h x (by simp [PO.aos])]
  | conv k x => simp only [PO.run, h x (by simp [PO.aos])]
  | faddr o x => simp only [PO.run, h x (by simp [PO.aos])]
  | field o s x => simp only [PO.run, h x (by simp [PO.aos])]
  | extr i x => simp only [PO.run, h x (by simp [PO.aos])]
  | lenOf s x => simp only [PO.run, h x (by simp [PO.aos])]
  | capOf x => simp only [PO.run, h x (by simp [PO.aos])]
  | nilck x => simp only [PO.run, h x (by simp [PO.aos])]
  | iface t x => simp only [PO.run, h x (by simp [PO.aos])]
  | same x => simp only [PO.run, h x (by simp [PO.aos])]
  | sldata x => simp only [PO.run, h x (by simp [PO.aos])]
  | r2s x => simp only [PO.run, h x (by simp [PO.aos])]

theorem RO.congr {e1 e2 : AO → AV} {hp : Heap} {o : RO} (h : ∀ a ∈ o.aos, e1 a = e2 a) : RO.run e1 hp o = RO.run e2 hp o := by
  cases o with
  | load s x => cases s <;> simp only [RO.run, h x (by simp [RO.aos])]
  | b2s x => simp only [RO.run, h x (by simp [RO.aos])]
  | mlen x => simp only [RO.run, h x (by simp [RO.aos])]
  | toU x => simp only [RO.run, h x (by simp [RO.aos])]
  | ofU t z x => simp only [RO.run, h x (by simp [RO.aos])]
  | lookup kk z ok m k => simp only [RO.run, h m (by simp [RO.aos]), h k (by simp [RO.aos])]

theorem NO.congr {e1 e2 : AO → AV} {n : Nat} {o : NO} (h : ∀ a ∈ o.aos, e1 a = e2 a) : NO.run e1 n o = NO.run e2 n o := by
  cases o with
  | alloc t l z => rfl
  | mkMap => rfl
  | box t l x => simp only [NO.run, h x (by simp [NO.aos])]
  | s2b t x => simp only [NO.run, h x (by simp [NO.aos])]
  | rangeS x => simp only [NO.run, h x (by simp [NO.aos])]
  | buildSl t n z ps => simp only [NO.run]; rw [afill_congr h]
  | mkSl t e b z l c => simp only [NO.run, h l (by simp [NO.aos]), h c (by simp [NO.aos])]

theorem WO.congr {call : CallF} {e1 e2 : AO → AV} {st : St} {o : WO} (h : ∀ a ∈ o.aos, e1 a = e2 a) : WO.run call e1 st o = WO.run call e2 st o := by
  cases o with
  | store s a x => simp only [WO.run, h a (by simp [WO.aos]), h x (by simp [WO.aos])]
  | append t e b z a x => simp only [WO.run, h a (by simp [WO.aos]), h x (by simp [WO.aos])]
  | copy e a x => simp only [WO.run, h a (by simp [WO.aos]), h x (by simp [WO.aos])]
  | mput k a b c => simp only [WO.run, h a (by simp [WO.aos]), h b (by simp [WO.aos]), h c (by simp [WO.aos])]
  | nextS x => simp only [WO.run, h x (by simp [WO.aos])]
  | ustr t p l => simp only [WO.run, h p (by simp [WO.aos]), h l (by simp [WO.aos])]
  | call f xs =>
    simp only [WO.run, h f (by simp [WO.aos])]
    rw [List.map_congr_left (fun x hx => h x (by simp [WO.aos, hx]))]

/-- A read answers alike in a larger heap. -/
theorem RO.grow {ev : AO → AV} {h h' : Heap} (hs : ∀ n o, hget h n = some o → hget h' n = some o) {o : RO} {v : AV} (hv : RO.run ev h o = some v) : RO.run ev h' o = some v := by
  have c1 : ∀ n off v, rdCell h n off = some v → rdCell h' n off = some v := by
    intro n off v hv
    unfold rdCell at hv ⊢
    split at hv <;> first | (cases hv; done) | (rename_i hg; rw [hs _ _ hg]; exact hv)
  have c2 : ∀ n off k v, rdCells h n off k = some v → rdCells h' n off k = some v := by
    intro n off k v hv
    unfold rdCells at hv ⊢
    split at hv <;> first | (cases hv; done) | (rename_i hg; rw [hs _ _ hg]; exact hv)
  cases o with
  | load s x =>
    cases s with
    | none =>
      simp only [RO.run] at hv ⊢
      split at hv
      · exact c1 _ _ _ hv
      · cases hv
    | some k =>
      simp only [RO.run] at hv ⊢
      split at hv
      · simp only [Option.map_eq_some_iff] at hv ⊢
        obtain ⟨a, h1, h2⟩ := hv
        exact ⟨a, c2 _ _ _ _ h1, h2⟩
      · cases hv
  | b2s x =>
    simp only [RO.run] at hv ⊢
    split at hv
    · exact hv
    · split at hv
      · rename_i cs hc
        rw [c2 _ _ _ _ hc]
        exact hv
      · cases hv
    · cases hv
  | lookup kk z ok m k =>
    simp only [RO.run] at hv ⊢
    split at hv
    · exact hv
    · split at hv
      · rename_i es hg
        rw [hs _ _ hg]
        exact hv
      · cases hv
    · cases hv
  | mlen m =>
    simp only [RO.run] at hv ⊢
    split at hv
    · exact hv
    · split at hv
      · rename_i es hg
        rw [hs _ _ hg]
        exact hv
      · cases hv
    · cases hv
  | toU x =>
    simp only [RO.run] at hv ⊢
    split at hv
    · split at hv
      · rename_i hg
        rw [hs _ _ hg]
        exact hv
      · cases hv
    · cases hv
  | ofU t z x =>
    simp only [RO.run] at hv ⊢
    split at hv
    · split at hv
      · rename_i hg
        rw [hs _ _ hg]
        exact hv
      · cases hv
    · cases hv

mutual
theorem avEq_eq : ∀ {a b : AV}, avEq a b = true → a = b
  | .bot, b, h => by cases b <;> simp_all [avEq]
  | .bool a, b, h => by cases b <;> simp_all [avEq]
  | .int j a, b, h => by cases b <;> simp_all [avEq]
  | .str s, b, h => by
    cases b <;> simp only [avEq] at h <;> first | (cases h; done) | (rw [seq8_iff.1 h])
  | .ptr a b, c, h => by cases c <;> simp_all [avEq]
  | .nilptr, b, h => by cases b <;> simp_all [avEq]
  | .slice a b c d, e, h => by cases e <;> simp_all [avEq]
  | .nilslice, b, h => by cases b <;> simp_all [avEq]
  | .map a, b, h => by cases b <;> simp_all [avEq]
  | .nilmap, b, h => by cases b <;> simp_all [avEq]
  | .fn f x y, b, h => by
    cases b <;> simp only [avEq, bool_and, beq_iff_eq] at h <;> first | (cases h; done) | skip
    rw [h.1, avEqs_eq h.2.1, avEqs_eq h.2.2]
  | .yield a, b, h => by cases b <;> simp_all [avEq]
  | .nilfn, b, h => by cases b <;> simp_all [avEq]
  | .iface t x, b, h => by
    cases b <;> simp only [avEq, bool_and, beq_iff_eq] at h <;> first | (cases h; done) | skip
    rw [h.1, avEq_eq h.2]
  | .niliface, b, h => by cases b <;> simp_all [avEq]
  | .agg x, b, h => by
    cases b <;> simp only [avEq] at h <;> first | (cases h; done) | skip
    rw [avEqs_eq h]
  | .tuple x, b, h => by
    cases b <;> simp only [avEq] at h <;> first | (cases h; done) | skip
    rw [avEqs_eq h]
theorem avEqs_eq : ∀ {a b : List AV}, avEqs a b = true → a = b
  | [], b, h => by cases b <;> simp_all [avEqs]
  | x :: a, b, h => by
    cases b with
    | nil => simp [avEqs] at h
    | cons y b =>
      simp only [avEqs, bool_and] at h
      rw [avEq_eq h.1, avEqs_eq h.2]
end

end Go.Ev

/- Regions whose order is drawn: what is asked of the order that the evaluator takes. -/
namespace Go.Ev
open Go

structure G where
  i : Nat
  o : MI
  res : List Nat

/-- The entries, the last ahead, each with the reads that are made once more behind it. -/
def grpR : List G → List RI → Option (List G)
  | acc, [] => some acc
  | acc, .op i o :: r => grpR (⟨i, o, []⟩ :: acc) r
  | g :: acc, .re j :: r => grpR (⟨g.i, g.o, j :: g.res⟩ :: acc) r
  | [], .re _ :: _ => none

def MI.isN (o : MI) : Bool := match o.op with | .n _ => true | _ => false
def MI.isR (o : MI) : Bool := match o.op with | .r _ => true | _ => false
def MI.isW (o : MI) : Bool := match o.op with | .w _ => true | _ => false

def aoT : List AO → List Nat
  | [] => []
  | .t n :: r => n :: aoT r
  | .k _ :: r => aoT r

def MI.reads (o : MI) : List Nat :=
  match o.guard with
  | none => aoT o.op.aos
  | some (t, _) => t :: aoT o.op.aos

def dstIn (d : Option Nat) (l : List Nat) : Bool := match d with | none => false | some d => hmem d l
def dstEq (a b : Option Nat) : Bool := match a, b with | some a, some b => decide (a = b) | _, _ => false

def apartE (p g : MI) : Bool := !dstIn p.dst g.reads && (!dstIn g.dst p.reads && !dstEq p.dst g.dst)

/-- Which operations are made ahead of each. -/
def mkA (ops : List Oper) : List (List Nat) :=
  ops.foldl (fun A o => A ++ [(o.after.toList.filter (Region.binds .any)).flatMap fun e => e.on :: A.getD e.on []]) []

def ltA (A : List (List Nat)) (a j : Nat) : Bool := hmem a (A.getD j [])

def ancOK (A : List (List Nat)) (ops : Array Oper) : Bool :=
  (List.range ops.size).all fun i => (A.getD i []).all fun a => match ops[i]? with
    | some o => o.after.toList.any fun e => Region.binds .any e && (decide (e.on = a) || ltA A a e.on)
    | none => false

def onOK (ops : Array Oper) : Bool :=
  (List.range ops.size).all fun i => match ops[i]? with | some o => o.after.toList.all fun e => !Region.binds .any e || decide (e.on < i) | none => false

/-- A read of nothing but what the operation right ahead of it has made. -/
def ownR (g : G) : List G → Bool
  | [] => false
  | q :: _ => match g.o.op, q.o.op, q.o.dst with
    | .r (.b2s (.t d)), .n (.buildSl _ _ _ _), some c => decide (d = c) && (g.o.guard.isNone && q.o.guard.isNone)
    | _, _, _ => false

/-- p is ahead of g in the evaluator's order. -/
def pairOK (A : List (List Nat)) (ow : Bool) (p g : G) : Bool :=
  decide (p.i ≠ g.i) && (!ltA A g.i p.i && (ltA A p.i g.i ||
    (apartE p.o g.o && (!(p.o.isN && (g.o.isR || g.o.isW)) && (!(p.o.isW && (g.o.isR && !ow || g.o.isW)) && (!(p.o.isR && g.o.isW) || hmem p.i g.res))))))

/-- From the last entry back to the read: nothing there writes what the read looks at. -/
def reOK (j : Nat) (d : Option Nat) (rs : List Nat) : List G → Bool
  | [] => false
  | k :: ks => if k.i = j then !dstIn d rs else !dstIn k.o.dst rs && (!dstEq k.o.dst d && reOK j d rs ks)

def gfind : List G → Nat → Option MI
  | [], _ => none
  | g :: r, i => if g.i = i then some g.o else gfind r i

def pwOK (A : List (List Nat)) : List G → Bool
  | [] => true
  | g :: ps => ps.all (fun p => pairOK A (ownR g ps) p g) && (g.res.all (fun j => match gfind (g :: ps) j with | some o => reOK j o.dst o.reads (g :: ps) | none => false) && pwOK A ps)

def chkD : ChkD := fun X S L ops =>
  match grpR [] L with
  | none => false
  | some gs =>
    decide (gs.length = ops.size) && ((List.range ops.size).all (fun i => gs.any fun g => decide (g.i = i)) &&
      (gs.all (fun g => match ops[g.i]? with | some o => chkI X S ops g.o o | none => false) && (onOK ops && (ancOK (mkA ops.toList) ops && pwOK (mkA ops.toList) gs))))

end Go.Ev

/- Regions whose order is drawn: what the evaluator's run leaves behind, step by step. -/
namespace Go.Ev
open Go

variable {X : Cx} {N N' N'' : Nu} {D : ChkD}

inductive Eff where
  | non
  | new (n : Nat) (b : AObj)
  | post (st : St)

def Eff.ap : Eff → St → St
  | .non, s => s
  | .new n b, s => ⟨(n, b) :: s.h, s.nx⟩
  | .post s, _ => s

structure En where
  g : G
  e : Env
  st : St
  v : AV
  f : Eff

inductive Good (call : CallF) (nm : Nat) (o : MI) (e : Env) (st : St) : AV → Eff → Nat → Prop where
  | skip : wanted e o.guard = some false → Good call nm o e st unmade .non nm
  | p {p : PO} {v : AV} : wanted e o.guard = some true → o.op = .p p → PO.run (AO.ev e) p = some v → Good call nm o e st v .non nm
  | r {p : RO} {v : AV} : wanted e o.guard = some true → o.op = .r p → RO.run (AO.ev e) st.h p = some v → Good call nm o e st v .non nm
  | n {p : NO} {v : AV} {b : AObj} : wanted e o.guard = some true → o.op = .n p → NO.run (AO.ev e) nm p = some (v, b) → Good call nm o e st v (.new nm b) (nm + 1)
  | w {p : WO} {v : AV} {st' : St} : wanted e o.guard = some true → o.op = .w p → WO.run call (AO.ev e) st p = some (v, st') → Good call nm o e st v (.post st') nm

theorem good_of_runI {call : CallF} {nm nm' : Nat} {o : MI} {e e' : Env} {st st' : St} (h : runI call nm o e st = some (e', st', nm')) :
    ∃ v f, Good call nm o e st v f nm' ∧ e' = eput e o.dst v ∧ st' = f.ap st ∧ nm' ≤ nm + 1 := by
  unfold runI at h
  split at h
  · rename_i hw
    split at h
    · rename_i p hp
      split at h
      · rename_i v b hn
        cases h
        exact ⟨v, _, .n hw hp hn, rfl, rfl, Nat.le_refl _⟩
      · cases h
    · rename_i m hm
      split at h
      · rename_i v st1 hr
        cases h
        cases hop : o.op with
        | n p => exact absurd hop (hm p)
        | p p =>
          rw [hop] at hr
          simp only [MO.run] at hr
          split at hr
          · rename_i u hu
            cases hr
            exact ⟨_, _, .p hw hop hu, rfl, rfl, Nat.le_succ _⟩
          · cases hr
        | r p =>
          rw [hop] at hr
          simp only [MO.run] at hr
          split at hr
          · rename_i u hu
            cases hr
            exact ⟨_, _, .r hw hop hu, rfl, rfl, Nat.le_succ _⟩
          · cases hr
        | w p =>
          rw [hop] at hr
          exact ⟨_, _, .w hw hop hr, rfl, rfl, Nat.le_succ _⟩
      · cases h
  · rename_i hw
    cases h
    exact ⟨_, _, .skip hw, rfl, rfl, Nat.le_succ _⟩
  · cases h

/-- The read answers as it did. -/
def ReF (o : MI) (e : Env) (st : St) : Prop := wanted e o.guard = some true → ∃ p d, o.op = .r p ∧ o.dst = some d ∧ RO.run (AO.ev e) st.h p = some (eget e d)

theorem reF_of {done : List (Nat × MI)} {i : Nat} {e : Env} {st : St} (h : reI done i e st = true) : ∃ o, dfind done i = some o ∧ ReF o e st := by
  unfold reI at h
  split at h
  · cases h
  · rename_i o ho
    refine ⟨o, ho, fun hw => ?_⟩
    rw [hw] at h
    simp only at h
    split at h
    · rename_i p d hp hd
      split at h
      · rename_i v hv
        rw [avEq_eq h] at hv
        exact ⟨p, d, hp, hd, hv⟩
      · cases h
    · cases h

inductive Tr (call : CallF) (nm0 : Nat) (e0 : Env) (st0 : St) : List En → Nat → Env → St → Prop where
  | nil : Tr call nm0 e0 st0 [] nm0 e0 st0
  | op {T : List En} {nm nm' : Nat} {e : Env} {st : St} {g : G} {v : AV} {f : Eff} : Tr call nm0 e0 st0 T nm e st → Good call nm g.o e st v f nm' →
      (∀ j ∈ g.res, ∃ o, gfind (g :: T.map En.g) j = some o ∧ ReF o (eput e g.o.dst v) (f.ap st)) → Tr call nm0 e0 st0 (⟨g, e, st, v, f⟩ :: T) nm' (eput e g.o.dst v) (f.ap st)

theorem tr_of_runR {call : CallF} {nm0 : Nat} {e0 : Env} {st0 : St} : ∀ (L : List RI) (done : List (Nat × MI)) (nm : Nat) (e e' : Env) (st st' : St) (T : List En) (gs : List G),
    runR call done nm L e st = some (e', st') → Tr call nm0 e0 st0 T nm e st → (∀ j, dfind done j = gfind (T.map En.g) j) → grpR (T.map En.g) L = some gs →
    ∃ T' nm', Tr call nm0 e0 st0 T' nm' e' st' ∧ T'.map En.g = gs ∧ nm' ≤ nm + L.length
  | [], done, nm, e, e', st, st', T, gs, hv, ht, hd, hg => by
    cases hv
    cases hg
    exact ⟨T, nm, ht, rfl, Nat.le_refl _⟩
  | .op i o :: L, done, nm, e, e', st, st', T, gs, hv, ht, hd, hg => by
    simp only [runR] at hv
    split at hv
    · rename_i e1 st1 nm1 h1
      obtain ⟨v, f, hgood, rfl, rfl, hle⟩ := good_of_runI h1
      simp only [grpR] at hg
      obtain ⟨T', nm', a, b, c⟩ := tr_of_runR L _ _ _ _ _ _ (⟨⟨i, o, []⟩, e, st, v, f⟩ :: T) gs hv (.op (g := ⟨i, o, []⟩) ht hgood (fun j hj => by cases hj))
        (fun j => by simp only [dfind, List.map_cons, gfind, hd]) hg
      exact ⟨T', nm', a, b, by simp only [List.length_cons]; omega⟩
    · cases hv
  | .re j :: L, done, nm, e, e', st, st', T, gs, hv, ht, hd, hg => by
    simp only [runR] at hv
    split at hv
    · rename_i h1
      obtain ⟨o, ho, hre⟩ := reF_of h1
      cases ht with
      | nil => simp [grpR] at hg
      | @op T nm2 _ e2 st2 g v f ht hgood hres =>
        simp only [List.map_cons, grpR] at hg
        obtain ⟨T', nm', a, b, c⟩ := tr_of_runR L done _ _ _ _ _ (⟨⟨g.i, g.o, j :: g.res⟩, e2, st2, v, f⟩ :: T) gs hv
          (.op (g := ⟨g.i, g.o, j :: g.res⟩) ht hgood (fun q hq => by
            rcases List.mem_cons.1 hq with rfl | hq
            · refine ⟨o, ?_, hre⟩
              rw [hd] at ho
              exact ho
            · exact hres q hq))
          (fun q => by rw [hd]; rfl) hg
        exact ⟨T', nm', a, b, by simp only [List.length_cons]; omega⟩
    · cases hv

/-- What the operations of a set leave behind. -/
def ES (S : Nat → Bool) (e0 : Env) : List En → Env
  | [] => e0
  | k :: T => if S k.g.i = true then eput (ES S e0 T) k.g.o.dst k.v else ES S e0 T

def HS (S : Nat → Bool) (st0 : St) : List En → St
  | [] => st0
  | k :: T => if S k.g.i = true then k.f.ap (HS S st0 T) else HS S st0 T

def news (S : Nat → Bool) : List En → Heap
  | [] => []
  | k :: T => if S k.g.i = true then (match k.f with | .new n b => (n, b) :: news S T | _ => news S T) else news S T

variable {call : CallF} {nm0 : Nat} {e0 : Env} {st0 : St}

theorem tr_full {T : List En} {nm : Nat} {e : Env} {st : St} (h : Tr call nm0 e0 st0 T nm e st) : ES (fun _ => true) e0 T = e ∧ HS (fun _ => true) st0 T = st := by
  induction h with
  | nil => exact ⟨rfl, rfl⟩
  | op _ _ _ ih => exact ⟨by simp only [ES, if_true, ih.1], by simp only [HS, if_true, ih.2]⟩

theorem Good.nm_le {nm nm' : Nat} {o : MI} {e : Env} {st : St} {v : AV} {f : Eff} (h : Good call nm o e st v f nm') : nm ≤ nm' ∧ ∀ n b, f = .new n b → n = nm ∧ nm' = nm + 1 := by
  cases h with
  | n => exact ⟨Nat.le_succ _, fun n b h => by cases h; exact ⟨rfl, rfl⟩⟩
  | _ => exact ⟨Nat.le_refl _, fun n b h => by cases h⟩

theorem tr_names {T : List En} {nm : Nat} {e : Env} {st : St} (h : Tr call nm0 e0 st0 T nm e st) : nm0 ≤ nm ∧ ∀ k ∈ T, ∀ n b, k.f = .new n b → nm0 ≤ n ∧ n < nm := by
  induction h with
  | nil => exact ⟨Nat.le_refl _, fun k hk => by cases hk⟩
  | op _ hg _ ih =>
    obtain ⟨h1, h2⟩ := hg.nm_le
    refine ⟨by omega, fun k hk n b hf => ?_⟩
    rcases List.mem_cons.1 hk with rfl | hk
    · obtain ⟨rfl, h3⟩ := h2 n b hf
      omega
    · have := ih.2 k hk n b hf
      omega

/-- An entry in the midst. -/
theorem tr_split : ∀ {T2 : List En} {k : En} {T1 : List En} {nm : Nat} {e : Env} {st : St}, Tr call nm0 e0 st0 (T2 ++ k :: T1) nm e st →
    ∃ nm1 nm2, Tr call nm0 e0 st0 T1 nm1 k.e k.st ∧ Good call nm1 k.g.o k.e k.st k.v k.f nm2 ∧ nm2 ≤ nm ∧ (∀ q ∈ T2, ∀ n b, q.f = .new n b → nm2 ≤ n ∧ n < nm) ∧
      (∀ j ∈ k.g.res, ∃ o, gfind (k.g :: T1.map En.g) j = some o ∧ ReF o (eput k.e k.g.o.dst k.v) (k.f.ap k.st))
  | [], k, T1, nm, e, st, h => by
    cases h with
    | op ht hg hr => exact ⟨_, _, ht, hg, Nat.le_refl _, (fun q hq => by cases hq), hr⟩
  | q :: T2, k, T1, nm, e, st, h => by
    cases h with
    | op ht hg hr =>
      obtain ⟨nm1, nm2, a, b, c, d, f⟩ := tr_split ht
      obtain ⟨h1, h2⟩ := hg.nm_le
      refine ⟨nm1, nm2, a, b, by omega, fun q' hq n bb hf => ?_, f⟩
      rcases List.mem_cons.1 hq with rfl | hq
      · obtain ⟨rfl, h3⟩ := h2 n bb hf
        omega
      · have := d q' hq n bb hf
        omega

theorem eget_eput (e : Env) (d : Option Nat) (v : AV) (t : Nat) : eget (eput e d v) t = if d = some t then v else eget e t := by
  cases d with
  | none => simp [eput]
  | some m =>
    simp only [eput, eset, eget, Option.some.injEq]

theorem ES_agree {S S' : Nat → Bool} {t : Nat} : ∀ {T : List En}, (∀ k ∈ T, S k.g.i = S' k.g.i ∨ k.g.o.dst ≠ some t) → eget (ES S e0 T) t = eget (ES S' e0 T) t
  | [], _ => rfl
  | k :: T, h => by
    have ih := ES_agree (T := T) (fun q hq => h q (List.mem_cons_of_mem _ hq))
    simp only [ES]
    rcases h k List.mem_cons_self with hk | hk
    · rw [hk]
      split
      · rw [eget_eput, eget_eput, ih]
      · exact ih
    · split <;> split <;> simp only [eget_eput, if_neg hk, ih]

theorem HS_agree {S S' : Nat → Bool} : ∀ {T : List En}, (∀ k ∈ T, S k.g.i = S' k.g.i ∨ k.f = .non) → HS S st0 T = HS S' st0 T
  | [], _ => rfl
  | k :: T, h => by
    have ih := HS_agree (T := T) (fun q hq => h q (List.mem_cons_of_mem _ hq))
    simp only [HS]
    rcases h k List.mem_cons_self with hk | hk
    · rw [hk, ih]
    · rw [hk, ih]
      split <;> split <;> rfl

theorem ES_skip {S : Nat → Bool} {t : Nat} {R : List En} : ∀ {T2 : List En}, (∀ k ∈ T2, S k.g.i = true → k.g.o.dst ≠ some t) → eget (ES S e0 (T2 ++ R)) t = eget (ES S e0 R) t
  | [], _ => rfl
  | k :: T, h => by
    have ih := ES_skip (R := R) (T2 := T) (fun q hq => h q (List.mem_cons_of_mem _ hq))
    simp only [List.cons_append, ES]
    split
    · rename_i hs
      rw [eget_eput, if_neg (h k List.mem_cons_self hs), ih]
    · exact ih

theorem HS_push {S : Nat → Bool} {R : List En} : ∀ {T2 : List En}, (∀ k ∈ T2, S k.g.i = true → ∀ s, k.f ≠ .post s) → HS S st0 (T2 ++ R) = ⟨news S T2 ++ (HS S st0 R).h, (HS S st0 R).nx⟩
  | [], _ => rfl
  | k :: T, h => by
    have ih := HS_push (R := R) (T2 := T) (fun q hq => h q (List.mem_cons_of_mem _ hq))
    simp only [List.cons_append, HS, news]
    split
    · rename_i hs
      have := h k List.mem_cons_self hs
      cases hf : k.f with
      | non => simp only [Eff.ap, ih]
      | new n b => simp only [Eff.ap, ih, List.cons_append]
      | post s => exact absurd hf (this s)
    · exact ih

theorem news_agree {S S' : Nat → Bool} : ∀ {T : List En}, (∀ k ∈ T, S k.g.i = S' k.g.i) → news S T = news S' T
  | [], _ => rfl
  | k :: T, h => by
    simp only [news]
    rw [h k List.mem_cons_self, news_agree (fun q hq => h q (List.mem_cons_of_mem _ hq))]

theorem news_mem {S : Nat → Bool} {n : Nat} {b : AObj} : ∀ {T : List En}, hget (news S T) n = some b → ∃ k ∈ T, S k.g.i = true ∧ k.f = .new n b
  | [], h => by cases h
  | k :: T, h => by
    simp only [news] at h
    split at h
    · rename_i hs
      split at h
      · rename_i m c hf
        simp only [hget] at h
        split at h
        · rename_i e; subst e; cases h
          exact ⟨k, List.mem_cons_self, hs, hf⟩
        · obtain ⟨q, hq, h1, h2⟩ := news_mem h
          exact ⟨q, List.mem_cons_of_mem _ hq, h1, h2⟩
      · obtain ⟨q, hq, h1, h2⟩ := news_mem h
        exact ⟨q, List.mem_cons_of_mem _ hq, h1, h2⟩
    · obtain ⟨q, hq, h1, h2⟩ := news_mem h
      exact ⟨q, List.mem_cons_of_mem _ hq, h1, h2⟩

theorem hget_append : ∀ {a b : Heap} {n : Nat}, hget (a ++ b) n = (hget a n).or (hget b n)
  | [], b, n => rfl
  | (m, o) :: a, b, n => by
    simp only [List.cons_append, hget]
    split
    · rfl
    · exact hget_append

theorem ObjR.named {w : World} {n : Nat} {o : AObj} (h : ObjR D X N w n o) : ∃ a, N.ρ n = some a := by
  cases o with
  | cells ty l cs => obtain ⟨b, us, fz, h1, _⟩ := h; exact ⟨_, h1⟩
  | buf ty es cs => obtain ⟨b, us, fz, h1, _⟩ := h; exact ⟨_, h1⟩
  | ro cs => obtain ⟨a, h1, _⟩ := h; exact ⟨_, h1⟩
  | map es => obtain ⟨b, mes, clk, h1, _⟩ := h; exact ⟨_, h1⟩
  | glob g cs => obtain ⟨us, t, fz, h1, _⟩ := h; exact ⟨_, h1⟩
  | iter s pos => obtain ⟨b, h1, _⟩ := h; exact ⟨_, h1⟩
  | loop st env ps assign body => obtain ⟨b, l, S, h1, _⟩ := h; exact ⟨_, h1⟩

theorem NO_own {ev : AO → AV} {n : Nat} {p : NO} {v : AV} {b : AObj} (h : NO.run ev n p = some (v, b)) : b.own = true := by
  cases p <;> simp only [NO.run] at h
  · cases h; rfl
  · split at h <;> cases h; rfl
  · split at h <;> cases h; rfl
  · split at h
    · split at h <;> cases h; rfl
    · cases h
  · cases h; rfl
  · split at h <;> cases h; rfl
  · split at h <;> cases h; rfl

/-- Blocks that a step did not know of are there behind it as before. -/
theorem readd {Y h h' : Heap} {w w' : World} (hr : HR D X N (Y ++ h) w) (hr' : HR D X N' h' w') (g : Gd N h w N' h' w') (hown : ∀ n o, hget Y n = some o → o.own = true)
    (hY : ∀ n o, hget Y n = some o → hget h n = none) :
    HR D X N' (Y ++ h') w' ∧ Gd N (Y ++ h) w N' (Y ++ h') w' ∧ ∀ n o, hget Y n = some o → hget h' n = none := by
  have inY : ∀ n o, hget Y n = some o → hget (Y ++ h) n = some o := fun n o ho => by rw [hget_append, ho]; rfl
  have inh : ∀ n o, hget h n = some o → hget (Y ++ h) n = some o := fun n o ho => by
    rw [hget_append]
    cases hy : hget Y n with
    | none => exact ho
    | some q => rw [hY n q hy] at ho; cases ho
  have apart : ∀ n o a m p c, hget Y n = some o → N.ρ n = some a → hget h m = some p → N.ρ m = some c → a.block ≠ c.block := by
    intro n o a m p c h1 h2 h3 h4 e
    have := hr.sep n m o p a c (inY n o h1) (inh m p h3) (hown n o h1) h2 h4 e
    subst this
    rw [hY n o h1] at h3
    cases h3
  have key : ∀ n o a m p c, hget Y n = some o → N.ρ n = some a → hget h' m = some p → N'.ρ m = some c → a.block ≠ c.block := by
    intro n o a m p c h1 h2 h3 h4 e
    rcases g.has m p c h3 h4 with ⟨q, r, d, k1, k2, k3, _⟩ | hge
    · exact apart n o a q r d h1 h2 k1 k2 (e.trans k3.symm)
    · have := (hr.objs n o (inY n o h1)).lt h2
      omega
  have named : ∀ n o, hget Y n = some o → ∃ a, N.ρ n = some a ∧ N'.ρ n = some a := fun n o ho => by
    obtain ⟨a, ha⟩ := (hr.objs n o (inY n o ho)).named
    exact ⟨a, ha, (g.le n a ha).1⟩
  have third : ∀ n o, hget Y n = some o → hget h' n = none := by
    intro n o ho
    obtain ⟨a, ha, ha'⟩ := named n o ho
    cases hq : hget h' n with
    | none => rfl
    | some p => exact absurd rfl (key n o a n p a ho ha hq ha')
  have cases' : ∀ n o, hget (Y ++ h') n = some o → hget Y n = some o ∨ hget h' n = some o := by
    intro n o ho
    rw [hget_append] at ho
    cases hy : hget Y n with
    | none => rw [hy] at ho; exact .inr ho
    | some q => rw [hy] at ho; exact .inl ho
  refine ⟨⟨fun n o ho => ?_, fun n m o p a c ho hp hpo ha hc hac => ?_⟩, ⟨g.le, g.size, g.tape, g.os, g.output, fun b hb hn => g.frame b hb (fun hw => hn ?_), fun n o a ho ha => ?_⟩, third⟩
  · rcases cases' n o ho with ho | ho
    · refine (hr.objs n o (inY n o ho)).keep g.le g.size (fun a ha => g.frame _ ((hr.objs n o (inY n o ho)).lt ha) ?_)
      rintro ⟨m, p, c, h1, h2, h3, h4⟩
      exact apart n o a m p c ho ha h1 h3 h4.symm
    · exact hr'.objs n o ho
  · rcases cases' n o ho with ho | ho
    · obtain ⟨a', ha1, ha2⟩ := named n o ho
      rw [ha] at ha2; cases ha2
      rcases cases' m p hp with hp | hp
      · obtain ⟨c', hc1, hc2⟩ := named m p hp
        rw [hc] at hc2; cases hc2
        exact hr.sep n m o p a c (inY n o ho) (inY m p hp) hpo ha1 hc1 hac
      · exact absurd hac (key n o a m p c ho ha1 hp hc)
    · rcases cases' m p hp with hp | hp
      · obtain ⟨c', hc1, hc2⟩ := named m p hp
        rw [hc] at hc2; cases hc2
        exact absurd hac.symm (key m p c n o a hp hc1 ho ha)
      · exact hr'.sep n m o p a c ho hp hpo ha hc hac
  · obtain ⟨m, p, c, h1, h2, h3, h4⟩ := hw
    exact ⟨m, p, c, inh m p h1, h2, h3, h4⟩
  · rcases cases' n o ho with ho | ho
    · obtain ⟨a', ha1, ha2⟩ := named n o ho
      rw [ha] at ha2; cases ha2
      exact .inl ⟨n, o, a, inY n o ho, ha1, rfl, id⟩
    · rcases g.has n o a ho ha with ⟨m, p, c, k1, k2, k3, k4⟩ | hge
      · exact .inl ⟨m, p, c, inh m p k1, k2, k3, k4⟩
      · exact .inr hge

end Go.Ev

/- Regions whose order is drawn: one operation, whichever is drawn. -/
namespace Go.Ev
open Go

variable {X : Cx} {N N' N'' : Nu} {D : ChkD}

theorem hmem_iff {n : Nat} : ∀ {l : List Nat}, hmem n l = true ↔ n ∈ l
  | [] => by simp [hmem]
  | m :: l => by
    simp only [hmem, List.mem_cons]
    by_cases h : m = n
    · simp [h]
    · rw [if_neg h, hmem_iff]
      constructor
      · exact .inr
      · rintro (rfl | h')
        · exact absurd rfl h
        · exact h'

theorem dstIn_false {d : Option Nat} {l : List Nat} (h : (!dstIn d l) = true) : ∀ t ∈ l, d ≠ some t := by
  intro t ht e
  subst e
  simp only [dstIn, Bool.not_eq_true'] at h
  rw [hmem_iff.2 ht] at h
  cases h

theorem dstEq_false {a b : Option Nat} (h : (!dstEq a b) = true) : ∀ t, a = some t → b ≠ some t := by
  intro t ha hb
  subst ha hb
  simp [dstEq] at h

structure Apart (p g : MI) : Prop where
  a : ∀ t ∈ g.reads, p.dst ≠ some t
  b : ∀ t ∈ p.reads, g.dst ≠ some t
  c : ∀ t, p.dst = some t → g.dst ≠ some t

structure Pair (A : List (List Nat)) (ow : Bool) (p g : G) : Prop where
  ne : p.i ≠ g.i
  lin : ltA A g.i p.i ≠ true
  or : ltA A p.i g.i = true ∨ (Apart p.o g.o ∧ (p.o.isN = true → g.o.isR = false ∧ g.o.isW = false) ∧ (p.o.isW = true → (g.o.isR = false ∨ ow = true) ∧ g.o.isW = false) ∧
    (p.o.isR = true → g.o.isW = true → p.i ∈ g.res))

theorem pairOK_spec {A : List (List Nat)} {ow : Bool} {p g : G} (h : pairOK A ow p g = true) : Pair A ow p g := by
  simp only [pairOK, bool_and, decide_eq_true_eq, Bool.or_eq_true] at h
  obtain ⟨h1, h2, h3⟩ := h
  refine ⟨h1, by simpa using h2, ?_⟩
  rcases h3 with h3 | ⟨h3, h4, h5, h6⟩
  · exact .inl h3
  · right
    simp only [apartE, bool_and] at h3
    refine ⟨⟨dstIn_false h3.1, dstIn_false h3.2.1, dstEq_false h3.2.2⟩, fun hn => ?_, fun hw => ?_, fun hr hw => ?_⟩
    · simp only [hn, Bool.true_and, Bool.not_or, bool_and, Bool.not_eq_true'] at h4
      exact h4
    · simp only [hw, Bool.true_and, Bool.not_or, bool_and, Bool.not_eq_true'] at h5
      refine ⟨?_, h5.2⟩
      cases ho : ow with
      | true => exact .inr rfl
      | false => rw [ho] at h5; left; simpa using h5.1
    · rcases h6 with h6 | h6
      · simp [hr, hw] at h6
      · exact hmem_iff.1 h6

theorem aoT_mem {n : Nat} : ∀ {l : List AO}, AO.t n ∈ l → n ∈ aoT l
  | .t m :: l, h => by
    simp only [aoT, List.mem_cons, AO.t.injEq] at h ⊢
    rcases h with h | h
    · exact .inl h
    · exact .inr (aoT_mem h)
  | .k v :: l, h => by
    simp only [aoT]
    rcases List.mem_cons.1 h with h | h
    · cases h
    · exact aoT_mem h

theorem reads_agree {o : MI} {e1 e2 : Env} (h : ∀ t ∈ o.reads, eget e1 t = eget e2 t) : (∀ a ∈ o.op.aos, AO.ev e1 a = AO.ev e2 a) ∧ wanted e1 o.guard = wanted e2 o.guard := by
  unfold MI.reads at h
  cases hg : o.guard with
  | none =>
    rw [hg] at h
    refine ⟨fun a ha => ?_, rfl⟩
    cases a with
    | t n => exact h n (aoT_mem ha)
    | k v => rfl
  | some p =>
    obtain ⟨t, b⟩ := p
    rw [hg] at h
    refine ⟨fun a ha => ?_, ?_⟩
    · cases a with
      | t n => exact h n (List.mem_cons_of_mem _ (aoT_mem ha))
      | k v => rfl
    · simp only [wanted, h t List.mem_cons_self]

theorem gfind_split {k : En} {T1 : List En} : ∀ {T2 : List En}, (∀ q ∈ T2, q.g.i ≠ k.g.i) → gfind ((T2 ++ k :: T1).map En.g) k.g.i = some k.g.o
  | [], _ => by simp [gfind]
  | q :: T2, h => by
    simp only [List.cons_append, List.map_cons, gfind]
    rw [if_neg (h q List.mem_cons_self)]
    exact gfind_split (fun q hq => h q (List.mem_cons_of_mem _ hq))

theorem reOK_split {k : En} {T1 : List En} {d : Option Nat} {rs : List Nat} : ∀ {T2 : List En}, (∀ q ∈ T2, q.g.i ≠ k.g.i) → reOK k.g.i d rs ((T2 ++ k :: T1).map En.g) = true →
    (∀ q ∈ T2, (∀ t ∈ rs, q.g.o.dst ≠ some t) ∧ ∀ t, d = some t → q.g.o.dst ≠ some t) ∧ ∀ t ∈ rs, d ≠ some t
  | [], _, h => by
    simp only [List.nil_append, List.map_cons, reOK, if_true] at h
    exact ⟨(fun q hq => nomatch hq), dstIn_false h⟩
  | q :: T2, hq, h => by
    simp only [List.cons_append, List.map_cons, reOK] at h
    rw [if_neg (hq q List.mem_cons_self)] at h
    simp only [bool_and] at h
    obtain ⟨h1, h2⟩ := reOK_split (fun q hq' => hq q (List.mem_cons_of_mem _ hq')) h.2.2
    refine ⟨fun r hr => ?_, h2⟩
    rcases List.mem_cons.1 hr with rfl | hr
    · exact ⟨dstIn_false h.1, fun t ht e => dstEq_false h.2.1 t e ht⟩
    · exact h1 r hr

theorem pw_split {A : List (List Nat)} {k : En} {T1 : List En} : ∀ {T2 : List En}, pwOK A ((T2 ++ k :: T1).map En.g) = true →
    (∀ p ∈ T1, Pair A (ownR k.g (T1.map En.g)) p.g k.g) ∧ (∀ q ∈ T2, ∃ ow, Pair A ow k.g q.g) ∧ ∀ j ∈ k.g.res, ∃ o, gfind ((k :: T1).map En.g) j = some o ∧ reOK j o.dst o.reads ((k :: T1).map En.g) = true
  | [], h => by
    simp only [List.nil_append, List.map_cons, pwOK, bool_and, List.all_eq_true] at h
    refine ⟨fun p hp => pairOK_spec (h.1 p.g (List.mem_map_of_mem hp)), (fun q hq => by cases hq), fun j hj => ?_⟩
    have := h.2.1 j hj
    split at this
    · rename_i o ho
      exact ⟨o, ho, this⟩
    · cases this
  | q :: T2, h => by
    simp only [List.cons_append, List.map_cons, pwOK, bool_and, List.all_eq_true] at h
    obtain ⟨h1, h2, h3⟩ := pw_split h.2.2
    refine ⟨h1, fun r hr => ?_, h3⟩
    rcases List.mem_cons.1 hr with rfl | hr
    · exact ⟨_, pairOK_spec (h.1 k.g (List.mem_map_of_mem (by simp)))⟩
    · exact h2 r hr

def setS (S : Nat → Bool) (j : Nat) : Nat → Bool := fun i => if i = j then true else S i

structure Inv (D : ChkD) (X : Cx) (nm0 : Nat) (e0 : Env) (st0 : St) (A : List (List Nat)) (T : List En) (N0 : Nu) (w0 : World) (S : Nat → Bool) (N : Nu) (t : Array Value) (w : World) : Prop where
  env : EnvR X N (ES S e0 T) t
  sr : SR D X N (HS S st0 T) w
  gd : Gd N0 st0.h w0 N (HS S st0 T).h w
  nx : st0.nx ≤ (HS S st0 T).nx
  old : ∀ n, n < nm0 → N.ρ n = N0.ρ n
  un : ∀ k ∈ T, S k.g.i = false → ∀ n b, k.f = .new n b → N.ρ n = none
  x4 : ∀ T2 R, T = T2 ++ R → (∀ k ∈ T2, S k.g.i = true → ∀ s, k.f ≠ .post s) → ∀ k ∈ T2, S k.g.i = true → ∀ n b, k.f = .new n b → hget (HS S st0 R).h n = none
  cl : ∀ k, S k = true → ∀ a, ltA A a k = true → S a = true

variable {call : CallF} {nm0 nm : Nat} {e0 e : Env} {st0 st : St} {A : List (List Nat)} {T : List En} {N0 : Nu} {w0 w : World} {S : Nat → Bool} {t : Array Value}

theorem Good.kind {nm nm' : Nat} {o : MI} {e : Env} {st : St} {v : AV} {f : Eff} (h : Good call nm o e st v f nm') :
    (∀ s, f = .post s → o.isW = true) ∧ (∀ n b, f = .new n b → o.isN = true) ∧ (f ≠ .non → o.isN = true ∨ o.isW = true) := by
  cases h with
  | skip h => exact ⟨(fun s h => nomatch h), (fun n b h => nomatch h), fun h => absurd rfl h⟩
  | p h1 h2 h3 => exact ⟨(fun s h => nomatch h), (fun n b h => nomatch h), fun h => absurd rfl h⟩
  | r h1 h2 h3 => exact ⟨(fun s h => nomatch h), (fun n b h => nomatch h), fun h => absurd rfl h⟩
  | n h1 h2 h3 => exact ⟨(fun s h => nomatch h), (fun n b h => by simp [MI.isN, h2]), fun h => .inl (by simp [MI.isN, h2])⟩
  | w h1 h2 h3 => exact ⟨(fun s h => by simp [MI.isW, h2]), (fun n b h => nomatch h), fun h => .inr (by simp [MI.isW, h2])⟩

/-- The list is cut in two places. -/
theorem cut_two {T2 T1 Ta R : List En} {k : En} (h : T2 ++ k :: T1 = Ta ++ R) : (∃ Tm, Ta = T2 ++ k :: Tm ∧ T1 = Tm ++ R) ∨ ∃ Tm, R = Tm ++ k :: T1 ∧ T2 = Ta ++ Tm := by
  rcases List.append_eq_append_iff.1 h with ⟨as, h1, h2⟩ | ⟨bs, h1, h2⟩
  · cases as with
    | nil => exact .inr ⟨[], by simpa using h2.symm, by simpa using h1.symm⟩
    | cons a as =>
      simp only [List.cons_append, List.cons.injEq] at h2
      obtain ⟨rfl, h2⟩ := h2
      exact .inl ⟨as, h1, h2⟩
  · exact .inr ⟨bs, h2, h1⟩

end Go.Ev

/- Regions whose order is drawn: what holds of the operations made so far is kept by the next. -/
namespace Go.Ev
open Go

variable {X : Cx} {N N' N'' : Nu} {D : ChkD}
variable {call : CallF} {nm0 nm : Nat} {e0 e : Env} {st0 st : St} {A : List (List Nat)} {T : List En} {N0 : Nu} {w0 w : World} {S : Nat → Bool} {t : Array Value}

theorem tr_head {k : En} (h : Tr call nm0 e0 st0 (k :: T) nm e st) : e = eput k.e k.g.o.dst k.v ∧ st = k.f.ap k.st := by
  cases h with
  | op => exact ⟨rfl, rfl⟩

theorem tr_kind (h : Tr call nm0 e0 st0 T nm e st) : ∀ k ∈ T, (∀ s, k.f = .post s → k.g.o.isW = true) ∧ (∀ n b, k.f = .new n b → k.g.o.isN = true) ∧ (k.f ≠ .non → k.g.o.isN = true ∨ k.g.o.isW = true) := by
  induction h with
  | nil => intro k hk; cases hk
  | op _ hg _ ih =>
    intro k hk
    rcases List.mem_cons.1 hk with rfl | hk
    · exact hg.kind
    · exact ih k hk

theorem tr_own (h : Tr call nm0 e0 st0 T nm e st) : ∀ k ∈ T, ∀ n b, k.f = .new n b → b.own = true := by
  induction h with
  | nil => intro k hk; cases hk
  | op _ hg _ ih =>
    intro k hk n b hf
    rcases List.mem_cons.1 hk with rfl | hk
    · cases hg with
      | n h1 h2 h3 => cases hf; exact NO_own h3
      | _ => cases hf
    · exact ih k hk n b hf

theorem news_get {n : Nat} {b : AObj} {k : En} (hs : S k.g.i = true) (hf : k.f = .new n b) {T : List En} (hk : k ∈ T) : ∃ c, hget (news S T) n = some c := by
  induction T with
  | nil => cases hk
  | cons q T ih =>
    simp only [news]
    rcases List.mem_cons.1 hk with rfl | hk
    · rw [if_pos hs, hf]
      exact ⟨b, by simp [hget]⟩
    · obtain ⟨c, hc⟩ := ih hk
      by_cases hq : S q.g.i = true
      · rw [if_pos hq]
        cases hqf : q.f with
        | non => exact ⟨c, hc⟩
        | new m b' =>
          simp only [hget]
          by_cases hm : m = n
          · rw [if_pos hm]; exact ⟨_, rfl⟩
          · rw [if_neg hm]; exact ⟨c, hc⟩
        | post s => exact ⟨c, hc⟩
      · rw [if_neg hq]
        exact ⟨c, hc⟩

theorem setS_ne {i j : Nat} (h : i ≠ j) : setS S j i = S i := by simp [setS, h]
theorem setS_eq {j : Nat} : setS S j j = true := by simp [setS]

section
variable {k : En} {T2 T1 : List En}

theorem x4_step (hT : Tr call nm0 e0 st0 (T2 ++ k :: T1) nm e st) (inv : Inv D X nm0 e0 st0 A (T2 ++ k :: T1) N0 w0 S N t w) (hnS : S k.g.i = false)
    (ne1 : ∀ p ∈ T1, p.g.i ≠ k.g.i) (ne2 : ∀ q ∈ T2, q.g.i ≠ k.g.i)
    (hnew : ∀ n b, k.f = .new n b → ∀ q ∈ T2, S q.g.i = true → ∀ s, q.f ≠ .post s)
    (hpost : ∀ s, k.f = .post s → (∀ q ∈ T2, S q.g.i = true → ∀ s', q.f ≠ .post s') ∧ ∀ n o, hget (news S T2) n = some o → hget s.h n = none) :
    ∀ Ta R, T2 ++ k :: T1 = Ta ++ R → (∀ q ∈ Ta, setS S k.g.i q.g.i = true → ∀ s, q.f ≠ .post s) → ∀ q ∈ Ta, setS S k.g.i q.g.i = true → ∀ n b, q.f = .new n b →
      hget (HS (setS S k.g.i) st0 R).h n = none := by
  intro Ta R hsplit hnp q hq hS' n b hf
  have hmono : ∀ i, S i = true → setS S k.g.i i = true := fun i hi => by simp only [setS]; split <;> first | rfl | exact hi
  have hnpS : ∀ q ∈ Ta, S q.g.i = true → ∀ s, q.f ≠ .post s := fun q hq hs => hnp q hq (hmono _ hs)
  rcases cut_two hsplit with ⟨Tm, hTa, hT1⟩ | ⟨Tm, hR, hT2⟩
  · have hR : HS (setS S k.g.i) st0 R = HS S st0 R := HS_agree (fun p hp => .inl (setS_ne (ne1 p (by rw [hT1]; exact List.mem_append_right _ hp))))
    rw [hR]
    by_cases he : q.g.i = k.g.i
    · have hqk : q = k := by
        rw [hTa] at hq
        rcases List.mem_append.1 hq with h | h
        · exact absurd he (ne2 q h)
        · rcases List.mem_cons.1 h with h | h
          · exact h
          · exact absurd he (ne1 q (by rw [hT1]; exact List.mem_append_left _ h))
      subst hqk
      cases hg : hget (HS S st0 R).h n with
      | none => rfl
      | some ob =>
        exfalso
        have hp := HS_push (st0 := st0) (R := R) hnpS
        rw [← hsplit] at hp
        have hs := inv.sr.hr
        rw [hp] at hs
        have : ∃ ob', hget (news S Ta ++ (HS S st0 R).h) n = some ob' := by
          rw [hget_append]
          cases hget (news S Ta) n with
          | none => exact ⟨ob, hg⟩
          | some c => exact ⟨c, rfl⟩
        obtain ⟨ob', ho'⟩ := this
        obtain ⟨a, ha⟩ := (hs.objs n ob' ho').named
        rw [inv.un q (by simp) hnS n b hf] at ha
        cases ha
    · exact inv.x4 Ta R hsplit hnpS q hq (by rw [setS_ne he] at hS'; exact hS') n b hf
  · have hq2 : q ∈ T2 := by rw [hT2]; exact List.mem_append_left _ hq
    have hSq : S q.g.i = true := by rw [setS_ne (ne2 q hq2)] at hS'; exact hS'
    have h0 := inv.x4 Ta R hsplit hnpS q hq hSq n b hf
    have hT1S : HS (setS S k.g.i) st0 T1 = HS S st0 T1 := HS_agree (fun p hp => .inl (setS_ne (ne1 p hp)))
    have hTm : news (setS S k.g.i) Tm = news S Tm := news_agree (fun p hp => setS_ne (ne2 p (by rw [hT2]; exact List.mem_append_right _ hp)))
    have push : (∀ q ∈ T2, S q.g.i = true → ∀ s, q.f ≠ .post s) → (∀ q ∈ Tm, S q.g.i = true → ∀ s, q.f ≠ .post s) ∧ ∀ q ∈ Tm, setS S k.g.i q.g.i = true → ∀ s, q.f ≠ .post s := by
      intro h
      have hm : ∀ q ∈ Tm, q ∈ T2 := fun q hq => by rw [hT2]; exact List.mem_append_right _ hq
      exact ⟨fun q hq => h q (hm q hq), fun q hq hs => h q (hm q hq) (by rw [setS_ne (ne2 q (hm q hq))] at hs; exact hs)⟩
    rw [hR] at h0 ⊢
    cases hkf : k.f with
    | non =>
      have : HS (setS S k.g.i) st0 (Tm ++ k :: T1) = HS S st0 (Tm ++ k :: T1) := HS_agree (fun p hp => by
        rcases List.mem_append.1 hp with h | h
        · exact .inl (setS_ne (ne2 p (by rw [hT2]; exact List.mem_append_right _ h)))
        · rcases List.mem_cons.1 h with rfl | h
          · exact .inr hkf
          · exact .inl (setS_ne (ne1 p h)))
      rw [this]
      exact h0
    | new n1 b1 =>
      obtain ⟨p1, p2⟩ := push (hnew n1 b1 hkf)
      rw [HS_push p1] at h0
      rw [HS_push p2, hTm]
      simp only [HS, setS_eq, if_true, hnS, Bool.false_eq_true, if_false, hkf, Eff.ap, hT1S] at h0 ⊢
      obtain ⟨nm1, nm2, _, hgood, _, hlater, _⟩ := tr_split hT
      have h1 := hgood.nm_le.2 n1 b1 hkf
      have h2 := hlater q hq2 n b hf
      rw [hget_append] at h0 ⊢
      simp only [hget]
      rw [if_neg (by omega)]
      exact h0
    | post s =>
      obtain ⟨h1, h2⟩ := hpost s hkf
      obtain ⟨p1, p2⟩ := push h1
      rw [HS_push p1] at h0
      rw [HS_push p2, hTm]
      simp only [HS, setS_eq, if_true, hkf, Eff.ap]
      rw [hget_append] at h0 ⊢
      obtain ⟨c, hc⟩ := news_get hSq hf hq2
      rw [h2 n c hc]
      cases hm : hget (news S Tm) n with
      | none => rfl
      | some z => rw [hm] at h0; cases h0

theorem Inv.step {Sz : Nat} {ops : Array Oper} (hcall : CallOK D X call) (hT : Tr call nm0 e0 st0 (T2 ++ k :: T1) nm e st) (hnm : nm ≤ st0.nx) (hpw : pwOK A ((T2 ++ k :: T1).map En.g) = true)
    (inv : Inv D X nm0 e0 st0 A (T2 ++ k :: T1) N0 w0 S N t w) (hnS : S k.g.i = false) (hrd : ∀ a, ltA A a k.g.i = true → S a = true) {o : Oper} (ho : ops[k.g.i]? = some o) (hc : chkI X Sz ops k.g.o o = true) (hsz : Sz ≤ t.size)
    (b : Frame) (d : List Deferred) (rest : List Nat) (kk : List Item) (cs : List Frame) :
    ∃ N' t' w', Inv D X nm0 e0 st0 A (T2 ++ k :: T1) N0 w0 (setS S k.g.i) N' t' w' ∧ t'.size = t.size ∧
      Steps X.P (lone (Fr b t d (.inRegion ops (k.g.i :: rest) :: kk)) cs w) (lone (Fr b t' d (.inRegion ops rest :: kk)) cs w') := by
  obtain ⟨nm1, nm2, hT1, hgood, hnm2, hlater, hre⟩ := tr_split hT
  obtain ⟨hp1, hp2, hpr⟩ := pw_split hpw
  obtain ⟨full1, full2⟩ := tr_full hT1
  have kinds := tr_kind hT
  have names := tr_names hT
  have names1 := tr_names hT1
  have ne1 : ∀ p ∈ T1, p.g.i ≠ k.g.i := fun p hp => (hp1 p hp).ne
  have ne2 : ∀ q ∈ T2, q.g.i ≠ k.g.i := fun q hq => (hp2 q hq).choose_spec.ne.symm
  have earlier : ∀ p ∈ T1, S p.g.i = false → Apart p.g.o k.g.o ∧ (p.g.o.isN = true → k.g.o.isR = false ∧ k.g.o.isW = false) ∧ (p.g.o.isW = true → (k.g.o.isR = false ∨ ownR k.g (T1.map En.g) = true) ∧ k.g.o.isW = false) := by
    intro p hp hs
    rcases (hp1 p hp).or with h | ⟨h1, h2, h3, _⟩
    · rw [hrd _ h] at hs; cases hs
    · exact ⟨h1, h2, h3⟩
  have later : ∀ q ∈ T2, S q.g.i = true → Apart k.g.o q.g.o ∧ (k.g.o.isN = true → q.g.o.isR = false ∧ q.g.o.isW = false) ∧ (k.g.o.isW = true → q.g.o.isW = false) ∧
      (k.g.o.isR = true → q.g.o.isW = true → k.g.i ∈ q.g.res) := by
    intro q hq hs
    rcases (hp2 q hq).choose_spec.or with h | ⟨h1, h2, h3, h4⟩
    · rw [inv.cl _ hs _ h] at hnS; cases hnS
    · exact ⟨h1, h2, fun hw => (h3 hw).2, h4⟩
  have agree : ∀ x ∈ k.g.o.reads, eget (ES S e0 (T2 ++ k :: T1)) x = eget k.e x := by
    intro x hx
    rw [ES_skip (fun q hq hs => (later q hq hs).1.b x hx)]
    simp only [ES, hnS, Bool.false_eq_true, if_false]
    refine (ES_agree (S' := fun _ => true) (fun p hp => ?_)).trans (by rw [full1])
    cases hs : S p.g.i with
    | true => exact .inl rfl
    | false => exact .inr ((earlier p hp hs).1.a x hx)
  obtain ⟨ag1, ag2⟩ := reads_agree agree
  have egeteq : ∀ x, eget (ES (setS S k.g.i) e0 (T2 ++ k :: T1)) x = eget (eput (ES S e0 (T2 ++ k :: T1)) k.g.o.dst k.v) x := by
    intro x
    rw [eget_eput]
    by_cases hx : k.g.o.dst = some x
    · rw [if_pos hx, ES_skip (fun q hq hs => (later q hq (by rw [setS_ne (ne2 q hq)] at hs; exact hs)).1.c x hx)]
      simp only [ES, setS_eq, if_true]
      rw [eget_eput, if_pos hx]
    · rw [if_neg hx]
      refine ES_agree (fun q hq => ?_)
      rcases List.mem_append.1 hq with h | h
      · exact .inl (setS_ne (ne2 q h))
      · rcases List.mem_cons.1 h with rfl | h
        · exact .inr hx
        · exact .inl (setS_ne (ne1 q h))
  have cl' : ∀ i, setS S k.g.i i = true → ∀ a, ltA A a i = true → setS S k.g.i a = true := by
    intro i hi a ha
    have : S a = true := by
      by_cases e : i = k.g.i
      · subst e; exact hrd a ha
      · rw [setS_ne e] at hi; exact inv.cl i hi a ha
    simp only [setS]; split <;> first | rfl | exact this
  have unS : ∀ q ∈ T2 ++ k :: T1, setS S k.g.i q.g.i = false → S q.g.i = false ∧ q.g.i ≠ k.g.i := by
    intro q _ hs
    have : q.g.i ≠ k.g.i := by
      intro e
      rw [e, setS_eq] at hs
      cases hs
    rw [setS_ne this] at hs
    exact ⟨hs, this⟩
  have hc' := hc
  simp only [chkI, bool_and, beq_iff_eq] at hc'
  obtain ⟨hdst, hlt, hg, hm⟩ := hc'
  -- an operation that leaves the heap alone
  have quiet : k.f = .non → k.g.o.run call (ES S e0 (T2 ++ k :: T1)) (HS S st0 (T2 ++ k :: T1)) = some (eput (ES S e0 (T2 ++ k :: T1)) k.g.o.dst k.v, HS S st0 (T2 ++ k :: T1)) →
      ∃ N' t' w', Inv D X nm0 e0 st0 A (T2 ++ k :: T1) N0 w0 (setS S k.g.i) N' t' w' ∧ t'.size = t.size ∧
        Steps X.P (lone (Fr b t d (.inRegion ops (k.g.i :: rest) :: kk)) cs w) (lone (Fr b t' d (.inRegion ops rest :: kk)) cs w') := by
    intro hf hrun
    obtain ⟨N', t', w', a1, a2, a3, a4, a5, a6, a7⟩ := MI_sound hcall hrun hc ho inv.env hsz inv.sr b d rest kk cs
    have hHS : HS (setS S k.g.i) st0 (T2 ++ k :: T1) = HS S st0 (T2 ++ k :: T1) := HS_agree (fun q hq => by
      rcases List.mem_append.1 hq with h | h
      · exact .inl (setS_ne (ne2 q h))
      · rcases List.mem_cons.1 h with rfl | h
        · exact .inr hf
        · exact .inl (setS_ne (ne1 q h)))
    have hnx := inv.nx
    refine ⟨N', t', w', ⟨fun x => by rw [egeteq]; exact a1 x, by rw [hHS]; exact a3, by rw [hHS]; exact inv.gd.trans a4, by rw [hHS]; exact inv.nx, fun n hn => ?_, fun q hq hs n bb hf' => ?_, ?_, cl'⟩, a2, a7⟩
    · rw [a6 n (by omega)]; exact inv.old n hn
    · have := names.2 q hq n bb hf'
      rw [a6 n (by omega)]
      exact inv.un q hq (unS q hq hs).1 n bb hf'
    · exact x4_step hT inv hnS ne1 ne2 (fun n bb h => by rw [hf] at h; cases h) (fun s h => by rw [hf] at h; cases h)
  generalize hv : k.v = v at *
  generalize hf : k.f = f at *
  cases hgood with
  | skip hw =>
    refine quiet rfl ?_
    simp only [MI.run, ag2, hw]
  | p hw hop hrun =>
    refine quiet rfl ?_
    rw [hop] at ag1
    simp only [MI.run, ag2, hw, hop, MO.run]
    rw [PO.congr ag1, hrun]
  | @r p v hw hop hrun =>
    refine quiet rfl ?_
    rw [hop] at ag1
    have hisR : k.g.o.isR = true := by simp [MI.isR, hop]
    have hrun1 : RO.run (AO.ev k.e) (HS S st0 T1).h p = some v := by
      cases how : ownR k.g (T1.map En.g) with
      | false =>
        have hT1 : HS S st0 T1 = k.st := by
          refine (HS_agree (S' := fun _ => true) (fun q hq => ?_)).trans full2
          cases hs : S q.g.i with
          | true => exact .inl rfl
          | false =>
            right
            obtain ⟨_, h2, h3⟩ := earlier q hq hs
            by_cases hn : q.f = .non
            · exact hn
            · exfalso
              rcases (kinds q (by simp [hq])).2.2 hn with h | h
              · rw [(h2 h).1] at hisR; cases hisR
              · rcases (h3 h).1 with h4 | h4
                · rw [h4] at hisR; cases hisR
                · rw [how] at h4; cases h4
        rw [hT1]; exact hrun
      | true =>
        cases T1 with
        | nil => simp [ownR] at how
        | cons q0 T0 =>
          have hS0 : S q0.g.i = true := by
            cases hs : S q0.g.i with
            | true => rfl
            | false =>
              exfalso
              obtain ⟨_, h2, _⟩ := earlier q0 List.mem_cons_self hs
              have hn0 : q0.g.o.isN = true := by
                simp only [List.map_cons, ownR] at how
                split at how
                · rename_i h _; simp [MI.isN, h]
                · cases how
              rw [(h2 hn0).1] at hisR; cases hisR
          simp only [List.map_cons, ownR] at how
          split at how
          case h_2 => cases how
          rename_i d ty len zero parts c hk0 hq0 hd0
          simp only [bool_and, decide_eq_true_eq, Option.isNone_iff_eq_none] at how
          obtain ⟨rfl, hkg, hqg⟩ := how
          rw [hop] at hk0
          cases hk0
          obtain ⟨nmA, nmB, hTr0, hgood0, _, _, _⟩ := tr_split (T2 := []) hT1
          have hke : k.e = eput q0.e q0.g.o.dst q0.v ∧ k.st = q0.f.ap q0.st := by
            exact tr_head hT1
          obtain ⟨hke1, hke2⟩ := hke
          rw [hke1, hke2] at hrun
          rw [hke1]
          simp only [HS, hS0, if_true]
          generalize q0.f = f0 at *
          generalize q0.v = v0 at *
          cases hgood0 with
          | skip hw0 => rw [hqg] at hw0; cases hw0
          | p _ h _ => rw [hq0] at h; cases h
          | r _ h _ => rw [hq0] at h; cases h
          | w _ h _ => rw [hq0] at h; cases h
          | n _ h hno =>
            rw [hq0] at h
            cases h
            simp only [NO.run] at hno
            split at hno
            · cases hno
              simp only [Eff.ap, RO.run, AO.ev, eget_eput, hd0, if_true, rdCells, hget] at hrun ⊢
              exact hrun
            · cases hno
    have key : ∀ (Ta : List En) (R : List En), T2 ++ k :: T1 = Ta ++ R → (∀ q ∈ Ta, q ∈ T2) → (∀ q ∈ Ta, S q.g.i = true → ∀ s, q.f ≠ .post s) → RO.run (AO.ev (ES S e0 (T2 ++ k :: T1))) (HS S st0 R).h p = some v →
        RO.run (AO.ev (ES S e0 (T2 ++ k :: T1))) (HS S st0 (T2 ++ k :: T1)).h p = some v := by
      intro Ta R hs hin hnp hr
      have hp := HS_push (st0 := st0) (R := R) hnp
      rw [← hs] at hp
      rw [hp]
      refine RO.grow (fun n ob hob => ?_) hr
      rw [hget_append]
      cases hy : hget (news S Ta) n with
      | none => exact hob
      | some c =>
        obtain ⟨q, hq, h1, h2⟩ := news_mem hy
        rw [inv.x4 Ta R hs hnp q hq h1 n c h2] at hob
        cases hob
    have hread : RO.run (AO.ev (ES S e0 (T2 ++ k :: T1))) (HS S st0 (T2 ++ k :: T1)).h p = some v := by
      -- the last write that was made behind it
      have last : ∀ (Tz : List En), (∀ q ∈ Tz, S q.g.i = true → ∀ s, q.f ≠ .post s) ∨ ∃ Ta q Tb s, Tz = Ta ++ q :: Tb ∧ (∀ q ∈ Ta, S q.g.i = true → ∀ s, q.f ≠ .post s) ∧ S q.g.i = true ∧ q.f = .post s := by
        intro Tz
        induction Tz with
        | nil => exact .inl (fun q hq => nomatch hq)
        | cons q Tz ih =>
          by_cases hq : S q.g.i = true ∧ ∃ s, q.f = .post s
          · obtain ⟨h1, s, h2⟩ := hq
            exact .inr ⟨[], q, Tz, s, rfl, (fun r hr => nomatch hr), h1, h2⟩
          · have hq' : S q.g.i = true → ∀ s, q.f ≠ .post s := fun h1 s h2 => hq ⟨h1, s, h2⟩
            rcases ih with ih | ⟨Ta, r, Tb, s, h1, h2, h3, h4⟩
            · exact .inl (fun r hr => by rcases List.mem_cons.1 hr with rfl | hr; exact hq'; exact ih r hr)
            · refine .inr ⟨q :: Ta, r, Tb, s, by rw [h1]; rfl, fun z hz => ?_, h3, h4⟩
              rcases List.mem_cons.1 hz with rfl | hz
              · exact hq'
              · exact h2 z hz
      rcases last T2 with hnp | ⟨Ta, q, Tb, s, hT2, hnp, hSq, hqf⟩
      · refine key T2 (k :: T1) rfl (fun q hq => hq) hnp ?_
        simp only [HS, hnS, Bool.false_eq_true, if_false]
        rw [RO.congr ag1]
        exact hrun1
      · have hqT2 : q ∈ T2 := by rw [hT2]; simp
        have hres := (later q hqT2 hSq).2.2.2 hisR ((kinds q (by simp [hqT2])).1 s hqf)
        have hTq : T2 ++ k :: T1 = Ta ++ q :: (Tb ++ k :: T1) := by rw [hT2]; simp
        refine key Ta (q :: (Tb ++ k :: T1)) hTq (fun z hz => by rw [hT2]; exact List.mem_append_left _ hz) hnp ?_
        simp only [HS, hSq, if_true, hqf, Eff.ap]
        rw [hTq] at hT hpw
        obtain ⟨_, _, hTr, _, _, _, hre'⟩ := tr_split hT
        obtain ⟨_, _, hpr'⟩ := pw_split hpw
        have neb : ∀ z ∈ q :: Tb, z.g.i ≠ k.g.i := fun z hz => ne2 z (by rw [hT2]; exact List.mem_append_right _ hz)
        have hgf := gfind_split (T1 := T1) neb
        obtain ⟨o1, ho1, hREF⟩ := hre' _ hres
        obtain ⟨o2, ho2, hREO⟩ := hpr' _ hres
        simp only [List.cons_append, List.map_cons] at hgf ho1 ho2 hREO
        rw [hgf] at ho1 ho2
        cases ho1; cases ho2
        obtain ⟨hro1, hro2⟩ := reOK_split (T2 := q :: Tb) (T1 := T1) neb (by simpa using hREO)
        -- the environment behind q
        have hfq : eput q.e q.g.o.dst q.v = ES (fun _ => true) e0 ((q :: Tb) ++ k :: T1) := by
          simp only [List.cons_append, ES, if_true]
          rw [(tr_full hTr).1]
        have henv : ∀ x, (∀ z ∈ q :: Tb, z.g.o.dst ≠ some x) → eget (eput q.e q.g.o.dst q.v) x = eget (eput k.e k.g.o.dst v) x := by
          intro x hx
          rw [hfq, ES_skip (fun z hz _ => hx z hz)]
          simp only [ES, if_true, full1, hv]
        have hreads : ∀ x ∈ k.g.o.reads, eget (eput q.e q.g.o.dst q.v) x = eget k.e x := by
          intro x hx
          rw [henv x (fun z hz => (hro1 z hz).1 x hx), eget_eput, if_neg (hro2 x hx)]
        obtain ⟨bg1, bg2⟩ := reads_agree hreads
        obtain ⟨p', d', hp', hd', hrr⟩ := hREF (by rw [bg2]; exact hw)
        rw [hop] at hp'
        cases hp'
        rw [henv d' (fun z hz => (hro1 z hz).2 d' hd'), eget_eput, if_pos hd', hqf] at hrr
        rw [hop] at bg1
        rw [RO.congr bg1] at hrr
        rw [RO.congr ag1]
        exact hrr
    simp only [MI.run, ag2, hw, hop, MO.run]
    rw [hread]
  | @n p v bb hw hop hrun =>
    rw [hop] at ag1 hm
    have hisN : k.g.o.isN = true := by simp [MI.isN, hop]
    have hnp : ∀ q ∈ T2, S q.g.i = true → ∀ s, q.f ≠ .post s := by
      intro q hq hs s hqf
      have := ((later q hq hs).2.1 hisN).2
      rw [(kinds q (by simp [hq])).1 s hqf] at this
      cases this
    have hn := inv.un k (by simp) hnS nm1 bb hf
    rw [← NO.congr ag1] at hrun
    obtain ⟨N', u, w', a1, a2, a3, a4, a5⟩ := NO_sound hm (evs_of inv.env) (fun _ => rfl) inv.sr.hr hn hrun
    have hwant := wanted_of inv.env hg (by rw [ag2]; exact hw)
    have hdef : ∀ c, o.op ≠ .defer c := by
      intro c e'
      rw [e'] at hm
      have := chkM_defer (X := X) (c := c) (m := .n p) (by simp)
      rw [chkM] at hm this
      rw [this] at hm
      cases hm
    have hd : ∀ q, k.g.o.dst = some q → q < t.size := by
      intro q hq
      rw [← hdst, hq] at hlt
      have hlt' : q < Sz := by simpa using hlt
      omega
    have hTS : HS (setS S k.g.i) st0 T1 = HS S st0 T1 := HS_agree (fun p hp => .inl (setS_ne (ne1 p hp)))
    have hnews : news (setS S k.g.i) T2 = news S T2 := news_agree (fun q hq => setS_ne (ne2 q hq))
    have hH : HS S st0 (T2 ++ k :: T1) = ⟨news S T2 ++ (HS S st0 T1).h, (HS S st0 T1).nx⟩ := by
      rw [HS_push hnp]
      simp only [HS, hnS, Bool.false_eq_true, if_false]
    have hH' : HS (setS S k.g.i) st0 (T2 ++ k :: T1) = ⟨news S T2 ++ (nm1, bb) :: (HS S st0 T1).h, (HS S st0 T1).nx⟩ := by
      rw [HS_push (fun q hq hs => hnp q hq (by rw [setS_ne (ne2 q hq)] at hs; exact hs)), hnews]
      simp only [HS, setS_eq, if_true, hf, Eff.ap, hTS]
    have hheq : ∀ m ob, hget (HS (setS S k.g.i) st0 (T2 ++ k :: T1)).h m = some ob → hget ((nm1, bb) :: (HS S st0 (T2 ++ k :: T1)).h) m = some ob := by
      intro m ob hob
      rw [hH'] at hob
      rw [hH]
      simp only [hget, hget_append] at hob ⊢
      by_cases he : nm1 = m
      · rw [if_pos he] at hob ⊢
        cases hy : hget (news S T2) m with
        | none => rw [hy] at hob; exact hob
        | some c =>
          exfalso
          obtain ⟨q, hq, _, hqf⟩ := news_mem hy
          have := hlater q hq m c hqf
          omega
      · rw [if_neg he] at hob ⊢
        exact hob
    have hnx := inv.nx
    refine ⟨N', putT t k.g.o.dst u, w', ⟨fun x => ?_, ⟨a3.weaken hheq, fun n hn' => ?_⟩, inv.gd.trans (a4.sub hheq), ?_, fun n hn' => ?_, fun q hq hs n b' hf' => ?_, ?_, cl'⟩, putT_size _ _ _,
      by rw [hdst]; exact .one (fr_op_value ho hwant hdef a1 rfl)⟩
    · rw [egeteq]
      exact ((inv.env.mono a4.le).put hd a2) x
    · rw [hH'] at hn'
      rw [hH] at hnx
      simp only at hn' hnx
      rw [a5 n (by omega)]
      exact inv.sr.fresh n (by rw [hH]; exact hn')
    · rw [hH']; rw [hH] at hnx; exact hnx
    · rw [a5 n (by omega)]; exact inv.old n hn'
    · obtain ⟨u1, u2⟩ := unS q hq hs
      rw [a5 n ?_]
      · exact inv.un q hq u1 n b' hf'
      · rcases List.mem_append.1 hq with h | h
        · have := hlater q h n b' hf'
          omega
        · rcases List.mem_cons.1 h with rfl | h
          · exact absurd rfl u2
          · have := names1.2 q h n b' hf'
            omega
    · exact x4_step hT inv hnS ne1 ne2 (fun _ _ _ => hnp) (fun s h => by rw [hf] at h; cases h)
  | @w p v s hw hop hrun =>
    have hisW : k.g.o.isW = true := by simp [MI.isW, hop]
    have hnp : ∀ q ∈ T2, S q.g.i = true → ∀ s, q.f ≠ .post s := by
      intro q hq hs s hqf
      have := (later q hq hs).2.2.1 hisW
      rw [(kinds q (by simp [hq])).1 s hqf] at this
      cases this
    have hT1 : HS S st0 T1 = k.st := by
      refine (HS_agree (S' := fun _ => true) (fun q hq => ?_)).trans full2
      cases hs : S q.g.i with
      | true => exact .inl rfl
      | false =>
        right
        obtain ⟨_, h2, h3⟩ := earlier q hq hs
        by_cases hn : q.f = .non
        · exact hn
        · exfalso
          rcases (kinds q (by simp [hq])).2.2 hn with h | h
          · rw [(h2 h).2] at hisW; cases hisW
          · rw [(h3 h).2] at hisW; cases hisW
    have hH : HS S st0 (T2 ++ k :: T1) = ⟨news S T2 ++ k.st.h, k.st.nx⟩ := by
      rw [HS_push hnp]
      simp only [HS, hnS, Bool.false_eq_true, if_false, hT1]
    have hnews : news (setS S k.g.i) T2 = news S T2 := news_agree (fun q hq => setS_ne (ne2 q hq))
    have hH' : HS (setS S k.g.i) st0 (T2 ++ k :: T1) = ⟨news S T2 ++ s.h, s.nx⟩ := by
      rw [HS_push (fun q hq hs => hnp q hq (by rw [setS_ne (ne2 q hq)] at hs; exact hs)), hnews]
      simp only [HS, setS_eq, if_true, hf, Eff.ap]
    have hY : ∀ n ob, hget (news S T2) n = some ob → hget k.st.h n = none := by
      intro n ob hob
      obtain ⟨q, hq, h1, h2⟩ := news_mem hob
      have := inv.x4 T2 (k :: T1) rfl hnp q hq h1 n ob h2
      simp only [HS, hnS, Bool.false_eq_true, if_false, hT1] at this
      exact this
    have hsub : ∀ n ob, hget k.st.h n = some ob → hget (news S T2 ++ k.st.h) n = some ob := by
      intro n ob hob
      rw [hget_append]
      cases hy : hget (news S T2) n with
      | none => exact hob
      | some c => rw [hY n c hy] at hob; cases hob
    have hsr := inv.sr
    have hgd := inv.gd
    have hnx := inv.nx
    rw [hH] at hsr hgd hnx
    have hrun' : k.g.o.run call (ES S e0 (T2 ++ k :: T1)) k.st = some (eput (ES S e0 (T2 ++ k :: T1)) k.g.o.dst v, s) := by
      rw [hop] at ag1
      simp only [MI.run, ag2, hw, hop, MO.run]
      rw [WO.congr ag1, hrun]
    obtain ⟨N', t', w', a1, a2, a3, a4, a5, a6, a7⟩ := MI_sound hcall hrun' hc ho inv.env hsz ⟨hsr.hr.weaken hsub, hsr.fresh⟩ b d rest kk cs
    obtain ⟨r1, r2, r3⟩ := readd hsr.hr a3.hr a4 (fun n ob hob => by
      obtain ⟨q, hq, h1, h2⟩ := news_mem hob
      exact tr_own hT q (by simp [hq]) n ob h2) hY
    simp only at hnx
    refine ⟨N', t', w', ⟨fun x => by rw [egeteq]; exact a1 x, by rw [hH']; exact ⟨r1, a3.fresh⟩, by rw [hH']; exact hgd.trans r2, by rw [hH']; simp only; omega, fun n hn => ?_, fun q hq hs n bb hf' => ?_, ?_, cl'⟩, a2, a7⟩
    · rw [a6 n (by omega)]; exact inv.old n hn
    · have := names.2 q hq n bb hf'
      rw [a6 n (by omega)]
      exact inv.un q hq (unS q hq hs).1 n bb hf'
    · refine x4_step hT inv hnS ne1 ne2 (fun _ _ _ => hnp) (fun s' h => ?_)
      rw [hf] at h
      cases h
      exact ⟨hnp, r3⟩

end
end Go.Ev

/- Regions whose order is drawn: whatever order is drawn, the region does what the evaluator does. -/
namespace Go.Ev
open Go

variable {X : Cx} {N N' N'' : Nu} {D : ChkD}
variable {call : CallF} {nm0 nm : Nat} {e0 e : Env} {st0 st : St} {A : List (List Nat)} {T : List En} {N0 : Nu} {w0 w : World} {S : Nat → Bool} {t : Array Value}

theorem filter_lt {p q : Nat → Bool} : ∀ {l : List Nat}, (∀ x ∈ l, q x = true → p x = true) → (∃ x ∈ l, p x = true ∧ q x = false) → (l.filter q).length < (l.filter p).length
  | [], _, h => by obtain ⟨x, hx, _⟩ := h; cases hx
  | a :: l, h, hx => by
    have hle : ∀ {l : List Nat}, (∀ x ∈ l, q x = true → p x = true) → (l.filter q).length ≤ (l.filter p).length := by
      intro l
      induction l with
      | nil => intro _; exact Nat.le_refl _
      | cons a l ih =>
        intro h
        have := ih (fun x hx => h x (List.mem_cons_of_mem _ hx))
        have ha := h a List.mem_cons_self
        simp only [List.filter_cons]
        split
        · rename_i hq
          rw [if_pos (ha hq)]
          simp only [List.length_cons]; omega
        · split
          · simp only [List.length_cons]; omega
          · exact this
    obtain ⟨x, hx, h1, h2⟩ := hx
    rcases List.mem_cons.1 hx with rfl | hx
    · simp only [List.filter_cons, h1, h2, if_true, Bool.false_eq_true, if_false, List.length_cons]
      exact Nat.lt_succ_of_le (hle (fun y hy => h y (List.mem_cons_of_mem _ hy)))
    · have ih := filter_lt (fun y hy => h y (List.mem_cons_of_mem _ hy)) ⟨x, hx, h1, h2⟩
      have ha := h a List.mem_cons_self
      simp only [List.filter_cons]
      split
      · rename_i hq
        rw [if_pos (ha hq)]
        simp only [List.length_cons]; omega
      · split
        · simp only [List.length_cons]; omega
        · exact ih

def cnt (ops : Array Oper) (listed : Array Bool) : Nat := ((List.range ops.size).filter fun i => !listed.getD i true).length

def SofL (listed : Array Bool) : Nat → Bool := fun i => listed.getD i false

theorem getD_tf {listed : Array Bool} {i : Nat} (h : i < listed.size) (a b : Bool) : listed.getD i a = listed.getD i b := by
  simp [Array.getD, h]

theorem SofL_set {listed : Array Bool} {j : Nat} (h : j < listed.size) : SofL (listed.setIfInBounds j true) = setS (SofL listed) j := by
  funext i
  simp only [SofL, setS, Array.getD_eq_getD_getElem?, Array.getElem?_setIfInBounds]
  by_cases e : i = j
  · subst e; simp [h]
  · rw [if_neg e, if_neg (fun h => e h.symm)]

theorem ready_spec {md : Region.Mode} {ops : Array Oper} {listed : Array Bool} {j : Nat} (h : j ∈ Region.ready md ops listed) :
    j < ops.size ∧ listed.getD j true = false ∧ ∃ o, ops[j]? = some o ∧ ∀ e ∈ o.after.toList, Region.binds md e = true → listed.getD e.on false = true := by
  unfold Region.ready at h
  simp only [List.mem_filter, List.mem_range, bool_and, Bool.not_eq_true'] at h
  obtain ⟨h1, h2, h3⟩ := h
  refine ⟨h1, h2, ?_⟩
  cases ho : ops[j]? with
  | none => rw [ho] at h3; cases h3
  | some o =>
    rw [ho] at h3
    refine ⟨o, rfl, fun e he hb => ?_⟩
    simp only [Option.map_some, Option.getD_some, Array.all_eq_true_iff_forall_mem, Bool.or_eq_true, Bool.not_eq_true'] at h3
    rcases h3 e (by simpa using he) with h | h
    · rw [hb] at h; cases h
    · exact h

theorem ready_of {md : Region.Mode} {ops : Array Oper} {listed : Array Bool} {j : Nat} {o : Oper} (h1 : j < ops.size) (h2 : listed.getD j true = false) (ho : ops[j]? = some o)
    (h3 : ∀ e ∈ o.after.toList, Region.binds md e = true → listed.getD e.on false = true) : j ∈ Region.ready md ops listed := by
  unfold Region.ready
  simp only [List.mem_filter, List.mem_range, bool_and, Bool.not_eq_true']
  refine ⟨h1, h2, ?_⟩
  rw [ho]
  simp only [Option.map_some, Option.getD_some, Array.all_eq_true_iff_forall_mem, Bool.or_eq_true, Bool.not_eq_true']
  intro e he
  cases hb : Region.binds md e with
  | false => exact .inl rfl
  | true => exact .inr (h3 e (by simpa using he) hb)

theorem go_sound {Sz : Nat} {ops : Array Oper} (hcall : CallOK D X call) (hT : Tr call nm0 e0 st0 T nm e st) (hnm : nm ≤ st0.nx) (hpw : pwOK A (T.map En.g) = true)
    (hcover : ∀ i, i < ops.size → ∃ k ∈ T, k.g.i = i) (hchk : ∀ k ∈ T, ∃ o, ops[k.g.i]? = some o ∧ chkI X Sz ops k.g.o o = true) (hon : onOK ops = true) (hanc : ancOK A ops = true)
    (b : Frame) (d : List Deferred) (kk : List Item) (cs : List Frame) :
    ∀ (fuel tt : Nat) (listed : Array Bool) (N : Nu) (t : Array Value) (w : World), listed.size = ops.size → Inv D X nm0 e0 st0 A T N0 w0 (SofL listed) N t w → cnt ops listed ≤ fuel → Sz ≤ t.size →
      ∃ N' t' w' S', (∀ k ∈ T, S' k.g.i = true) ∧ Inv D X nm0 e0 st0 A T N0 w0 S' N' t' w' ∧ t'.size = t.size ∧
        Steps X.P (lone (Fr b t d (.inRegion ops (Region.linearise.go .any ops fuel tt listed []) :: kk)) cs w) (lone (Fr b t' d (.inRegion ops [] :: kk)) cs w') := by
  have lt_of : ∀ k ∈ T, k.g.i < ops.size := fun k hk => by
    obtain ⟨o, ho, _⟩ := hchk k hk
    exact (Array.getElem?_eq_some_iff.1 ho).1
  intro fuel
  induction fuel with
  | zero =>
    intro tt listed N t w hl inv hcnt hsz
    refine ⟨N, t, w, SofL listed, fun k hk => ?_, inv, rfl, .refl _ _⟩
    have hlt := lt_of k hk
    cases hq : SofL listed k.g.i with
    | true => rfl
    | false =>
      exfalso
      have : k.g.i ∈ (List.range ops.size).filter fun i => !listed.getD i true := by
        simp only [List.mem_filter, List.mem_range, Bool.not_eq_true']
        exact ⟨hlt, by rw [getD_tf (by omega) true false]; exact hq⟩
      have := List.length_pos_of_mem this
      simp only [cnt] at hcnt
      omega
  | succ fuel ih =>
    intro tt listed N t w hl inv hcnt hsz
    simp only [Region.linearise.go]
    change ∃ N' t' w' S', _ ∧ _ ∧ _ ∧ Steps X.P (lone (Fr b t d (.inRegion ops (match (Region.ready .any ops listed)[tt % (Region.ready .any ops listed).length]? with
      | some i => Region.linearise.go .any ops fuel (tt / (Region.ready .any ops listed).length) (listed.setIfInBounds i true) [i]
      | none => [].reverse) :: kk)) cs w) _
    cases hi : (Region.ready .any ops listed)[tt % (Region.ready .any ops listed).length]? with
    | none =>
      have hnil : Region.ready .any ops listed = [] := by
        cases hr : Region.ready .any ops listed with
        | nil => rfl
        | cons x xs =>
          rw [hr] at hi
          have hlt : tt % (x :: xs).length < (x :: xs).length := Nat.mod_lt _ (by simp)
          simp at hi
          simp at hlt
          omega
      have all : ∀ i, i < ops.size → SofL listed i = true := by
        intro i
        induction i using Nat.strongRecOn with
        | ind i ih' =>
          intro hlt
          cases hq : SofL listed i with
          | true => rfl
          | false =>
            exfalso
            have ho : ops[i]? = some ops[i] := Array.getElem?_eq_getElem hlt
            have : i ∈ Region.ready .any ops listed := ready_of hlt (by rw [getD_tf (by omega) true false]; exact hq) ho (fun e he hb => by
              have h1 := hon
              simp only [onOK, List.all_eq_true, List.mem_range] at h1
              have h2 := h1 i hlt
              rw [ho] at h2
              simp only [List.all_eq_true, Bool.or_eq_true, Bool.not_eq_true', decide_eq_true_eq] at h2
              rcases h2 e he with h3 | h3
              · rw [hb] at h3; cases h3
              · exact ih' e.on h3 (by omega))
            rw [hnil] at this
            cases this
      refine ⟨N, t, w, SofL listed, fun k hk => all _ (lt_of k hk), inv, rfl, ?_⟩
      exact .refl _ _
    | some j =>
      simp only []
      rw [linearise_go_acc, List.reverse_singleton, List.singleton_append]
      obtain ⟨r1, r2, o, ho, r3⟩ := ready_spec (List.mem_of_getElem? hi)
      obtain ⟨k, hk, rfl⟩ := hcover j r1
      obtain ⟨o', ho', hc⟩ := hchk k hk
      rw [ho] at ho'
      cases ho'
      obtain ⟨T2, T1, rfl⟩ := List.append_of_mem hk
      have hrd : ∀ a, ltA A a k.g.i = true → SofL listed a = true := by
        intro a ha
        have h1 := hanc
        simp only [ancOK, List.all_eq_true, List.mem_range] at h1
        have h2 := h1 k.g.i r1 a (hmem_iff.1 ha)
        rw [ho] at h2
        simp only [List.any_eq_true, bool_and, Bool.or_eq_true, decide_eq_true_eq] at h2
        obtain ⟨e, he, hb, h3⟩ := h2
        have h4 := r3 e he hb
        rcases h3 with h3 | h3
        · rw [← h3]; exact h4
        · exact inv.cl e.on h4 a h3
      obtain ⟨N1, t1, w1, i1, i2, i3⟩ := inv.step hcall hT hnm hpw (by rw [getD_tf (by omega) true false] at r2; exact r2) hrd ho hc hsz b d
        (Region.linearise.go .any ops fuel (tt / (Region.ready .any ops listed).length) (listed.setIfInBounds k.g.i true) []) kk cs
      rw [← SofL_set (by omega)] at i1
      have hdec : cnt ops (listed.setIfInBounds k.g.i true) < cnt ops listed := by
        refine filter_lt (fun x hx hq => ?_) ⟨k.g.i, List.mem_range.2 r1, by simp [r2], ?_⟩
        · simp only [Bool.not_eq_true'] at hq ⊢
          have hx' := List.mem_range.1 hx
          simp only [Array.getD_eq_getD_getElem?, Array.getElem?_setIfInBounds] at hq ⊢
          split at hq
          · split at hq <;> simp at hq
          · exact hq
        · simp only [Bool.not_eq_false', Array.getD_eq_getD_getElem?, Array.getElem?_setIfInBounds, if_true]
          rw [if_pos (by omega)]
          rfl
      obtain ⟨N2, t2, w2, S2, j1, j2, j3, j4⟩ := ih (tt / (Region.ready .any ops listed).length) (listed.setIfInBounds k.g.i true) N1 t1 w1 (by simp [hl]) i1 (by omega) (by omega)
      exact ⟨N2, t2, w2, S2, j1, j2, by omega, i3.trans j4⟩

theorem drawOK (hmix : X.P.follows .mixedOrders = true) : DrawOK chkD X := by
  intro call hcall Sz ops L e0 st e' st' hrun hchk N b t d k cs w tt he hs hr
  unfold chkD at hchk
  split at hchk
  · cases hchk
  · rename_i gs hgs
    simp only [bool_and, decide_eq_true_eq, List.all_eq_true, List.mem_range, List.any_eq_true] at hchk
    obtain ⟨hlen, hcov, hchkI, hon, hanc, hpw⟩ := hchk
    obtain ⟨T, nm, hT, hmap, hnm⟩ := tr_of_runR (call := call) (nm0 := st.nx) (e0 := e0) (st0 := ⟨st.h, st.nx + L.length⟩) L [] st.nx e0 e' ⟨st.h, st.nx + L.length⟩ st' [] gs hrun .nil (fun j => rfl) hgs
    have hHS0 : ∀ T : List En, HS (SofL (Array.replicate ops.size false)) ⟨st.h, st.nx + L.length⟩ T = ⟨st.h, st.nx + L.length⟩ := by
      intro T
      induction T with
      | nil => rfl
      | cons q T ih =>
        simp only [HS, ih]
        rw [if_neg]
        simp [SofL, Array.getD]
    have hS0 : ∀ i, SofL (Array.replicate ops.size false) i = false := fun i => by simp [SofL, Array.getD]
    have hES0 : ∀ T : List En, ES (SofL (Array.replicate ops.size false)) e0 T = e0 := by
      intro T
      induction T with
      | nil => rfl
      | cons q T ih => simp only [ES, ih, hS0, Bool.false_eq_true, if_false]
    have inv0 : Inv chkD X st.nx e0 ⟨st.h, st.nx + L.length⟩ (mkA ops.toList) T N w (SofL (Array.replicate ops.size false)) N t w := by
      refine ⟨by rw [hES0]; exact he, by rw [hHS0]; exact ⟨hr.hr, fun n hn => hr.fresh n (by simp only at hn; omega)⟩, by rw [hHS0]; exact .refl _ _ _, by rw [hHS0]; exact Nat.le_refl _, fun _ _ => rfl,
        fun q hq _ n bb hf => hr.fresh n (by have := (tr_names hT).2 q hq n bb hf; omega), fun _ _ _ _ q _ hq => ?_, fun i hi => ?_⟩
      · rw [hS0] at hq; cases hq
      · rw [hS0] at hi; cases hi
    obtain ⟨N', t', w', S', a1, a2, a3, a4⟩ := go_sound (A := mkA ops.toList) (N0 := N) (w0 := w) hcall hT hnm (by rw [hmap]; exact hpw)
      (fun i hi => by
        obtain ⟨g, hg, hgi⟩ := hcov i hi
        rw [← hmap] at hg
        obtain ⟨q, hq, rfl⟩ := List.mem_map.1 hg
        exact ⟨q, hq, hgi⟩)
      (fun q hq => by
        have := hchkI q.g (by rw [← hmap]; exact List.mem_map_of_mem hq)
        split at this
        · rename_i o ho; exact ⟨o, ho, this⟩
        · cases this) hon hanc b d k cs ops.size tt (Array.replicate ops.size false) N t w (by simp) inv0 (by
        simp only [cnt]
        have := List.length_filter_le (fun i => !(Array.replicate ops.size false).getD i true) (List.range ops.size)
        simpa using this) hs
    have hES : ∀ x, eget (ES S' e0 T) x = eget e' x := fun x => by
      rw [ES_agree (S' := fun _ => true) (fun q hq => .inl (a1 q hq)), (tr_full hT).1]
    have hHS : HS S' ⟨st.h, st.nx + L.length⟩ T = st' := by
      rw [HS_agree (S' := fun _ => true) (fun q hq => .inl (a1 q hq)), (tr_full hT).2]
    have hsr := a2.sr
    have hgd := a2.gd
    have hnx := a2.nx
    rw [hHS] at hsr hgd hnx
    refine ⟨N', t', w', fun x => by rw [← hES]; exact a2.env x, a3, hsr, hgd, by simp only at hnx; omega, a2.old, ?_⟩
    simp only [Region.schedule, hmix, Bool.true_or, if_true]
    exact a4

end Go.Ev

/- The functions of a program: their numbers, their abstract bodies, and the check that these belong together. -/
namespace Go.Ev
open Go
set_option linter.unusedSimpArgs false
set_option linter.unusedVariables false

/-- Numbers by numbers. -/
inductive NT where
  | nil
  | node (l : NT) (k v : Nat) (r : NT)

def NT.get : NT → Nat → Nat
  | .nil, _ => 999999
  | .node l k v r, n => if n = k then v else if n < k then l.get n else r.get n

/-- Functions by numbers. -/
inductive FT where
  | nil
  | node (l : FT) (k : Nat) (v : MFun) (r : FT)

def FT.get : FT → Nat → Option MFun
  | .nil, _ => none
  | .node l k v r, n => if n = k then some v else if n < k then l.get n else r.get n

def FT.All (P : Nat → MFun → Prop) : FT → Prop
  | .nil => True
  | .node l k v r => l.All P ∧ P k v ∧ r.All P

theorem FT.get_all {P : Nat → MFun → Prop} : ∀ {t : FT} {n : Nat} {m : MFun}, t.All P → t.get n = some m → P n m
  | .nil, _, _, _, h => by cases h
  | .node l k v r, n, m, ⟨h1, h2, h3⟩, h => by
    simp only [FT.get] at h
    split at h
    · rename_i e; subst e; cases h; exact h2
    · split at h
      · exact FT.get_all h1 h
      · exact FT.get_all h3 h

def FnOK (X : Cx) (f : Nat) (mf : MFun) : Prop := ∃ fn c S, X.P.funcs[X.φ f]? = some fn ∧ fn.body = some c ∧ (fn.name == "runtime.NumGoroutine") = false ∧ S ≤ fn.ntmps ∧
  chkC chkD X S mf.body c = true ∧ chkRess X mf.results fn.results.toList = true

def fnChk (X : Cx) (mf : MFun) (fn : Func) : Bool :=
  match fn.body with
  | some c => !(fn.name == "runtime.NumGoroutine") && (chkC chkD X fn.ntmps mf.body c && chkRess X mf.results fn.results.toList)
  | none => false

theorem fnOK_of {X : Cx} {f i : Nat} {mf : MFun} {fn : Func} (hφ : X.φ f = i) (h : X.P.funcs[i]? = some fn) (hc : fnChk X mf fn = true) : FnOK X f mf := by
  unfold fnChk at hc
  split at hc
  · rename_i c hb
    simp only [bool_and, Bool.not_eq_true'] at hc
    exact ⟨fn, c, fn.ntmps, by rw [hφ]; exact h, hb, hc.1, Nat.le_refl _, hc.2.1, hc.2.2⟩
  · cases hc

theorem tabOK_of {X : Cx} {t : FT} {en : Nat → Option Entry} (h : t.All (FnOK X)) (he : ∀ f F, en f = some F → EntryOK chkD X f F) : TabOK chkD X ⟨t.get, en⟩ :=
  ⟨fun _ _ _ hf => FT.get_all h hf, he⟩

end Go.Ev

/- A law: its call, from the evaluator's word. -/
namespace Go.Ev
open Go Go.RowKit
set_option linter.unusedSimpArgs false
set_option linter.unusedVariables false

variable {X : Cx} {N N' N'' : Nu} {D : ChkD}

theorem exec_calls {ex : ExF} {T : Tab} (hx : CodeOK D X ex) (hT : TabOK D X T) {f : Nat} {mf : MFun} (hen : T.en f = none) (hmf : T.fn f = some mf) {args : List AV} {st st1 : St} {x : Ex} {e' : Env} {b : Bool}
    (hex : ex mf.body (argEnv 0 args) st = some (x, e', st1)) (hxr : x = .norm ∨ x = .ret) (hv : fresults st1.h e' mf.results = some (.bool b)) {w : World} {us : List Value} (hr : SR D X N st w)
    (ha : VRs X N args us) (hown : ∀ k, ¬ Own N st.h k) :
    Calls X.P (X.φ f) us.toArray w fun e w' => e = .returned (.bool b) ∧ Below w.heap.size w w' := by
  intro cs
  obtain ⟨fn, code, S, hf, hbody, hname, hS, hchk, hres⟩ := hT.fn f mf hen hmf
  let b0 : Frame := { (default : Frame) with fn := X.φ f, kind := .normal }
  let t0 : Array Value := us.toArray ++ Array.replicate (fn.ntmps - us.toArray.size) undef
  have henter : Frame.enter X.P (X.φ f) us.toArray .normal = Fr b0 t0 [] [.code code] := by
    simp [Frame.enter, Fr, hf, hbody, b0, t0]; rfl
  have hsize : S ≤ t0.size := by simp [t0]; omega
  obtain ⟨N1, t1, d1, w1, a1, a2, a3, a4, a5, a6, a7, _, a9⟩ := hx mf.body code S (argEnv 0 args) st x e' st1 hex hchk N b0 t0 [] [] cs w w.heap.size (EnvR.args ha _) hsize hr ⟨[], rfl, List.nodup_nil, by simp⟩ (Nat.le_refl _) (.inl rfl)
  have a9 := a9 _ rfl
  obtain ⟨rs, rfl, hrn, hrd⟩ := a7
  obtain ⟨todo, hret⟩ : ∃ todo, Steps X.P (lone (Fr b0 t0 [] [.code code]) cs w) (lone { Fr b0 t1 (rs.map fun r => { target := .collected r, args := #[] }) todo with mode := .returning } cs w1) := by
    rcases hxr with rfl | rfl
    · exact ⟨[], Steps.trans a9 (.one (fr_end rfl))⟩
    · obtain ⟨k2, M', hk2, hk3⟩ := a9
      exact ⟨_, Steps.trans hk2 (.one (hk3.trans (fr_ret rfl)))⟩
  obtain ⟨w2, b1, b2, b3, b4, b5, b6, b7⟩ := unwind_marks (b := b0) (t := t1) (todo := todo) (cs := cs) (B := w.heap.size) rs w1 a3.hr hrn hrd
  obtain ⟨u, r1, r2⟩ := results_sound b2 a1 hres hv
  cases r2
  refine ⟨.returned (.bool b), w2, { Fr b0 t1 [] todo with mode := .returning }, ⟨rfl, b5.trans a4.os, b4.trans a4.tape, b6.trans a4.output, by rw [b3]; exact a4.size, fun k hk => by rw [b7 k hk]; exact a4.frame k hk (hown k)⟩, ?_, rfl, rfl, rfl, rfl, fn, hf, r1⟩
  rw [henter]
  exact Steps.trans hret b1

end Go.Ev
