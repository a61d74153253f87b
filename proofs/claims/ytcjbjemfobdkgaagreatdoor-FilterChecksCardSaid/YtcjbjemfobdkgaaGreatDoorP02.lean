/- Reads do what the model's do. -/
import Derived.Test.YtcjbjemfobdkgaaGreatDoorP01
import Derived.Lib.Builder
import Derived.Laws.BytesString
import Derived.Lib.UnsafeStr
import Derived.RangeFuncRecord
namespace Go.Ev
open Go

variable {X : Cx} {N N' : Nu} {D : ChkD}

theorem run_loadCells_at {a : Addr} {off : Nat} {us : List Value} {w : World} {P : Program} (h : ∀ (j : Nat) (u : Value), us[j]? = some u → w.cell? ⟨a.block, a.off + (off + j), none⟩ = some u) :
    (loadCells ⟨a.block, a.off + off, none⟩ us.length).run P w = .ok us.toArray w :=
  run_loadCells_list w _ us fun j v hj => by rw [add_plain, Nat.add_assoc]; exact h j v hj

theorem toBytes_sound (f : Value → ByteArray → Sem (ForInStep ByteArray)) (hf : ∀ n s, f (.int .u8 n) s = pure (ForInStep.yield (s.push (UInt8.ofNat n.toNat)))) :
    ∀ {cs : List AV} {us : List Value} {l : List UInt8}, VRs X N cs us → toBytes cs = some l →
    ∀ (acc : ByteArray) (w : World), (forIn (m := Sem) us acc f).run X.P w = .ok ⟨acc.data ++ l.toArray⟩ w
  | [], us, l, h, hl, acc, w => by
    simp only [VRs] at h; subst h; cases hl
    simp
  | c :: cs, us, l, h, hl, acc, w => by
    obtain ⟨u, ur, rfl, h1, h2⟩ := h
    unfold toBytes at hl
    split at hl
    · cases ‹c :: cs = []›
    · rename_i n r heq
      cases heq
      simp only [VR] at h1; subst h1
      split at hl
      · rename_i l' hl'
        cases hl
        have ih := toBytes_sound f hf h2 hl' (acc.push (UInt8.ofNat n.toNat)) w
        simp only [List.forIn_cons, hf, pure_bind] at ih ⊢
        rw [ih]
        congr 1
        apply ByteArray.ext
        simp [ByteArray.data_push]
      · cases hl
    · cases hl

theorem EntsR.length : ∀ {es : List (AV × AV)} {ms : List MapEntry}, EntsR X N es ms → es.length = ms.length
  | [], ms, h => by simp only [EntsR] at h; subst h; rfl
  | (_, _) :: es, ms, h => by
    obtain ⟨e, er, rfl, _, _, h⟩ := h
    simp [EntsR.length h]

theorem cellEqK_now {kk : Kd} {k a : AV} {u v : Value} {b : Bool} {d : TypeDesc} {t : TypeId} (ht : kdTy X t kk = true) (hd : X.P.underlying t = some d)
    (hk : VR X N k u) (ha : VR X N a v) (h : cellEqK kk k a = some b) : Instr.sameNow d u v = some b := by
  unfold kdTy at ht
  rw [hd] at ht
  unfold cellEqK at h
  split at h <;> first | (cases h; done) | skip
  · simp only [VR] at hk ha; subst hk; subst ha
    cases d <;> first | (cases ht; done) | skip
    cases h; rfl
  · simp only [VR] at hk ha; subst hk; subst ha
    cases d <;> first | (cases ht; done) | skip
    split at h
    · rename_i hkk
      obtain ⟨rfl, rfl⟩ := hkk
      cases h
      simp [Instr.sameNow]
      rw [Bool.eq_iff_iff]; simp
    · cases h
  · simp only [VR] at hk ha; subst hk; subst ha
    cases d <;> first | (cases ht; done) | skip
    cases h
    simp only [Instr.sameNow, Option.some.injEq]
    rename_i x y
    show (x.toArray == y.toArray) = seq8 x y
    rw [Bool.eq_iff_iff, seq8_iff, beq_iff_eq]
    exact ⟨fun e => by simpa using e, fun e => by rw [e]⟩

theorem mfind_now {kk : Kd} {k : AV} {u : Value} {d : TypeDesc} {t : TypeId} (ht : kdTy X t kk = true) (hd : X.P.underlying t = some d) (hk : VR X N k u) :
    ∀ {es : List (AV × AV)} {ms : List MapEntry} {r : Option AV} (i : Nat), EntsR X N es ms → mfind kk k es = some r →
      ∃ q, Instr.findNow d u ms i = some q ∧ (match r, q with | none, none => True | some v, some (_, x) => VR X N v x | _, _ => False)
  | [], ms, r, i, h, hr => by
    simp only [EntsR] at h; subst h; cases hr
    exact ⟨none, rfl, trivial⟩
  | (a, v) :: es, ms, r, i, h, hr => by
    obtain ⟨e, er, rfl, h1, h2, h3⟩ := h
    simp only [mfind] at hr
    split at hr
    · rename_i hc
      cases hr
      exact ⟨some (i, e.val), by simp [Instr.findNow, cellEqK_now ht hd hk h1 hc], h2⟩
    · rename_i hc
      obtain ⟨q, hq, hm⟩ := mfind_now ht hd hk (i + 1) h3 hr
      exact ⟨q, by simp [Instr.findNow, cellEqK_now ht hd hk h1 hc, hq], hm⟩
    · cases hr

theorem checkKey_plain {kk : Kd} {t : TypeId} (ht : kdTy X t kk = true) (e : Bool) (u : Value) (n : Nat) (w : World) : (Instr.checkKey e (n + 1) t u).run X.P w = .ok () w := by
  unfold kdTy at ht
  split at ht <;> first | (cases ht; done) | skip
  all_goals
    rename_i hd
    cases u <;> simp [Instr.checkKey, run_underlying hd]

theorem byteSlice_parts {t : TypeId} (h : isByteSlice X t = true) : ∃ e, X.P.underlying t = some (.slice e) ∧ X.P.underlying e = some (.int .u8) := by
  unfold isByteSlice at h
  split at h
  · rename_i e he
    split at h
    · rename_i h2; exact ⟨e, he, h2⟩
    · cases h
  · cases h

theorem string_part {t : TypeId} (h : isString X t = true) : X.P.underlying t = some .string := by
  unfold isString at h
  split at h
  · assumption
  · cases h

theorem zeroV_sound {t : TypeId} {z : AV} (h : zeroV X t z = true) (w : World) : ∃ u, (zeroValue t).run X.P w = .ok u w ∧ VR X N z u := by
  unfold zeroV at h
  split at h
  · rename_i i hi
    split at h
    · rename_i v hv
      exact ⟨v, by simp [zeroValue, typeInfo, hi, hv], chkV_VR _ _ h⟩
    · cases h
  · cases h

theorem RO_sound {o : Oper} {m : RO} {v : AV} {ev : AO → AV} {r : Operand → Value} {h : Heap} {w : World} (hc : chkR X o.op m = true) (he : Evs X N ev r) (hr : HR D X N h w)
    (hv : RO.run ev h m = some v) : ∃ u, (execOp r o).run X.P w = .ok (.value u) w ∧ VR X N v u := by
  unfold chkR at hc
  split at hc <;> (first | (cases hc; done) | skip) <;> rename_i hop <;> simp only [bool_and, beq_iff_eq] at hc
  · -- load
    rename_i t x sz a
    obtain ⟨hz, hx⟩ := hc
    have h1 := he _ _ hx
    cases sz with
    | none =>
      simp only [RO.run] at hv
      split at hv
      · rename_i n off hn
        rw [hn] at h1
        obtain ⟨ad, hρ, h1⟩ := h1
        obtain ⟨ad', u, h2, h3, h4⟩ := rdCell_sound hr hv
        rw [hρ] at h2; cases h2
        refine ⟨u, ?_, h3⟩
        simp [execOp, hop, h1, Instr.loadAt, Instr.sureAddr, loadVar, run_isAgg_none hz, h4]
      · cases hv
    | some k =>
      simp only [RO.run] at hv
      split at hv
      · rename_i n off hn
        rw [hn] at h1
        obtain ⟨ad, hρ, h1⟩ := h1
        simp only [Option.map_eq_some_iff] at hv
        obtain ⟨cs, hcs, rfl⟩ := hv
        obtain ⟨ad', us, h2, h3, h4, h5⟩ := rdCells_sound hr hcs
        rw [hρ] at h2; cases h2
        obtain ⟨z1, z2⟩ := run_isAgg_some hz w
        have hl := run_loadCells_at (P := X.P) h5
        refine ⟨.agg us.toArray, ?_, us.toArray, rfl, h3⟩
        simp [execOp, hop, h1, Instr.loadAt, Instr.sureAddr, loadVar, z1, z2, ← h4, hl]
      · cases hv
  · -- bytes to a string
    rename_i s d x a
    obtain ⟨hs, hd, hx⟩ := hc
    have h1 := he _ _ hx
    obtain ⟨e, he1, he2⟩ := byteSlice_parts hs
    have hd := string_part hd
    have hcall : ∀ u, (Conv.bytesToString (r x)).run X.P w = .ok u w → (∀ q, r x ≠ .string q) → (∀ k q, r x ≠ .int k q) → (execOp r o).run X.P w = .ok (.value u) w := by
      intro u hu hn1 hn2
      have : (convert s d (r x)).run X.P w = .ok u w := by
        simp only [convert, Sem.run_bind, run_underlying he1, run_underlying hd, Result.andThen_ok]
        cases hrx : r x <;> first | (exact absurd hrx (hn1 _)) | (exact absurd hrx (hn2 _ _)) | (rw [hrx] at hu; simp [run_underlying he2, hu])
      simp [execOp, hop, this]
    simp only [RO.run] at hv
    split at hv
    · rename_i hn
      cases hv
      rw [hn] at h1; simp only [VR] at h1
      refine ⟨.string .empty, hcall _ ?_ (by rw [h1]; simp) (by rw [h1]; simp), ?_⟩
      · rw [h1]; rfl
      · simp only [VR]; rfl
    · rename_i n off ln c hn
      split at hv
      · rename_i cs hcs
        simp only [Option.map_eq_some_iff] at hv
        obtain ⟨l, hl, rfl⟩ := hv
        rw [hn] at h1
        obtain ⟨ad, cp, hρ, h1, _⟩ := h1
        obtain ⟨ad', us, h2, h3, h4, h5⟩ := rdCells_sound hr hcs
        rw [hρ] at h2; cases h2
        have hlo := run_loadCells_at (P := X.P) h5
        refine ⟨.string ⟨l.toArray⟩, hcall _ ?_ (by rw [h1]; simp) (by rw [h1]; simp), by simp [VR]⟩
        have hb := fun f hf => toBytes_sound (X := X) (N := N) f hf h3 hl ByteArray.empty w
        rw [h1]
        simp only [Conv.bytesToString, ← h4, Sem.run_bind, hlo, Result.andThen_ok]
        simp only [List.forIn_toArray]
        rw [hb _ (fun n s => rfl)]
        simp
      · cases hv
    · cases hv
  · -- lookup
    rename_i t m k ok kk z ok' m' k'
    obtain ⟨ht, rfl, hm, hk⟩ := hc
    split at ht
    · rename_i kt e hd
      simp only [bool_and] at ht
      obtain ⟨hkt, hz⟩ := ht
      obtain ⟨z', hz1, hz2⟩ := zeroV_sound (N := N) hz w
      have h1 := he _ _ hm
      have h2 := he _ _ hk
      have hck := fun e => checkKey_plain hkt e (r k) 9999 w
      simp only [RO.run] at hv
      obtain ⟨dk, hdk⟩ : ∃ dk, X.P.underlying kt = some dk := by
        unfold kdTy at hkt
        split at hkt <;> first | exact ⟨_, ‹_›⟩ | cases hkt
      split at hv
      · rename_i hn
        split at hv
        · rw [hn] at h1; simp only [VR] at h1
          cases hv
          cases ok
          · refine ⟨z', ?_, by simpa using hz2⟩
            simp [execOp, hop, Instr.lookup, run_underlying hd, h1, hck, Instr.findKey, run_underlying hdk, Instr.findNow, hz1]
          · refine ⟨.tuple #[z', .bool false], ?_, by simp only [if_true]; exact ⟨_, rfl, z', _, rfl, hz2, _, _, rfl, rfl, rfl⟩⟩
            simp [execOp, hop, Instr.lookup, run_underlying hd, h1, hck, Instr.findKey, run_underlying hdk, Instr.findNow, hz1]
        · cases hv
      · rename_i n hn
        rw [hn] at h1
        obtain ⟨ad, hρ, h1⟩ := h1
        split at hv
        · rename_i es hg
          split at hv
          · obtain ⟨b, mes, clk, hb1, hb2, hb3, _⟩ := hr.objs _ _ hg
            rw [hρ] at hb1
            cases hb1
            have hgo : (getObj b).run X.P w = .ok (.map mes clk) w := by simp [getObj, Sem.run, hb2]
            split at hv
            · rename_i x hf
              cases hv
              obtain ⟨q, hq1, hq2⟩ := mfind_now hkt hdk h2 0 hb3 hf
              cases q with
              | none => exact hq2.elim
              | some q =>
                obtain ⟨qi, qv⟩ := q
                simp only at hq2
                cases ok
                · refine ⟨qv, ?_, by simpa using hq2⟩
                  simp [execOp, hop, Instr.lookup, run_underlying hd, h1, hck, Instr.findKey, run_underlying hdk, hgo, hq1]
                · refine ⟨.tuple #[qv, .bool true], ?_, by simp only [if_true]; exact ⟨_, rfl, qv, _, rfl, hq2, _, _, rfl, rfl, rfl⟩⟩
                  simp [execOp, hop, Instr.lookup, run_underlying hd, h1, hck, Instr.findKey, run_underlying hdk, hgo, hq1]
            · rename_i hf
              cases hv
              obtain ⟨q, hq1, hq2⟩ := mfind_now hkt hdk h2 0 hb3 hf
              cases q with
              | some q => exact hq2.elim
              | none =>
                cases ok
                · refine ⟨z', ?_, by simpa using hz2⟩
                  simp [execOp, hop, Instr.lookup, run_underlying hd, h1, hck, Instr.findKey, run_underlying hdk, hgo, hq1, hz1]
                · refine ⟨.tuple #[z', .bool false], ?_, by simp only [if_true]; exact ⟨_, rfl, z', _, rfl, hz2, _, _, rfl, rfl, rfl⟩⟩
                  simp [execOp, hop, Instr.lookup, run_underlying hd, h1, hck, Instr.findKey, run_underlying hdk, hgo, hq1, hz1]
            · cases hv
          · cases hv
        · cases hv
      · cases hv
    · cases ht
  · -- len of a map
    rename_i args argTypes a
    obtain ⟨ht, hx⟩ := hc
    split at ht
    · rename_i t hat
      split at hx
      · rename_i x hal
        have harg : args = #[x] := by rw [← Array.toList_inj, hal]
        have h1 := he _ _ hx
        have hcall : ∀ u, (Builtin.len_ argTypes o.type #[r x]).run X.P w = .ok u w → (execOp r o).run X.P w = .ok (.value u) w := by
          intro u hu
          simp [execOp, hop, resolve, invoke, builtin, harg, hu]
        split at ht
        · rename_i kt e hd
          simp only [RO.run] at hv
          split at hv
          · rename_i hn
            cases hv
            rw [hn] at h1; simp only [VR] at h1
            refine ⟨.int .i64 0, hcall _ ?_, by simp [VR]⟩
            simp [Builtin.len_, hat, h1, run_underlying hd, goInt]
          · rename_i n hn
            rw [hn] at h1
            obtain ⟨ad, hρ, h1⟩ := h1
            split at hv
            · rename_i es hg
              cases hv
              obtain ⟨b, mes, clk, hb1, hb2, hb3, _⟩ := hr.objs _ _ hg
              rw [hρ] at hb1
              cases hb1
              have hgo : (getObj b).run X.P w = .ok (.map mes clk) w := by simp [getObj, Sem.run, hb2]
              have hl := hb3.length
              simp only [Array.length_toList] at hl
              refine ⟨.int .i64 mes.size, hcall _ ?_, by simp [VR, hl]⟩
              simp [Builtin.len_, hat, h1, run_underlying hd, goInt, hgo]
            · cases hv
          · cases hv
        · cases ht
      · cases hx
    · cases ht
  · -- to unsafe.Pointer
    rename_i s d x a
    obtain ⟨h1, h2, h3⟩ := hc
    split at h1
    case h_2 => cases h1
    rename_i t hs
    split at h1
    case h_2 => cases h1
    rename_i j hj
    have hj0 : j.size ≠ 0 := by simpa using h1
    split at h2
    case h_2 => cases h2
    rename_i hd
    have hx := he _ _ h3
    simp only [RO.run] at hv
    split at hv
    case h_2 => cases hv
    rename_i n off hn
    split at hv
    case h_2 => cases hv
    rename_i ty l cs hg
    split at hv
    case isFalse => cases hv
    rename_i hlt
    cases hv
    rw [hn] at hx
    obtain ⟨ad, hρ, hx⟩ := hx
    obtain ⟨b, us, fz, hb1, hb2, hb3, _⟩ := hr.objs _ _ hg
    rw [hρ] at hb1
    cases hb1
    have hlen := hb3.length
    refine ⟨_, ?_, ⟨b, 0, none⟩, hρ, rfl⟩
    have hsh : w.shape? b = some (X.τ ty, us.size) := by simp [World.shape?, hb2]
    have := Lib.run_to_unsafe (P := X.P) w ⟨b, 0 + off, none⟩ hs hd hj hj0 hsh (by simp at hlen ⊢; omega)
    simp only [execOp, hop, hx]
    rw [Sem.run_bind, this]
    rfl
  · -- from unsafe.Pointer
    rename_i s d x ty z a
    obtain ⟨h1, h2, h3, h4, h5⟩ := hc
    split at h1
    case h_2 => cases h1
    rename_i hs
    split at h2
    case h_2 => cases h2
    rename_i t hd
    simp only [beq_iff_eq] at h2
    subst h2
    obtain ⟨j, hj⟩ := Option.isSome_iff_exists.1 h3
    have hx := he _ _ h5
    simp only [RO.run] at hv
    split at hv
    case h_2 => cases hv
    rename_i n off hn
    split at hv
    case h_2 => cases hv
    rename_i ty' l cs hg
    split at hv
    case isFalse => cases hv
    rename_i hlt
    obtain ⟨rfl, rfl, rfl⟩ := hlt
    cases hv
    rw [hn] at hx
    obtain ⟨ad, hρ, hx⟩ := hx
    obtain ⟨b, us, fz, hb1, hb2, hb3, _⟩ := hr.objs _ _ hg
    rw [hρ] at hb1
    cases hb1
    have hlen := hb3.length
    refine ⟨_, ?_, ⟨b, 0, none⟩, hρ, rfl⟩
    have hsh : w.shape? b = some (X.τ ty', cs.length) := by
      simp only [Array.length_toList] at hlen
      simp [World.shape?, hb2, hlen]
    have := Lib.run_from_unsafe (P := X.P) w ⟨b, 0, none⟩ hs hd hj hsh h4
    simp only [execOp, hop, hx]
    rw [Sem.run_bind, this]
    rfl

end Go.Ev

/- How the relation between heaps is kept: a new block, a write into a row of cells, a write into a map. -/
namespace Go.Ev
open Go

variable {X : Cx} {N N' N'' : Nu} {D : ChkD}

/-- What a step leaves alone, and what it makes. -/
structure Gd (N : Nu) (h : Heap) (w : World) (N' : Nu) (h' : Heap) (w' : World) : Prop where
  le : N.Le N'
  size : w.heap.size ≤ w'.heap.size
  tape : w'.tape = w.tape
  os : w'.os = w.os
  output : w'.output = w.output
  frame : ∀ b, b < w.heap.size → ¬ Own N h b → w'.heap[b]? = w.heap[b]?
  has : ∀ n o a, hget h' n = some o → N'.ρ n = some a → (∃ m p c, hget h m = some p ∧ N.ρ m = some c ∧ c.block = a.block ∧ (o.own = true → p.own = true)) ∨ w.heap.size ≤ a.block

theorem Gd.own {h h' : Heap} {w w' : World} (g : Gd N h w N' h' w') {b : Nat} (hb : Own N' h' b) : Own N h b ∨ w.heap.size ≤ b := by
  obtain ⟨n, o, a, h1, h2, h3, rfl⟩ := hb
  rcases g.has n o a h1 h3 with ⟨m, p, c, k1, k2, k3, k4⟩ | h
  · exact .inl ⟨m, p, c, k1, k4 h2, k2, k3⟩
  · exact .inr h

theorem Gd.refl (N : Nu) (h : Heap) (w : World) : Gd N h w N h w :=
  ⟨.refl N, Nat.le_refl _, rfl, rfl, rfl, fun _ _ _ => rfl, fun n o a h1 h2 => .inl ⟨n, o, a, h1, h2, rfl, id⟩⟩

theorem Gd.trans {h h' h'' : Heap} {w w' w'' : World} (a : Gd N h w N' h' w') (b : Gd N' h' w' N'' h'' w'') : Gd N h w N'' h'' w'' := by
  refine ⟨a.le.trans b.le, Nat.le_trans a.size b.size, b.tape.trans a.tape, b.os.trans a.os, b.output.trans a.output, fun k hk hn => ?_, fun n o c h1 h2 => ?_⟩
  · rw [b.frame k (Nat.lt_of_lt_of_le hk a.size) (fun ho => (a.own ho).elim hn (fun h => by omega)), a.frame k hk hn]
  · rcases b.has n o c h1 h2 with ⟨m, p, d, k1, k2, k3, k4⟩ | h
    · rcases a.has m p d k1 k2 with ⟨m', p', d', l1, l2, l3, l4⟩ | h
      · exact .inl ⟨m', p', d', l1, l2, l3.trans k3, fun x => l4 (k4 x)⟩
      · rw [k3] at h; exact .inr h
    · exact .inr (Nat.le_trans a.size h)

theorem hget_hset : ∀ {h : Heap} {n m : Nat} {o p : AObj}, hget h n = some p → hget (hset h n o) m = if n = m then some o else hget h m
  | [], n, m, o, p, hp => by cases hp
  | (k, q) :: h, n, m, o, p, hp => by
    simp only [hget] at hp
    simp only [hset]
    by_cases e : k = n
    · subst e
      rw [if_pos rfl]
      simp only [hget]
      by_cases e2 : k = m
      · rw [if_pos e2, if_pos e2]
      · rw [if_neg e2, if_neg e2, if_neg e2]
    · rw [if_neg e] at hp ⊢
      simp only [hget]
      by_cases e2 : k = m
      · subst e2
        rw [if_pos rfl, if_pos rfl, if_neg (fun x => e x.symm)]
      · rw [if_neg e2, if_neg e2, hget_hset hp]

theorem hget_hdel : ∀ {h : Heap} {n m : Nat}, hget (hdel h n) m = if n = m then none else hget h m
  | [], n, m => by simp [hdel, hget]
  | (k, q) :: h, n, m => by
    simp only [hdel]
    by_cases e : k = n
    · subst e
      rw [if_pos rfl, hget_hdel]
      simp only [hget]
      by_cases e2 : k = m
      · rw [if_pos e2, if_pos e2]
      · rw [if_neg e2, if_neg e2, if_neg e2]
    · rw [if_neg e]
      simp only [hget]
      by_cases e2 : k = m
      · subst e2
        rw [if_pos rfl, if_pos rfl, if_neg (fun x => e x.symm)]
      · rw [if_neg e2, if_neg e2, hget_hdel]

theorem EnvR.mono (hl : N.Le N') {e : Env} {tmps : Array Value} (h : EnvR X N e tmps) : EnvR X N' e tmps := fun t => (h t).mono hl _

theorem EntsR.mono (hl : N.Le N') : ∀ {es : List (AV × AV)} {ms : List MapEntry}, EntsR X N es ms → EntsR X N' es ms
  | [], _, h => h
  | (_, _) :: _, _, ⟨e, er, h0, h1, h2, h3⟩ => ⟨e, er, h0, h1.mono hl _, h2.mono hl _, h3.mono hl⟩

theorem ObjR.keep {w w' : World} {n : Nat} {o : AObj} (hl : N.Le N') (_hs : w.heap.size ≤ w'.heap.size) (hb : ∀ a, N.ρ n = some a → w'.heap[a.block]? = w.heap[a.block]?)
    (h : ObjR D X N w n o) : ObjR D X N' w' n o := by
  cases o with
  | cells ty l cs =>
    obtain ⟨b, us, fz, h1, h2, h3, h4⟩ := h
    exact ⟨b, us, fz, (hl _ _ h1).1, by rw [hb _ h1]; exact h2, h3.mono hl _, h4⟩
  | buf ty es cs =>
    obtain ⟨b, us, fz, h1, h2, h3, h4, h5, h6⟩ := h
    exact ⟨b, us, fz, (hl _ _ h1).1, by rw [hb _ h1]; exact h2, by rw [(hl _ _ h1).2]; exact h3, h4, h5.mono hl _, h6⟩
  | ro cs =>
    obtain ⟨a, h1, h2, h3⟩ := h
    refine ⟨a, (hl _ _ h1).1, by rw [hb _ h1]; exact h2, fun i x hx => ?_⟩
    obtain ⟨u, hu, hv⟩ := h3 i x hx
    refine ⟨u, ?_, hv.mono hl _⟩
    simp only [World.cell?, hb _ h1]
    exact hu
  | map es =>
    obtain ⟨b, mes, clk, h1, h2, h3, h4⟩ := h
    exact ⟨b, mes, clk, (hl _ _ h1).1, by rw [hb _ h1]; exact h2, h3.mono hl, h4⟩
  | glob g cs =>
    obtain ⟨us, t, fz, h1, h2, h3⟩ := h
    exact ⟨us, t, fz, (hl _ _ h1).1, by rw [hb _ h1]; exact h2, h3.mono hl _⟩
  | iter s pos =>
    obtain ⟨b, h1, h2⟩ := h
    exact ⟨b, (hl _ _ h1).1, by rw [hb _ h1]; exact h2⟩
  | loop st env ps assign body =>
    obtain ⟨b, l, S, h1, h2, h3, h4, h5⟩ := h
    exact ⟨b, l, S, (hl _ _ h1).1, by rw [hb _ h1]; exact h2, h3, h4.mono hl, h5⟩

theorem lt_of_get {w : World} {b : Nat} {o : Obj} (h : w.heap[b]? = some o) : b < w.heap.size := (Array.getElem?_eq_some_iff.1 h).1

theorem ObjR.lt {w : World} {n : Nat} {o : AObj} (h : ObjR D X N w n o) {a : Addr} (ha : N.ρ n = some a) : a.block < w.heap.size := by
  cases o with
  | cells ty l cs => obtain ⟨b, us, fz, h1, h2, _⟩ := h; rw [h1] at ha; cases ha; exact lt_of_get h2
  | buf ty es cs => obtain ⟨b, us, fz, h1, h2, _⟩ := h; rw [h1] at ha; cases ha; exact lt_of_get h2
  | ro cs => obtain ⟨b, h1, ⟨us, t, fz, h2⟩, _⟩ := h; rw [h1] at ha; cases ha; exact lt_of_get h2
  | map es => obtain ⟨b, mes, clk, h1, h2, _⟩ := h; rw [h1] at ha; cases ha; exact lt_of_get h2
  | glob g cs => obtain ⟨us, t, fz, h1, h2, _⟩ := h; rw [h1] at ha; cases ha; exact lt_of_get h2
  | iter s pos => obtain ⟨b, h1, h2⟩ := h; rw [h1] at ha; cases ha; exact lt_of_get h2
  | loop st env ps assign body => obtain ⟨b, l, S, h1, h2, _⟩ := h; rw [h1] at ha; cases ha; exact lt_of_get h2

/-- One name more. -/
def Nu.add (N : Nu) (n : Nat) (a : Addr) (k : Nat) : Nu := ⟨fun m => if m = n then some a else N.ρ m, fun m => if m = n then k else N.κ m⟩

theorem Nu.le_add {n : Nat} {a : Addr} {k : Nat} (h : N.ρ n = none) : N.Le (N.add n a k) := by
  intro m b hb
  have : m ≠ n := by rintro rfl; rw [h] at hb; cases hb
  simp [Nu.add, this, hb]

theorem heap_push_lt (w : World) (o : Obj) {k : Nat} (h : k < w.heap.size) : (w.heap.push o)[k]? = w.heap[k]? := by
  rw [Array.getElem?_push, if_neg (by omega)]

/-- A new block. -/
theorem HR.new {h : Heap} {w : World} (hr : HR D X N h w) {n k : Nat} {obj : Obj} {o : AObj} (hn : N.ρ n = none)
    (ho : ObjR D X (N.add n ⟨w.heap.size, 0, none⟩ k) { w with heap := w.heap.push obj } n o) :
    HR D X (N.add n ⟨w.heap.size, 0, none⟩ k) ((n, o) :: h) { w with heap := w.heap.push obj } ∧
      Gd N h w (N.add n ⟨w.heap.size, 0, none⟩ k) ((n, o) :: h) { w with heap := w.heap.push obj } := by
  have hle : N.Le (N.add n ⟨w.heap.size, 0, none⟩ k) := Nu.le_add hn
  have hnew : (N.add n ⟨w.heap.size, 0, none⟩ k).ρ n = some ⟨w.heap.size, 0, none⟩ := by simp [Nu.add]
  have hold : ∀ m, m ≠ n → (N.add n ⟨w.heap.size, 0, none⟩ k).ρ m = N.ρ m := fun m hm => by simp [Nu.add, hm]
  have hkeep : ∀ m p, hget h m = some p → ∃ a, N.ρ m = some a ∧ a.block < w.heap.size ∧ m ≠ n := by
    intro m p hp
    have := hr.objs m p hp
    obtain ⟨a, ha⟩ : ∃ a, N.ρ m = some a := by
      cases p with
      | cells ty l cs => obtain ⟨b, us, fz, h1, _⟩ := this; exact ⟨_, h1⟩
      | buf ty es cs => obtain ⟨b, us, fz, h1, _⟩ := this; exact ⟨_, h1⟩
      | ro cs => obtain ⟨a, h1, _⟩ := this; exact ⟨_, h1⟩
      | map es => obtain ⟨b, mes, clk, h1, _⟩ := this; exact ⟨_, h1⟩
      | glob g cs => obtain ⟨us, t, fz, h1, _⟩ := this; exact ⟨_, h1⟩
      | iter s pos => obtain ⟨b, h1, _⟩ := this; exact ⟨_, h1⟩
      | loop st env ps assign body => obtain ⟨b, l, S, h1, _⟩ := this; exact ⟨_, h1⟩
    exact ⟨a, ha, this.lt ha, by rintro rfl; rw [hn] at ha; cases ha⟩
  refine ⟨⟨fun m p hp => ?_, fun m m' p q a c hp hq hpo ha hc hac => ?_⟩, ⟨hle, by simp, rfl, rfl, rfl, fun b hb _ => heap_push_lt w obj hb, fun m p a hp ha => ?_⟩⟩
  · simp only [hget] at hp
    split at hp
    · rename_i e; subst e; cases hp; exact ho
    · exact (hr.objs m p hp).keep hle (by simp) (fun a ha => heap_push_lt w obj ((hr.objs m p hp).lt ha))
  · simp only [hget] at hp hq
    split at hp
    · rename_i e; subst e
      split at hq
      · assumption
      · exfalso
        obtain ⟨a', ha', hlt, hne⟩ := hkeep _ _ hq
        rw [hnew] at ha
        rw [hold _ hne, ha'] at hc
        cases ha; cases hc
        simp only at hac
        omega
    · split at hq
      · rename_i e; subst e
        exfalso
        obtain ⟨a', ha', hlt, hne⟩ := hkeep _ _ hp
        rw [hnew] at hc
        rw [hold _ hne, ha'] at ha
        cases ha; cases hc
        simp only at hac
        omega
      · obtain ⟨a', ha', _, hne⟩ := hkeep _ _ hp
        obtain ⟨c', hc', _, hne'⟩ := hkeep _ _ hq
        rw [hold _ hne] at ha
        rw [hold _ hne'] at hc
        exact hr.sep _ _ _ _ _ _ hp hq hpo ha hc hac
  · simp only [hget] at hp
    split at hp
    · rename_i e; subst e
      rw [hnew] at ha; cases ha
      exact .inr (Nat.le_refl _)
    · obtain ⟨a', ha', _, hne⟩ := hkeep _ _ hp
      rw [hold _ hne] at ha
      exact .inl ⟨m, p, a, hp, ha, rfl, id⟩

/-- A block of the heap's own turns into another. -/
theorem HR.put {h : Heap} {w w' : World} (hr : HR D X N h w) {n b : Nat} {o p : AObj} (hg : hget h n = some p) (hp : p.own = true) (hρ : N.ρ n = some ⟨b, 0, none⟩)
    (hs : w'.heap.size = w.heap.size) (ht : w'.tape = w.tape) (hos : w'.os = w.os) (hou : w'.output = w.output) (hb : ∀ k, k ≠ b → w'.heap[k]? = w.heap[k]?) (ho : ObjR D X N w' n o) :
    HR D X N (hset h n o) w' ∧ Gd N h w N (hset h n o) w' := by
  refine ⟨⟨fun m q hq => ?_, fun m m' q q' a c h1 h2 h3 h4 h5 h6 => ?_⟩, ⟨.refl N, by omega, ht, hos, hou, fun k hk hn => hb k ?_, fun m q a hq ha => ?_⟩⟩
  · rw [hget_hset hg] at hq
    split at hq
    · rename_i e; subst e; cases hq; exact ho
    · rename_i hne
      refine (hr.objs m q hq).keep (.refl N) (by omega) (fun a ha => hb _ ?_)
      intro e
      exact hne (hr.sep n m p q _ a hg hq hp hρ ha (by simpa using e.symm))
  · rw [hget_hset hg] at h1 h2
    have e1 : ∃ q1, hget h m = some q1 ∧ q1.own = true := by
      split at h1
      · rename_i e; subst e; exact ⟨p, hg, hp⟩
      · exact ⟨q, h1, h3⟩
    have e2 : ∃ q2, hget h m' = some q2 := by
      split at h2
      · rename_i e; subst e; exact ⟨p, hg⟩
      · exact ⟨q', h2⟩
    obtain ⟨q1, g1, o1⟩ := e1
    obtain ⟨q2, g2⟩ := e2
    exact hr.sep _ _ _ _ _ _ g1 g2 o1 h4 h5 h6
  · rintro rfl
    exact hn ⟨n, p, _, hg, hp, hρ, rfl⟩
  · rw [hget_hset hg] at hq
    split at hq
    · rename_i e; subst e; exact .inl ⟨n, p, a, hg, ha, rfl, fun _ => hp⟩
    · exact .inl ⟨m, q, a, hq, ha, rfl, id⟩

/-- A block of the heap's own is given up: whatever becomes of it. -/
theorem HR.kill {h : Heap} {w w' : World} (hr : HR D X N h w) {n b : Nat} {p : AObj} (hg : hget h n = some p) (hp : p.own = true) (hρ : N.ρ n = some ⟨b, 0, none⟩)
    (hs : w'.heap.size = w.heap.size) (ht : w'.tape = w.tape) (hos : w'.os = w.os) (hou : w'.output = w.output) (hb : ∀ k, k ≠ b → w'.heap[k]? = w.heap[k]?) :
    HR D X N (hdel h n) w' ∧ Gd N h w N (hdel h n) w' := by
  have hdl : ∀ m q, hget (hdel h n) m = some q → n ≠ m ∧ hget h m = some q := fun m q hq => by
    rw [hget_hdel] at hq
    split at hq
    · cases hq
    · rename_i e; exact ⟨e, hq⟩
  refine ⟨⟨fun m q hq => ?_, fun m m' q q' a c h1 h2 h3 h4 h5 h6 => hr.sep _ _ _ _ _ _ (hdl _ _ h1).2 (hdl _ _ h2).2 h3 h4 h5 h6⟩, ⟨.refl N, by omega, ht, hos, hou, fun k hk hn => hb k ?_, fun m q a hq ha => ?_⟩⟩
  · obtain ⟨hne, hq⟩ := hdl _ _ hq
    refine (hr.objs m q hq).keep (.refl N) (by omega) (fun a ha => hb _ ?_)
    intro e
    exact hne (hr.sep n m p q _ a hg hq hp hρ ha (by simpa using e.symm))
  · rintro rfl
    exact hn ⟨n, p, _, hg, hp, hρ, rfl⟩
  · exact .inl ⟨m, q, a, (hdl _ _ hq).2, ha, rfl, id⟩

/-- Less is known. -/
theorem HR.weaken {h h' : Heap} {w : World} (hr : HR D X N h w) (hs : ∀ n o, hget h' n = some o → hget h n = some o) : HR D X N h' w :=
  ⟨fun n o ho => hr.objs n o (hs n o ho), fun n m o p a c h1 h2 h3 h4 h5 h6 => hr.sep n m o p a c (hs _ _ h1) (hs _ _ h2) h3 h4 h5 h6⟩

theorem Own.weaken {h h' : Heap} (hs : ∀ n o, hget h' n = some o → hget h n = some o) {b : Nat} (ho : Own N h' b) : Own N h b := by
  obtain ⟨n, o, a, h1, h2, h3, h4⟩ := ho
  exact ⟨n, o, a, hs _ _ h1, h2, h3, h4⟩

end Go.Ev

/- New blocks, stores, appends, copies, writes into maps do what the model's do. -/
namespace Go.Ev
open Go

variable {X : Cx} {N N' N'' : Nu} {D : ChkD}

def putC (w : World) (b : Nat) (us : Array Value) (t : TypeId) (fz : Nat × Nat) : World := { w with heap := w.heap.setIfInBounds b (.cells us t fz) }

theorem setCell_putC {w : World} {b i : Nat} {us : Array Value} {t : TypeId} {fz : Nat × Nat} {v : Value} (h : w.heap[b]? = some (.cells us t fz)) :
    w.setCell ⟨b, i, none⟩ v = putC w b (us.setIfInBounds i v) t fz := by
  simp only [World.setCell, putC]
  congr 1
  apply Array.ext_getElem?
  intro k
  rw [Array.getElem?_modify, Array.getElem?_setIfInBounds]
  by_cases e : b = k
  · subst e
    have hlt := lt_of_get h
    rw [if_pos rfl, if_pos rfl, if_pos hlt, h]
    rfl
  · rw [if_neg e, if_neg e]

theorem get_putC {w : World} {b : Nat} {us : Array Value} {t : TypeId} {fz : Nat × Nat} (h : b < w.heap.size) : (putC w b us t fz).heap[b]? = some (.cells us t fz) := by
  simp [putC, h]

theorem get_putC_ne {w : World} {b k : Nat} {us : Array Value} {t : TypeId} {fz : Nat × Nat} (h : k ≠ b) : (putC w b us t fz).heap[k]? = w.heap[k]? := by
  simp only [putC]
  rw [Array.getElem?_setIfInBounds, if_neg (fun e => h e.symm)]

theorem putC_putC (w : World) (b : Nat) (us vs : Array Value) (t : TypeId) (fz : Nat × Nat) : putC (putC w b us t fz) b vs t fz = putC w b vs t fz := by
  simp [putC]

theorem putC_self {w : World} {b : Nat} {us : Array Value} {t : TypeId} {fz : Nat × Nat} (h : w.heap[b]? = some (.cells us t fz)) : putC w b us t fz = w := by
  simp only [putC]
  have : w.heap.setIfInBounds b (.cells us t fz) = w.heap := by
    apply Array.ext_getElem?
    intro k
    rw [Array.getElem?_setIfInBounds]
    by_cases e : b = k
    · subst e; rw [if_pos rfl, if_pos (lt_of_get h), h]
    · rw [if_neg e]
  rw [this]

theorem VR.oneCell {x : AV} {u : Value} (h : VR X N x u) (hs : x.sc = true) : u.oneCell' = true := by
  cases x <;> simp only [AV.sc] at hs <;> first | (cases hs; done) | skip
  all_goals
    simp only [VR] at h
    first
    | (subst h; rfl)
    | (obtain ⟨_, _, rfl⟩ := h; rfl)
    | (obtain ⟨_, _, _, rfl, _⟩ := h; rfl)
    | (obtain ⟨_, _, rfl, _⟩ := h; rfl)
    | (obtain ⟨_, rfl, _⟩ := h; rfl)

theorem run_storeCells {P : Program} {b : Nat} {t : TypeId} {fz : Nat × Nat} (o : Nat) : ∀ (vs : List Value) (us : Array Value) (w : World) (i : Nat),
    w.heap[b]? = some (.cells us t fz) → unfz fz us.size → o + i + vs.length ≤ us.size → (∀ v ∈ vs, v.oneCell' = true) →
    (storeCells ⟨b, o, none⟩ vs i).run P w = .ok () (putC w b (spliceV us.toList (o + i) vs).toArray t fz)
  | [], us, w, i, h, _, _, _ => by simp [storeCells, spliceV, putC_self h]
  | v :: vs, us, w, i, h, hf, hl, hs => by
    simp only [List.length_cons] at hl
    have hc : w.cell? ⟨b, o + i, none⟩ = us[o + i]? := cell?_of h
    have hlt : o + i < us.size := by omega
    have hfz : w.frozen? ⟨b, o + i, none⟩ = false := by
      have := hf (o + i) hlt
      simp only [World.frozen?, h]
      rw [Bool.eq_false_iff]
      simp only [ne_eq, Bool.and_eq_true, decide_eq_true_eq]
      exact this
    have ih := run_storeCells (P := P) o vs (us.setIfInBounds (o + i) v) (putC w b (us.setIfInBounds (o + i) v) t fz) (i + 1) (get_putC (lt_of_get h))
      (by simpa using hf) (by simp; omega) (fun x hx => hs x (List.mem_cons_of_mem _ hx))
    simp only [storeCells, Sem.run_bind, add_plain, run_store P w _ v _ (hs v List.mem_cons_self), hc, Array.getElem?_eq_getElem hlt, hfz, Bool.false_eq_true, if_false, Result.andThen_ok, setCell_putC h]
    rw [ih, putC_putC]
    simp [spliceV, Nat.add_assoc]

/-- A write into a row of cells. -/
theorem wrCells_sound {h h' : Heap} {w : World} (hr : HR D X N h w) {n off : Nat} {vs : List AV} {us : List Value} (hv : VRs X N vs us) (hw : wrCells h n off vs = some h') :
    ∃ b w', N.ρ n = some ⟨b, 0, none⟩ ∧ (storeCells ⟨b, off, none⟩ us).run X.P w = .ok () w' ∧ HR D X N h' w' ∧ Gd N h w N h' w' := by
  unfold wrCells at hw
  split at hw
  · rename_i ty l cs hg
    split at hw
    · rename_i hcond
      obtain ⟨hle, hsc⟩ := hcond
      cases hw
      obtain ⟨b, ws, fz, h1, h2, h3, h4⟩ := hr.objs _ _ hg
      have hlen := hv.length
      have hlen3 := h3.length
      simp only [Array.length_toList] at hlen3
      have hone : ∀ v ∈ us, v.oneCell' = true := by
        intro v hvm
        obtain ⟨i, hi, rfl⟩ := List.getElem_of_mem hvm
        have hi' : i < vs.length := by omega
        exact ((VRs_iff.1 hv).2 i vs[i] us[i] (List.getElem?_eq_getElem hi') (List.getElem?_eq_getElem hi)).oneCell (List.all_eq_true.1 hsc _ (List.getElem_mem hi'))
      have hrun := run_storeCells (P := X.P) off us ws w 0 h2 h4 (by omega) hone
      refine ⟨b, _, h1, hrun, HR.put hr hg rfl h1 (by simp [putC]) rfl rfl rfl (fun k hk => get_putC_ne hk) ?_⟩
      refine ⟨b, _, fz, h1, get_putC (lt_of_get h2), ?_, ?_⟩
      · exact h3.splice hv _
      · simpa [length_spliceV] using h4
    · cases hw
  · rename_i ty es cs hg
    split at hw
    · rename_i hcond
      obtain ⟨hle, hsc⟩ := hcond
      cases hw
      obtain ⟨b, ws, fz, h1, h2, h3, h4, h5, h6⟩ := hr.objs _ _ hg
      have hlen := hv.length
      have hone : ∀ v ∈ us, v.oneCell' = true := by
        intro v hvm
        obtain ⟨i, hi, rfl⟩ := List.getElem_of_mem hvm
        have hi' : i < vs.length := by omega
        exact ((VRs_iff.1 hv).2 i vs[i] us[i] (List.getElem?_eq_getElem hi') (List.getElem?_eq_getElem hi)).oneCell (List.all_eq_true.1 hsc _ (List.getElem_mem hi'))
      have hrun := run_storeCells (P := X.P) off us ws w 0 h2 h6 (by omega) hone
      refine ⟨b, _, h1, hrun, HR.put hr hg rfl h1 (by simp [putC]) rfl rfl rfl (fun k hk => get_putC_ne hk) ?_⟩
      refine ⟨b, _, fz, h1, get_putC (lt_of_get h2), by simpa [length_spliceV] using h3, by simpa [length_splice, length_spliceV] using h4, ?_, ?_⟩
      · rw [length_splice]
        have key : (spliceV ws.toList off us).take cs.length = spliceV (ws.toList.take cs.length) off us := by
          clear hrun hone hv hr hg
          have : ∀ (us : List Value) (l : List Value) (o : Nat), o + us.length ≤ cs.length → (spliceV l o us).take cs.length = spliceV (l.take cs.length) o us := by
            intro us
            induction us with
            | nil => intro l o _; rfl
            | cons u us ih =>
              intro l o ho
              simp only [List.length_cons] at ho
              simp only [spliceV]
              rw [ih _ _ (by omega), List.take_set]
          exact this us ws.toList off (by omega)
        rw [Nat.add_zero, key]
        exact h5.splice hv _
      · simpa [length_spliceV] using h6
    · cases hw
  · cases hw

end Go.Ev

/- New blocks do what the model's do. -/
namespace Go.Ev
open Go

variable {X : Cx} {N N' N'' : Nu} {D : ChkD}

theorem HR.drawn {h : Heap} {w : World} (hr : HR D X N h w) (k : Nat) : HR D X N h { w with drawn := k } :=
  ⟨fun n o ho => (hr.objs n o ho).keep (.refl N) (Nat.le_refl _) (fun _ _ => rfl), hr.sep⟩

theorem Gd.drawn (N : Nu) (h : Heap) (w : World) (k : Nat) : Gd N h w N h { w with drawn := k } :=
  ⟨.refl N, Nat.le_refl _, rfl, rfl, rfl, fun _ _ _ => rfl, fun n o a h1 h2 => .inl ⟨n, o, a, h1, h2, rfl, id⟩⟩

theorem unfz_zero (n : Nat) : unfz (0, 0) n := fun i _ h => by omega

theorem elemIs_spec {t e : TypeId} (h : elemIs X t e = true) : X.P.underlying t = some (.slice e) := by
  unfold elemIs at h
  split at h
  · rename_i e' he; simp only [beq_iff_eq] at h; rw [he, h]
  · cases h

theorem reps_map (z : List Value) : ∀ (n : Nat), ((List.range (n * z.length)).map fun i => z[i % z.length]!) = (List.replicate n z).flatten
  | 0 => by simp
  | n + 1 => by
    rw [List.replicate_succ', List.flatten_append, ← reps_map z n, Nat.succ_mul, List.range_add, List.map_append, List.map_map]
    congr 1
    simp only [List.flatten_cons, List.flatten_nil, List.append_nil]
    apply List.ext_getElem?
    intro i
    by_cases hi : i < z.length
    · simp only [List.getElem?_map, List.getElem?_range hi, Option.map_some, Function.comp]
      rw [Nat.mul_comm, Nat.mul_add_mod, Nat.mod_eq_of_lt hi, List.getElem?_eq_getElem hi, List.getElem!_eq_getElem?_getD, List.getElem?_eq_getElem hi]
      rfl
    · rw [List.getElem?_eq_none (by simpa using Nat.le_of_not_lt hi), List.getElem?_eq_none (Nat.le_of_not_lt hi)]

theorem VRs.reps {zs : List AV} {us : List Value} (h : VRs X N zs us) : ∀ n, VRs X N (reps zs n) (List.replicate n us).flatten
  | 0 => by simp [Ev.reps]; rfl
  | n + 1 => by
    rw [List.replicate_succ, List.flatten_cons]
    exact h.append (VRs.reps h n)

theorem zeroIs_spec {t : TypeId} {zs : List AV} (h : zeroIs X t zs = true) : ∃ i z, X.P.info? t = some i ∧ i.zero = some z ∧ ∀ N, VRs X N zs z.cells.toList := by
  unfold zeroIs at h
  split at h
  · rename_i i hi
    split at h
    · rename_i z hz; exact ⟨i, z, hi, hz, fun N => chkVs_VRs _ _ h⟩
    · cases h
  · cases h

theorem wrap64_id {n : Int} (h1 : -9223372036854775808 ≤ n) (h2 : n ≤ 9223372036854775807) : IntKind.i64.wrap n = n := by
  rw [← wrp_eq]; simp only [wrp]; rw [if_pos ⟨h1, h2⟩]

theorem bytesIs_spec {t n : Nat} (h : bytesIs X t n = true) : ∃ i, X.P.info? t = some i ∧ i.bytes = n := by
  unfold bytesIs at h
  split at h
  · rename_i i hi; exact ⟨i, hi, by simpa using h⟩
  · cases h

theorem sizeIs_spec {t n : Nat} (h : sizeIs X t n = true) : ∃ i, X.P.info? t = some i ∧ i.size = n := by
  unfold sizeIs at h
  split at h
  · rename_i i hi; exact ⟨i, hi, by simpa using h⟩
  · cases h

theorem new_cells {h : Heap} {w : World} (hr : HR D X N h w) {n : Nat} (hn : N.ρ n = none) {ty : Nat} {loc : Bool} {cs : List AV} {us : Array Value} (hv : VRs X N cs us.toList) :
    HR D X (N.add n ⟨w.heap.size, 0, none⟩ 0) ((n, .cells ty loc cs) :: h) { w with heap := w.heap.push (.cells us (X.τ ty) (0, 0)) } ∧
      Gd N h w (N.add n ⟨w.heap.size, 0, none⟩ 0) ((n, .cells ty loc cs) :: h) { w with heap := w.heap.push (.cells us (X.τ ty) (0, 0)) } :=
  hr.new hn ⟨w.heap.size, us, (0, 0), by simp [Nu.add], by simp, hv.mono (Nu.le_add hn) _, unfz_zero _⟩

theorem new_map {h : Heap} {w : World} (hr : HR D X N h w) {n : Nat} (hn : N.ρ n = none) :
    HR D X (N.add n ⟨w.heap.size, 0, none⟩ 0) ((n, .map []) :: h) { w with heap := w.heap.push (.map #[] 0) } ∧
      Gd N h w (N.add n ⟨w.heap.size, 0, none⟩ 0) ((n, .map []) :: h) { w with heap := w.heap.push (.map #[] 0) } := by
  refine hr.new hn ?_
  refine ⟨w.heap.size, #[], 0, by simp [Nu.add], by simp, ?_, fun e he => by simp at he⟩
  simp only [EntsR]

theorem NO_sound {o : Oper} {m : NO} {v : AV} {ob : AObj} {ev : AO → AV} {r : Operand → Value} {h : Heap} {w : World} {n : Nat} (hc : chkN X o.op m = true) (he : Evs X N ev r) (hk : ∀ v, r (.const v) = v) (hr : HR D X N h w)
    (hn : N.ρ n = none) (hv : NO.run ev n m = some (v, ob)) :
    ∃ N' u w', (execOp r o).run X.P w = .ok (.value u) w' ∧ VR X N' v u ∧ HR D X N' ((n, ob) :: h) w' ∧ Gd N h w N' ((n, ob) :: h) w' ∧ ∀ m, m ≠ n → N'.ρ m = N.ρ m := by
  have hadd : ∀ a k m, m ≠ n → (N.add n a k).ρ m = N.ρ m := fun a k m hm => by simp [Nu.add, hm]
  have hnew : ∀ a k, (N.add n a k).ρ n = some a := fun a k => by simp [Nu.add]
  unfold chkN at hc
  split at hc <;> (first | (cases hc; done) | skip) <;> rename_i hop <;> (try simp only [bool_and, beq_iff_eq] at hc)
  · -- alloc
    rename_i t ty l zs
    obtain ⟨rfl, hz⟩ := hc
    obtain ⟨i, z, hi, hz, hzs⟩ := zeroIs_spec hz
    cases hv
    obtain ⟨h1, h2⟩ := new_cells hr hn (ty := ty) (loc := l) (hzs N)
    exact ⟨_, .pointer (some ⟨w.heap.size, 0, none⟩), _, by simp [execOp, hop, Instr.alloc, zeroValue, typeInfo, hi, hz, newVar, newRow], ⟨_, hnew _ _, by simp⟩, h1, h2, hadd _ _⟩
  · -- box
    rename_i t x ty l a
    obtain ⟨rfl, hx⟩ := hc
    simp only [NO.run] at hv
    split at hv
    · rename_i hnb
      cases hv
      obtain ⟨h1, h2⟩ := new_cells hr hn (ty := ty) (loc := l) ((he _ _ hx).cells' hnb)
      exact ⟨_, .pointer (some ⟨w.heap.size, 0, none⟩), _, by simp [execOp, hop, Instr.box, newVar, newRow], ⟨_, hnew _ _, by simp⟩, h1, h2, hadd _ _⟩
    · cases hv
  · -- buildSlice
    rename_i t len ps ty len' zs qs
    obtain ⟨ht, rfl, hc⟩ := hc
    have hd := elemIs_spec ht
    split at hc
    · rename_i k hk
      simp only [bool_and, decide_eq_true_eq] at hc
      obtain ⟨hlim, hz, hp⟩ := hc
      split at hz
      · rename_i us hus
        have hv0 := chkVs_VRs (N := N) _ _ hz
        simp only [NO.run] at hv
        split at hv
        · rename_i cs hcs
          cases hv
          unfold zerosOf at hus
          cases hi : X.P.info? (X.τ ty) with
          | none => rw [hi] at hus; cases hus
          | some i =>
            rw [hi] at hus
            simp only at hus
            cases hiz : i.zero with
            | none => rw [hiz] at hus; cases hus
            | some z =>
              rw [hiz] at hus
              cases hus
              have hsz : k = i.size := by
                unfold cells? at hk; rw [hi] at hk; cases hk; rfl
              obtain ⟨us', hf, hv1⟩ := fill_sound he (us := (Array.range (len * k)).map (z.cells[· % z.cells.size]!)) hv0 hp hcs
              obtain ⟨h1, h2⟩ := new_cells hr hn (ty := ty) (loc := false) hv1
              refine ⟨_, .slice (some ⟨w.heap.size, 0, none⟩) len len, _, ?_, ⟨_, _, hnew _ _, by simp, Nat.le_refl _, rfl⟩, h1, h2, hadd _ _⟩
              have hs : (sizeOf (X.τ ty)).run X.P w = .ok k w := by simp [sizeOf, typeInfo, hi, hsz]
              simp only [execOp, hop, Instr.buildSlice, Sem.run_bind, run_underlying hd, Result.andThen_ok, hs, if_neg (show ¬ (len * k > 2 ^ 24) by omega), Sem.run_pure]
              have e : len * k = 0 → (Array.map (fun _ => (default : Value)) (Array.range (len * k))) = Array.map (fun x => z.cells[x % z.cells.size]!) (Array.range (len * k)) := by
                intro h0; simp [h0]
              simp only [newRow]
              simp
              split
              · rename_i h0
                simp only [e (by simpa using h0), hf]
                simp
              · simp [zeroValue, typeInfo, hi, hiz, hf]
        · cases hv
      · cases hz
    · cases hc
  · -- makeSlice
    rename_i t l c ty es bytes zs l' c'
    obtain ⟨ht, hes, hby, hz, hzl, hl, hcc⟩ := hc
    have hd := elemIs_spec ht
    obtain ⟨i, hi, hbytes⟩ := bytesIs_spec hby
    obtain ⟨i1, hi1, hsize⟩ := sizeIs_spec hes
    rw [hi] at hi1; cases hi1
    obtain ⟨i2, z, hi2, hiz, hzs⟩ := zeroIs_spec hz
    rw [hi] at hi2; cases hi2
    simp only [NO.run] at hv
    split at hv
    · rename_i k1 p k2 q hp hq
      split at hv
      · rename_i hcond
        obtain ⟨hl0, hlc, hcb, hc47, hzes⟩ := hcond
        cases hv
        have h1 := he _ _ hl
        have h2 := he _ _ hcc
        rw [hp] at h1; rw [hq] at h2
        simp only [VR] at h1 h2
        have hq0 : 0 ≤ q := by omega
        obtain ⟨qn, rfl⟩ := Int.eq_ofNat_of_zero_le hq0
        obtain ⟨pn, rfl⟩ := Int.eq_ofNat_of_zero_le hl0
        have hw1 := wrap64_id (n := (pn : Int)) (by omega) (by omega)
        have hw2 := wrap64_id (n := (qn : Int)) (by omega) (by omega)
        have hzlen := (hzs N).length
        rw [hzes] at hzlen
        simp only [Array.length_toList] at hzlen
        have hcells : VRs X N (reps zs qn) ((Array.range (qn * es)).map (z.cells[· % z.cells.size]!)).toList := by
          have := (hzs N).reps qn
          rw [← reps_map] at this
          simp only [Array.length_toList] at this
          simp only [Array.toList_map, Array.toList_range]
          rw [hzlen]
          have hm : (List.range (qn * z.cells.size)).map (fun i => z.cells.toList[i % z.cells.size]!) = (List.range (qn * z.cells.size)).map (fun x => z.cells[x % z.cells.size]!) :=
            List.map_congr_left (fun i _ => by
              rw [List.getElem!_eq_getElem?_getD, Array.getElem?_toList, getElem!_def]
              cases z.cells[i % z.cells.size]? <;> rfl)
          rw [← hm]
          exact this
        obtain ⟨g1, g2⟩ := new_cells hr hn (ty := ty) (loc := false) hcells
        refine ⟨_, .slice (some ⟨w.heap.size, 0, none⟩) pn qn, _, ?_, ⟨⟨w.heap.size, 0, none⟩, qn, hnew _ _, by simp, by omega, by simp⟩, g1, g2, hadd _ _⟩
        have htl : ∀ n : Int, 0 ≤ n → n ≤ qn → (decide (n < 0) || decide ((i.bytes : Int) * n > 2 ^ 48)) = false := by
          intro n hn0 hnq
          simp only [Bool.or_eq_false_iff, decide_eq_false_iff_not, Int.not_lt, gt_iff_lt]
          refine ⟨by omega, ?_⟩
          rw [hbytes]
          have : (bytes : Int) * n ≤ (bytes : Int) * qn := Int.mul_le_mul_of_nonneg_left hnq (by omega)
          rw [Int.mul_comm] at hcb
          have h48 : (2 : Int) ^ 48 = 281474976710656 := by decide
          omega
        have e : qn * es = 0 → (Array.map (fun _ => (default : Value)) (Array.range (qn * es))) = Array.map (fun x => z.cells[x % z.cells.size]!) (Array.range (qn * es)) := by
          intro h0; simp [h0]
        have hs : (sizeOf (X.τ ty)).run X.P w = .ok es w := by simp [sizeOf, typeInfo, hi, hsize]
        have hti : (typeInfo (X.τ ty)).run X.P w = .ok i w := by simp [typeInfo, hi]
        have hnl : (decide ((qn : Int) < 0) || decide ((i.bytes : Int) * qn > 2 ^ 48) || decide ((pn : Int) < 0) || decide ((pn : Int) > qn)) = false := by
          rw [htl qn (by omega) (by omega)]
          simp only [Bool.false_or, Bool.or_eq_false_iff, decide_eq_false_iff_not, Int.not_lt, gt_iff_lt]
          exact ⟨by omega, by omega⟩
        simp only [execOp, hop, Instr.makeSlice, h1, h2, Sem.run_bind, run_underlying hd, Result.andThen_ok, asInt, asIntOf, Sem.run_pure, hti, hw1, hw2, hnl, Bool.false_eq_true, if_false, run_askRoom, Int.toNat_natCast, hs, newRow]
        simp
        split
        · rename_i h0
          simp only [e (by simpa using h0)]
        · simp [zeroValue, typeInfo, hi, hiz]
      · cases hv
    · cases hv
  · -- makeMap
    cases hv
    obtain ⟨g1, g2⟩ := new_map hr hn
    exact ⟨_, .map (some w.heap.size), _, by simp [execOp, hop, Instr.makeMap], ⟨_, hnew ⟨w.heap.size, 0, none⟩ 0, rfl⟩, g1, g2, hadd _ _⟩
  · -- makeMap with a hint
    cases hv
    obtain ⟨g1, g2⟩ := new_map hr hn
    split at hc
    · rename_i hd
      exact ⟨_, .map (some w.heap.size), _, by simp [execOp, hop, Instr.makeMap, run_underlying hd, hk, asInt, asIntOf], ⟨_, hnew ⟨w.heap.size, 0, none⟩ 0, rfl⟩, g1, g2, hadd _ _⟩
    · cases hc
  · -- a range over a string
    rename_i t x a
    obtain ⟨hs, hx⟩ := hc
    have hd := string_part hs
    have h1 := he _ _ hx
    simp only [NO.run] at hv
    split at hv
    case h_2 => cases hv
    rename_i s hn'
    cases hv
    rw [hn'] at h1; simp only [VR] at h1
    obtain ⟨g1, g2⟩ := hr.new hn (obj := .stringIter ⟨s.toArray⟩ 0) (k := 0) (o := .iter s 0) ⟨w.heap.size, by simp [Nu.add], by simp⟩
    exact ⟨_, .pointer (some ⟨w.heap.size, 0, none⟩), _, by simp [execOp, hop, h1, Instr.range, run_underlying hd], ⟨_, hnew _ _, by simp⟩, g1, g2, hadd _ _⟩
  · -- a string's bytes
    rename_i s d x ty a
    obtain ⟨hs, hd, hel, hx⟩ := hc
    have h1 := he _ _ hx
    have hs := string_part hs
    obtain ⟨e, he1, he2⟩ := byteSlice_parts hd
    have hel := elemIs_spec hel
    rw [he1] at hel
    cases hel
    simp only [NO.run] at hv
    split at hv
    · rename_i l hl
      cases hv
      rw [hl] at h1
      simp only [VR] at h1
      have hsz : (⟨l.toArray⟩ : ByteArray).size = l.length := by simp [ByteArray.size]
      let q : Question := .appendCap l.length 0 (X.τ ty)
      let cp := q.cut (w.tape w.drawn q)
      have hcp : l.length ≤ cp := by
        show l.length ≤ l.length + _
        omega
      let us : Array Value := (l.map fun b => Value.int .u8 b.toNat).toArray ++ Array.replicate (cp - l.length) (.int .u8 0)
      have hus : us.size = cp := by simp [us]; omega
      let w0 : World := { w with drawn := w.drawn + 1 }
      have hr0 : HR D X N h w0 := hr.drawn _
      have hcells : ∀ l : List UInt8, VRs X (N.add n ⟨w.heap.size, 0, none⟩ cp) (l.map fun b => .int .u8 b.toNat) (l.map fun b => Value.int .u8 b.toNat) := by
        intro l
        induction l with
        | nil => exact rfl
        | cons b l ih => exact ⟨_, _, rfl, rfl, ih⟩
      have hnewo : ObjR D X (N.add n ⟨w0.heap.size, 0, none⟩ cp) { w0 with heap := w0.heap.push (.cells us (X.τ ty) (us.size, us.size + 1)) } n (.buf ty 1 (l.map fun b => .int .u8 b.toNat)) := by
        refine ⟨w0.heap.size, us, (us.size, us.size + 1), by simp [Nu.add], by simp, ?_, ?_, ?_, ?_⟩
        · rw [hus]; simp [Nu.add]
        · rw [hus]; simpa using hcp
        · have : us.toList.take (l.map fun b => (AV.int .u8 b.toNat)).length = l.map fun b => Value.int .u8 b.toNat := by
            simp [us]
          rw [this]
          exact hcells l
        · intro i hi hh; omega
      obtain ⟨g1, g2⟩ := hr0.new hn hnewo
      refine ⟨_, .slice (some ⟨w.heap.size, 0, none⟩) l.length cp, _, ?_, ⟨⟨w.heap.size, 0, none⟩, cp, hnew _ _, by simp, hcp, rfl, by simp [Nu.add]⟩, g1, (Gd.drawn N h w _).trans g2, hadd _ _⟩
      have hconv : (convert s d (.string ⟨l.toArray⟩)).run X.P w = .ok (.slice (some ⟨w.heap.size, 0, none⟩) l.length cp) { w0 with heap := w0.heap.push (.cells us (X.τ ty) (us.size, us.size + 1)) } := by
        simp only [convert, Sem.run_bind, run_underlying hs, run_underlying he1, Result.andThen_ok, run_underlying he2, Conv.stringToBytes, hsz, run_choose]
        have hf : (Question.appendCap l.length 0 (X.τ ty)).forced = false := rfl
        have hmap : Array.map (fun b : UInt8 => Value.int .u8 b.toNat) l.toArray = (l.map fun b => Value.int .u8 b.toNat).toArray := by simp
        simp only [hf, Bool.false_eq_true, if_false, Result.andThen_ok, newRow, Sem.run_bind, run_newObj, Sem.run_pure, markStringish, run_shape, hmap]
        have hsh : ({ w0 with heap := w0.heap.push (.cells us (X.τ ty)) } : World).shape? w.heap.size = some (X.τ ty, us.size) := by
          simp [World.shape?, w0]
        rw [show ({ heap := w.heap.push (.cells ((l.map fun b => Value.int .u8 b.toNat).toArray ++ Array.replicate (cp - l.length) (.int .u8 0)) (X.τ ty)), tape := w.tape, drawn := w.drawn + 1, os := w.os, output := w.output } : World).shape? w.heap.size = some (X.τ ty, us.size) from hsh]
        simp only [run_freeze, Result.andThen_ok]
        congr 1
        simp only [World.freeze]
        rw [if_neg (by omega)]
        congr 1
        apply Array.ext_getElem?
        intro k
        rw [Array.getElem?_modify, Array.getElem?_push, Array.getElem?_push]
        by_cases e : w.heap.size = k
        · subst e
          simp [w0, us]
          rfl
        · have e' : ¬ k = w.heap.size := fun h => e h.symm
          rw [if_neg e, if_neg e', if_neg (by simpa [w0] using e')]
      simp [execOp, hop, h1, hconv]
    · cases hv

end Go.Ev

/- Stores, appends, copies, writes into maps do what the model's do. -/
namespace Go.Ev
open Go

variable {X : Cx} {N N' N'' : Nu} {D : ChkD}

/-- The cells that a copy or an append takes. -/
theorem srcCells_sound {h : Heap} {w : World} (hr : HR D X N h w) {es k : Nat} {x : AV} {u : Value} {vs : List AV} (hx : VR X N x u) (hs : srcCells h es x = some (k, vs)) :
    ∃ us, (Builtin.lenOf u).run X.P w = .ok k w ∧ VRs X N vs us ∧ us.length = k * es ∧ ∀ m, m ≤ k → ∀ w' : World, w'.heap = w.heap → (Builtin.firstCells es m u).run X.P w' = .ok (us.take (m * es)).toArray w' := by
  unfold srcCells at hs
  split at hs
  · cases hs
    simp only [VR] at hx; subst hx
    exact ⟨[], by simp [Builtin.lenOf], rfl, by simp, fun m hm w' hw' => by simp [Builtin.firstCells]⟩
  · rename_i n o ln c
    simp only [Option.map_eq_some_iff] at hs
    obtain ⟨cs, hcs, hk⟩ := hs
    cases hk
    obtain ⟨ad, cp, hρ, rfl, _⟩ := hx
    obtain ⟨ad', us, h2, h3, h4, h5⟩ := rdCells_sound hr hcs
    rw [hρ] at h2; cases h2
    refine ⟨us, by simp [Builtin.lenOf], h3, h4, fun m hm w' hw' => ?_⟩
    simp only [Builtin.firstCells]
    have hl : (us.take (m * es)).length = m * es := by
      rw [List.length_take, h4]
      exact Nat.min_eq_left (Nat.mul_le_mul_right _ hm)
    have := run_loadCells_at (P := X.P) (a := ad) (off := o) (us := us.take (m * es)) (w := w') (fun j u hj => by
      have := h5 j u (by
        rw [List.getElem?_take] at hj
        split at hj
        · exact hj
        · cases hj)
      simp only [World.cell?, hw'] at this ⊢
      exact this)
    rw [hl] at this
    exact this
  · rename_i s
    split at hs
    case isFalse => cases hs
    rename_i hes1
    cases hs
    simp only [VR] at hx; subst hx
    subst hes1
    have hsz : (⟨s.toArray⟩ : ByteArray).size = s.length := by simp [ByteArray.size]
    refine ⟨s.map fun b => .int .u8 b.toNat, by simp [Builtin.lenOf, hsz], ?_, by simp, fun m hm w' hw' => ?_⟩
    · induction s with
      | nil => exact rfl
      | cons b s ih => exact ⟨_, _, rfl, rfl, ih (by simp [ByteArray.size])⟩
    · simp only [Builtin.firstCells, Sem.run_pure]
      congr 1
      apply Array.ext'
      simp [ByteArray.data_extract, List.map_take]
  · cases hs

theorem WO_store {o : Oper} {t : TypeId} {a x : Operand} {sz : Nat} {a' x' : AO} {ev : AO → AV} {r : Operand → Value} {st st' : St} {w : World} {v : AV} {call : AV → List AV → St → Option (AV × St)}
    (hop : o.op = .store t a x) (hs : sizeIs X t sz = true) (ha : chkA X a' a = true) (hx : chkA X x' x = true) (he : Evs X N ev r) (hr : SR D X N st w)
    (hv : WO.run call ev st (.store sz a' x') = some (v, st')) :
    ∃ w', (execOp r o).run X.P w = .ok .skip w' ∧ v = .bot ∧ SR D X N st' w' ∧ Gd N st.h w N st'.h w' ∧ st'.nx = st.nx := by
  simp only [WO.run] at hv
  split at hv
  · rename_i n off hn
    split at hv
    · rename_i hlen
      simp only [Option.map_eq_some_iff] at hv
      obtain ⟨h', hw, hp⟩ := hv
      cases hp
      have h1 := he _ _ ha
      rw [hn] at h1
      obtain ⟨ad, hρ, h1⟩ := h1
      have hnb : (ev x').nb = true := by
        unfold wrCells at hw
        cases hxv : ev x' <;> first | rfl | skip
        exfalso
        split at hw <;> first | (cases hw; done) | skip
        all_goals
          split at hw
          · rename_i hc
            have := hc.2
            rw [hxv] at this
            simp [acells, AV.sc] at this
          · cases hw
      have hcs := (he _ _ hx).cells' hnb
      obtain ⟨b, w', hb, hrun, g1, g2⟩ := wrCells_sound hr.hr hcs hw
      rw [hρ] at hb; cases hb
      refine ⟨w', ?_, rfl, ⟨g1, hr.fresh⟩, g2, rfl⟩
      have hsz : (r x).cells.size = sz := by
        have := hcs.length
        simp only [Array.length_toList] at this
        omega
      simp only [Nat.zero_add] at h1
      simp [execOp, hop, h1, Instr.storeAt, Instr.sureAddr, storeVar, run_size hs, hsz, hrun]
    · cases hv
  · cases hv

theorem WO_copy {o : Oper} {args : Array Operand} {argTypes : Array TypeId} {es : Nat} {d s : AO} {ev : AO → AV} {r : Operand → Value} {st st' : St} {w : World} {v : AV} {call : AV → List AV → St → Option (AV × St)}
    (hop : o.op = .call { callee := .builtin .copy, args, argTypes })
    (ht : (match argTypes[0]? with | some t => (match X.P.underlying t with | some (.slice e) => sizeIs X e es | _ => false) | none => false) = true)
    (ha : chkAs X [d, s] args.toList = true) (he : Evs X N ev r) (hr : SR D X N st w)
    (hv : WO.run call ev st (.copy es d s) = some (v, st')) :
    ∃ u w', (execOp r o).run X.P w = .ok (.value u) w' ∧ VR X N v u ∧ SR D X N st' w' ∧ Gd N st.h w N st'.h w' ∧ st'.nx = st.nx := by
  obtain ⟨xd, xs, rfl, hd, hs⟩ : ∃ xd xs, args = #[xd, xs] ∧ chkA X d xd = true ∧ chkA X s xs = true := by
    obtain ⟨l⟩ := args
    match l, ha with
    | [x, y], h => simp [chkAs] at h; exact ⟨x, y, rfl, h.1, h.2⟩
    | [], h => simp [chkAs] at h
    | [_], h => simp [chkAs] at h
    | _ :: _ :: _ :: _, h => simp [chkAs] at h
  have hcall : ∀ u w', (Builtin.copy_ argTypes o.type #[r xd, r xs]).run X.P w = .ok u w' → (execOp r o).run X.P w = .ok (.value u) w' := by
    intro u w' hu
    simp [execOp, hop, resolve, invoke, builtin, hu]
  split at ht
  · rename_i t hat
    split at ht
    · rename_i e hde
      simp only [WO.run] at hv
      split at hv
      · cases hv
      · rename_i k new hsrc
        obtain ⟨us, hlen, hnew, husl, hfirst⟩ := srcCells_sound hr.hr (he _ _ hs) hsrc
        have h1 := he _ _ hd
        split at hv
        · rename_i hn
          cases hv
          rw [hn] at h1; simp only [VR] at h1
          have hf := hfirst 0 (Nat.zero_le _) w rfl
          refine ⟨.int .i64 0, w, hcall _ _ ?_, by simp [VR], hr, .refl _ _ _, rfl⟩
          simp [Builtin.copy_, hat, h1, run_underlying hde, run_size ht, hlen, hf, goInt]
        · rename_i n off ln c hn
          simp only [Option.map_eq_some_iff] at hv
          obtain ⟨h', hw, hp⟩ := hv
          cases hp
          rw [hn] at h1
          obtain ⟨ad, cp, hρ, h1, _⟩ := h1
          have hf := hfirst (min k ln) (Nat.min_le_left _ _) w rfl
          obtain ⟨b, w', hb, hrun, g1, g2⟩ := wrCells_sound hr.hr (hnew.take (min k ln * es)) hw
          rw [hρ] at hb; cases hb
          simp only [Nat.zero_add] at h1
          refine ⟨.int .i64 (min k ln : Nat), w', hcall _ _ ?_, by simp [VR], ⟨g1, hr.fresh⟩, g2, rfl⟩
          simp [Builtin.copy_, hat, h1, run_underlying hde, run_size ht, hlen, hf, goInt, hrun]
        · cases hv
    · cases ht
  · cases ht

theorem growBy_le (n : Nat) (hn : 256 ≤ n) : ∀ (r c : Nat), c ≤ 2 * n → Builtin.growBy n r c ≤ 2 * n
  | 0, c, h => h
  | r + 1, c, h => by
    simp only [Builtin.growBy]
    split
    · exact h
    · exact growBy_le n hn r _ (by omega)

theorem nextslicecap_le {n c : Nat} (h : c < n) : Builtin.nextslicecap n c ≤ 2 * n := by
  unfold Builtin.nextslicecap
  split
  · omega
  · split
    · omega
    · exact growBy_le n (by omega) 4 c (by omega)

/-- An append that takes a new block. -/
theorem run_append_new {sT : TypeId} {argTypes : Array TypeId} {ty e es bytes k : Nat} {i : TypeInfo} {z : Value} {base : Option Addr} {len c : Nat} {x : Value} {old new : Array Value} {w : World}
    (h0 : argTypes[0]? = some sT) (hd : X.P.underlying sT = some (.slice e)) (hn : notInt X argTypes[1]? = true) (hi : X.P.info? e = some i) (hsz : i.size = es) (hby : i.bytes = bytes) (hz : i.zero = some z)
    (hlen : (Builtin.lenOf x).run X.P w = .ok k w) (hold : ∀ w', w'.heap = w.heap → (Builtin.firstCells es len (.slice base len c)).run X.P w' = .ok old w')
    (hnew : ∀ w', w'.heap = w.heap → (Builtin.firstCells es k x).run X.P w' = .ok new w')
    (hgt : c < len + k) (hb1 : (len + k) * bytes ≤ 35184372088832) (hb2 : len + k ≤ 35184372088832) :
    ∃ cp, len + k ≤ cp ∧ (Builtin.append_ argTypes ty #[.slice base len c, x]).run X.P w = .ok (.slice (some ⟨w.heap.size, 0, none⟩) (len + k) cp)
      { w with drawn := w.drawn + 1, heap := w.heap.push (.cells (old ++ new ++ Builtin.zeroCells z.cells (cp - (len + k))) e) } := by
  let q : Question := .appendCap (len + k) c e
  refine ⟨q.cut (w.tape w.drawn q), by show len + k ≤ len + k + _; omega, ?_⟩
  have hs : (sizeOf e).run X.P w = .ok es w := by simp [sizeOf, typeInfo, hi, hsz]
  obtain ⟨xT, hx, hxd⟩ : ∃ xT, argTypes[1]? = some xT ∧ ∃ d, X.P.underlying xT = some d ∧ ∀ k, d ≠ .int k := by
    unfold notInt at hn
    split at hn
    · rename_i t ht
      split at hn
      · cases hn
      · cases hn
      · rename_i h1 h2
        cases hd' : X.P.underlying t with
        | none => exact (h2 hd').elim
        | some d => exact ⟨t, ht, d, hd', fun k e => h1 k (by rw [hd', e])⟩
    · cases hn
  obtain ⟨dx, hdx, hni⟩ := hxd
  have hm : (match dx with | .int _ => true | _ => false) = false := by cases dx <;> first | rfl | exact absurd rfl (hni _)
  have hcap : ¬ (Builtin.nextslicecap (len + k) c * i.bytes > 2 ^ 48) := by
    have h1 := nextslicecap_le hgt
    have h2 : Builtin.nextslicecap (len + k) c * i.bytes ≤ 2 * (len + k) * bytes := by rw [hby]; exact Nat.mul_le_mul_right _ h1
    rw [Nat.mul_assoc] at h2
    omega
  have hmax : ¬ (((len + k : Nat) : Int) > IntKind.i64.max) := by
    simp [IntKind.max, IntKind.signed, IntKind.bits]; omega
  have hti : (typeInfo e).run X.P w = .ok i w := by simp [typeInfo, hi]
  have hw' : ∀ (w' : World), (zeroValue e).run X.P w' = .ok z w' := fun w' => by simp [zeroValue, typeInfo, hi, hz]
  have hti' : ∀ (w' : World), (typeInfo e).run X.P w' = .ok i w' := fun w' => by simp [typeInfo, hi]
  have hqf : q.forced = false := rfl
  simp only [Builtin.append_, h0, hx, List.getElem?_toArray, List.getElem?_cons_zero, List.getElem?_cons_succ, Sem.run_bind, run_underlying hd, Result.andThen_ok, hs, run_underlying hdx, Sem.run_pure]
  have hng : ¬ (len + k ≤ c) := by omega
  have hf : (Question.appendCap (len + k) c e).forced = false := rfl
  have ho := hold { w with drawn := w.drawn + 1 } rfl
  have hn2 := hnew { w with drawn := w.drawn + 1 } rfl
  simp only [Bool.false_eq_true, if_false, if_true, Bool.not_false, Sem.run_bind, hlen, Result.andThen_ok, hng, hmax, false_and, hti, hcap, run_choose, hf, hti', run_askRoom, ho, hn2, hw', newRow, run_newObj, Sem.run_pure]
  rfl

theorem run_append_room {sT : TypeId} {argTypes : Array TypeId} {ty e es k : Nat} {i : TypeInfo} {base : Option Addr} {len c : Nat} {x : Value} {new : Array Value} {w w' : World}
    (h0 : argTypes[0]? = some sT) (hd : X.P.underlying sT = some (.slice e)) (hn : notInt X argTypes[1]? = true) (hi : X.P.info? e = some i) (hsz : i.size = es)
    (hlen : (Builtin.lenOf x).run X.P w = .ok k w) (hnew : (Builtin.firstCells es k x).run X.P w = .ok new w) (hle : len + k ≤ c)
    (hst : (match base with | some a => storeCells (a.add (len * es)) new.toList | none => pure () : Sem Unit).run X.P w = .ok () w') :
    (Builtin.append_ argTypes ty #[.slice base len c, x]).run X.P w = .ok (.slice base (len + k) c) w' := by
  have hs : (sizeOf e).run X.P w = .ok es w := by simp [sizeOf, typeInfo, hi, hsz]
  obtain ⟨xT, hx, hxd⟩ : ∃ xT, argTypes[1]? = some xT ∧ ∃ d, X.P.underlying xT = some d ∧ ∀ k, d ≠ .int k := by
    unfold notInt at hn
    split at hn
    · rename_i t ht
      split at hn
      · cases hn
      · cases hn
      · rename_i h1 h2
        cases hd' : X.P.underlying t with
        | none => exact (h2 hd').elim
        | some d => exact ⟨t, ht, d, hd', fun k e => h1 k (by rw [hd', e])⟩
    · cases hn
  obtain ⟨dx, hdx, hni⟩ := hxd
  simp only [Builtin.append_, h0, hx, List.getElem?_toArray, List.getElem?_cons_zero, List.getElem?_cons_succ, Sem.run_bind, run_underlying hd, Result.andThen_ok, hs, run_underlying hdx, Sem.run_pure,
    Bool.false_eq_true, if_false, if_true, Bool.not_false, hlen, hle, hnew]
  cases base with
  | none => simp only [Sem.run_pure] at hst ⊢; cases hst; rfl
  | some a => simp only at hst ⊢; rw [Sem.run_bind, hst]; rfl

/-- A grown block. -/
theorem grow_HR {st : St} {w : World} (hr : SR D X N st w) {ty es cp : Nat} {cs : List AV} {us : Array Value} (hsz : us.size = cp * es) (hle : cs.length ≤ us.size) (hcs : VRs X N cs (us.toList.take cs.length)) :
    SR D X (N.add st.nx ⟨w.heap.size, 0, none⟩ cp) ⟨(st.nx, .buf ty es cs) :: st.h, st.nx + 1⟩ { w with drawn := w.drawn + 1, heap := w.heap.push (.cells us (X.τ ty)) } ∧
      Gd N st.h w (N.add st.nx ⟨w.heap.size, 0, none⟩ cp) ((st.nx, .buf ty es cs) :: st.h) { w with drawn := w.drawn + 1, heap := w.heap.push (.cells us (X.τ ty)) } := by
  have hn := hr.fresh st.nx (Nat.le_refl _)
  have hr0 := hr.hr.drawn (w.drawn + 1)
  obtain ⟨g1, g2⟩ := hr0.new (n := st.nx) (k := cp) (obj := .cells us (X.τ ty)) (o := .buf ty es cs) hn
    ⟨w.heap.size, us, (0, 0), by simp [Nu.add], by simp, by simp [Nu.add, hsz], hle, hcs.mono (Nu.le_add hn) _, unfz_zero _⟩
  refine ⟨⟨g1, fun n hn' => ?_⟩, (Gd.drawn N st.h w _).trans g2⟩
  have : n ≠ st.nx := by simp only at hn'; omega
  simp only [Nu.add, if_neg this]
  exact hr.fresh n (by simp only at hn'; omega)

theorem Gd.sub {h h' h'' : Heap} {w w' : World} (g : Gd N h w N' h' w') (hs : ∀ n o, hget h'' n = some o → hget h' n = some o) : Gd N h w N' h'' w' :=
  ⟨g.le, g.size, g.tape, g.os, g.output, g.frame, fun n o a h1 h2 => g.has n o a (hs _ _ h1) h2⟩

theorem take_spliceV : ∀ (vs us : List Value) (o : Nat), o + vs.length ≤ us.length → (spliceV us o vs).take (o + vs.length) = us.take o ++ vs
  | [], us, o, _ => by simp [spliceV]
  | v :: vs, us, o, h => by
    simp only [List.length_cons] at h
    simp only [spliceV, List.length_cons]
    have := take_spliceV vs (us.set o v) (o + 1) (by simp; omega)
    rw [show o + (vs.length + 1) = o + 1 + vs.length by omega, this]
    rw [List.take_set, List.take_succ_eq_append_getElem (by omega)]
    rw [List.set_append_right _ _ (by simp; omega)]
    simp [Nat.min_eq_left (show o ≤ us.length by omega)]

theorem WO_append {o : Oper} {args : Array Operand} {argTypes : Array TypeId} {ty es bytes : Nat} {zs : List AV} {s x : AO} {ev : AO → AV} {r : Operand → Value} {st st' : St} {w : World} {v : AV}
    (hop : o.op = .call { callee := .builtin .append, args, argTypes })
    (ht : (match argTypes[0]? with | some t => elemIs X t (X.τ ty) | none => false) = true) (hn : notInt X argTypes[1]? = true) (hs : sizeIs X (X.τ ty) es = true) (hb : bytesIs X (X.τ ty) bytes = true)
    (hz : zeroIs X (X.τ ty) zs = true) (hzl : zs.length = es) (ha : chkAs X [s, x] args.toList = true) (he : Evs X N ev r) (hr : SR D X N st w)
    (hv : aappend ty es bytes st (ev s) (ev x) = some (v, st')) :
    ∃ N' u w', (execOp r o).run X.P w = .ok (.value u) w' ∧ VR X N' v u ∧ SR D X N' st' w' ∧ Gd N st.h w N' st'.h w' ∧ st.nx ≤ st'.nx ∧ ∀ n, n < st.nx → N'.ρ n = N.ρ n := by
  obtain ⟨xs, xx, rfl, hcs, hcx⟩ : ∃ xd xs, args = #[xd, xs] ∧ chkA X s xd = true ∧ chkA X x xs = true := by
    obtain ⟨l⟩ := args
    match l, ha with
    | [x, y], h => simp [chkAs] at h; exact ⟨x, y, rfl, h.1, h.2⟩
    | [], h => simp [chkAs] at h
    | [_], h => simp [chkAs] at h
    | _ :: _ :: _ :: _, h => simp [chkAs] at h
  have hcall : ∀ u w', (Builtin.append_ argTypes o.type #[r xs, r xx]).run X.P w = .ok u w' → (execOp r o).run X.P w = .ok (.value u) w' := by
    intro u w' hu
    simp [execOp, hop, resolve, invoke, builtin, hu]
  split at ht
  case h_2 => cases ht
  rename_i sT h0
  have hd := elemIs_spec ht
  obtain ⟨i, hi, hsz⟩ := sizeIs_spec hs
  obtain ⟨i1, hi1, hby⟩ := bytesIs_spec hb
  rw [hi] at hi1; cases hi1
  obtain ⟨i2, z, hi2, hiz, hzs⟩ := zeroIs_spec hz
  rw [hi] at hi2; cases hi2
  have hzc : z.cells.size = es := by
    have := (hzs N).length
    simp only [Array.length_toList] at this
    omega
  have hzn : ∀ m, (Builtin.zeroCells z.cells m).size = m * es := fun m => by simp [Builtin.zeroCells, hzc]
  unfold aappend at hv
  split at hv
  · cases hv
  · rename_i k new hsrc
    obtain ⟨us, hlen, hnew, husl, hfirst⟩ := srcCells_sound hr.hr (he _ _ hcx) hsrc
    have hfull : ∀ w' : World, w'.heap = w.heap → (Builtin.firstCells es k (r xx)).run X.P w' = .ok us.toArray w' := by
      intro w' hw'
      have := hfirst k (Nat.le_refl _) w' hw'
      rwa [List.take_of_length_le (by omega)] at this
    have hnl := hnew.length
    have h1 := he _ _ hcs
    -- a new block
    have grow : ∀ (base : Option Addr) (len c : Nat) (old : List AV) (os : List Value), r xs = .slice base len c → VRs X N old os → os.length = len * es →
        (∀ w' : World, w'.heap = w.heap → (Builtin.firstCells es len (.slice base len c)).run X.P w' = .ok os.toArray w') → c < len + k → (len + k) * bytes ≤ 35184372088832 → len + k ≤ 35184372088832 →
        ∃ N' u w', (execOp r o).run X.P w = .ok (.value u) w' ∧ VR X N' (.slice st.nx 0 (len + k) .full) u ∧ SR D X N' ⟨(st.nx, .buf ty es (old ++ new)) :: st.h, st.nx + 1⟩ w' ∧
          Gd N st.h w N' ((st.nx, .buf ty es (old ++ new)) :: st.h) w' ∧ ∀ n, n < st.nx → N'.ρ n = N.ρ n := by
      intro base len c old os hrx hold hosl hof hlt hb1 hb2
      obtain ⟨cp, hcp, hrun⟩ := run_append_new (ty := o.type) h0 hd hn hi hsz hby hiz hlen hof hfull hlt hb1 hb2
      have htot : (os.toArray ++ us.toArray ++ Builtin.zeroCells z.cells (cp - (len + k))).size = cp * es := by
        simp only [Array.size_append, hzn, List.size_toArray, hosl, husl]
        rw [← Nat.add_mul, ← Nat.add_mul]
        congr 1
        omega
      have hol := hold.length
      have hlen2 : (old ++ new).length = (len + k) * es := by simp [hol, hnl, hosl, husl, Nat.add_mul]
      obtain ⟨g1, g2⟩ := grow_HR hr (ty := ty) (es := es) (cp := cp) (cs := old ++ new) htot
        (by rw [htot, hlen2]; exact Nat.mul_le_mul_right _ hcp)
        (by
          have : (os.toArray ++ us.toArray ++ Builtin.zeroCells z.cells (cp - (len + k))).toList.take (old ++ new).length = os ++ us := by
            simp only [Array.toList_append]
            rw [List.take_append_of_le_length (by simp [hol, hnl])]
            rw [List.take_of_length_le (by simp [hol, hnl])]
          rw [this]
          exact hold.append hnew)
      refine ⟨_, _, _, hcall _ _ (by rw [hrx]; exact hrun), ⟨⟨w.heap.size, 0, none⟩, cp, by simp [Nu.add], by simp, hcp, rfl, by simp [Nu.add]⟩, g1, g2, fun n hn => ?_⟩
      simp [Nu.add, Nat.ne_of_lt hn]
    split at hv
    · -- to nil
      rename_i hsn
      rw [hsn] at h1; simp only [VR] at h1
      split at hv
      · rename_i hk
        cases hv
        subst hk
        have := run_append_room (ty := o.type) (base := none) (len := 0) (c := 0) h0 hd hn hi hsz hlen (hfull w rfl) (Nat.le_refl _) (w' := w) rfl
        exact ⟨N, .slice none 0 0, w, hcall _ _ (by rw [h1]; exact this), by simp [VR], hr, .refl _ _ _, Nat.le_refl _, fun _ _ => rfl⟩
      · split at hv
        · rename_i hk hb
          cases hv
          obtain ⟨N', u, w', a1, a2, a3, a4, a5⟩ := grow none 0 0 [] [] h1 rfl (by simp) (fun w' _ => by simp [Builtin.firstCells]) (by omega) (by simpa using hb.1) (by simpa using hb.2)
          simp only [Nat.zero_add, List.nil_append] at a2 a3 a4
          exact ⟨N', u, w', a1, a2, a3, a4, by simp, a5⟩
        · cases hv
    · rename_i n off len cap hsn
      rw [hsn] at h1
      obtain ⟨ad, c, hρ, h1, hle, hcap⟩ := h1
      split at hv
      · rename_i hbd
        split at hv
        · -- a capacity that is known
          rename_i cc
          simp only at hcap
          subst hcap
          split at hv
          · rename_i hroom
            simp only [Option.map_eq_some_iff] at hv
            obtain ⟨h', hw, hp⟩ := hv
            cases hp
            obtain ⟨b, w', hb, hrun, g1, g2⟩ := wrCells_sound hr.hr hnew hw
            rw [hρ] at hb; cases hb
            have := run_append_room (ty := o.type) (base := some ⟨b, 0 + off, none⟩) (len := len) (c := c) h0 hd hn hi hsz hlen (hfull w rfl) hroom (w' := w') (by
              simp only [add_plain]
              rw [Nat.zero_add]
              exact hrun)
            exact ⟨N, _, w', hcall _ _ (by rw [h1]; exact this), ⟨_, _, hρ, rfl, hroom, rfl⟩, ⟨g1, hr.fresh⟩, g2, Nat.le_refl _, fun _ _ => rfl⟩
          · rename_i hroom
            split at hv
            · rename_i old hold
              cases hv
              obtain ⟨ad', os, h2, h3, h4, h5⟩ := rdCells_sound hr.hr hold
              rw [hρ] at h2; cases h2
              obtain ⟨N', u, w', a1, a2, a3, a4, a5⟩ := grow _ len c old os h1 h3 h4 (fun w' hw' => by
                have := run_loadCells_at (P := X.P) (a := ad) (off := off) (us := os) (w := w') (fun j u hj => by
                  have := h5 j u hj
                  simp only [World.cell?, hw'] at this ⊢
                  exact this)
                rw [h4] at this
                simpa [Builtin.firstCells] using this) (by omega) hbd.1 hbd.2
              exact ⟨N', u, w', a1, a2, a3, a4, by simp, a5⟩
            · cases hv
        · -- a block that grows
          simp only at hcap
          obtain ⟨ho0, hcκ⟩ := hcap
          split at hv
          · rename_i ty' es' cs hg
            split at hv
            · rename_i hcond
              obtain ⟨_, rfl, rfl, hcl, hsc⟩ := hcond
              subst ho0
              obtain ⟨b, bs, fz, hb1, hb2, hb3, hb4, hb5, hb6⟩ := hr.hr.objs _ _ hg
              rw [hρ] at hb1
              cases hb1
              split at hv
              · rename_i hk
                cases hv
                subst hk
                have := run_append_room (ty := o.type) (base := some ⟨b, 0 + 0, none⟩) (len := len) (c := c) h0 hd hn hi hsz hlen (hfull w rfl) (by omega) (w' := w) (by
                  have : us = [] := List.eq_nil_of_length_eq_zero (by simpa using husl)
                  subst this
                  rfl)
                exact ⟨N, _, w, hcall _ _ (by rw [h1]; exact this), by rw [hsn]; exact ⟨_, _, hρ, rfl, by simpa using hle, rfl, hcκ⟩, hr, .refl _ _ _, Nat.le_refl _, fun _ _ => rfl⟩
              · rename_i hk
                cases hv
                have hdelsub : ∀ m o, hget (hdel st.h n) m = some o → hget st.h m = some o := by
                  intro m o ho
                  rw [hget_hdel] at ho
                  split at ho
                  · cases ho
                  · exact ho
                by_cases hroom : len + k ≤ c
                · have hone : ∀ v ∈ us, v.oneCell' = true := by
                    intro v hvm
                    obtain ⟨i, hi, rfl⟩ := List.getElem_of_mem hvm
                    have hi' : i < new.length := by omega
                    exact ((VRs_iff.1 hnew).2 i new[i] us[i] (List.getElem?_eq_getElem hi') (List.getElem?_eq_getElem hi)).oneCell (List.all_eq_true.1 hsc _ (List.getElem_mem hi'))
                  have hroom2 : len * es' + us.length ≤ bs.size := by
                    rw [husl, ← Nat.add_mul, hb3, ← hcκ]
                    exact Nat.mul_le_mul_right _ hroom
                  have hrun := run_storeCells (P := X.P) (len * es') us bs w 0 hb2 hb6 (by omega) hone
                  have happ := run_append_room (ty := o.type) (base := some ⟨b, 0 + 0, none⟩) (len := len) (c := c) h0 hd hn hi hsz hlen (hfull w rfl) hroom (by
                    simp only [add_plain]
                    rw [show (0 : Nat) + 0 + len * es' = len * es' by omega]
                    exact hrun)
                  have hnx := hr.fresh st.nx (Nat.le_refl _)
                  have hLe : N.Le (N.add st.nx ⟨b, 0, none⟩ c) := Nu.le_add hnx
                  have hold : ∀ m, m ≠ st.nx → (N.add st.nx ⟨b, 0, none⟩ c).ρ m = N.ρ m := fun m hm => by simp [Nu.add, hm]
                  have hnewρ : (N.add st.nx ⟨b, 0, none⟩ c).ρ st.nx = some ⟨b, 0, none⟩ := by simp [Nu.add]
                  have hget' : ∀ m o, hget ((st.nx, AObj.buf ty' es' (cs ++ new)) :: hdel st.h n) m = some o →
                      (m = st.nx ∧ o = .buf ty' es' (cs ++ new)) ∨ (m ≠ st.nx ∧ m ≠ n ∧ hget st.h m = some o) := by
                    intro m o ho
                    simp only [hget] at ho
                    split at ho
                    · rename_i e; cases ho; exact .inl ⟨e.symm, rfl⟩
                    · rename_i e
                      rw [hget_hdel] at ho
                      split at ho
                      · cases ho
                      · rename_i e2; exact .inr ⟨fun h => e h.symm, fun h => e2 h.symm, ho⟩
                  have hlen2 : (cs ++ new).length = len * es' + us.length := by simp [hcl, hnl]
                  refine ⟨N.add st.nx ⟨b, 0, none⟩ c, _, _, hcall _ _ (by rw [h1]; exact happ), ⟨_, _, hnewρ, rfl, hroom, rfl, by simp [Nu.add]⟩, ⟨⟨?_, ?_⟩, ?_⟩, ?_, by simp, fun m hm => hold m (Nat.ne_of_lt hm)⟩
                  · intro m o ho
                    rcases hget' m o ho with ⟨rfl, rfl⟩ | ⟨hm1, hm2, hg2⟩
                    · refine ⟨b, _, fz, hnewρ, get_putC (lt_of_get hb2), ?_, ?_, ?_, ?_⟩
                      · simp [length_spliceV, Nu.add, hb3, ← hcκ]
                      · simp only [List.size_toArray, length_spliceV, Array.length_toList]; omega
                      · rw [hlen2]
                        simp only [Nat.add_zero]
                        rw [take_spliceV _ _ _ (by simpa using hroom2), ← hcl]
                        exact (hb5.append hnew).mono hLe _
                      · simpa [length_spliceV] using hb6
                    · refine (hr.hr.objs m o hg2).keep hLe (by simp [putC]) (fun a ha => get_putC_ne ?_)
                      intro e
                      exact hm2 (hr.hr.sep n m _ _ _ a hg hg2 rfl hρ ha (by simpa using e.symm)).symm
                  · intro m m' p q a c' hp hq hpo ha hc' hac
                    rcases hget' m p hp with ⟨rfl, rfl⟩ | ⟨hm1, hm2, hg2⟩
                    · rcases hget' m' q hq with ⟨rfl, rfl⟩ | ⟨hm1', hm2', hg2'⟩
                      · rfl
                      · exfalso
                        rw [hnewρ] at ha; cases ha
                        rw [hold _ hm1'] at hc'
                        exact hm2' (hr.hr.sep n m' _ _ _ c' hg hg2' rfl hρ hc' hac).symm
                    · rw [hold _ hm1] at ha
                      rcases hget' m' q hq with ⟨rfl, rfl⟩ | ⟨hm1', hm2', hg2'⟩
                      · exfalso
                        rw [hnewρ] at hc'; cases hc'
                        exact hm2 (hr.hr.sep m n _ _ a _ hg2 hg hpo ha hρ hac)
                      · rw [hold _ hm1'] at hc'
                        exact hr.hr.sep m m' _ _ a c' hg2 hg2' hpo ha hc' hac
                  · intro m hm
                    simp only at hm
                    rw [hold m (by omega)]
                    exact hr.fresh m (by omega)
                  · refine ⟨hLe, by simp [putC], rfl, rfl, rfl, fun k hk hno => get_putC_ne ?_, fun m p a hp ha => .inl ?_⟩
                    · rintro rfl
                      exact hno ⟨n, _, _, hg, rfl, hρ, rfl⟩
                    · rcases hget' m p hp with ⟨rfl, rfl⟩ | ⟨hm1, hm2, hg2⟩
                      · rw [hnewρ] at ha; cases ha
                        exact ⟨n, _, _, hg, hρ, rfl, fun _ => rfl⟩
                      · rw [hold _ hm1] at ha
                        exact ⟨m, p, a, hg2, ha, rfl, id⟩
                · obtain ⟨N', u, w', a1, a2, a3, a4, a5⟩ := grow _ len c cs (bs.toList.take cs.length) h1 hb5 (by simp; omega) (fun w' hw' => by
                    have := run_loadCells_at (P := X.P) (a := ⟨b, 0, none⟩) (off := 0) (us := bs.toList.take cs.length) (w := w') (fun j u hj => by
                      rw [List.getElem?_take] at hj
                      split at hj
                      · rw [Array.getElem?_toList] at hj
                        have := cell?_of (i := 0 + (0 + j)) hb2
                        simp only [World.cell?, hw'] at this ⊢
                        rw [this]; simpa using hj
                      · cases hj)
                    rw [List.length_take, Nat.min_eq_left (by simpa using hb4), hcl] at this
                    rw [hcl]
                    simpa [Builtin.firstCells] using this) (by omega) hbd.1 hbd.2
                  have hsub : ∀ m o, hget ((st.nx, .buf ty' es' (cs ++ new)) :: hdel st.h n) m = some o → hget ((st.nx, AObj.buf ty' es' (cs ++ new)) :: st.h) m = some o := by
                    intro m o ho
                    simp only [hget] at ho ⊢
                    split at ho
                    · rename_i e; rw [if_pos e]; exact ho
                    · rename_i e; rw [if_neg e]; exact hdelsub _ _ ho
                  exact ⟨N', u, w', a1, a2, ⟨a3.hr.weaken hsub, a3.fresh⟩, a4.sub hsub, by simp, a5⟩
            · cases hv
          · cases hv
        · cases hv
      · cases hv
    · cases hv

end Go.Ev

/- Writes into maps; and all operations that are no calls, together. -/
namespace Go.Ev
open Go

variable {X : Cx} {N N' N'' : Nu} {D : ChkD}

theorem sameBits_of {kk : Kd} {k a : AV} {u v : Value} (hk : VR X N k u) (ha : VR X N a v) (h : cellEqK kk k a = some true) (n : Nat) : Instr.sameBits n v u = true := by
  unfold cellEqK at h
  split at h <;> first | (cases h; done) | skip
  · simp only [VR] at hk ha; subst hk; subst ha
    simp only [Option.some.injEq, beq_iff_eq] at h; subst h
    simp [Instr.sameBits]
  · simp only [VR] at hk ha; subst hk; subst ha
    split at h
    · rename_i hkk
      obtain ⟨rfl, rfl⟩ := hkk
      simp only [Option.some.injEq, decide_eq_true_eq] at h; subst h
      simp [Instr.sameBits]
    · cases h
  · simp only [VR] at hk ha; subst hk; subst ha
    simp only [Option.some.injEq, seq8_iff] at h; subst h
    simp only [Instr.sameBits]
    rename_i x
    show (x.toArray == x.toArray) = true
    simp

theorem mins_now {kk : Kd} {k v : AV} {u x : Value} {d : TypeDesc} {t : TypeId} (ht : kdTy X t kk = true) (hd : X.P.underlying t = some d) (hk : VR X N k u) (hx : VR X N v x) :
    ∀ {es es' : List (AV × AV)} {ms : List MapEntry} (j : Nat), EntsR X N es ms → mins kk k v es = some es' →
      (∃ i e, Instr.findNow d u ms j = some (some (j + i, e.val)) ∧ ms[i]? = some e ∧ (∀ n, Instr.sameBits n e.key u = true) ∧ EntsR X N es' (ms.modify i fun e => { e with key := u, val := x })) ∨
      (Instr.findNow d u ms j = some none ∧ ∀ c, EntsR X N es' (ms ++ [{ key := u, val := x, born := c }]))
  | [], es', ms, j, h, hm => by
    simp only [EntsR] at h; subst h
    simp only [mins] at hm
    split at hm
    · cases hm
      exact .inr ⟨rfl, fun c => ⟨_, [], rfl, hk, hx, rfl⟩⟩
    · cases hm
  | (a, b) :: es, es', ms, j, h, hm => by
    obtain ⟨e, er, rfl, h1, h2, h3⟩ := h
    simp only [mins] at hm
    split at hm
    · rename_i hc
      cases hm
      refine .inl ⟨0, e, by simp [Instr.findNow, cellEqK_now ht hd hk h1 hc], rfl, fun n => sameBits_of hk h1 hc n, ?_⟩
      exact ⟨{ e with key := u, val := x }, er, by simp, hk, hx, h3⟩
    · rename_i hc
      split at hm
      · rename_i r hr
        cases hm
        rcases mins_now ht hd hk hx (j + 1) h3 hr with ⟨i, e', h4, h5, h6, h7⟩ | ⟨h4, h5⟩
        · refine .inl ⟨i + 1, e', ?_, by simpa using h5, h6, ?_⟩
          · simp [Instr.findNow, cellEqK_now ht hd hk h1 hc, h4]; omega
          · exact ⟨e, _, by simp, h1, h2, h7⟩
        · refine .inr ⟨by simp [Instr.findNow, cellEqK_now ht hd hk h1 hc, h4], fun c => ⟨e, _, rfl, h1, h2, h5 c⟩⟩
      · cases hm
    · cases hm

theorem run_mapUpdate {st st' : St} {w : World} {t kt et : TypeId} {kk : Kd} {m k v : AV} {um uk uv : Value} {n : Nat} {es es' : List (AV × AV)} (hd : X.P.underlying t = some (.map kt et)) (hkt : kdTy X kt kk = true)
    (hm : VR X N m um) (hk : VR X N k uk) (hv : VR X N v uv) (hr : SR D X N st w) (hmn : m = .map n) (hg : hget st.h n = some (.map es)) (hi : mins kk k v es = some es')
    (hst : st' = ⟨hset st.h n (.map es'), st.nx⟩) :
    ∃ w', (Instr.mapUpdate t um uk uv).run X.P w = .ok () w' ∧ SR D X N st' w' ∧ Gd N st.h w N st'.h w' := by
  subst hmn hst
  obtain ⟨ad, hρ, rfl⟩ := hm
  obtain ⟨b, mes, clk, hb1, hb2, hb3, hb4⟩ := hr.hr.objs _ _ hg
  rw [hρ] at hb1
  cases hb1
  have hgo : (getObj b).run X.P w = .ok (.map mes clk) w := by simp [getObj, Sem.run, hb2]
  have hso : ∀ o, (setObj b o).run X.P w = .ok () { w with heap := w.heap.setIfInBounds b o } := fun o => by simp [setObj, Sem.run, hb2]
  obtain ⟨dk, hdk⟩ : ∃ dk, X.P.underlying kt = some dk := by
    unfold kdTy at hkt
    split at hkt <;> first | exact ⟨_, ‹_›⟩ | cases hkt
  have hck := fun e => checkKey_plain hkt e uk 9999 w
  have fin : ∀ ms' clk', EntsR X N es' ms'.toList → (∀ e ∈ ms'.toList, e.born < clk') → HR D X N (hset st.h n (.map es')) { w with heap := w.heap.setIfInBounds b (.map ms' clk') } ∧ Gd N st.h w N (hset st.h n (.map es')) { w with heap := w.heap.setIfInBounds b (.map ms' clk') } := by
    intro ms' clk' hms hborn
    refine HR.put hr.hr hg rfl hρ (by simp) rfl rfl rfl (fun q hq => ?_) ⟨b, ms', clk', hρ, ?_, hms, hborn⟩
    · rw [Array.getElem?_setIfInBounds, if_neg (fun e => hq e.symm)]
    · simp [lt_of_get hb2]
  rcases mins_now hkt hdk hk hv 0 hb3 hi with ⟨i, e, h4, h5, h6, h7⟩ | ⟨h4, h5⟩
  · have h5' : mes[i]? = some e := by rw [← Array.getElem?_toList]; exact h5
    obtain ⟨g1, g2⟩ := fin (mes.modify i fun e => { e with key := uk, val := uv }) clk (by rw [Array.toList_modify]; exact h7) (fun e he => by
      rw [Array.toList_modify] at he
      obtain ⟨j, hj⟩ := List.mem_iff_getElem?.1 he
      rw [List.getElem?_modify] at hj
      cases hq : mes.toList[j]? with
      | none => rw [hq] at hj; simp at hj
      | some q =>
        rw [hq] at hj
        have hb := hb4 q (List.mem_of_getElem? hq)
        split at hj <;> simp at hj <;> subst hj <;> exact hb)
    refine ⟨_, ?_, ⟨g1, hr.fresh⟩, g2⟩
    simp only [Nat.zero_add] at h4
    have hsb := h6 10000
    simp [Instr.mapUpdate, run_underlying hd, hgo, hck, Instr.findKey, run_underlying hdk, h4, h5', Instr.keyThatStays, hsb, hso]
  · obtain ⟨g1, g2⟩ := fin (mes.push { key := uk, val := uv, born := clk }) (clk + 1) (by simpa using h5 clk) (fun e he => by
      rw [Array.toList_push] at he
      rcases List.mem_append.1 he with he | he
      · have := hb4 e he; omega
      · simp at he; subst he; simp)
    refine ⟨_, ?_, ⟨g1, hr.fresh⟩, g2⟩
    simp [Instr.mapUpdate, run_underlying hd, hgo, hck, Instr.findKey, run_underlying hdk, h4, hso]

theorem run_loadBytes {P : Program} {w : World} : ∀ {cs : List AV} {us : List Value} {l : List UInt8} {a : Addr} {acc : ByteArray}, VRs X N cs us → toBytes cs = some l →
    (∀ j u, us[j]? = some u → w.cell? (a.add j) = some u) → (loadBytes a acc us.length).run P w = .ok ⟨acc.data ++ l.toArray⟩ w
  | [], us, l, a, acc, hv, hl, hc => by
    simp only [VRs] at hv
    subst hv
    simp only [toBytes, Option.some.injEq] at hl
    subst hl
    simp [loadBytes]
  | c :: cs, us, l, a, acc, hv, hl, hc => by
    obtain ⟨u, ur, rfl, h1, h2⟩ := hv
    unfold toBytes at hl
    split at hl
    · rename_i hn; cases hn
    · rename_i n r hn
      cases hn
      split at hl
      case h_2 => cases hl
      rename_i l' hl'
      cases hl
      simp only [VR] at h1
      subst h1
      have h0 : w.cell? a = some (.int .u8 n) := by
        have := hc 0 _ rfl
        simpa [Addr.add] using this
      have ih := run_loadBytes (P := P) (acc := acc.push (UInt8.ofNat n.toNat)) h2 hl' (a := a.add 1) (fun j y hy => by
        have := hc (j + 1) y (by simpa using hy)
        have e : (a.add 1).add j = a.add (j + 1) := by
          unfold Addr.add
          by_cases hj : j = 0
          · subst hj; simp
          · simp [hj]; omega
        rw [e]; exact this)
      simp only [List.length_cons, loadBytes, Sem.run_bind, run_load, h0, Result.andThen]
      have e : n.toNat.toUInt8 = UInt8.ofNat n.toNat := rfl
      rw [e, ih]
      congr 1
      apply ByteArray.ext
      simp [ByteArray.push]
    · cases hl

theorem freeze_ne {w : World} {a : Addr} {n k : Nat} (h : k ≠ a.block) : (w.freeze a n).heap[k]? = w.heap[k]? := by
  unfold World.freeze
  split
  · rfl
  · simp only [Array.getElem?_modify]
    rw [if_neg (fun e => h e.symm)]
theorem freeze_parts (w : World) (a : Addr) (n : Nat) : (w.freeze a n).heap.size = w.heap.size ∧ (w.freeze a n).tape = w.tape ∧ (w.freeze a n).os = w.os ∧ (w.freeze a n).output = w.output := by
  unfold World.freeze
  split <;> simp

theorem WO_nextS {o : Oper} {x : Operand} {a : AO} {ev : AO → AV} {r : Operand → Value} {st st' : St} {w : World} {v : AV} {call : AV → List AV → St → Option (AV × St)}
    (hop : o.op = .next x true) (ha : chkA X a x = true) (he : Evs X N ev r) (hr : SR D X N st w) (hv : WO.run call ev st (.nextS a) = some (v, st')) :
    ∃ u w', (execOp r o).run X.P w = .ok (.value u) w' ∧ VR X N v u ∧ SR D X N st' w' ∧ Gd N st.h w N st'.h w' ∧ st'.nx = st.nx := by
  have h1 := he _ _ ha
  simp only [WO.run] at hv
  split at hv
  case h_2 => cases hv
  rename_i n off hn
  split at hv
  case h_2 => cases hv
  rename_i s pos hg
  split at hv
  case isFalse => cases hv
  rename_i ho
  subst ho
  rw [hn] at h1
  obtain ⟨ad, hρ, h1⟩ := h1
  obtain ⟨b, hb1, hb2⟩ := hr.hr.objs _ _ hg
  rw [hρ] at hb1
  cases hb1
  split at hv
  · rename_i hlt
    cases hv
    have hlt' : pos < (⟨s.toArray⟩ : ByteArray).size := by simpa [ByteArray.size] using hlt
    have hbl := lt_of_get hb2
    obtain ⟨g1, g2⟩ := HR.put (w' := { w with heap := w.heap.setIfInBounds b (.stringIter ⟨s.toArray⟩ (pos + (runeAt s pos).2)) }) (o := .iter s (pos + (runeAt s pos).2)) hr.hr hg rfl hρ (by simp) rfl rfl rfl
      (fun k hk => by rw [Array.getElem?_setIfInBounds, if_neg (fun e => hk e.symm)]) ⟨b, hρ, by simp [hbl]⟩
    refine ⟨.tuple #[.bool true, .int .i64 pos, .int .i32 (Utf8.decode ⟨s.toArray⟩ pos).1], _, ?_, ⟨_, rfl, _, _, rfl, rfl, _, _, rfl, rfl, _, _, rfl, rfl, rfl⟩, ⟨g1, hr.fresh⟩, g2, rfl⟩
    simp only [execOp, hop, h1]
    simp [Instr.next, getObj, setObj, Sem.run_bind, Sem.run, hb2, Result.andThen, hlt', goInt, runeAt]
  · rename_i hlt
    cases hv
    have hlt' : ¬ pos < (⟨s.toArray⟩ : ByteArray).size := by simpa [ByteArray.size] using hlt
    refine ⟨.tuple #[.bool false], w, ?_, ⟨_, rfl, _, _, rfl, rfl, rfl⟩, hr, .refl _ _ _, rfl⟩
    simp only [execOp, hop, h1]
    simp [Instr.next, getObj, Sem.run, hb2, hlt']

theorem WO_ustr {o : Oper} {args : Array Operand} {argTypes : Array TypeId} {ty : Nat} {p l : AO} {ev : AO → AV} {r : Operand → Value} {st st' : St} {w : World} {v : AV} {call : AV → List AV → St → Option (AV × St)}
    (hop : o.op = .call { callee := .builtin .unsafeString, args, argTypes })
    (ht : (match argTypes[0]? with | some t => (match X.P.underlying t with | some (.pointer e) => e == X.τ ty && X.P.cellsOf e == 1 | _ => false) | none => false) = true)
    (ha : chkAs X [p, l] args.toList = true) (he : Evs X N ev r) (hr : SR D X N st w)
    (hv : WO.run call ev st (.ustr ty p l) = some (v, st')) :
    ∃ u w', (execOp r o).run X.P w = .ok (.value u) w' ∧ VR X N v u ∧ SR D X N st' w' ∧ Gd N st.h w N st'.h w' ∧ st'.nx = st.nx := by
  obtain ⟨xp, xl, rfl, hp, hl⟩ : ∃ xd xs, args = #[xd, xs] ∧ chkA X p xd = true ∧ chkA X l xs = true := by
    obtain ⟨q⟩ := args
    match q, ha with
    | [x, y], h => simp [chkAs] at h; exact ⟨x, y, rfl, h.1, h.2⟩
    | [], h => simp [chkAs] at h
    | [_], h => simp [chkAs] at h
    | _ :: _ :: _ :: _, h => simp [chkAs] at h
  have hcall : ∀ u w', (Builtin.unsafeString_ argTypes o.type #[r xp, r xl]).run X.P w = .ok u w' → (execOp r o).run X.P w = .ok (.value u) w' := by
    intro u w' hu
    simp [execOp, hop, resolve, invoke, builtin, hu]
  split at ht
  case h_2 => cases ht
  rename_i pt hat
  split at ht
  case h_2 => cases ht
  rename_i e hd
  simp only [bool_and, beq_iff_eq] at ht
  obtain ⟨rfl, hc1⟩ := ht
  have h1 := he _ _ hp
  have h2 := he _ _ hl
  have hmax : IntKind.i64.max = 9223372036854775807 := rfl
  simp only [WO.run] at hv
  split at hv
  · rename_i k hn hk
    split at hv
    case isFalse => cases hv
    rename_i hk0
    subst hk0
    cases hv
    rw [hn] at h1; rw [hk] at h2
    simp only [VR] at h1 h2
    refine ⟨.string .empty, w, hcall _ _ ?_, by simp only [VR]; rfl, hr, .refl _ _ _, rfl⟩
    rw [h1, h2]
    have hdef : Builtin.unsafeString_ argTypes o.type #[.pointer none, .int .i64 0] =
        (do
          let n ← asInt (.int .i64 0)
          let some pt := argTypes[0]? | stuck "unsafe.String: no argument types"
          if n < 0 then runtimePanic (.error "unsafe.String: len out of range")
          if n > IntKind.i64.max then unsupported (.unsafePointer "String: a length above the largest int")
          if n = 0 then pure (.string .empty)
          else runtimePanic (.error "unsafe.String: ptr is nil and len is not zero")) := rfl
    rw [hdef]
    simp [asInt, asIntOf, hmax, hat]
  · rename_i n off k hn hk
    split at hv
    case h_2 => cases hv
    rename_i ty' es cs hg
    split at hv
    case isFalse => cases hv
    rename_i hcs
    obtain ⟨rfl, rfl, rfl, hlen, rfl, hle⟩ := hcs
    simp only [Option.map_eq_some_iff] at hv
    obtain ⟨s, hs, hsv⟩ := hv
    cases hsv
    rw [hn] at h1; rw [hk] at h2
    obtain ⟨ad, hρ, h1⟩ := h1
    simp only [VR] at h2
    obtain ⟨b, us, fz, hb1, hb2, hb3, hb4, hb5, hb6⟩ := hr.hr.objs _ _ hg
    rw [hρ] at hb1
    cases hb1
    obtain ⟨q1, q2, q3, q4⟩ := freeze_parts w ⟨b, 0, none⟩ cs.length
    obtain ⟨g1, g2⟩ := HR.kill (w' := w.freeze ⟨b, 0, none⟩ cs.length) hr.hr hg rfl hρ q1 q2 q3 q4 (fun k hk => freeze_ne hk)
    refine ⟨.string ⟨s.toArray⟩, w.freeze ⟨b, 0, none⟩ cs.length, hcall _ _ ?_, by simp [VR], ⟨g1, hr.fresh⟩, g2, rfl⟩
    have hlt : (us.toList.take cs.length).length = cs.length := by simp; omega
    have hlb := run_loadBytes (P := X.P) (w := w) (a := ⟨b, 0, none⟩) (acc := .empty) hb5 hs (fun j u hj => by
      rw [List.getElem?_take] at hj
      split at hj
      · rw [add_plain, Nat.zero_add, cell?_of hb2]; simpa using hj
      · cases hj)
    rw [hlt] at hlb
    have hsh : w.shape? b = some (X.τ ty', us.size) := by simp [World.shape?, hb2]
    have hlies := Lib.liesAt_bytes (P := X.P) hc1 (us.size / X.P.cellsOf (X.τ ty')) cs.length (by rw [hc1]; simpa using hb4)
    rw [h1, h2]
    have hdef : Builtin.unsafeString_ argTypes o.type #[.pointer (some ⟨b, 0 + 0, none⟩), .int .i64 cs.length] =
        (do
          let n ← asInt (.int .i64 cs.length)
          let some pt := argTypes[0]? | stuck "unsafe.String: no argument types"
          if n < 0 then runtimePanic (.error "unsafe.String: len out of range")
          if n > IntKind.i64.max then unsupported (.unsafePointer "String: a length above the largest int")
          if n = 0 then pure (.string .empty)
          else if ← variablesAt ⟨b, 0, none⟩ (← elemOf pt) n.toNat then do
            let s ← loadBytes ⟨b, 0, none⟩ .empty n.toNat
            freeze ⟨b, 0, none⟩ n.toNat
            pure (.string s)
          else unsupported (.unsafePointer "String: not so many bytes at ptr")) := rfl
    rw [hdef]
    have h63 : ¬ (9223372036854775807 : Int) < (cs.length : Int) := by omega
    have hneg : ¬ (cs.length : Int) < 0 := by omega
    have h0 : cs.length ≠ 0 := by omega
    simp [asInt, asIntOf, hmax, hat, h63, hneg, h0, variablesAt, hsh, elemOf, run_underlying hd, hlies, hlb]
  · cases hv

/-- Does an operation call? -/
def WO.calls : WO → Bool
  | .call .. => true
  | _ => false

def MO.calls : MO → Bool
  | .w o => o.calls
  | _ => false

/-- What an operation leaves in its slot. -/
def outOf : Next → Option Value
  | .value u => some u
  | .skip => some undef
  | _ => none

/-- Every operation that is no call does what the model's does. -/
theorem MO_sound {o : Oper} {m : MO} {v : AV} {ev : AO → AV} {r : Operand → Value} {st st' : St} {w : World} {call : AV → List AV → St → Option (AV × St)} (hc : chkM X o.op m = true) (hnc : m.calls = false)
    (he : Evs X N ev r) (hk : ∀ v, r (.const v) = v) (hr : SR D X N st w) (hv : MO.run call ev st m = some (v, st')) :
    ∃ N' nx u w', (execOp r o).run X.P w = .ok nx w' ∧ outOf nx = some u ∧ VR X N' v u ∧ SR D X N' st' w' ∧ Gd N st.h w N' st'.h w' ∧ st.nx ≤ st'.nx ∧ ∀ n, n < st.nx → N'.ρ n = N.ρ n := by
  cases m with
  | p p =>
    simp only [MO.run] at hv
    split at hv
    · rename_i x hx
      cases hv
      obtain ⟨u, h1, h2⟩ := PO_sound (N := N) hc he hx w
      exact ⟨N, _, u, w, h1, rfl, h2, hr, .refl _ _ _, Nat.le_refl _, fun _ _ => rfl⟩
    · cases hv
  | r p =>
    simp only [MO.run] at hv
    split at hv
    · rename_i x hx
      cases hv
      obtain ⟨u, h1, h2⟩ := RO_sound hc he hr.hr hx
      exact ⟨N, _, u, w, h1, rfl, h2, hr, .refl _ _ _, Nat.le_refl _, fun _ _ => rfl⟩
    · cases hv
  | n p =>
    simp only [MO.run] at hv
    split at hv
    · rename_i x b hx
      cases hv
      obtain ⟨N', u, w', h1, h2, h3, h4, h5⟩ := NO_sound hc he hk hr.hr (hr.fresh _ (Nat.le_refl _)) hx
      refine ⟨N', _, u, w', h1, rfl, h2, ⟨h3, fun m hm => ?_⟩, h4, by simp, fun m hm => h5 m (by omega)⟩
      simp only at hm
      rw [h5 m (by omega)]
      exact hr.fresh m (by omega)
    · cases hv
  | w p =>
    simp only [chkM] at hc
    unfold chkW at hc
    split at hc <;> (first | (cases hc; done) | skip) <;> rename_i hop <;> (try simp only [bool_and, beq_iff_eq] at hc)
    · obtain ⟨h1, h2, h3⟩ := hc
      obtain ⟨w', g1, rfl, g3, g4, g5⟩ := WO_store (call := call) hop h1 h2 h3 he hr hv
      exact ⟨N, _, undef, w', g1, rfl, trivial, g3, g4, by omega, fun _ _ => rfl⟩
    · obtain ⟨h1, h2, h3, h4, h5, h6, h7⟩ := hc
      obtain ⟨N', u, w', g1, g2, g3, g4, g5, g6⟩ := WO_append hop h1 h2 h3 h4 h5 h6 h7 he hr hv
      exact ⟨N', _, u, w', g1, rfl, g2, g3, g4, g5, g6⟩
    · obtain ⟨h1, h2⟩ := hc
      obtain ⟨u, w', g1, g2, g3, g4, g5⟩ := WO_copy (call := call) hop h1 h2 he hr hv
      exact ⟨N, _, u, w', g1, rfl, g2, g3, g4, by omega, fun _ _ => rfl⟩
    · rename_i t m k v' kk m' k' v''
      obtain ⟨h1, h2, h3, h4⟩ := hc
      split at h1
      · rename_i kt et hd
        simp only [MO.run, WO.run] at hv
        split at hv
        · rename_i n hn
          split at hv
          · rename_i es hg
            simp only [Option.map_eq_some_iff] at hv
            obtain ⟨es', hes, hp⟩ := hv
            cases hp
            obtain ⟨w', g1, g2, g3⟩ := run_mapUpdate hd h1 (he _ _ h2) (he _ _ h3) (he _ _ h4) hr hn hg hes rfl
            exact ⟨N, .skip, undef, w', by simp [execOp, hop, g1], rfl, trivial, g2, g3, Nat.le_refl _, fun _ _ => rfl⟩
          · cases hv
        · cases hv
      · cases h1
    · rename_i t m k v' kk m' k' v''
      obtain ⟨h1, h2, h3, h4⟩ := hc
      split at h1
      · rename_i kt et hd
        simp only [MO.run, WO.run] at hv
        split at hv
        · rename_i n hn
          split at hv
          · rename_i es hg
            simp only [Option.map_eq_some_iff] at hv
            obtain ⟨es', hes, hp⟩ := hv
            cases hp
            obtain ⟨w', g1, g2, g3⟩ := run_mapUpdate hd h1 (he _ _ h2) (he _ _ h3) (he _ _ h4) hr hn hg hes rfl
            exact ⟨N, .skip, undef, w', by simp [execOp, hop, g1], rfl, trivial, g2, g3, Nat.le_refl _, fun _ _ => rfl⟩
          · cases hv
        · cases hv
      · cases h1
    · cases hnc
    · obtain ⟨u, w', g1, g2, g3, g4, g5⟩ := WO_nextS (call := call) hop hc he hr hv
      exact ⟨N, _, u, w', g1, rfl, g2, g3, g4, by omega, fun _ _ => rfl⟩
    · obtain ⟨h1, h2⟩ := hc
      obtain ⟨u, w', g1, g2, g3, g4, g5⟩ := WO_ustr (call := call) hop h1 h2 he hr hv
      exact ⟨N, _, u, w', g1, rfl, g2, g3, g4, by omega, fun _ _ => rfl⟩

end Go.Ev

/- Steps of the model's machine, for a frame that may be a round of a loop over a function. -/
namespace Go.Ev
open Go

/-- A running frame: its temporaries, deferred calls and code. -/
def Fr (b : Frame) (t : Array Value) (d : List Deferred) (todo : List Item) : Frame := { b with tmps := t, defers := d, todo, mode := .run }

def evT (t : Array Value) : Operand → Value
  | .tmp i => t.getD i undef
  | .const v => v
  | .global g => .pointer (some ⟨g, 0, none⟩)
  | .func f => .func (.func f) #[] #[]

theorem Fr_eval (b : Frame) (t : Array Value) (d : List Deferred) (todo : List Item) : (Fr b t d todo).eval = evT t := by
  funext x; cases x <;> rfl

def putT (t : Array Value) : Option Nat → Value → Array Value
  | none, _ => t
  | some d, v => t.setIfInBounds d v

section
variable {P : Program} {b : Frame} {t : Array Value} {d : List Deferred} {k : List Item} {cs : List Frame} {w : World}

theorem fr_skip : step P (lone (Fr b t d (.code .skip :: k)) cs w) = .next (lone (Fr b t d k) cs w) :=
  step_lone_go (by simp [stepG, stepG.exec, Fr])

theorem fr_label {l : Nat} : step P (lone (Fr b t d (.code (.label l) :: k)) cs w) = .next (lone (Fr b t d k) cs w) :=
  step_lone_go (by simp [stepG, stepG.exec, Fr])

theorem fr_inBlock {i : Nat} : step P (lone (Fr b t d (.inBlock i :: k)) cs w) = .next (lone (Fr b t d k) cs w) :=
  step_lone_go (by simp [stepG, stepG.exec, Fr])

theorem fr_inScope {c : Code} : step P (lone (Fr b t d (.inScope c :: k)) cs w) = .next (lone (Fr b t d k) cs w) :=
  step_lone_go (by simp [stepG, stepG.exec, Fr])

theorem fr_seq {x y : Code} : step P (lone (Fr b t d (.code (.seq x y) :: k)) cs w) = .next (lone (Fr b t d (.code x :: .code y :: k)) cs w) :=
  step_lone_go (by simp [stepG, stepG.exec, Fr])

theorem fr_cond {c : Operand} {x y : Code} {q : Bool} (h : evT t c = .bool q) :
    step P (lone (Fr b t d (.code (.cond c x y) :: k)) cs w) = .next (lone (Fr b t d (.code (if q then x else y) :: k)) cs w) :=
  step_lone_go (by
    have := congrFun (Fr_eval b t d (.code (.cond c x y) :: k)) c
    simp only [Fr] at this
    simp [stepG, stepG.exec, Fr, this, h])

theorem fr_block {i : Nat} {c : Code} : step P (lone (Fr b t d (.code (.block i c) :: k)) cs w) = .next (lone (Fr b t d (.code c :: .inBlock i :: k)) cs w) :=
  step_lone_go (by simp [stepG, stepG.exec, Fr])

theorem fr_scope {c : Code} : step P (lone (Fr b t d (.code (.scope c) :: k)) cs w) = .next (lone (Fr b t d (.code c :: .inScope c :: k)) cs w) :=
  step_lone_go (by simp [stepG, stepG.exec, Fr])

theorem fr_loop {c : Code} : step P (lone (Fr b t d (.code (.loop c) :: k)) cs w) = .next (lone (Fr b t d (.code c :: .inLoop c :: k)) cs w) :=
  step_lone_go (by simp [stepG, stepG.exec, Fr])

theorem fr_inLoop {c : Code} : step P (lone (Fr b t d (.inLoop c :: k)) cs w) = .next (lone (Fr b t d (.code c :: .inLoop c :: k)) cs w) :=
  step_lone_go (by simp [stepG, stepG.exec, Fr])

theorem fr_exit {i : Nat} {k' : List Item} (h : exitTo i k = some k') : step P (lone (Fr b t d (.code (.exit i) :: k)) cs w) = .next (lone (Fr b t d k') cs w) :=
  step_lone_go (by simp [stepG, stepG.exec, Fr, h])

theorem fr_region {i : Nat} {ops : Array Oper} :
    step P (lone (Fr b t d (.code (.region i ops false) :: k)) cs w) = .next (lone (Fr b t d (.inRegion ops (List.range ops.size) :: k)) cs w) :=
  step_lone_go (by simp [stepG, stepG.exec, Fr])

theorem fr_region_draw {i : Nat} {ops : Array Oper} :
    step P (lone (Fr b t d (.code (.region i ops true) :: k)) cs w) =
      .next (lone (Fr b t d (.inRegion ops (Region.schedule (P.follows .mixedOrders) ops (w.tape w.drawn (.order b.fn i))) :: k)) cs { w with drawn := w.drawn + 1 }) :=
  step_lone_go (by simp [stepG, stepG.exec, Fr, choose, Sem.run, Question.forced, Question.cut])

theorem fr_region_end {ops : Array Oper} : step P (lone (Fr b t d (.inRegion ops [] :: k)) cs w) = .next (lone (Fr b t d k) cs w) :=
  step_lone_go (by simp [stepG, stepG.exec, Fr])

theorem Fr_finish (ops : Array Oper) (i : Nat) (rest : List Nat) (v : Value) :
    (Fr b t d (.inRegion ops (i :: rest) :: k)).finish v = Fr b (putT t ((ops[i]?).bind (·.dst)) v) d (.inRegion ops rest :: k) := by
  cases h : (ops[i]?).bind (·.dst) <;> simp [Frame.finish, Fr, putT, h]

theorem fr_op_skip {ops : Array Oper} {i : Nat} {rest : List Nat} {o : Oper} (ho : ops[i]? = some o) (h : Region.wanted o (yielded ops t) = false) :
    step P (lone (Fr b t d (.inRegion ops (i :: rest) :: k)) cs w) = .next (lone (Fr b (putT t o.dst undef) d (.inRegion ops rest :: k)) cs w) := by
  have hf := Fr_finish (b := b) (t := t) (d := d) (k := k) ops i rest undef
  rw [ho] at hf
  simp only [Option.bind_some] at hf
  rw [← hf]
  exact step_lone_go (by simp [stepG, stepG.exec, Fr, ho, h])

theorem frG_op {ops : Array Oper} {i : Nat} {rest : List Nat} {o : Oper} (ho : ops[i]? = some o) (hw : Region.wanted o (yielded ops t) = true) (hd : ∀ c, o.op ≠ .defer c) :
    stepG P true { frame := Fr b t d (.inRegion ops (i :: rest) :: k), callers := cs, status := .running, dying := none } w =
      stepG.apply P true (Fr b t d (.inRegion ops (i :: rest) :: k)) cs none (execOp (evT t) o) w := by
  have he := Fr_eval b t d (.inRegion ops (i :: rest) :: k)
  simp only [Fr] at he
  simp only [Fr]
  cases hro : b.roundOf with
  | none =>
    rw [hro] at he
    simp [stepG, stepG.exec, stepG.oper, Frame.oper?, ho, hw, he]
  | some l =>
    rw [hro] at he
    simp only [stepG, stepG.exec, stepG.oper, Frame.oper?, ho, hw, he, Option.map_some, Option.getD_some, if_true]
    cases hop : o.op <;> first | rfl | exact absurd hop (hd _)

theorem fr_op_value {ops : Array Oper} {i : Nat} {rest : List Nat} {o : Oper} {nx : Next} {u : Value} {w' : World} (ho : ops[i]? = some o) (hw : Region.wanted o (yielded ops t) = true) (hd : ∀ c, o.op ≠ .defer c)
    (hr : (execOp (evT t) o).run P w = .ok nx w') (hu : outOf nx = some u) :
    step P (lone (Fr b t d (.inRegion ops (i :: rest) :: k)) cs w) = .next (lone (Fr b (putT t o.dst u) d (.inRegion ops rest :: k)) cs w') := by
  have hf := Fr_finish (b := b) (t := t) (d := d) (k := k) ops i rest u
  rw [ho] at hf
  simp only [Option.bind_some] at hf
  rw [← hf]
  refine step_lone_go ?_
  rw [frG_op ho hw hd]
  cases nx <;> simp only [outOf] at hu <;> first | (cases hu; done) | skip
  · cases hu; simp [stepG.apply, hr]
  · cases hu; simp [stepG.apply, hr]

/-- What stands behind an operation that enters a frame. -/
theorem fr_op_enter {ops : Array Oper} {i : Nat} {rest : List Nat} {o : Oper} {g : FuncId} {us : Array Value} {w' : World} (ho : ops[i]? = some o) (hw : Region.wanted o (yielded ops t) = true) (hd : ∀ c, o.op ≠ .defer c)
    (hr : (execOp (evT t) o).run P w = .ok (.enter g us) w') :
    step P (lone (Fr b t d (.inRegion ops (i :: rest) :: k)) cs w) = .next (lone (Frame.enter P g us .normal) (Fr b t d (.inRegion ops (i :: rest) :: k) :: cs) w') := by
  refine step_lone_go ?_
  rw [frG_op ho hw hd]
  simp [stepG.apply, hr, Fr]

theorem fr_op_round {ops : Array Oper} {i : Nat} {rest : List Nat} {o : Oper} {l : Nat} {g : FuncId} {us : Array Value} {a c : Code} {w' : World} (ho : ops[i]? = some o) (hw : Region.wanted o (yielded ops t) = true) (hd : ∀ c, o.op ≠ .defer c)
    (hr : (execOp (evT t) o).run P w = .ok (.round l g us a c) w') :
    step P (lone (Fr b t d (.inRegion ops (i :: rest) :: k)) cs w) = .next (lone (Frame.round l g us a c .normal) (Fr b t d (.inRegion ops (i :: rest) :: k) :: cs) w') := by
  refine step_lone_go ?_
  rw [frG_op ho hw hd]
  simp [stepG.apply, hr, Fr]

/-- The end of a function's body. -/
theorem fr_end (hb : b.roundOf = none) : step P (lone (Fr b t d []) cs w) = .next (lone { Fr b t d [] with mode := .returning } cs w) :=
  step_lone_go (by simp [stepG, stepG.exec, Fr, hb])

theorem fr_ret (hb : b.roundOf = none) : step P (lone (Fr b t d (.code .ret :: k)) cs w) = .next (lone { Fr b t d (.code .ret :: k) with mode := .returning } cs w) :=
  step_lone_go (by simp [stepG, stepG.exec, Fr, hb])

/-- The end of a round. -/
theorem fr_round_end {l : Nat} {c : Frame} {r : Loop} (hb : b.roundOf = some l) (hk : b.kind = .normal) (hl : w.heap[l]? = some (.loop r)) :
    step P (lone (Fr b t d []) (c :: cs) w) = .next (lone (c.finish (.bool true)) cs { w with heap := w.heap.setIfInBounds l (.loop { r with state := .ready, pending := none }) }) := by
  refine step_lone_go ?_
  have he : (Instr.endRound l none).run P w = .ok (.bool true) { w with heap := w.heap.setIfInBounds l (.loop { r with state := .ready, pending := none }) } := by
    simp [Instr.endRound, Instr.getLoop, getObj, setObj, Sem.run, hl]
  simp [stepG, stepG.exec, Fr, hb, he, doReturn, hk]

theorem fr_round_ret {l : Nat} {c : Frame} {r : Loop} (hb : b.roundOf = some l) (hk : b.kind = .normal) (hl : w.heap[l]? = some (.loop r)) :
    step P (lone (Fr b t d (.code .ret :: k)) (c :: cs) w) = .next (lone (c.finish (.bool false)) cs { w with heap := w.heap.setIfInBounds l (.loop { r with state := .done, pending := some .ret }) }) := by
  refine step_lone_go ?_
  have he : (Instr.endRound l (some .ret)).run P w = .ok (.bool false) { w with heap := w.heap.setIfInBounds l (.loop { r with state := .done, pending := some .ret }) } := by
    simp [Instr.endRound, Instr.getLoop, getObj, setObj, Sem.run, hl]
  simp [stepG, stepG.exec, Fr, hb, he, doReturn, hk]

theorem fr_round_exit {l i : Nat} {c : Frame} {r : Loop} (hb : b.roundOf = some l) (hk : b.kind = .normal) (hl : w.heap[l]? = some (.loop r)) (hx : exitTo i k = none) :
    step P (lone (Fr b t d (.code (.exit i) :: k)) (c :: cs) w) = .next (lone (c.finish (.bool false)) cs { w with heap := w.heap.setIfInBounds l (.loop { r with state := .done, pending := some (.exit i) }) }) := by
  refine step_lone_go ?_
  have he : (Instr.endRound l (some (.exit i))).run P w = .ok (.bool false) { w with heap := w.heap.setIfInBounds l (.loop { r with state := .done, pending := some (.exit i) }) } := by
    simp [Instr.endRound, Instr.getLoop, getObj, setObj, Sem.run, hl]
  simp [stepG, stepG.exec, Fr, hb, he, doReturn, hk, hx]

theorem fr_beginRound {l : Nat} {r : Loop} (hb : b.roundOf = some l) (hl : w.heap[l]? = some (.loop r)) (hr : r.state = .ready) :
    step P (lone (Fr b t d (.beginRound :: k)) cs w) = .next (lone (Fr b t d k) cs { w with heap := w.heap.setIfInBounds l (.loop { r with state := .busy }) }) := by
  refine step_lone_go ?_
  have he : (Instr.beginRound l).run P w = .ok () { w with heap := w.heap.setIfInBounds l (.loop { r with state := .busy }) } := by
    simp [Instr.beginRound, Instr.getLoop, getObj, setObj, Sem.run, hl, hr]
  simp [stepG, stepG.exec, Fr, hb, stepG.apply, he, Frame.finish]

/-- A mark of a loop over a function is taken as the frame returns. -/
theorem fr_unwind_mark {r : Nat} {todo : List Item} (hr : w.heap[r]? = some (.deferred (some []))) :
    step P (lone { Fr b t ({ target := .collected r, args := #[] } :: d) todo with mode := .returning } cs w) =
      .next (lone { Fr b t d todo with mode := .returning } cs { w with heap := w.heap.setIfInBounds r (.deferred none) }) := by
  refine step_lone_go ?_
  have he : (Instr.takeDeferred r).run P w = .ok [] { w with heap := w.heap.setIfInBounds r (.deferred none) } := by
    simp [Instr.takeDeferred, getObj, setObj, Sem.run, hr]
  simp [stepG, unwind, Fr, he]

theorem fr_return {c : Frame} {fn : Func} {v : Value} {todo : List Item} (hk : b.kind = .normal) (hf : P.funcs[b.fn]? = some fn) (hr : (results fn t).run P w = .ok v w) :
    step P (lone { Fr b t [] todo with mode := .returning } (c :: cs) w) = .next (lone (c.finish v) cs w) := by
  refine step_lone_go ?_
  simp [stepG, unwind, Fr, hf, hr, doReturn, hk]

end

end Go.Ev

/- The evaluator's code does what the model's machine does: regions and calls. -/
namespace Go.Ev
open Go

variable {X : Cx} {N N' N'' : Nu} {D : ChkD}

/-- The marks of loops over functions that a frame bears. -/
def DefOK (B : Nat) (d : List Deferred) (w : World) : Prop :=
  ∃ rs : List Nat, d = rs.map (fun r => { target := .collected r, args := #[] }) ∧ rs.Nodup ∧ ∀ r ∈ rs, B ≤ r ∧ w.heap[r]? = some (.deferred (some []))

theorem HR.not_own_deferred {h : Heap} {w : World} (hr : HR D X N h w) {b : Nat} {q : Option (List Deferred)} (hb : w.heap[b]? = some (.deferred q)) : ¬ Own N h b := by
  rintro ⟨n, o, a, hg, ho, ha, rfl⟩
  have := hr.objs n o hg
  cases o with
  | cells ty l cs => obtain ⟨b, us, fz, h1, h2, _⟩ := this; rw [h1] at ha; cases ha; rw [h2] at hb; cases hb
  | buf ty es cs => obtain ⟨b, us, fz, h1, h2, _⟩ := this; rw [h1] at ha; cases ha; rw [h2] at hb; cases hb
  | ro cs => cases ho
  | map es => obtain ⟨b, mes, clk, h1, h2, _⟩ := this; rw [h1] at ha; cases ha; rw [h2] at hb; cases hb
  | glob g cs => cases ho
  | iter s pos => obtain ⟨b, h1, h2⟩ := this; rw [h1] at ha; cases ha; rw [h2] at hb; cases hb
  | loop st env ps assign body => obtain ⟨b, l, S, h1, h2, _⟩ := this; rw [h1] at ha; cases ha; rw [h2] at hb; cases hb

theorem DefOK.keep {B : Nat} {d : List Deferred} {h h' : Heap} {w w' : World} (hd : DefOK B d w) (hr : HR D X N h w) (g : Gd N h w N' h' w') : DefOK B d w' := by
  obtain ⟨rs, h1, h2, h3⟩ := hd
  refine ⟨rs, h1, h2, fun r hr' => ⟨(h3 r hr').1, ?_⟩⟩
  have := (h3 r hr').2
  rw [g.frame r (lt_of_get this) (hr.not_own_deferred this), this]

/-- What a call comes to, for one frame that waits for it. -/
def CallsTo (P : Program) (s : Sem Next) (w : World) (c : Frame) (cs : List Frame) (u : Value) (w' : World) : Prop :=
  ∃ nx w1, s.run P w = .ok nx w1 ∧ ((outOf nx = some u ∧ w1 = w') ∨
    (∃ g us, nx = .enter g us ∧ Steps P (lone (Frame.enter P g us .normal) (c :: cs) w1) (lone (c.finish u) cs w')) ∨
    (∃ l g us a e, nx = .round l g us a e ∧ Steps P (lone (Frame.round l g us a e .normal) (c :: cs) w1) (lone (c.finish u) cs w')))

abbrev CallF := AV → List AV → St → Option (AV × St)
abbrev ExF := MCode → Env → St → Option (Ex × Env × St)

def callSem (u : Value) (us : Array Value) : Sem Next := do let d ← Deferred.ofValue u us; invoke d.target d.args

def CallOK (D : ChkD) (X : Cx) (call : CallF) : Prop :=
  ∀ f args st v st', call f args st = some (v, st') → ∀ N w uf us, SR D X N st w → VR X N f uf → VRs X N args us → ∀ c cs,
    ∃ N' u w', VR X N' v u ∧ SR D X N' st' w' ∧ Gd N st.h w N' st'.h w' ∧ st.nx ≤ st'.nx ∧ (∀ n, n < st.nx → N'.ρ n = N.ρ n) ∧ CallsTo X.P (callSem uf us.toArray) w c cs u w'

def OutM (P : Program) (b : Frame) (k : List Item) (cs : List Frame) (M : Machine) (t : Array Value) (d : List Deferred) (w : World) : Ex → Prop
  | .norm => Steps P M (lone (Fr b t d k) cs w)
  | .exit i => ∃ k2 M', exitTo i k2 = exitTo i k ∧ Steps P M M' ∧ step P M' = step P (lone (Fr b t d (.code (.exit i) :: k2)) cs w)
  | .ret => ∃ k2 M', Steps P M M' ∧ step P M' = step P (lone (Fr b t d (.code .ret :: k2)) cs w)

def CodeOK (D : ChkD) (X : Cx) (ex : ExF) : Prop :=
  ∀ c code S e st x e' st', ex c e st = some (x, e', st') → chkC D X S c code = true → ∀ N b t d k cs w B, EnvR X N e t → S ≤ t.size → SR D X N st w → DefOK B d w → B ≤ w.heap.size →
    (b.roundOf = none ∨ noRF c = true) →
    ∃ N' t' d' w', EnvR X N' e' t' ∧ t'.size = t.size ∧ SR D X N' st' w' ∧ Gd N st.h w N' st'.h w' ∧ st.nx ≤ st'.nx ∧ (∀ n, n < st.nx → N'.ρ n = N.ρ n) ∧ DefOK B d' w' ∧ (noRF c = true → d' = d) ∧
      ∀ M, step X.P M = step X.P (lone (Fr b t d (.code code :: k)) cs w) → OutM X.P b k cs M t' d' w' x

theorem evs_of {e : Env} {t : Array Value} (h : EnvR X N e t) : Evs X N (AO.ev e) (evT t) := by
  intro a x hc
  cases a with
  | t n =>
    cases x <;> simp [chkA] at hc
    subst hc
    exact h n
  | k v =>
    cases x with
    | tmp => simp [chkA] at hc
    | const c => simp only [chkA] at hc; exact chkV_VR _ _ hc
    | global g => simp [chkA] at hc
    | func g =>
      unfold chkA at hc
      split at hc <;> first | (simp_all; done) | skip
      · simp only [beq_iff_eq] at hc
        rename_i heq1 heq2
        cases heq1
        cases heq2
        subst hc
        exact ⟨#[], #[], rfl, rfl, rfl⟩

theorem EnvR.put {e : Env} {t : Array Value} (h : EnvR X N e t) {dst : Option Nat} {v : AV} {u : Value} (hd : ∀ d, dst = some d → d < t.size) (hv : VR X N v u) : EnvR X N (eput e dst v) (putT t dst u) := by
  cases dst with
  | none => exact h
  | some d =>
    intro i
    simp only [eput, eset, eget, putT]
    by_cases he : d = i
    · subst he
      rw [if_pos rfl]
      have := hd d rfl
      simp [Array.getD, this]
      exact hv
    · rw [if_neg he]
      have := h i
      simp only [Array.getD_eq_getD_getElem?] at this ⊢
      rw [Array.getElem?_setIfInBounds_ne he]
      exact this

theorem putT_size (t : Array Value) (dst : Option Nat) (u : Value) : (putT t dst u).size = t.size := by
  cases dst <;> simp [putT]

theorem chkM_defer {c : Call} {m : MO} (h : m ≠ .p .stuck) : chkM X (.defer c) m = false := by
  cases m with
  | p o => cases o <;> first | rfl | exact absurd rfl h
  | r o => cases o <;> rfl
  | n o => cases o <;> rfl
  | w o => cases o <;> rfl

theorem wanted_of {e : Env} {t : Array Value} (h : EnvR X N e t) {ops : Array Oper} {g : Option (Nat × Bool)} {o : Oper} (hg : chkG ops g o.guard = true) {b : Bool} (hw : wanted e g = some b) :
    Region.wanted o (yielded ops t) = b := by
  unfold Region.wanted
  cases ho : o.guard with
  | none =>
    rw [ho] at hg
    cases g with
    | none => cases hw; rfl
    | some p => cases hg
  | some p =>
    obtain ⟨j, want⟩ := p
    rw [ho] at hg
    cases g with
    | none => cases hg
    | some q =>
      obtain ⟨tt, bb⟩ := q
      simp only [chkG, bool_and, beq_iff_eq] at hg
      obtain ⟨rfl, hd⟩ := hg
      simp only [wanted] at hw
      split at hw
      · rename_i c hc
        cases hw
        have := h tt
        rw [hc] at this
        simp only [VR] at this
        have hget : t[tt]? = some (.bool c) := by
          rw [Array.getD_eq_getD_getElem?] at this
          cases hq : t[tt]? with
          | none => rw [hq] at this; cases this
          | some v => rw [hq] at this; simp only [Option.getD_some] at this; rw [this]
        simp only [yielded, hd, Option.bind_some, hget]
        rw [Bool.eq_iff_iff]; simp
      · rename_i c hc
        cases hw
        have := h tt
        rw [hc] at this
        obtain ⟨us, hus, -⟩ := this
        have hget : ∀ bb, t[tt]? ≠ some (.bool bb) := by
          intro bb hq
          rw [Array.getD_eq_getD_getElem?, hq] at hus
          cases hus
        simp only [yielded, hd, Option.bind_some]
        rfl
      · cases hw

/-- One operation of a region. -/
theorem MI_sound {call : CallF} (hcall : CallOK D X call) {S : Nat} {ops : Array Oper} {i : Nat} {o : Oper} {mi : MI} {e e' : Env} {st st' : St} (hv : mi.run call e st = some (e', st')) (hc : chkI X S ops mi o = true) (ho : ops[i]? = some o)
    {t : Array Value} {w : World} (he : EnvR X N e t) (hs : S ≤ t.size) (hr : SR D X N st w) (b : Frame) (d : List Deferred) (rest : List Nat) (k : List Item) (cs : List Frame) :
    ∃ N' t' w', EnvR X N' e' t' ∧ t'.size = t.size ∧ SR D X N' st' w' ∧ Gd N st.h w N' st'.h w' ∧ st.nx ≤ st'.nx ∧ (∀ n, n < st.nx → N'.ρ n = N.ρ n) ∧
      Steps X.P (lone (Fr b t d (.inRegion ops (i :: rest) :: k)) cs w) (lone (Fr b t' d (.inRegion ops rest :: k)) cs w') := by
  simp only [chkI, bool_and, beq_iff_eq] at hc
  obtain ⟨hdst, hlt, hg, hm⟩ := hc
  have hd : ∀ q, mi.dst = some q → q < t.size := by
    intro q hq
    rw [← hdst, hq] at hlt
    have hlt' : q < S := by simpa using hlt
    omega
  have hdef : mi.op ≠ .p .stuck → ∀ c, o.op ≠ .defer c := by
    intro hns c e
    rw [e, chkM_defer hns] at hm
    cases hm
  unfold MI.run at hv
  split at hv
  · rename_i hw
    have hwant := wanted_of he hg hw
    split at hv
    · rename_i v st1 hrun
      cases hv
      have hns : mi.op ≠ .p .stuck := by
        intro e
        rw [e] at hrun
        cases hrun
      have hdef := hdef hns
      by_cases hcl : mi.op.calls = true
      · -- a call
        cases hop : mi.op with
        | p p => rw [hop] at hcl; cases hcl
        | r p => rw [hop] at hcl; cases hcl
        | n p => rw [hop] at hcl; cases hcl
        | w p =>
          rw [hop] at hcl hrun hm
          cases p with
          | call f args =>
            simp only [MO.run, WO.run] at hrun
            simp only [chkM] at hm
            unfold chkW at hm
            split at hm <;> first | (cases hm; done) | (rename_i heq; cases heq; done) | skip
            rename_i f0 args0 ats f' args' hop2 heq
            cases heq
            simp only [bool_and] at hm
            have hev := evs_of he
            obtain ⟨N', u, w', h1, h2, h3, h4, h5, nx, w1, h6, h7⟩ := hcall _ _ _ _ _ hrun N w _ _ hr (hev _ _ hm.1) (hev.list hm.2) (Fr b t d (.inRegion ops (i :: rest) :: k)) cs
            have hexec : (execOp (evT t) o).run X.P w = .ok nx w1 := by
              simp only [execOp, hop2, resolve]
              have : (args0.toList.map (evT t)).toArray = args0.map (evT t) := by
                apply Array.ext'; simp
              rw [this] at h6
              exact h6
            have hfin : (Fr b t d (.inRegion ops (i :: rest) :: k)).finish u = Fr b (putT t o.dst u) d (.inRegion ops rest :: k) := by
              rw [Fr_finish, ho]; rfl
            refine ⟨N', putT t mi.dst u, w', (he.mono h3.le).put hd h1, putT_size _ _ _, h2, h3, h4, h5, ?_⟩
            rw [hdst]
            rcases h7 with ⟨hu, rfl⟩ | ⟨g, us, rfl, hst⟩ | ⟨l, g, us, a, c, rfl, hst⟩
            · exact .one (fr_op_value ho hwant hdef hexec hu)
            · rw [← hfin]; exact .head (fr_op_enter ho hwant hdef hexec) hst
            · rw [← hfin]; exact .head (fr_op_round ho hwant hdef hexec) hst
          | _ => cases hcl
      · have hcl : mi.op.calls = false := by simpa using hcl
        obtain ⟨N', nx, u, w', h1, h2, h3, h4, h5, h6, h7⟩ := MO_sound hm hcl (evs_of he) (fun _ => rfl) hr hrun
        exact ⟨N', putT t mi.dst u, w', (he.mono h5.le).put hd h3, putT_size _ _ _, h4, h5, h6, h7, by rw [hdst]; exact .one (fr_op_value ho hwant hdef h1 h2)⟩
    · cases hv
  · rename_i hw
    cases hv
    have hwant := wanted_of he hg hw
    exact ⟨N, putT t mi.dst undef, w, he.put hd ⟨_, rfl, rfl⟩, putT_size _ _ _, hr, .refl _ _ _, Nat.le_refl _, fun _ _ => rfl, by rw [hdst]; exact .one (fr_op_skip ho hwant)⟩
  · cases hv

/-- A region in the order of its text. -/
theorem ops_sound {call : CallF} (hcall : CallOK D X call) {S : Nat} {ops : Array Oper} (b : Frame) (d : List Deferred) (k : List Item) (cs : List Frame) :
    ∀ (is : List MI) (i : Nat) (os : List Oper) (N : Nu) (e e' : Env) (st st' : St) (t : Array Value) (w : World), runOps call is e st = some (e', st') → chkL X S ops is os = true → ops.toList.drop i = os →
      EnvR X N e t → S ≤ t.size → SR D X N st w →
      ∃ N' t' w', EnvR X N' e' t' ∧ t'.size = t.size ∧ SR D X N' st' w' ∧ Gd N st.h w N' st'.h w' ∧ st.nx ≤ st'.nx ∧ (∀ n, n < st.nx → N'.ρ n = N.ρ n) ∧
        Steps X.P (lone (Fr b t d (.inRegion ops (List.range' i os.length) :: k)) cs w) (lone (Fr b t' d (.inRegion ops [] :: k)) cs w')
  | [], i, os, N, e, e', st, st', t, w, hv, hc, hd, he, hs, hr => by
    cases os with
    | cons => simp [chkL] at hc
    | nil =>
      cases hv
      exact ⟨N, t, w, he, rfl, hr, .refl _ _ _, Nat.le_refl _, fun _ _ => rfl, .refl _ _⟩
  | mi :: is, i, os, N, e, e', st, st', t, w, hv, hc, hd, he, hs, hr => by
    cases os with
    | nil => simp [chkL] at hc
    | cons o os =>
      simp only [chkL, bool_and] at hc
      simp only [runOps] at hv
      split at hv
      · rename_i e1 st1 h1
        have ho : ops[i]? = some o := by
          rw [← Array.getElem?_toList]
          have := congrArg List.head? hd
          rw [List.head?_drop] at this
          exact this
        have hd' : ops.toList.drop (i + 1) = os := by
          have := congrArg List.tail hd
          rw [List.tail_drop] at this
          exact this
        obtain ⟨N1, t1, w1, a1, a2, a3, a4, a5, a6, a7⟩ := MI_sound hcall h1 hc.1 ho he hs hr b d (List.range' (i + 1) os.length) k cs
        obtain ⟨N2, t2, w2, b1, b2, b3, b4, b5, b6, b7⟩ := ops_sound hcall b d k cs is (i + 1) os N1 e1 e' st1 st' t1 w1 hv hc.2 hd' a1 (by omega) a3
        refine ⟨N2, t2, w2, b1, by omega, b3, a4.trans b4, by omega, fun n hn => by rw [b6 n (by omega), a6 n hn], ?_⟩
        rw [List.length_cons, List.range'_succ]
        exact a7.trans b7
      · cases hv

end Go.Ev

/- Calls: a function's body, a round of a loop over a function. -/
namespace Go.Ev
open Go

variable {X : Cx} {N N' N'' : Nu} {D : ChkD}

theorem argEnv_get : ∀ (vs : List AV) (i t : Nat), eget (argEnv i vs) t = if i ≤ t then vs.getD (t - i) .bot else .bot
  | [], i, t => by simp [argEnv, eget]
  | v :: vs, i, t => by
    simp only [argEnv, eget]
    by_cases e : i = t
    · subst e; simp
    · rw [if_neg e, argEnv_get vs (i + 1) t]
      by_cases h : i ≤ t
      · rw [if_pos h, if_pos (by omega), show t - i = (t - (i + 1)) + 1 by omega]
        simp
      · rw [if_neg h, if_neg (by omega)]

theorem EnvR.args {vs : List AV} {us : Array Value} (h : VRs X N vs us.toList) (k : Nat) : EnvR X N (argEnv 0 vs) (us ++ Array.replicate k undef) := by
  intro t
  rw [argEnv_get, if_pos (Nat.zero_le _), Nat.sub_zero]
  obtain ⟨hl, hi⟩ := VRs_iff.1 h
  simp only [Array.length_toList] at hl
  by_cases ht : t < vs.length
  · have h2 : t < us.size := by omega
    have : (us ++ Array.replicate k undef).getD t undef = us[t] := by
      simp [Array.getD_eq_getD_getElem?, Array.getElem?_append, h2]
    rw [this]
    refine hi t _ _ ?_ ?_
    · rw [List.getD_eq_getElem?_getD, List.getElem?_eq_getElem ht]; simp
    · simp [h2]
  · rw [List.getD_eq_getElem?_getD, List.getElem?_eq_none (by omega)]
    trivial

theorem EnvR.bind : ∀ {ps : List Nat} {e : Env} {t : Array Value} {vs : List AV} {us : List Value}, EnvR X N e t → VRs X N vs us → (∀ p ∈ ps, p < t.size) →
    EnvR X N (bindEnv e ps vs) ((ps.zip us).foldl (fun t p => t.setIfInBounds p.1 p.2) t)
  | [], e, t, vs, us, he, hv, hp => by simpa [bindEnv] using he
  | p :: ps, e, t, vs, us, he, hv, hp => by
    cases vs with
    | nil => simp only [VRs] at hv; subst hv; simpa [bindEnv] using he
    | cons v vs =>
      obtain ⟨u, ur, rfl, h1, h2⟩ := hv
      simp only [bindEnv, List.zip_cons_cons, List.foldl_cons]
      refine EnvR.bind (t := t.setIfInBounds p u) ?_ h2 (fun q hq => by simpa using hp q (List.mem_cons_of_mem _ hq))
      exact he.put (dst := some p) (fun d hd => by cases hd; exact hp p List.mem_cons_self) h1

def chkRes (X : Cx) : MRes → ResultVar → Bool
  | .t n, .tmp m => n == m
  | .cell n sz, .cell m t => n == m && szOK X t sz
  | _, _ => false

def chkRess (X : Cx) : List MRes → List ResultVar → Bool
  | [], [] => true
  | r :: rs, q :: qs => chkRes X r q && chkRess X rs qs
  | _, _ => false

def rv (t : Array Value) : ResultVar → Sem Value
  | .tmp n => pure (t.getD n undef)
  | .cell a ty => do loadVar ty (← asAddr (t.getD a undef))

theorem results_eq (fn : Func) (t : Array Value) : results fn t = (do let vs ← fn.results.mapM (rv t); pure (if h : vs.size = 1 then vs[0] else .tuple vs)) := by
  unfold results
  congr 1

theorem resVal_sound {h : Heap} {w : World} (hr : HR D X N h w) {e : Env} {t : Array Value} (he : EnvR X N e t) {r : MRes} {q : ResultVar} (hc : chkRes X r q = true) {v : AV} (hv : resVal h e r = some v) :
    ∃ u, (rv t q).run X.P w = .ok u w ∧ VR X N v u := by
  cases r with
  | t n =>
    cases q with
    | tmp m => simp only [chkRes, beq_iff_eq] at hc; subst hc; cases hv; exact ⟨_, rfl, he n⟩
    | cell => simp [chkRes] at hc
  | cell n sz =>
    cases q with
    | tmp => simp [chkRes] at hc
    | cell m ty =>
      simp only [chkRes, bool_and, beq_iff_eq] at hc
      obtain ⟨rfl, hz⟩ := hc
      simp only [resVal] at hv
      have h1 := he n
      cases sz with
      | none =>
        simp only [RO.run, AO.ev] at hv
        split at hv
        · rename_i k off hn
          rw [hn] at h1
          obtain ⟨ad, hρ, h1⟩ := h1
          obtain ⟨ad', u, h2, h3, h4⟩ := rdCell_sound hr hv
          rw [hρ] at h2; cases h2
          refine ⟨u, ?_, h3⟩
          simp [rv, h1, asAddr, loadVar, run_isAgg_none hz, h4]
        · cases hv
      | some k =>
        simp only [RO.run, AO.ev] at hv
        split at hv
        · rename_i k2 off hn
          rw [hn] at h1
          obtain ⟨ad, hρ, h1⟩ := h1
          simp only [Option.map_eq_some_iff] at hv
          obtain ⟨cs, hcs, rfl⟩ := hv
          obtain ⟨ad', us, h2, h3, h4, h5⟩ := rdCells_sound hr hcs
          rw [hρ] at h2; cases h2
          obtain ⟨z1, z2⟩ := run_isAgg_some hz w
          have hl := run_loadCells_at (P := X.P) h5
          refine ⟨.agg us.toArray, ?_, us.toArray, rfl, h3⟩
          simp [rv, h1, asAddr, loadVar, z1, z2, ← h4, hl]
        · cases hv

theorem resVals_sound {h : Heap} {w : World} (hr : HR D X N h w) {e : Env} {t : Array Value} (he : EnvR X N e t) : ∀ {rs : List MRes} {qs : List ResultVar} {vs : List AV}, chkRess X rs qs = true → resVals h e rs = some vs →
    ∃ us, (qs.mapM (rv t)).run X.P w = .ok us w ∧ VRs X N vs us
  | [], qs, vs, hc, hv => by
    cases qs with
    | nil => cases hv; exact ⟨[], rfl, rfl⟩
    | cons => simp [chkRess] at hc
  | r :: rs, qs, vs, hc, hv => by
    cases qs with
    | nil => simp [chkRess] at hc
    | cons q qs =>
      simp only [chkRess, bool_and] at hc
      simp only [resVals] at hv
      split at hv
      · rename_i v vs' h1 h2
        cases hv
        obtain ⟨u, g1, g2⟩ := resVal_sound hr he hc.1 h1
        obtain ⟨us, g3, g4⟩ := resVals_sound hr he hc.2 h2
        refine ⟨u :: us, ?_, u, us, rfl, g2, g4⟩
        rw [List.mapM_cons, Sem.run_bind, g1, Result.andThen_ok, Sem.run_bind, g3]
        rfl
      · cases hv

theorem results_sound {h : Heap} {w : World} (hr : HR D X N h w) {e : Env} {t : Array Value} (he : EnvR X N e t) {rs : List MRes} {fn : Func} {v : AV} (hc : chkRess X rs fn.results.toList = true) (hv : fresults h e rs = some v) :
    ∃ u, (results fn t).run X.P w = .ok u w ∧ VR X N v u := by
  unfold fresults at hv
  have key : ∀ vs, resVals h e rs = some vs → ∃ us : List Value, VRs X N vs us ∧ (results fn t).run X.P w = .ok (if h : us.toArray.size = 1 then us.toArray[0] else .tuple us.toArray) w := by
    intro vs hvs
    obtain ⟨us, g1, g2⟩ := resVals_sound hr he hc hvs
    refine ⟨us, g2, ?_⟩
    rw [results_eq, Sem.run_bind, Array.mapM_eq_mapM_toList, Sem.run_map, g1]
    rfl
  split at hv
  · rename_i v' hvs
    cases hv
    obtain ⟨us, g1, g2⟩ := key _ hvs
    obtain ⟨u, ur, rfl, h1, h2⟩ := g1
    simp only [VRs] at h2
    subst h2
    exact ⟨u, g2, h1⟩
  · rename_i vs hne hvs
    cases hv
    obtain ⟨us, g1, g2⟩ := key _ hvs
    have hl := g1.length
    have hne1 : us.toArray.size ≠ 1 := by
      intro e
      simp only [List.size_toArray] at e
      match vs, hl, hne with
      | [x], _, hne => exact hne x rfl
      | [], hl, _ => simp at hl; omega
      | _ :: _ :: _, hl, _ => simp at hl; omega
    rw [dif_neg hne1] at g2
    exact ⟨_, g2, us.toArray, rfl, g1⟩
  · cases hv

theorem hget_hdrop {l : List Nat} : ∀ {h : Heap} {n : Nat} {o : AObj}, hget (hdrop l h) n = some o → hget h n = some o
  | [], n, o, hh => by cases hh
  | (m, p) :: h, n, o, hh => by
    simp only [hdrop] at hh
    split at hh
    · rename_i hm
      have ih := hget_hdrop hh
      simp only [hget]
      by_cases e : m = n
      · exfalso
        subst e
        have : ∀ h : Heap, hget (hdrop l h) m = none := by
          intro h
          induction h with
          | nil => rfl
          | cons p h ih =>
            obtain ⟨q, o⟩ := p
            simp only [hdrop]
            split
            · exact ih
            · rename_i hq
              simp only [hget]
              rw [if_neg (by rintro rfl; exact hq hm)]
              exact ih
        rw [this] at hh
        cases hh
      · rw [if_neg e]; exact ih
    · simp only [hget] at hh ⊢
      split at hh
      · rename_i e; rw [if_pos e]; exact hh
      · rename_i e; rw [if_neg e]; exact hget_hdrop hh

theorem hget_dropLoc {c : Nat} {h : Heap} {n : Nat} {o : AObj} (hh : hget (dropLoc c h) n = some o) : hget h n = some o := by
  unfold dropLoc at hh
  split at hh
  · exact hh
  · exact hget_hdrop hh

end Go.Ev

/- Calls, by the level below. -/
namespace Go.Ev
open Go

variable {X : Cx} {N N' N'' : Nu} {D : ChkD}

/-- An entry does what the call does. -/
def EntryOK (D : ChkD) (X : Cx) (f : Nat) (F : Entry) : Prop :=
  ∀ args st v st', F args st = some (v, st') → ∀ N w us, SR D X N st w → VRs X N args us → ∀ c cs,
    ∃ N' u w', VR X N' v u ∧ SR D X N' st' w' ∧ Gd N st.h w N' st'.h w' ∧ st.nx ≤ st'.nx ∧ (∀ n, n < st.nx → N'.ρ n = N.ρ n) ∧ CallsTo X.P (callFunc (X.φ f) us.toArray) w c cs u w'

structure TabOK (D : ChkD) (X : Cx) (T : Tab) : Prop where
  fn : ∀ f mf, T.en f = none → T.fn f = some mf → ∃ fn c S, X.P.funcs[X.φ f]? = some fn ∧ fn.body = some c ∧ (fn.name == "runtime.NumGoroutine") = false ∧ S ≤ fn.ntmps ∧
    chkC D X S mf.body c = true ∧ chkRess X mf.results fn.results.toList = true
  en : ∀ f F, T.en f = some F → EntryOK D X f F

/-- The marks are taken, one after the other. -/
theorem unwind_marks {b : Frame} {t : Array Value} {todo : List Item} {cs : List Frame} {h : Heap} {B : Nat} :
    ∀ (rs : List Nat) (w : World), HR D X N h w → rs.Nodup → (∀ r ∈ rs, B ≤ r ∧ w.heap[r]? = some (.deferred (some []))) →
      ∃ w', Steps X.P (lone { Fr b t (rs.map fun r => { target := .collected r, args := #[] }) todo with mode := .returning } cs w) (lone { Fr b t [] todo with mode := .returning } cs w') ∧
        HR D X N h w' ∧ w'.heap.size = w.heap.size ∧ w'.tape = w.tape ∧ w'.os = w.os ∧ w'.output = w.output ∧ ∀ k, k < B → w'.heap[k]? = w.heap[k]?
  | [], w, hr, _, _ => ⟨w, .refl _ _, hr, rfl, rfl, rfl, rfl, fun _ _ => rfl⟩
  | r :: rs, w, hr, hn, hd => by
    obtain ⟨hB, hh⟩ := hd r List.mem_cons_self
    let w1 : World := { w with heap := w.heap.setIfInBounds r (.deferred none) }
    have hne : ∀ k, k ≠ r → w1.heap[k]? = w.heap[k]? := fun k hk => by
      show (w.heap.setIfInBounds r _)[k]? = _
      rw [Array.getElem?_setIfInBounds, if_neg (fun e => hk e.symm)]
    have hr1 : HR D X N h w1 := by
      refine ⟨fun n o ho => (hr.objs n o ho).keep (.refl N) (by simp [w1]) (fun a ha => hne _ ?_), hr.sep⟩
      intro e
      have hb : w.heap[a.block]? = some (.deferred (some [])) := by rw [e]; exact hh
      have := hr.objs n o ho
      cases o with
      | cells ty l cs => obtain ⟨b, us, fz, h1, h2, _⟩ := this; rw [h1] at ha; cases ha; rw [h2] at hb; cases hb
      | buf ty es cs => obtain ⟨b, us, fz, h1, h2, _⟩ := this; rw [h1] at ha; cases ha; rw [h2] at hb; cases hb
      | ro cs => obtain ⟨b, h1, ⟨us, t, fz, h2⟩, _⟩ := this; rw [h1] at ha; cases ha; rw [h2] at hb; cases hb
      | map es => obtain ⟨b, mes, clk, h1, h2, _⟩ := this; rw [h1] at ha; cases ha; rw [h2] at hb; cases hb
      | glob g cs => obtain ⟨us, t, fz, h1, h2, _⟩ := this; rw [h1] at ha; cases ha; rw [h2] at hb; cases hb
      | iter s pos => obtain ⟨b, h1, h2⟩ := this; rw [h1] at ha; cases ha; rw [h2] at hb; cases hb
      | loop st env ps assign body => obtain ⟨b, l, S, h1, h2, _⟩ := this; rw [h1] at ha; cases ha; rw [h2] at hb; cases hb
    rw [List.nodup_cons] at hn
    obtain ⟨w', s1, s2, s3, s4, s5, s6, s7⟩ := unwind_marks (b := b) (t := t) (todo := todo) (cs := cs) (B := B) rs w1 hr1 hn.2 (fun q hq => by
      refine ⟨(hd q (List.mem_cons_of_mem _ hq)).1, ?_⟩
      rw [hne q (by rintro rfl; exact hn.1 hq)]
      exact (hd q (List.mem_cons_of_mem _ hq)).2)
    refine ⟨w', .head (fr_unwind_mark hh) s1, s2, by rw [s3]; simp [w1], s4, s5, s6, fun k hk => ?_⟩
    rw [s7 k hk]
    exact hne k (by omega)

theorem evCallF_sound {ex : ExF} {T : Tab} (hx : CodeOK D X ex) (hT : TabOK D X T) {f : Nat} {args : List AV} {st st' : St} {v : AV} (hv : evCallF T ex f args st = some (v, st')) {w : World} {us : List Value} (hr : SR D X N st w)
    (ha : VRs X N args us) (c : Frame) (cs : List Frame) :
    ∃ N' u w', VR X N' v u ∧ SR D X N' st' w' ∧ Gd N st.h w N' st'.h w' ∧ st.nx ≤ st'.nx ∧ (∀ n, n < st.nx → N'.ρ n = N.ρ n) ∧ CallsTo X.P (callFunc (X.φ f) us.toArray) w c cs u w' := by
  unfold evCallF at hv
  split at hv
  · rename_i F hF
    exact hT.en f F hF args st v st' hv N w us hr ha c cs
  · rename_i hen
    split at hv
    · cases hv
    · rename_i mf hmf
      obtain ⟨fn, code, S, hf, hbody, hname, hS, hchk, hres⟩ := hT.fn f mf hen hmf
      split at hv
      case isFalse => cases hv
      let b : Frame := { (default : Frame) with fn := X.φ f, kind := .normal }
      let t0 : Array Value := us.toArray ++ Array.replicate (fn.ntmps - us.toArray.size) undef
      have hcf : (callFunc (X.φ f) us.toArray).run X.P w = .ok (.enter (X.φ f) us.toArray) w := by
        have hname' : ¬ fn.name = "runtime.NumGoroutine" := by simpa using hname
        simp [callFunc, hf, hname', hbody]
      have henter : Frame.enter X.P (X.φ f) us.toArray .normal = Fr b t0 [] [.code code] := by
        simp [Frame.enter, Fr, hf, hbody, b, t0]; rfl
      have hsize : S ≤ t0.size := by simp [t0]; omega
      -- what follows the body's end
      have fin : ∀ (x : Ex) (e' : Env) (st1 : St), ex mf.body (argEnv 0 args) st = some (x, e', st1) → (x = .norm ∨ x = .ret) → ∀ v, fresults st1.h e' mf.results = some v →
          ∃ N' u w', VR X N' v u ∧ SR D X N' ⟨dropLoc st.nx st1.h, st1.nx⟩ w' ∧ Gd N st.h w N' (dropLoc st.nx st1.h) w' ∧ st.nx ≤ st1.nx ∧ (∀ n, n < st.nx → N'.ρ n = N.ρ n) ∧ CallsTo X.P (callFunc (X.φ f) us.toArray) w c cs u w' := by
        intro x e' st1 hex hxr v hv
        obtain ⟨N1, t1, d1, w1, a1, a2, a3, a4, a5, a6, a7, _, a9⟩ := hx mf.body code S (argEnv 0 args) st x e' st1 hex hchk N b t0 [] [] (c :: cs) w w.heap.size (EnvR.args ha _) hsize hr ⟨[], rfl, List.nodup_nil, by simp⟩ (Nat.le_refl _) (.inl rfl)
        have a9 := a9 _ rfl
        obtain ⟨rs, rfl, hrn, hrd⟩ := a7
        -- to the frame that returns
        obtain ⟨todo, hret⟩ : ∃ todo, Steps X.P (lone (Fr b t0 [] [.code code]) (c :: cs) w) (lone { Fr b t1 (rs.map fun r => { target := .collected r, args := #[] }) todo with mode := .returning } (c :: cs) w1) := by
          rcases hxr with rfl | rfl
          · exact ⟨[], Steps.trans a9 (.one (fr_end rfl))⟩
          · obtain ⟨k2, M', hk2, hk3⟩ := a9
            exact ⟨_, Steps.trans hk2 (.one (hk3.trans (fr_ret rfl)))⟩
        obtain ⟨w2, b1, b2, b3, b4, b5, b6, b7⟩ := unwind_marks (b := b) (t := t1) (todo := todo) (cs := c :: cs) (B := w.heap.size) rs w1 a3.hr hrn hrd
        obtain ⟨u, r1, r2⟩ := results_sound b2 a1 hres hv
        refine ⟨N1, u, w2, r2, ⟨b2.weaken (fun n o ho => hget_dropLoc ho), a3.fresh⟩, ?_, a5, a6, .enter (X.φ f) us.toArray, w, hcf, .inr (.inl ⟨_, _, rfl, ?_⟩)⟩
        · refine ⟨a4.le, by rw [b3]; exact a4.size, b4.trans a4.tape, b5.trans a4.os, b6.trans a4.output, fun k hk hn => by rw [b7 k hk]; exact a4.frame k hk hn, fun n o a h1 h2 => a4.has n o a (hget_dropLoc h1) h2⟩
        · rw [henter]
          exact Steps.trans hret (Steps.trans b1 (.one (fr_return rfl hf r1)))
      split at hv
      · rename_i e' st1 hex
        split at hv
        · rename_i v' hv'
          cases hv
          exact fin _ _ _ hex (.inl rfl) _ hv'
        · cases hv
      · rename_i e' st1 hex
        split at hv
        · rename_i v' hv'
          cases hv
          exact fin _ _ _ hex (.inr rfl) _ hv'
        · cases hv
      · cases hv

end Go.Ev

/- Rounds of loops over functions; calls by value. -/
namespace Go.Ev
open Go

variable {X : Cx} {N N' N'' : Nu} {D : ChkD}

theorem loop_obj {h : Heap} {w : World} (hr : HR D X N h w) {n : Nat} {st : LSt} {env : Env} {ps : List Nat} {as bd : MCode} (hg : hget h n = some (.loop st env ps as bd)) :
    ∃ b l S, N.ρ n = some ⟨b, 0, none⟩ ∧ w.heap[b]? = some (.loop l) ∧ LStR st l.state l.pending ∧ EnvR X N env l.tmps ∧ ps = l.params.toList ∧
      S ≤ l.tmps.size ∧ (∀ t ∈ ps, t < S) ∧ noRF as = true ∧ noRF bd = true ∧ chkC D X S as l.assign = true ∧ chkC D X S bd l.body = true := hr.objs _ _ hg

/-- The state of a loop turns. -/
theorem loop_put {h : Heap} {w : World} (hr : HR D X N h w) {n b : Nat} {st st2 : LSt} {env : Env} {ps : List Nat} {as bd : MCode} {l : Loop} {s : LoopState} {p : Option Code} (hg : hget h n = some (.loop st env ps as bd))
    (hρ : N.ρ n = some ⟨b, 0, none⟩) (hl : w.heap[b]? = some (.loop l)) (hs : LStR st2 s p) :
    HR D X N (hset h n (.loop st2 env ps as bd)) { w with heap := w.heap.setIfInBounds b (.loop { l with state := s, pending := p }) } ∧
      Gd N h w N (hset h n (.loop st2 env ps as bd)) { w with heap := w.heap.setIfInBounds b (.loop { l with state := s, pending := p }) } := by
  obtain ⟨b', l', S, h1, h2, h3, h4⟩ := loop_obj hr hg
  rw [hρ] at h1
  cases h1
  rw [hl] at h2
  cases h2
  refine HR.put hr hg rfl hρ (by simp) rfl rfl rfl (fun k hk => ?_) ?_
  · rw [Array.getElem?_setIfInBounds, if_neg (fun e => hk e.symm)]
  · exact ⟨b, { l with state := s, pending := p }, S, hρ, by simp [lt_of_get hl], hs, h4⟩

theorem evYield_sound {ex : ExF} (hx : CodeOK D X ex) {l : Nat} {args : List AV} {st st' : St} {v : AV} (hv : evYield ex l args st = some (v, st')) {w : World} {us : List Value} (hr : SR D X N st w)
    (ha : VRs X N args us) {b : Nat} (hρ : N.ρ l = some ⟨b, 0, none⟩) (c : Frame) (cs : List Frame) :
    ∃ N' u w', VR X N' v u ∧ SR D X N' st' w' ∧ Gd N st.h w N' st'.h w' ∧ st.nx ≤ st'.nx ∧ (∀ n, n < st.nx → N'.ρ n = N.ρ n) ∧ CallsTo X.P (Instr.yield b us.toArray) w c cs u w' := by
  unfold evYield at hv
  split at hv
  case h_2 => cases hv
  rename_i env ps as bd hg
  obtain ⟨b', r, S, h1, h2, h3, h4, h5, h6, h7, h8, h9, h10, h11⟩ := loop_obj hr.hr hg
  rw [hρ] at h1
  cases h1
  split at hv
  case isFalse => cases hv
  rename_i hlen
  split at hv
  case h_2 => cases hv
  rename_i e1 st1 hex1
  split at hv
  case h_2 => cases hv
  rename_i env1 ps1 as1 bd1 hg1
  split at hv
  case h_2 => cases hv
  rename_i x e2 st2 hex2
  split at hv
  case h_2 => cases hv
  rename_i env2 ps2 as2 bd2 hg2
  -- the yield
  have hal := ha.length
  have hps : us.toArray.size = r.params.size := by simp only [List.size_toArray]; rw [h5] at hlen; simpa [← hal] using hlen
  let tm : Array Value := (r.params.zip us.toArray).foldl (fun tmps (p : Nat × Value) => tmps.setIfInBounds p.1 p.2) r.tmps
  have hyield : (Instr.yield b us.toArray).run X.P w = .ok (.round b r.fn tm r.assign r.body) w := by
    rw [run_yield h2 hps]
  let fb : Frame := { fn := r.fn, tmps := tm, todo := [], defers := [], mode := .run, kind := .normal, roundOf := some b }
  have hround : Frame.round b r.fn tm r.assign r.body .normal = Fr fb tm [] [.code r.assign, .beginRound, .code r.body] := rfl
  have htm : EnvR X N (bindEnv env ps args) tm := by
    have := EnvR.bind (ps := ps) h4 ha (fun p hp => by have := h7 p hp; omega)
    have e : tm = (ps.zip us).foldl (fun t p => t.setIfInBounds p.1 p.2) r.tmps := by
      simp only [tm]
      rw [← Array.foldl_toList, Array.toList_zip, h5]
    rw [e]; exact this
  have htms : tm.size = r.tmps.size := by
    have : ∀ (l : List (Nat × Value)) (t : Array Value), (l.foldl (fun t p => t.setIfInBounds p.1 p.2) t).size = t.size := by
      intro l
      induction l with
      | nil => intro t; rfl
      | cons p l ih => intro t; rw [List.foldl_cons, ih]; simp
    simp only [tm]
    rw [← Array.foldl_toList, this]
  obtain ⟨N1, t1, d1, w1, a1, a2, a3, a4, a5, a6, a7, a8, a9⟩ := hx as r.assign S _ st .norm e1 st1 hex1 h10 N fb tm [] [.beginRound, .code r.body] (c :: cs) w w.heap.size htm (by omega) hr ⟨[], rfl, List.nodup_nil, by simp⟩ (Nat.le_refl _) (.inr h8)
  obtain rfl := a8 h8
  have a9 := a9 _ rfl
  simp only [OutM] at a9
  obtain ⟨b1, r1, S1, i1, i2, i3, i4⟩ := loop_obj a3.hr hg1
  have hρ1 : N1.ρ l = some ⟨b, 0, none⟩ := (a4.le _ _ hρ).1
  rw [hρ1] at i1
  cases i1
  obtain ⟨j1, j2⟩ := loop_put a3.hr hg1 hρ1 i2 (st2 := .busy) (s := .busy) (p := r1.pending) rfl
  have hbegin := fr_beginRound (P := X.P) (b := fb) (t := t1) (d := []) (k := [.code r.body]) (cs := c :: cs) rfl i2 i3.1
  have hsr1 : SR D X N1 ⟨hset st1.h l (.loop .busy env1 ps1 as1 bd1), st1.nx⟩ { w1 with heap := w1.heap.setIfInBounds b (.loop { r1 with state := .busy }) } := ⟨j1, a3.fresh⟩
  obtain ⟨N2, t2, d2, w2, c1, c2, c3, c4, c5, c6, c7, c8, c9⟩ := hx bd r.body S e1 _ x e2 st2 hex2 h11 N1 fb t1 [] [] (c :: cs) _ w.heap.size a1 (by omega) hsr1 ⟨[], rfl, List.nodup_nil, by simp⟩ (by
    have := a4.size
    simp only [Array.size_setIfInBounds]
    exact this) (.inr h9)
  have c9 := c9 _ rfl
  obtain rfl := c8 h9
  obtain ⟨b2, r2, S2, k1, k2, k3, k4⟩ := loop_obj c3.hr hg2
  have hρ2 : N2.ρ l = some ⟨b, 0, none⟩ := (c4.le _ _ hρ1).1
  rw [hρ2] at k1
  cases k1
  have hgd : Gd N st.h w N2 st2.h w2 := a4.trans (j2.trans c4)
  have hpre : Steps X.P (lone (Frame.round b r.fn tm r.assign r.body .normal) (c :: cs) w) (lone (Fr fb t1 [] [.code r.body]) (c :: cs) { w1 with heap := w1.heap.setIfInBounds b (.loop { r1 with state := .busy }) }) := by
    rw [hround]
    exact Steps.trans a9 (.one hbegin)
  cases x with
  | norm =>
    cases hv
    obtain ⟨m1, m2⟩ := loop_put c3.hr hg2 hρ2 k2 (st2 := .ready) (s := .ready) (p := none) ⟨rfl, rfl⟩
    refine ⟨N2, .bool true, _, rfl, ⟨m1, c3.fresh⟩, hgd.trans m2, by simp only at c5 ⊢; omega, fun n hn => by rw [c6 n (by simp only; omega), a6 n hn], _, _, hyield, .inr (.inr ⟨_, _, _, _, _, rfl, ?_⟩)⟩
    exact Steps.trans hpre (Steps.trans c9 (.one (fr_round_end rfl rfl k2)))
  | exit i =>
    cases hv
    obtain ⟨m1, m2⟩ := loop_put c3.hr hg2 hρ2 k2 (st2 := .done (.exit i)) (s := .done) (p := some (.exit i)) ⟨rfl, rfl⟩
    obtain ⟨kk, M', hk1, hk2, hk3⟩ := c9
    refine ⟨N2, .bool false, _, rfl, ⟨m1, c3.fresh⟩, hgd.trans m2, by simp only at c5 ⊢; omega, fun n hn => by rw [c6 n (by simp only; omega), a6 n hn], _, _, hyield, .inr (.inr ⟨_, _, _, _, _, rfl, ?_⟩)⟩
    exact Steps.trans hpre (Steps.trans hk2 (.one (hk3.trans (fr_round_exit rfl rfl k2 (by rw [hk1]; rfl)))))
  | ret =>
    cases hv
    obtain ⟨m1, m2⟩ := loop_put c3.hr hg2 hρ2 k2 (st2 := .done .ret) (s := .done) (p := some .ret) ⟨rfl, rfl⟩
    obtain ⟨kk, M', hk2, hk3⟩ := c9
    refine ⟨N2, .bool false, _, rfl, ⟨m1, c3.fresh⟩, hgd.trans m2, by simp only at c5 ⊢; omega, fun n hn => by rw [c6 n (by simp only; omega), a6 n hn], _, _, hyield, .inr (.inr ⟨_, _, _, _, _, rfl, ?_⟩)⟩
    exact Steps.trans hpre (Steps.trans hk2 (.one (hk3.trans (fr_round_ret rfl rfl k2))))

theorem evCall_sound {ex : ExF} {T : Tab} (hx : CodeOK D X ex) (hT : TabOK D X T) : CallOK D X (evCall T ex) := by
  intro f args st v st' hv N w uf us hr hf ha c cs
  unfold evCall at hv
  split at hv
  · rename_i g first cap
    obtain ⟨ua, uc, rfl, h1, h2⟩ := hf
    obtain ⟨N', u, w', a1, a2, a3, a4, a5, a6⟩ := evCallF_sound hx hT hv hr ((h1.append ha).append h2) c cs
    refine ⟨N', u, w', a1, a2, a3, a4, a5, ?_⟩
    have : callSem (.func (.func (X.φ g)) ua uc) us.toArray = callFunc (X.φ g) (ua.toList ++ us ++ uc.toList).toArray := by
      simp only [callSem, Deferred.ofValue, pure_bind, invoke]
      congr 1
      apply Array.ext'
      simp
    rw [this]
    exact a6
  · rename_i l
    obtain ⟨a, hρ, rfl⟩ := hf
    obtain ⟨st0, env, ps, as, bd, hg⟩ : ∃ st0 env ps as bd, hget st.h l = some (.loop st0 env ps as bd) := by
      unfold evYield at hv
      split at hv
      · exact ⟨_, _, _, _, _, ‹_›⟩
      · cases hv
    obtain ⟨b, r, S, h1, _⟩ := loop_obj hr.hr hg
    rw [hρ] at h1
    cases h1
    obtain ⟨N', u, w', a1, a2, a3, a4, a5, a6⟩ := evYield_sound hx hv hr ha hρ c cs
    refine ⟨N', u, w', a1, a2, a3, a4, a5, ?_⟩
    have : callSem (.func (.yield b) #[] #[]) us.toArray = Instr.yield b us.toArray := by
      simp [callSem, Deferred.ofValue, invoke]
    rw [this]
    exact a6
  · cases hv

end Go.Ev
