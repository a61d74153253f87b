/- Each pure operation does what the model's does. -/
import Derived.Test.YtglndmkmfhafhaaEvA
import Derived.Laws.BytesString
namespace Go.Ev
open Go

variable {X : Cx} {N N' : Nu}

theorem bool_and {a b : Bool} : (a && b) = true ↔ a = true ∧ b = true := by simp

theorem add_zero' (a : Addr) (k n : Nat) : (⟨a.block, a.off + k, none⟩ : Addr).add n = ⟨a.block, a.off + (k + n), none⟩ := by
  unfold Addr.add
  split
  · rename_i h0; subst h0; rfl
  · simp [Nat.add_assoc]

theorem add_plain (b k n : Nat) : (⟨b, k, none⟩ : Addr).add n = ⟨b, k + n, none⟩ := by
  unfold Addr.add
  split
  · rename_i h0; subst h0; rfl
  · rfl

theorem eql_run {op : BinOp} {neg : Bool} {t : TypeId} {u v : Value} {b : Bool} {x y : Operand} {w : World}
    (hop : (match op with | .eql => !neg | .neq => neg | _ => false) = true) (hg : (eqGuard op t x y u v).run X.P w = .ok () w)
    (hb : ∀ op, binOp op t u v = match op with | .eql => (do pure (.bool (← Op.equal t u v))) | .neq => (do pure (.bool (!(← Op.equal t u v)))) | _ => binOp op t u v)
    (he : (Op.equal t u v).run X.P w = .ok b w) :
    (do eqGuard op t x y u v; binOp op t u v : Sem Value).run X.P w = .ok (.bool (if neg then !b else b)) w := by
  cases op <;> first | (cases hop; done) | skip
  · cases neg
    · rw [Sem.run_bind, hg, Result.andThen_ok, hb]; simp [he]
    · cases hop
  · cases neg
    · cases hop
    · rw [Sem.run_bind, hg, Result.andThen_ok, hb]; simp [he]

theorem eqB_in (D : Nat) {t : TypeId} {a b : Bool} {w : World} (hd : X.P.underlying t = some .bool) : (Op.equalIn (D + 1) t (.bool a) (.bool b)).run X.P w = .ok (a == b) w := by
  simp [Op.equalIn, run_underlying hd]

theorem eqB_run {op : BinOp} {neg : Bool} {t : TypeId} {x y : Operand} {a b : Bool} {w : World}
    (ho : (match op with | .eql => !neg | .neq => neg | _ => false) = true) (hd : X.P.underlying t = some .bool) :
    (do eqGuard op t x y (.bool a) (.bool b); binOp op t (.bool a) (.bool b) : Sem Value).run X.P w = .ok (.bool (if neg then !(a == b) else a == b)) w := by
  have heq := eqB_in 9999 (a := a) (b := b) (w := w) hd
  exact eql_run ho (eqGuard_none ⟨by simp, by simp⟩) (fun op => by cases op <;> rfl) heq

theorem eqN_run {op : BinOp} {neg : Bool} {t : TypeId} {k : Nat} {x y : Operand} {xa ya : AV} {u v : Value} {b : Bool} {w : World}
    (ho : (match op with | .eql => !neg | .neq => neg | _ => false) = true) (ht : nilTy X t k = true) (h1 : VR X N xa u) (h2 : VR X N ya v) (hb : nilEq k xa ya = some b) :
    (do eqGuard op t x y u v; binOp op t u v : Sem Value).run X.P w = .ok (.bool (if neg then !b else b)) w := by
  have heq := nilEq_sound 9999 _ ht h1 h2 hb w
  have hu : (¬ (u = .nilIface) ∧ ∀ a, u ≠ .agg a) ∧ ∀ op, binOp op t u v = match op with | .eql => (do pure (.bool (← Op.equal t u v))) | .neq => (do pure (.bool (!(← Op.equal t u v)))) | _ => binOp op t u v := by
    clear heq
    unfold nilEq at hb
    split at hb <;> first | (cases hb; done) | skip
    all_goals
      simp only [VR] at h1 h2
      first
      | (subst h1; subst h2; exact ⟨⟨by simp, by simp⟩, fun op => by cases op <;> rfl⟩)
      | (obtain ⟨_, _, rfl⟩ := h1; subst h2; exact ⟨⟨by simp, by simp⟩, fun op => by cases op <;> rfl⟩)
      | (obtain ⟨_, _, rfl⟩ := h2; subst h1; exact ⟨⟨by simp, by simp⟩, fun op => by cases op <;> rfl⟩)
      | (obtain ⟨_, _, _, rfl, _⟩ := h1; subst h2; exact ⟨⟨by simp, by simp⟩, fun op => by cases op <;> rfl⟩)
      | (obtain ⟨_, _, _, rfl, _⟩ := h2; subst h1; exact ⟨⟨by simp, by simp⟩, fun op => by cases op <;> rfl⟩)
      | (obtain ⟨_, _, rfl, _⟩ := h1; subst h2; exact ⟨⟨by simp, by simp⟩, fun op => by cases op <;> rfl⟩)
      | (obtain ⟨_, _, rfl, _⟩ := h2; subst h1; exact ⟨⟨by simp, by simp⟩, fun op => by cases op <;> rfl⟩)
  exact eql_run ho (eqGuard_none hu.1) hu.2 heq

theorem valOf_agg {t : TypeId} {us : Array Value} (h : aggT X t = true) : valOf X t us.toList = .agg us := by
  unfold aggT at h
  unfold valOf
  split at h <;> first | (cases h; done) | rfl

theorem eqGuard_agg {op : BinOp} {t : TypeId} {x y : Operand} {us vs : Array Value} {w : World} (h : X.P.eqGuardType X.P.depth t = false) :
    (eqGuard op t x y (.agg us) (.agg vs)).run X.P w = .ok () w := by
  simp [eqGuard, h]

theorem PO_sound {o : Oper} {m : PO} {v : AV} {ev : AO → AV} {r : Operand → Value} (hc : chkP X o.op m = true) (he : Evs X N ev r) (h : PO.run ev m = some v) (w : World) :
    ∃ u, (execOp r o).run X.P w = .ok (.value u) w ∧ VR X N v u := by
  unfold chkP at hc
  split at hc <;> (first | (cases hc; done) | skip) <;> rename_i hop <;> (try simp only [bool_and, decide_eq_true_eq, beq_iff_eq] at hc)
  · -- move
    cases h; exact ⟨_, by simp [execOp, hop], he _ _ hc⟩
  · cases h; exact ⟨_, by simp [execOp, hop], he _ _ hc⟩
  · -- pick
    have h1 := he _ _ hc.1
    simp only [PO.run] at h
    split at h
    · rename_i hcv; rw [hcv] at h1; simp only [VR] at h1; cases h
      exact ⟨_, by simp [execOp, hop, h1, asBool], he _ _ hc.2.1⟩
    · rename_i hcv; rw [hcv] at h1; simp only [VR] at h1; cases h
      exact ⟨_, by simp [execOp, hop, h1, asBool], he _ _ hc.2.2⟩
    · cases h
  · -- binOp
    obtain ⟨rfl, hx, hy⟩ := hc
    obtain ⟨u, hr, hv⟩ := abin_sound (he _ _ hx) (he _ _ hy) h _ _ w
    exact ⟨u, by simp only [execOp, hop]; rw [Sem.run_bind, hr]; rfl, hv⟩
  · -- eqB
    obtain ⟨ho, ht, hx, hy⟩ := hc
    simp only [PO.run] at h
    split at h
    · rename_i a b ha hb
      cases h
      have h1 := he _ _ hx; have h2 := he _ _ hy
      rw [ha] at h1; rw [hb] at h2
      simp only [VR] at h1 h2
      split at ht
      · rename_i hd
        refine ⟨_, ?_, by simp only [VR]; rfl⟩
        simp only [execOp, hop, h1, h2]
        rw [Sem.run_bind, eqB_run ho hd]
        rfl
      · cases ht
    · cases h
  · -- eqN
    obtain ⟨ho, ht, hx, hy⟩ := hc
    simp only [PO.run, Option.map_eq_some_iff] at h
    obtain ⟨b, hb, rfl⟩ := h
    refine ⟨_, ?_, by simp only [VR]; rfl⟩
    simp only [execOp, hop]
    rw [Sem.run_bind, eqN_run ho ht (he _ _ hx) (he _ _ hy) hb]
    rfl
  · -- eqA
    obtain ⟨ho, hagg, hks, hgt, hx, hy⟩ := hc
    simp only [PO.run] at h
    split at h
    · rename_i a c ha hc'
      simp only [Option.map_eq_some_iff] at h
      obtain ⟨b, hb, rfl⟩ := h
      have h1 := he _ _ hx
      have h2 := he _ _ hy
      rw [ha] at h1
      rw [hc'] at h2
      obtain ⟨us, hu, hus⟩ := h1
      obtain ⟨vs, hv, hvs⟩ := h2
      refine ⟨_, ?_, by simp only [VR]; rfl⟩
      simp only [execOp, hop, hu, hv]
      split at hks
      · rename_i l hl
        have hk : l = _ := of_decide_eq_true hks
        subst hk
        have hval : ∀ us : Array Value, valOf X _ us.toList = .agg us := fun us => valOf_agg hagg
        have heq := flatK_sound 20 _ _ hl 9980 _ _ us.toList vs.toList b w hus hvs hb
        rw [hval, hval] at heq
        rw [Sem.run_bind, eql_run ho (eqGuard_agg (by simpa using hgt)) (fun op => by cases op <;> rfl) heq]
        rfl
      · cases hks
    · cases h
  · -- unOp
    obtain ⟨rfl, hx⟩ := hc
    obtain ⟨u, hr, hv⟩ := aun_sound (he _ _ hx) h w
    exact ⟨u, by simp only [execOp, hop]; rw [Sem.run_bind, hr]; rfl, hv⟩
  · -- conv
    obtain ⟨ht, hx⟩ := hc
    have h1 := he _ _ hx
    simp only [PO.run] at h
    split at h
    · rename_i n hn
      rw [hn] at h1; simp only [VR] at h1
      simp only [intF_eq, Option.some.injEq, wrp_eq] at h
      subst h
      split at ht
      · rename_i hs hd
        simp only [decide_eq_true_eq] at ht
        subst ht
        exact ⟨_, by simp [execOp, hop, h1, convert, run_underlying hs, run_underlying hd, Conv.intToInt]; rfl, by simp [VR]⟩
      · cases ht
    · cases h
  · -- same
    obtain ⟨ht, hx⟩ := hc
    have h1 := he _ _ hx
    simp only [PO.run] at h
    split at h
    · rename_i s hs
      rw [hs] at h1; simp only [VR] at h1
      cases h
      split at ht
      · rename_i hs hd
        exact ⟨_, by simp [execOp, hop, h1, convert, run_underlying hs, run_underlying hd]; rfl, by simp [VR]⟩
      · cases ht
    · cases h
  · -- makeFunc
    obtain ⟨rfl, h1, h2⟩ := hc
    cases h
    refine ⟨.func (.func _) (Array.map r _) (Array.map r _), by simp [execOp, hop, Instr.makeFunc]; exact ⟨rfl, rfl⟩, _, _, rfl, ?_, ?_⟩
    · rw [Array.toList_map]; exact he.list h1
    · rw [Array.toList_map]; exact he.list h2
  · -- build
    rename_i t ps zs qs
    obtain ⟨hz, hp⟩ := hc
    simp only [PO.run, Option.map_eq_some_iff] at h
    obtain ⟨cs, hcs, rfl⟩ := h
    unfold zeroIs at hz
    split at hz
    · rename_i i hi
      split at hz
      · rename_i z hzz
        have hv0 := chkVs_VRs (N := N) _ _ hz
        have hzr : (zeroValue t).run X.P w = .ok z w := by simp [zeroValue, typeInfo, hi, hzz]
        split at hp
        · rename_i fs hd
          split at hp
          · rename_i pl hpl
            obtain ⟨us', hf, hv⟩ := fill_sound he hv0 hp hcs
            refine ⟨.agg us', ?_, _, rfl, hv⟩
            have hpl' := run_fieldPlaces hpl w
            simp only [execOp, hop, Instr.build, Sem.run_bind, hzr, Result.andThen_ok, run_underlying hd, Array.mapM_eq_mapM_toList, Sem.run_map, hpl', Sem.run_pure, Array.toList_map]
            simp only [hf, Sem.run_pure, Result.andThen_ok]
          · cases hp
        · rename_i n e hd
          split at hp
          · rename_i sz hsz
            obtain ⟨us', hf, hv⟩ := fill_sound he hv0 hp hcs
            refine ⟨.agg us', ?_, _, rfl, hv⟩
            have hs : (sizeOf e).run X.P w = .ok sz w := by
              unfold cells? at hsz
              cases hi : X.P.info? e with
              | none => rw [hi] at hsz; cases hsz
              | some i => rw [hi] at hsz; cases hsz; simp [sizeOf, typeInfo, hi]
            simp only [execOp, hop, Instr.build, Sem.run_bind, hzr, Result.andThen_ok, run_underlying hd, hs, Sem.run_pure, Array.toList_map]
            simp only [hf, Sem.run_pure, Result.andThen_ok]
          · cases hp
        · cases hp
      · cases hz
    · cases hz
  · -- fieldAddr
    obtain ⟨ht, hx⟩ := hc
    have h1 := he _ _ hx
    simp only [PO.run] at h
    split at h
    · rename_i n o hn
      cases h
      rw [hn] at h1
      obtain ⟨a, ha, h1⟩ := h1
      split at ht
      · rename_i fs hd
        split at ht
        · rename_i g hg
          simp only [bool_and, beq_iff_eq] at ht
          obtain ⟨rfl, hsz⟩ := ht
          split at hsz
          · rename_i sz hs
            simp only [bne_iff_ne, ne_eq] at hsz
            have hs : (sizeOf g.type).run X.P w = .ok sz w := by
              unfold cells? at hs
              cases hi : X.P.info? g.type with
              | none => rw [hi] at hs; cases hs
              | some i => rw [hi] at hs; cases hs; simp [sizeOf, typeInfo, hi]
            refine ⟨.pointer (some ((⟨a.block, a.off + o, none⟩ : Addr).add g.offset)), ?_, a, ha, by rw [add_plain, Nat.add_assoc]⟩
            simp [execOp, hop, h1, Instr.fieldAt, run_underlying hd, hg, Instr.sureAddr, fieldPlace, hs, hsz]
          · cases hsz
        · cases ht
      · cases ht
    · cases h
  · -- field
    obtain ⟨ht, hx⟩ := hc
    have h1 := he _ _ hx
    simp only [PO.run] at h
    split at h
    · rename_i cs hn
      rw [hn] at h1
      obtain ⟨us, h1, hv⟩ := h1
      split at ht
      · rename_i fs hd
        split at ht
        · rename_i g hg
          simp only [bool_and, beq_iff_eq] at ht
          obtain ⟨rfl, hsz⟩ := ht
          obtain ⟨u, hr, hu⟩ := run_part hsz hv h w
          exact ⟨u, by simp [execOp, hop, h1, Instr.field, run_underlying hd, hg, asAgg, hr], hu⟩
        · cases ht
      · cases ht
    · cases h
  · -- indexAddr, an array
    obtain ⟨ht, hx, hi⟩ := hc
    have h1 := he _ _ hx
    have h2 := he _ _ hi
    simp only [PO.run] at h
    split at h
    · rename_i n o k j hn hj
      rw [hn] at h1; rw [hj] at h2
      obtain ⟨a, ha, h1⟩ := h1
      simp only [VR] at h2
      split at h
      · rename_i hb
        cases h
        split at ht
        · rename_i len e hd
          simp only [bool_and, beq_iff_eq] at ht
          obtain ⟨rfl, hs⟩ := ht
          refine ⟨.pointer (some ((⟨a.block, a.off + o, none⟩ : Addr).add (j.toNat * _))), ?_, a, ha, by rw [add_plain, Nat.add_assoc]⟩
          simp [execOp, hop, h1, h2, Instr.indexAt, asIntOf, run_underlying hd, Instr.sureAddr, hb, run_size hs]
        · cases ht
      · cases h
    · cases h
  · -- indexAddr, a slice
    obtain ⟨ht, hx, hi⟩ := hc
    have h1 := he _ _ hx
    have h2 := he _ _ hi
    simp only [PO.run] at h
    split at h
    · rename_i n o ln c k j hn hj
      rw [hn] at h1; rw [hj] at h2
      obtain ⟨a, cp, ha, h1, _⟩ := h1
      simp only [VR] at h2
      split at h
      · rename_i hb
        cases h
        split at ht
        · rename_i e hd
          refine ⟨.pointer (some ((⟨a.block, a.off + o, none⟩ : Addr).add (j.toNat * _))), ?_, a, ha, by rw [add_plain, Nat.add_assoc]⟩
          simp [execOp, hop, h1, h2, Instr.indexAt, asIntOf, run_underlying hd, hb, run_size ht]
        · cases ht
      · cases h
    · cases h
  · -- index, an array
    obtain ⟨ht, hx, hi⟩ := hc
    have h1 := he _ _ hx
    have h2 := he _ _ hi
    simp only [PO.run] at h
    split at h
    · rename_i cs k j hn hj
      rw [hn] at h1; rw [hj] at h2
      obtain ⟨us, h1, hv⟩ := h1
      simp only [VR] at h2
      split at h
      · rename_i hb
        split at ht
        · rename_i len e hd
          simp only [bool_and, beq_iff_eq] at ht
          obtain ⟨rfl, hs, hz⟩ := ht
          obtain ⟨u, hr, hu⟩ := run_part hz hv h w
          exact ⟨u, by simp [execOp, hop, h1, h2, Instr.index, asIntOf, run_underlying hd, hb, run_size hs, hr], hu⟩
        · cases ht
      · cases h
    · cases h
  · -- index, a string
    obtain ⟨ht, hx, hi⟩ := hc
    have h1 := he _ _ hx
    have h2 := he _ _ hi
    simp only [PO.run] at h
    split at h
    · rename_i s k j hn hj
      rw [hn] at h1; rw [hj] at h2
      simp only [VR] at h1 h2
      split at h
      · rename_i hb
        simp only [Option.map_eq_some_iff] at h
        obtain ⟨c, hcj, rfl⟩ := h
        split at ht
        · rename_i hd
          have hg : (⟨s.toArray⟩ : ByteArray)[j.toNat]? = some c := by
            have hlt : j.toNat < s.length := (List.getElem?_eq_some_iff.1 hcj).1
            have hsz : j.toNat < (⟨s.toArray⟩ : ByteArray).size := by simpa [ByteArray.size] using hlt
            rw [getElem?_pos (⟨s.toArray⟩ : ByteArray) j.toNat hsz]
            rw [List.getElem?_eq_getElem hlt] at hcj
            cases hcj
            rfl
          exact ⟨_, by simp [execOp, hop, h1, h2, Instr.index, asIntOf, run_underlying hd, hb, hg]; rfl, by simp [VR]⟩
        · cases ht
      · cases h
    · cases h
  · -- slice of a string
    rename_i t x lo hi mx a l h'
    obtain ⟨ht, hx, hlo, hhi⟩ := hc
    have h1 := he _ _ hx
    simp only [PO.run] at h
    split at h
    · rename_i s hn
      rw [hn] at h1
      simp only [VR] at h1
      split at ht
      · rename_i hd
        obtain ⟨u, hr, hv⟩ := asubS_sound hd (he.opt hlo) (he.opt hhi) h w
        refine ⟨u, ?_, hv⟩
        cases mx with
        | some _ => cases ht
        | none => simp only [execOp, hop, h1]; rw [Sem.run_bind]; simp only [Option.map_none, hr]; rfl
      · cases ht
    · cases h
  · -- slice of a slice
    obtain ⟨ht, hx, hlo, hhi, hmx⟩ := hc
    rename_i t x lo hi mx es a l h' m
    have h1 := he _ _ hx
    split at ht
    · rename_i e hd
      simp only [PO.run] at h
      split at h
      · rename_i n o ln cp hn
        rw [hn] at h1
        obtain ⟨ad, c, ha, h1, hle, hcap⟩ := h1
        unfold asubL at h
        split at h
        · rename_i i j k hb
          have htop : topOf ln cp ≤ c := by cases cp <;> simp only [topOf] at hcap ⊢ <;> omega
          have hlt : ln ≤ topOf ln cp := by cases cp <;> simp only [topOf] at hcap ⊢ <;> omega
          obtain ⟨hr, hij, hjt, hk⟩ := abounds_sound (isS := true) (he.opt hlo) (he.opt hhi) (he.opt hmx) htop hlt hb w
          refine ⟨.slice (some (if k.getD c = i then ⟨ad.block, ad.off + o, none⟩ else (⟨ad.block, ad.off + o, none⟩ : Addr).add (i * es))) (j - i) (k.getD c - i), ?_, ?_⟩
          · simp only [execOp, hop, h1, Instr.sliceAt, Instr.slice, Sem.run_bind, run_underlying hd, Result.andThen_ok, hr, run_size ht, Sem.run_pure, Option.map_some]
            split <;> rfl
          · have hjc : j ≤ k.getD c := by
              cases k with
              | none => simp only [Option.getD_none]; omega
              | some q => exact (hk q rfl).1
            have hkc : ∀ q, subCap cp i k = .known q → k.getD c - i = q := by
              intro q hq
              cases k with
              | some y => simp only [subCap, Cap.known.injEq] at hq; simpa using hq
              | none =>
                cases cp with
                | known z => simp only [subCap, Cap.known.injEq] at hq; simp only at hcap; simp only [Option.getD_none]; omega
                | full => simp only [subCap] at hq; split at hq <;> cases hq
                | unk => cases hq
            split at h
            · rename_i hq
              cases h
              have := hkc _ hq
              rw [if_pos (by omega)]
              exact ⟨ad, _, ha, rfl, by omega, by simp only; omega⟩
            · rename_i q hq0 hq
              cases h
              have := hkc _ hq
              by_cases e : k.getD c = i
              · exact (hq0 (by omega)).elim
              · rw [if_neg e, add_plain, Nat.add_assoc]
                exact ⟨ad, _, ha, rfl, by omega, by simp only; omega⟩
            · rename_i hq
              cases h
              have : i = 0 ∧ k = none ∧ cp = .full := by
                cases k with
                | some y => cases hq
                | none =>
                  cases cp with
                  | known z => cases hq
                  | full => simp only [subCap] at hq; split at hq <;> first | exact ⟨‹_›, rfl, rfl⟩ | cases hq
                  | unk => cases hq
              obtain ⟨rfl, rfl, rfl⟩ := this
              simp only at hcap
              obtain ⟨rfl, rfl⟩ := hcap
              refine ⟨ad, _, ha, ?_, by simpa using hjc, rfl, by simp⟩
              simp only [Nat.zero_mul, Nat.sub_zero, Option.getD_none]
              split <;> rfl
            · rename_i hq
              split at h
              · rename_i hor
                cases h
                by_cases e : k.getD c = i
                · have hi0 : i = 0 := by omega
                  rw [if_pos e]
                  subst hi0
                  exact ⟨ad, k.getD c, ha, by simp, by omega, trivial⟩
                · rw [if_neg e, add_plain, Nat.add_assoc]
                  exact ⟨ad, _, ha, rfl, by omega, trivial⟩
              · cases h
        · cases h
      · rename_i hn
        rw [hn] at h1
        simp only [VR] at h1
        split at h
        · rename_i z hz
          cases h
          unfold asubL at hz
          split at hz
          · rename_i i j k hb
            obtain ⟨hr, hij, hjt, hk⟩ := abounds_sound (isS := true) (he.opt hlo) (he.opt hhi) (he.opt hmx) (show topOf 0 (.known 0) ≤ 0 from Nat.le_refl 0) (Nat.le_refl 0) hb w
            have : i = 0 ∧ j = 0 ∧ k.getD 0 = 0 := by
              have htt : topOf 0 (.known 0) = 0 := rfl
              rw [htt] at hjt hk
              refine ⟨by omega, by omega, ?_⟩
              cases k with
              | none => rfl
              | some q => have := (hk q rfl).2; simpa using this
            obtain ⟨rfl, rfl, hk0⟩ := this
            refine ⟨.slice none 0 0, ?_, by simp [VR]⟩
            simp only [execOp, hop, h1, Instr.sliceAt, Instr.slice, Sem.run_bind, run_underlying hd, Result.andThen_ok, hr, run_size ht, Sem.run_pure, Option.map_none, hk0]
            rfl
          · cases hz
        · cases h
      · cases h
    · cases ht
  · -- slice of an array
    obtain ⟨ht, hx, hlo, hhi, hmx⟩ := hc
    rename_i t x lo hi mx n es a l h' m
    have h1 := he _ _ hx
    split at ht
    · rename_i n' e hd
      simp only [bool_and, beq_iff_eq] at ht
      obtain ⟨rfl, hs⟩ := ht
      simp only [PO.run] at h
      split at h
      · rename_i mm o hn
        rw [hn] at h1
        obtain ⟨ad, ha, h1⟩ := h1
        unfold asubL at h
        split at h
        · rename_i i j k hb
          obtain ⟨hr, hij, hjt, hk⟩ := abounds_sound (isS := false) (len := n') (top := n') (cp := n') (he.opt hlo) (he.opt hhi) (he.opt hmx) (Nat.le_refl _) (Nat.le_refl _) hb w
          refine ⟨.slice (some (if k.getD n' = i then ⟨ad.block, ad.off + o, none⟩ else (⟨ad.block, ad.off + o, none⟩ : Addr).add (i * es))) (j - i) (k.getD n' - i), ?_, ?_⟩
          · simp only [execOp, hop, h1, Instr.sliceAt, Sem.run_bind, run_underlying hd, Result.andThen_ok, hr, run_size hs, Sem.run_pure, Instr.sureAddr]
          · have hjc : j ≤ k.getD n' := by
              cases k with
              | none => simp only [Option.getD_none]; exact hjt
              | some q => exact (hk q rfl).1
            have hkc : ∀ q, subCap (.known n') i k = .known q → k.getD n' - i = q := by
              intro q hq
              cases k with
              | some y => simp only [subCap, Cap.known.injEq] at hq; simpa using hq
              | none => simp only [subCap, Cap.known.injEq] at hq; simpa using hq
            split at h
            · rename_i hq
              cases h
              have := hkc _ hq
              rw [if_pos (by omega)]
              exact ⟨ad, _, ha, rfl, by omega, by simp only; omega⟩
            · rename_i q hq0 hq
              cases h
              have := hkc _ hq
              by_cases e : k.getD n' = i
              · exact (hq0 (by omega)).elim
              · rw [if_neg e, add_plain, Nat.add_assoc]
                exact ⟨ad, _, ha, rfl, by omega, by simp only; omega⟩
            · rename_i hq; cases k <;> cases hq
            · rename_i hq; cases k <;> cases hq
        · cases h
      · cases h
    · cases ht
  · -- extract
    obtain ⟨rfl, hx⟩ := hc
    have h1 := he _ _ hx
    simp only [PO.run] at h
    split at h
    · rename_i vs hn
      rw [hn] at h1
      obtain ⟨us, h1, hv⟩ := h1
      obtain ⟨u, hu, hvu⟩ := hv.get h
      rw [Array.getElem?_toList] at hu
      exact ⟨u, by simp [execOp, hop, h1, Instr.extract, hu], hvu⟩
    · cases h
  · -- nilCheck
    have h1 := he _ _ hc
    simp only [PO.run] at h
    split at h
    · rename_i n o hn
      cases h
      rw [hn] at h1
      obtain ⟨a, ha, h1'⟩ := h1
      exact ⟨_, by simp [execOp, hop, h1'], a, ha, rfl⟩
    · rename_i f xs ys hn
      cases h
      rw [hn] at h1
      obtain ⟨us, vs, h1', h2, h3⟩ := h1
      exact ⟨_, by simp [execOp, hop, h1'], us, vs, rfl, h2, h3⟩
    · rename_i t y hn
      cases h
      rw [hn] at h1
      obtain ⟨u, h1', h2⟩ := h1
      exact ⟨_, by simp [execOp, hop, h1'], u, rfl, h2⟩
    · cases h
  · -- makeInterface
    obtain ⟨rfl, ht, hx⟩ := hc
    cases h
    refine ⟨_, ?_, _, rfl, he _ _ hx⟩
    split at ht
    · cases ht
    · cases ht
    · rename_i h1 h2
      cases hd : X.P.underlying (X.τ _) with
      | none => exact (h2 hd).elim
      | some d =>
        simp only [execOp, hop, Instr.makeInterface, Sem.run_bind, run_underlying hd, Result.andThen_ok]
        cases d <;> first | (exact (h1 _ hd).elim) | rfl
  · -- len
    rename_i args argTypes str a
    obtain ⟨ht, hx⟩ := hc
    split at ht
    · rename_i t hat
      split at hx
      · rename_i x hal
        have harg : args = #[x] := by rw [← Array.toList_inj, hal]
        have h1 := he _ _ hx
        simp only [PO.run] at h
        have hcall : ∀ u, (Builtin.len_ argTypes o.type #[r x]).run X.P w = .ok u w → (execOp r o).run X.P w = .ok (.value u) w := by
          intro u hu
          simp [execOp, hop, resolve, invoke, builtin, harg, hu]
        split at ht
        · rename_i hd
          subst ht
          split at h
          · rename_i s hn
            cases h
            rw [hn] at h1; simp only [VR] at h1
            refine ⟨.int .i64 s.length, hcall _ ?_, by simp [VR]⟩
            have hsz : (⟨s.toArray⟩ : ByteArray).size = s.length := by simp [ByteArray.size]
            simp [Builtin.len_, hat, h1, run_underlying hd, goInt, hsz]
          · cases h
          · cases h
          · cases h
        · rename_i e hd
          simp only [Bool.not_eq_true'] at ht
          subst ht
          split at h
          · cases h
          · rename_i n oo ln c hn
            cases h
            rw [hn] at h1
            obtain ⟨ad, cp, ha, h1, _⟩ := h1
            refine ⟨.int .i64 ln, hcall _ ?_, by simp [VR]⟩
            simp [Builtin.len_, hat, h1, run_underlying hd, goInt]
          · rename_i hn
            cases h
            rw [hn] at h1; simp only [VR] at h1
            refine ⟨.int .i64 0, hcall _ ?_, by simp [VR]⟩
            simp [Builtin.len_, hat, h1, run_underlying hd, goInt]
          · cases h
        · cases ht
      · cases hx
    · cases ht
  · -- len of an array
    rename_i args argTypes n
    obtain ⟨ht, hx⟩ := hc
    simp only [PO.run] at h
    cases h
    obtain ⟨x, harg⟩ : ∃ x, args = #[x] := by
      obtain ⟨l⟩ := args
      match l, hx with
      | [x], _ => exact ⟨x, rfl⟩
    have hcall : ∀ u, (Builtin.len_ argTypes o.type #[r x]).run X.P w = .ok u w → (execOp r o).run X.P w = .ok (.value u) w := by
      intro u hu
      simp [execOp, hop, resolve, invoke, builtin, harg, hu]
    split at ht
    · rename_i t hat
      split at ht
      · rename_i k e hd
        simp only [decide_eq_true_eq] at ht
        subst ht
        exact ⟨.int .i64 k, hcall _ (by simp [Builtin.len_, hat, run_underlying hd, goInt]), by simp [VR]⟩
      · rename_i arr hd
        split at ht
        · rename_i k e hd2
          simp only [decide_eq_true_eq] at ht
          subst ht
          exact ⟨.int .i64 k, hcall _ (by simp [Builtin.len_, hat, run_underlying hd, run_underlying hd2, goInt]), by simp [VR]⟩
        · cases ht
      · cases ht
    · cases ht
  · -- cap
    rename_i args argTypes a
    obtain ⟨ht, hx⟩ := hc
    split at ht
    · rename_i t hat
      split at hx
      · rename_i x hal
        have harg : args = #[x] := by rw [← Array.toList_inj, hal]
        have h1 := he _ _ hx
        simp only [PO.run] at h
        have hcall : ∀ u, (Builtin.cap_ argTypes o.type #[r x]).run X.P w = .ok u w → (execOp r o).run X.P w = .ok (.value u) w := by
          intro u hu
          simp [execOp, hop, resolve, invoke, builtin, harg, hu]
        split at ht
        · rename_i e hd
          split at h
          · rename_i n oo ln c hn
            cases h
            rw [hn] at h1
            obtain ⟨ad, cp, ha, h1, _, hc⟩ := h1
            simp only at hc
            subst hc
            refine ⟨.int .i64 cp, hcall _ ?_, by simp [VR]⟩
            simp [Builtin.cap_, hat, h1, run_underlying hd, goInt]
          · rename_i hn
            cases h
            rw [hn] at h1; simp only [VR] at h1
            refine ⟨.int .i64 0, hcall _ ?_, by simp [VR]⟩
            simp [Builtin.cap_, hat, h1, run_underlying hd, goInt]
          · cases h
        · cases ht
      · cases hx
    · cases ht
  · -- max
    rename_i args argTypes as
    simp only [PO.run] at h
    have hl := he.list hc
    split at h
    · cases h
    · rename_i x ys hxy
      rw [hxy] at hl
      obtain ⟨u, us, hus, hx, hys⟩ := hl
      obtain ⟨z, hr, hz⟩ := afold_sound (mx := true) hx hys h w
      refine ⟨z, ?_, hz⟩
      simp only [if_true] at hr
      simp only [execOp, hop, resolve, invoke, builtin, Sem.run_bind, Sem.run_pure, Result.andThen_ok, Builtin.max_, Array.toList_map, hus, hr]
  · -- min
    rename_i args argTypes as
    simp only [PO.run] at h
    have hl := he.list hc
    split at h
    · cases h
    · rename_i x ys hxy
      rw [hxy] at hl
      obtain ⟨u, us, hus, hx, hys⟩ := hl
      obtain ⟨z, hr, hz⟩ := afold_sound (mx := false) hx hys h w
      refine ⟨z, ?_, hz⟩
      simp only [Bool.false_eq_true, if_false] at hr
      simp only [execOp, hop, resolve, invoke, builtin, Sem.run_bind, Sem.run_pure, Result.andThen_ok, Builtin.min_, Array.toList_map, hus, hr]
  · -- stuck
    cases h

end Go.Ev

/- Which abstract code stands for which of the model's; the relation between heaps; reads. -/
namespace Go.Ev
open Go

def kdTy (X : Cx) (t : TypeId) (kk : Kd) : Bool :=
  match kk, X.P.underlying t with
  | .b, some .bool | .s, some .string => true
  | .i _, some (.int _) => true
  | _, _ => false

def zeroV (X : Cx) (t : TypeId) (z : AV) : Bool :=
  match X.P.info? t with
  | some i => (match i.zero with | some v => chkV X z v | none => false)
  | none => false

def isByteSlice (X : Cx) (t : TypeId) : Bool :=
  match X.P.underlying t with
  | some (.slice e) => (match X.P.underlying e with | some (.int .u8) => true | _ => false)
  | _ => false

def isString (X : Cx) (t : TypeId) : Bool := match X.P.underlying t with | some .string => true | _ => false

def chkR (X : Cx) : Op → RO → Bool
  | .load t x, .load sz a => szOK X t sz && chkA X a x
  | .convert s d x, .b2s a => isByteSlice X s && (isString X d && chkA X a x)
  | .lookup t m k ok, .lookup kk z ok' m' k' =>
    (match X.P.underlying t with | some (.map kt e) => kdTy X kt kk && zeroV X e z | _ => false) && (ok == ok' && (chkA X m' m && chkA X k' k))
  | .call { callee := .builtin .len, args, argTypes }, .mlen a =>
    (match argTypes[0]? with | some t => (match X.P.underlying t with | some (.map _ _) => true | _ => false) | none => false) &&
      (match args.toList with | [x] => chkA X a x | _ => false)
  | _, _ => false

def elemIs (X : Cx) (t : TypeId) (e : TypeId) : Bool := match X.P.underlying t with | some (.slice e') => e' == e | _ => false

/-- The cells of so many zero values. -/
def zerosOf (X : Cx) (e : TypeId) (n : Nat) : Option (List Value) :=
  match X.P.info? e with
  | some i => (match i.zero with | some z => some ((Array.range n).map (z.cells[· % z.cells.size]!)).toList | none => none)
  | none => none

def bytesIs (X : Cx) (t : TypeId) (n : Nat) : Bool := match X.P.info? t with | some i => i.bytes == n | none => false

def chkN (X : Cx) : Op → NO → Bool
  | .alloc t, .alloc ty _ zs => X.τ ty == t && zeroIs X t zs
  | .box t x, .box ty _ a => X.τ ty == t && chkA X a x
  | .buildSlice t len ps, .buildSl ty len' zs qs =>
    elemIs X t (X.τ ty) && (len == len' && (match cells? X (X.τ ty) with
      | some n => decide (len * n ≤ 2 ^ 24) && ((match zerosOf X (X.τ ty) (len * n) with | some us => chkVs X zs us | none => false) &&
          chkParts X (fun i => some (i * n, n)) qs ps.toList)
      | none => false))
  | .makeSlice t l c, .mkSl ty es bytes zs l' c' =>
    elemIs X t (X.τ ty) && (sizeIs X (X.τ ty) es && (bytesIs X (X.τ ty) bytes && (zeroIs X (X.τ ty) zs && (zs.length == es && (chkA X l' l && chkA X c' c)))))
  | .makeMap _ none, .mkMap => true
  | .makeMap t (some (.const (.int _ _))), .mkMap => (match X.P.underlying t with | some (.map _ _) => true | _ => false)
  | .convert s d x, .s2b ty a => isString X s && (isByteSlice X d && (elemIs X d (X.τ ty) && chkA X a x))
  | _, _ => false

def notInt (X : Cx) (t : Option TypeId) : Bool :=
  match t with
  | some t => (match X.P.underlying t with | some (.int _) | none => false | _ => true)
  | none => false

def chkW (X : Cx) : Op → WO → Bool
  | .store t a x, .store sz a' x' => sizeIs X t sz && (chkA X a' a && chkA X x' x)
  | .call { callee := .builtin .append, args, argTypes }, .append ty es bytes zs s x =>
    (match argTypes[0]? with | some t => elemIs X t (X.τ ty) | none => false) && (notInt X argTypes[1]? && (sizeIs X (X.τ ty) es && (bytesIs X (X.τ ty) bytes &&
      (zeroIs X (X.τ ty) zs && (zs.length == es && chkAs X [s, x] args.toList)))))
  | .call { callee := .builtin .copy, args, argTypes }, .copy es d s =>
    (match argTypes[0]? with | some t => (match X.P.underlying t with | some (.slice e) => sizeIs X e es | _ => false) | none => false) && chkAs X [d, s] args.toList
  | .mapUpdate t m k v, .mput kk m' k' v' =>
    (match X.P.underlying t with | some (.map kt _) => kdTy X kt kk | _ => false) && (chkA X m' m && (chkA X k' k && chkA X v' v))
  | .insert t m k v, .mput kk m' k' v' =>
    (match X.P.underlying t with | some (.map kt _) => kdTy X kt kk | _ => false) && (chkA X m' m && (chkA X k' k && chkA X v' v))
  | .call { callee := .value f, args, .. }, .call f' args' => chkA X f' f && chkAs X args' args.toList
  | _, _ => false

def chkM (X : Cx) (op : Op) : MO → Bool
  | .p o => chkP X op o
  | .r o => chkR X op o
  | .n o => chkN X op o
  | .w o => chkW X op o

def chkG (os : Array Oper) : Option (Nat × Bool) → Option (Nat × Bool) → Bool
  | none, none => true
  | some (t, b), some (j, c) => b == c && ((os[j]?).bind (·.dst)) == some t
  | _, _ => false

/-- One operation: its slot lies in the frame. -/
def chkI (X : Cx) (S : Nat) (os : Array Oper) (i : MI) (o : Oper) : Bool :=
  i.dst == o.dst && ((match o.dst with | some d => decide (d < S) | none => true) && (chkG os i.guard o.guard && chkM X o.op i.op))

def chkL (X : Cx) (S : Nat) (os : Array Oper) : List MI → List Oper → Bool
  | [], [] => true
  | i :: is, o :: r => chkI X S os i o && chkL X S os is r
  | _, _ => false

def noRF : MCode → Bool
  | .seq a b => noRF a && noRF b
  | .cond _ a b => noRF a && noRF b
  | .block _ b => noRF b
  | .loop b => noRF b
  | .scope b => noRF b
  | .rangeFunc .. => false
  | _ => true

/-- The regions whose order is drawn: what is asked of them stands in a text of its own. -/
abbrev ChkD := Cx → Nat → List RI → Array Oper → Bool

def chkC (D : ChkD) (X : Cx) (S : Nat) : MCode → Code → Bool
  | .seq (.keep _) m, c => chkC D X S m c
  | .skip, .skip => true
  | .skip, .label _ => true
  | .reg is, .region _ os false => chkL X S os is os.toList
  | .regd is, .region _ os true => D X S is os
  | .seq a b, .seq c d => chkC D X S a c && chkC D X S b d
  | .cond x a b, .cond y c d => chkA X x y && (chkC D X S a c && chkC D X S b d)
  | .block i b, .block j c => i == j && chkC D X S b c
  | .loop b, .loop c => chkC D X S b c
  | .scope b, .scope c => chkC D X S b c
  | .rangeFunc f ps a b, .rangeFunc g qs c d =>
    chkA X f g && (ps == qs.toList && (ps.all (· < S) && (noRF a && (noRF b && (chkC D X S a c && chkC D X S b d)))))
  | .exit i, .exit j => i == j
  | .ret, .ret => true
  | .stuck, _ => true
  | _, _ => false

variable {X : Cx} {N N' : Nu}

def unfz (fz : Nat × Nat) (n : Nat) : Prop := ∀ i, i < n → ¬ (fz.1 ≤ i ∧ i < fz.2)

def EnvR (X : Cx) (N : Nu) (e : Env) (tmps : Array Value) : Prop := ∀ t, VR X N (eget e t) (tmps.getD t undef)

def jumpOf : Ex → Option Code
  | .norm => none
  | .exit id => some (.exit id)
  | .ret => some .ret

def LStR : LSt → LoopState → Option Code → Prop
  | .ready, s, p => s = .ready ∧ p = none
  | .busy, s, _ => s = .busy
  | .done x, s, p => s = .done ∧ p = jumpOf x

def EntsR (X : Cx) (N : Nu) : List (AV × AV) → List MapEntry → Prop
  | [], es => es = []
  | (k, v) :: r, es => ∃ e er, es = e :: er ∧ VR X N k e.key ∧ VR X N v e.val ∧ EntsR X N r er

def ObjR (D : ChkD) (X : Cx) (N : Nu) (w : World) (n : Nat) : AObj → Prop
  | .cells ty _ cs => ∃ b us fz, N.ρ n = some ⟨b, 0, none⟩ ∧ w.heap[b]? = some (.cells us (X.τ ty) fz) ∧ VRs X N cs us.toList ∧ unfz fz us.size
  | .buf ty es cs => ∃ b us fz, N.ρ n = some ⟨b, 0, none⟩ ∧ w.heap[b]? = some (.cells us (X.τ ty) fz) ∧ us.size = N.κ n * es ∧ cs.length ≤ us.size ∧
      VRs X N cs (us.toList.take cs.length) ∧ unfz fz us.size
  | .ro cs => ∃ a, N.ρ n = some a ∧ (∃ us t fz, w.heap[a.block]? = some (.cells us t fz)) ∧ ∀ (i : Nat) (x : AV), cs[i]? = some x → ∃ u, w.cell? ⟨a.block, a.off + i, none⟩ = some u ∧ VR X N x u
  | .map es => ∃ b mes clk, N.ρ n = some ⟨b, 0, none⟩ ∧ w.heap[b]? = some (.map mes clk) ∧ EntsR X N es mes.toList
  | .loop st env ps assign body => ∃ b l S, N.ρ n = some ⟨b, 0, none⟩ ∧ w.heap[b]? = some (.loop l) ∧ LStR st l.state l.pending ∧ EnvR X N env l.tmps ∧ ps = l.params.toList ∧
      S ≤ l.tmps.size ∧ (∀ t ∈ ps, t < S) ∧ noRF assign = true ∧ noRF body = true ∧ chkC D X S assign l.assign = true ∧ chkC D X S body l.body = true

def AObj.own : AObj → Bool
  | .ro _ => false
  | _ => true

/-- The blocks that belong to a heap. -/
def Own (N : Nu) (h : Heap) (b : Nat) : Prop := ∃ n o a, hget h n = some o ∧ o.own = true ∧ N.ρ n = some a ∧ a.block = b

structure HR (D : ChkD) (X : Cx) (N : Nu) (h : Heap) (w : World) : Prop where
  objs : ∀ n o, hget h n = some o → ObjR D X N w n o
  sep : ∀ n m o p a c, hget h n = some o → hget h m = some p → o.own = true → N.ρ n = some a → N.ρ m = some c → a.block = c.block → n = m

structure SR (D : ChkD) (X : Cx) (N : Nu) (st : St) (w : World) : Prop where
  hr : HR D X N st.h w
  fresh : ∀ n, st.nx ≤ n → N.ρ n = none

theorem cell?_of {w : World} {b i : Nat} {us : Array Value} {t : TypeId} {fz : Nat × Nat} (h : w.heap[b]? = some (.cells us t fz)) : w.cell? ⟨b, i, none⟩ = us[i]? := by
  simp [World.cell?, h]

/-- What a read of a run of cells finds. -/
theorem rdCells_sound {D : ChkD} {h : Heap} {w : World} (hr : HR D X N h w) {n off cnt : Nat} {vs : List AV} (hv : rdCells h n off cnt = some vs) :
    ∃ a us, N.ρ n = some a ∧ VRs X N vs us ∧ us.length = cnt ∧ ∀ j u, us[j]? = some u → w.cell? ⟨a.block, a.off + (off + j), none⟩ = some u := by
  unfold rdCells at hv
  split at hv
  · rename_i ty l cs hg
    split at hv
    · rename_i hle
      cases hv
      obtain ⟨b, us, fz, h1, h2, h3, h4⟩ := hr.objs _ _ hg
      refine ⟨_, (us.toList.drop off).take cnt, h1, (h3.drop off).take cnt, ?_, fun j u hj => ?_⟩
      · have := h3.length; simp only [Array.length_toList] at this; simp; omega
      · rw [cell?_of h2]
        rw [List.getElem?_take] at hj
        split at hj
        · rw [List.getElem?_drop, Array.getElem?_toList] at hj
          simpa using hj
        · cases hj
    · cases hv
  · rename_i ty es cs hg
    split at hv
    · rename_i hle
      cases hv
      obtain ⟨b, us, fz, h1, h2, h3, h4, h5, h6⟩ := hr.objs _ _ hg
      refine ⟨_, ((us.toList.take cs.length).drop off).take cnt, h1, (h5.drop off).take cnt, ?_, fun j u hj => ?_⟩
      · simp; omega
      · rw [cell?_of h2]
        rw [List.getElem?_take] at hj
        split at hj
        · rw [List.getElem?_drop, List.getElem?_take] at hj
          split at hj
          · rw [Array.getElem?_toList] at hj
            simpa using hj
          · cases hj
        · cases hj
    · cases hv
  · rename_i cs hg
    split at hv
    · rename_i hle
      cases hv
      obtain ⟨a, h1, _, h2⟩ := hr.objs _ _ hg
      have key : ∀ (m : Nat) (xs : List AV), (∀ i x, xs[i]? = some x → ∃ u, w.cell? ⟨a.block, a.off + (m + i), none⟩ = some u ∧ VR X N x u) →
          ∃ us, VRs X N xs us ∧ us.length = xs.length ∧ ∀ j u, us[j]? = some u → w.cell? ⟨a.block, a.off + (m + j), none⟩ = some u := by
        intro m xs
        induction xs generalizing m with
        | nil => intro _; exact ⟨[], rfl, rfl, fun j u hj => by simp at hj⟩
        | cons x xs ih =>
          intro hx
          obtain ⟨u, hu, hv⟩ := hx 0 x rfl
          obtain ⟨us, h1, h2, h3⟩ := ih (m + 1) (fun i y hy => by
            have := hx (i + 1) y (by simpa using hy)
            rwa [show m + (i + 1) = m + 1 + i by omega] at this)
          refine ⟨u :: us, ⟨u, us, rfl, hv, h1⟩, by simp [h2], fun j v hj => ?_⟩
          cases j with
          | zero => simp at hj; subst hj; exact hu
          | succ j =>
            have := h3 j v (by simpa using hj)
            rwa [show m + (j + 1) = m + 1 + j by omega]
      obtain ⟨us, h3, h4, h5⟩ := key off ((cs.drop off).take cnt) (fun i x hx => by
        rw [List.getElem?_take] at hx
        split at hx
        · rw [List.getElem?_drop] at hx
          exact h2 _ _ hx
        · cases hx)
      refine ⟨a, us, h1, h3, by rw [h4]; simp; omega, h5⟩
    · cases hv
  · cases hv

theorem rdCell_sound {D : ChkD} {h : Heap} {w : World} (hr : HR D X N h w) {n off : Nat} {v : AV} (hv : rdCell h n off = some v) :
    ∃ a u, N.ρ n = some a ∧ VR X N v u ∧ w.cell? ⟨a.block, a.off + off, none⟩ = some u := by
  have : rdCells h n off 1 = some [v] := by
    unfold rdCell at hv
    unfold rdCells
    split at hv <;> first | (cases hv; done) | skip
    all_goals
      have hlt := (List.getElem?_eq_some_iff.1 hv).1
      rw [if_pos (by omega)]
      congr 1
      rw [List.take_one, List.head?_drop, hv]
      rfl
  obtain ⟨a, us, h1, h2, h3, h4⟩ := rdCells_sound hr this
  obtain ⟨u, ur, rfl, hu, _⟩ := h2
  exact ⟨a, u, h1, hu, by simpa using h4 0 u rfl⟩

end Go.Ev

/- Reads do what the model's do. -/
namespace Go.Ev
open Go

variable {X : Cx} {N N' : Nu} {D : ChkD}

theorem run_loadCells_at {a : Addr} {off : Nat} {us : List Value} {w : World} {P : Program} (h : ∀ (j : Nat) (u : Value), us[j]? = some u → w.cell? ⟨a.block, a.off + (off + j), none⟩ = some u) :
    (loadCells ⟨a.block, a.off + off, none⟩ us.length).run P w = .ok us.toArray w :=
  run_loadCells_list w _ us fun j v hj => by rw [add_plain, Nat.add_assoc]; exact h j v hj

theorem toBytes_sound (f : Value → ByteArray → Sem (ForInStep ByteArray)) (hf : ∀ n s, f (.int .u8 n) s = pure (ForInStep.yield (s.push (UInt8.ofNat n.toNat)))) :
    ∀ {cs : List AV} {us : List Value} {l : List UInt8}, VRs X N cs us → toBytes cs = some l →
    ∀ (acc : ByteArray) (w : World), (forIn (m := Sem) us acc f).run X.P w = .ok ⟨acc.data ++ l.toArray⟩ w
  | [], us, l, h, hl, acc, w => by
    simp only [VRs] at h; subst h; cases hl
    simp
  | c :: cs, us, l, h, hl, acc, w => by
    obtain ⟨u, ur, rfl, h1, h2⟩ := h
    unfold toBytes at hl
    split at hl
    · cases ‹c :: cs = []›
    · rename_i n r heq
      cases heq
      simp only [VR] at h1; subst h1
      split at hl
      · rename_i l' hl'
        cases hl
        have ih := toBytes_sound f hf h2 hl' (acc.push (UInt8.ofNat n.toNat)) w
        simp only [List.forIn_cons, hf, pure_bind] at ih ⊢
        rw [ih]
        congr 1
        apply ByteArray.ext
        simp [ByteArray.data_push]
      · cases hl
    · cases hl

theorem EntsR.length : ∀ {es : List (AV × AV)} {ms : List MapEntry}, EntsR X N es ms → es.length = ms.length
  | [], ms, h => by simp only [EntsR] at h; subst h; rfl
  | (_, _) :: es, ms, h => by
    obtain ⟨e, er, rfl, _, _, h⟩ := h
    simp [EntsR.length h]

theorem cellEqK_now {kk : Kd} {k a : AV} {u v : Value} {b : Bool} {d : TypeDesc} {t : TypeId} (ht : kdTy X t kk = true) (hd : X.P.underlying t = some d)
    (hk : VR X N k u) (ha : VR X N a v) (h : cellEqK kk k a = some b) : Instr.sameNow d u v = some b := by
  unfold kdTy at ht
  rw [hd] at ht
  unfold cellEqK at h
  split at h <;> first | (cases h; done) | skip
  · simp only [VR] at hk ha; subst hk; subst ha
    cases d <;> first | (cases ht; done) | skip
    cases h; rfl
  · simp only [VR] at hk ha; subst hk; subst ha
    cases d <;> first | (cases ht; done) | skip
    split at h
    · rename_i hkk
      obtain ⟨rfl, rfl⟩ := hkk
      cases h
      simp [Instr.sameNow]
      rw [Bool.eq_iff_iff]; simp
    · cases h
  · simp only [VR] at hk ha; subst hk; subst ha
    cases d <;> first | (cases ht; done) | skip
    cases h
    simp only [Instr.sameNow, Option.some.injEq]
    rename_i x y
    show (x.toArray == y.toArray) = seq8 x y
    rw [Bool.eq_iff_iff, seq8_iff, beq_iff_eq]
    exact ⟨fun e => by simpa using e, fun e => by rw [e]⟩

theorem mfind_now {kk : Kd} {k : AV} {u : Value} {d : TypeDesc} {t : TypeId} (ht : kdTy X t kk = true) (hd : X.P.underlying t = some d) (hk : VR X N k u) :
    ∀ {es : List (AV × AV)} {ms : List MapEntry} {r : Option AV} (i : Nat), EntsR X N es ms → mfind kk k es = some r →
      ∃ q, Instr.findNow d u ms i = some q ∧ (match r, q with | none, none => True | some v, some (_, x) => VR X N v x | _, _ => False)
  | [], ms, r, i, h, hr => by
    simp only [EntsR] at h; subst h; cases hr
    exact ⟨none, rfl, trivial⟩
  | (a, v) :: es, ms, r, i, h, hr => by
    obtain ⟨e, er, rfl, h1, h2, h3⟩ := h
    simp only [mfind] at hr
    split at hr
    · rename_i hc
      cases hr
      exact ⟨some (i, e.val), by simp [Instr.findNow, cellEqK_now ht hd hk h1 hc], h2⟩
    · rename_i hc
      obtain ⟨q, hq, hm⟩ := mfind_now ht hd hk (i + 1) h3 hr
      exact ⟨q, by simp [Instr.findNow, cellEqK_now ht hd hk h1 hc, hq], hm⟩
    · cases hr

theorem checkKey_plain {kk : Kd} {t : TypeId} (ht : kdTy X t kk = true) (e : Bool) (u : Value) (n : Nat) (w : World) : (Instr.checkKey e (n + 1) t u).run X.P w = .ok () w := by
  unfold kdTy at ht
  split at ht <;> first | (cases ht; done) | skip
  all_goals
    rename_i hd
    cases u <;> simp [Instr.checkKey, run_underlying hd]

theorem byteSlice_parts {t : TypeId} (h : isByteSlice X t = true) : ∃ e, X.P.underlying t = some (.slice e) ∧ X.P.underlying e = some (.int .u8) := by
  unfold isByteSlice at h
  split at h
  · rename_i e he
    split at h
    · rename_i h2; exact ⟨e, he, h2⟩
    · cases h
  · cases h

theorem string_part {t : TypeId} (h : isString X t = true) : X.P.underlying t = some .string := by
  unfold isString at h
  split at h
  · assumption
  · cases h

theorem zeroV_sound {t : TypeId} {z : AV} (h : zeroV X t z = true) (w : World) : ∃ u, (zeroValue t).run X.P w = .ok u w ∧ VR X N z u := by
  unfold zeroV at h
  split at h
  · rename_i i hi
    split at h
    · rename_i v hv
      exact ⟨v, by simp [zeroValue, typeInfo, hi, hv], chkV_VR _ _ h⟩
    · cases h
  · cases h

theorem RO_sound {o : Oper} {m : RO} {v : AV} {ev : AO → AV} {r : Operand → Value} {h : Heap} {w : World} (hc : chkR X o.op m = true) (he : Evs X N ev r) (hr : HR D X N h w)
    (hv : RO.run ev h m = some v) : ∃ u, (execOp r o).run X.P w = .ok (.value u) w ∧ VR X N v u := by
  unfold chkR at hc
  split at hc <;> (first | (cases hc; done) | skip) <;> rename_i hop <;> simp only [bool_and, beq_iff_eq] at hc
  · -- load
    rename_i t x sz a
    obtain ⟨hz, hx⟩ := hc
    have h1 := he _ _ hx
    cases sz with
    | none =>
      simp only [RO.run] at hv
      split at hv
      · rename_i n off hn
        rw [hn] at h1
        obtain ⟨ad, hρ, h1⟩ := h1
        obtain ⟨ad', u, h2, h3, h4⟩ := rdCell_sound hr hv
        rw [hρ] at h2; cases h2
        refine ⟨u, ?_, h3⟩
        simp [execOp, hop, h1, Instr.loadAt, Instr.sureAddr, loadVar, run_isAgg_none hz, h4]
      · cases hv
    | some k =>
      simp only [RO.run] at hv
      split at hv
      · rename_i n off hn
        rw [hn] at h1
        obtain ⟨ad, hρ, h1⟩ := h1
        simp only [Option.map_eq_some_iff] at hv
        obtain ⟨cs, hcs, rfl⟩ := hv
        obtain ⟨ad', us, h2, h3, h4, h5⟩ := rdCells_sound hr hcs
        rw [hρ] at h2; cases h2
        obtain ⟨z1, z2⟩ := run_isAgg_some hz w
        have hl := run_loadCells_at (P := X.P) h5
        refine ⟨.agg us.toArray, ?_, us.toArray, rfl, h3⟩
        simp [execOp, hop, h1, Instr.loadAt, Instr.sureAddr, loadVar, z1, z2, ← h4, hl]
      · cases hv
  · -- bytes to a string
    rename_i s d x a
    obtain ⟨hs, hd, hx⟩ := hc
    have h1 := he _ _ hx
    obtain ⟨e, he1, he2⟩ := byteSlice_parts hs
    have hd := string_part hd
    have hcall : ∀ u, (Conv.bytesToString (r x)).run X.P w = .ok u w → (∀ q, r x ≠ .string q) → (∀ k q, r x ≠ .int k q) → (execOp r o).run X.P w = .ok (.value u) w := by
      intro u hu hn1 hn2
      have : (convert s d (r x)).run X.P w = .ok u w := by
        simp only [convert, Sem.run_bind, run_underlying he1, run_underlying hd, Result.andThen_ok]
        cases hrx : r x <;> first | (exact absurd hrx (hn1 _)) | (exact absurd hrx (hn2 _ _)) | (rw [hrx] at hu; simp [run_underlying he2, hu])
      simp [execOp, hop, this]
    simp only [RO.run] at hv
    split at hv
    · rename_i hn
      cases hv
      rw [hn] at h1; simp only [VR] at h1
      refine ⟨.string .empty, hcall _ ?_ (by rw [h1]; simp) (by rw [h1]; simp), ?_⟩
      · rw [h1]; rfl
      · simp only [VR]; rfl
    · rename_i n off ln c hn
      split at hv
      · rename_i cs hcs
        simp only [Option.map_eq_some_iff] at hv
        obtain ⟨l, hl, rfl⟩ := hv
        rw [hn] at h1
        obtain ⟨ad, cp, hρ, h1, _⟩ := h1
        obtain ⟨ad', us, h2, h3, h4, h5⟩ := rdCells_sound hr hcs
        rw [hρ] at h2; cases h2
        have hlo := run_loadCells_at (P := X.P) h5
        refine ⟨.string ⟨l.toArray⟩, hcall _ ?_ (by rw [h1]; simp) (by rw [h1]; simp), by simp [VR]⟩
        have hb := fun f hf => toBytes_sound (X := X) (N := N) f hf h3 hl ByteArray.empty w
        rw [h1]
        simp only [Conv.bytesToString, ← h4, Sem.run_bind, hlo, Result.andThen_ok]
        simp only [List.forIn_toArray]
        rw [hb _ (fun n s => rfl)]
        simp
      · cases hv
    · cases hv
  · -- lookup
    rename_i t m k ok kk z ok' m' k'
    obtain ⟨ht, rfl, hm, hk⟩ := hc
    split at ht
    · rename_i kt e hd
      simp only [bool_and] at ht
      obtain ⟨hkt, hz⟩ := ht
      obtain ⟨z', hz1, hz2⟩ := zeroV_sound (N := N) hz w
      have h1 := he _ _ hm
      have h2 := he _ _ hk
      have hck := fun e => checkKey_plain hkt e (r k) 9999 w
      simp only [RO.run] at hv
      obtain ⟨dk, hdk⟩ : ∃ dk, X.P.underlying kt = some dk := by
        unfold kdTy at hkt
        split at hkt <;> first | exact ⟨_, ‹_›⟩ | cases hkt
      split at hv
      · rename_i hn
        split at hv
        · rw [hn] at h1; simp only [VR] at h1
          cases hv
          cases ok
          · refine ⟨z', ?_, by simpa using hz2⟩
            simp [execOp, hop, Instr.lookup, run_underlying hd, h1, hck, Instr.findKey, run_underlying hdk, Instr.findNow, hz1]
          · refine ⟨.tuple #[z', .bool false], ?_, by simp only [if_true]; exact ⟨_, rfl, z', _, rfl, hz2, _, _, rfl, rfl, rfl⟩⟩
            simp [execOp, hop, Instr.lookup, run_underlying hd, h1, hck, Instr.findKey, run_underlying hdk, Instr.findNow, hz1]
        · cases hv
      · rename_i n hn
        rw [hn] at h1
        obtain ⟨ad, hρ, h1⟩ := h1
        split at hv
        · rename_i es hg
          split at hv
          · obtain ⟨b, mes, clk, hb1, hb2, hb3⟩ := hr.objs _ _ hg
            rw [hρ] at hb1
            cases hb1
            have hgo : (getObj b).run X.P w = .ok (.map mes clk) w := by simp [getObj, Sem.run, hb2]
            split at hv
            · rename_i x hf
              cases hv
              obtain ⟨q, hq1, hq2⟩ := mfind_now hkt hdk h2 0 hb3 hf
              cases q with
              | none => exact hq2.elim
              | some q =>
                obtain ⟨qi, qv⟩ := q
                simp only at hq2
                cases ok
                · refine ⟨qv, ?_, by simpa using hq2⟩
                  simp [execOp, hop, Instr.lookup, run_underlying hd, h1, hck, Instr.findKey, run_underlying hdk, hgo, hq1]
                · refine ⟨.tuple #[qv, .bool true], ?_, by simp only [if_true]; exact ⟨_, rfl, qv, _, rfl, hq2, _, _, rfl, rfl, rfl⟩⟩
                  simp [execOp, hop, Instr.lookup, run_underlying hd, h1, hck, Instr.findKey, run_underlying hdk, hgo, hq1]
            · rename_i hf
              cases hv
              obtain ⟨q, hq1, hq2⟩ := mfind_now hkt hdk h2 0 hb3 hf
              cases q with
              | some q => exact hq2.elim
              | none =>
                cases ok
                · refine ⟨z', ?_, by simpa using hz2⟩
                  simp [execOp, hop, Instr.lookup, run_underlying hd, h1, hck, Instr.findKey, run_underlying hdk, hgo, hq1, hz1]
                · refine ⟨.tuple #[z', .bool false], ?_, by simp only [if_true]; exact ⟨_, rfl, z', _, rfl, hz2, _, _, rfl, rfl, rfl⟩⟩
                  simp [execOp, hop, Instr.lookup, run_underlying hd, h1, hck, Instr.findKey, run_underlying hdk, hgo, hq1, hz1]
            · cases hv
          · cases hv
        · cases hv
      · cases hv
    · cases ht
  · -- len of a map
    rename_i args argTypes a
    obtain ⟨ht, hx⟩ := hc
    split at ht
    · rename_i t hat
      split at hx
      · rename_i x hal
        have harg : args = #[x] := by rw [← Array.toList_inj, hal]
        have h1 := he _ _ hx
        have hcall : ∀ u, (Builtin.len_ argTypes o.type #[r x]).run X.P w = .ok u w → (execOp r o).run X.P w = .ok (.value u) w := by
          intro u hu
          simp [execOp, hop, resolve, invoke, builtin, harg, hu]
        split at ht
        · rename_i kt e hd
          simp only [RO.run] at hv
          split at hv
          · rename_i hn
            cases hv
            rw [hn] at h1; simp only [VR] at h1
            refine ⟨.int .i64 0, hcall _ ?_, by simp [VR]⟩
            simp [Builtin.len_, hat, h1, run_underlying hd, goInt]
          · rename_i n hn
            rw [hn] at h1
            obtain ⟨ad, hρ, h1⟩ := h1
            split at hv
            · rename_i es hg
              cases hv
              obtain ⟨b, mes, clk, hb1, hb2, hb3⟩ := hr.objs _ _ hg
              rw [hρ] at hb1
              cases hb1
              have hgo : (getObj b).run X.P w = .ok (.map mes clk) w := by simp [getObj, Sem.run, hb2]
              have hl := hb3.length
              simp only [Array.length_toList] at hl
              refine ⟨.int .i64 mes.size, hcall _ ?_, by simp [VR, hl]⟩
              simp [Builtin.len_, hat, h1, run_underlying hd, goInt, hgo]
            · cases hv
          · cases hv
        · cases ht
      · cases hx
    · cases ht

end Go.Ev

/- How the relation between heaps is kept: a new block, a write into a row of cells, a write into a map. -/
namespace Go.Ev
open Go

variable {X : Cx} {N N' N'' : Nu} {D : ChkD}

/-- What a step leaves alone, and what it makes. -/
structure Gd (N : Nu) (h : Heap) (w : World) (N' : Nu) (h' : Heap) (w' : World) : Prop where
  le : N.Le N'
  size : w.heap.size ≤ w'.heap.size
  tape : w'.tape = w.tape
  os : w'.os = w.os
  output : w'.output = w.output
  frame : ∀ b, b < w.heap.size → ¬ Own N h b → w'.heap[b]? = w.heap[b]?
  has : ∀ n o a, hget h' n = some o → N'.ρ n = some a → (∃ m p c, hget h m = some p ∧ N.ρ m = some c ∧ c.block = a.block ∧ (o.own = true → p.own = true)) ∨ w.heap.size ≤ a.block

theorem Gd.own {h h' : Heap} {w w' : World} (g : Gd N h w N' h' w') {b : Nat} (hb : Own N' h' b) : Own N h b ∨ w.heap.size ≤ b := by
  obtain ⟨n, o, a, h1, h2, h3, rfl⟩ := hb
  rcases g.has n o a h1 h3 with ⟨m, p, c, k1, k2, k3, k4⟩ | h
  · exact .inl ⟨m, p, c, k1, k4 h2, k2, k3⟩
  · exact .inr h

theorem Gd.refl (N : Nu) (h : Heap) (w : World) : Gd N h w N h w :=
  ⟨.refl N, Nat.le_refl _, rfl, rfl, rfl, fun _ _ _ => rfl, fun n o a h1 h2 => .inl ⟨n, o, a, h1, h2, rfl, id⟩⟩

theorem Gd.trans {h h' h'' : Heap} {w w' w'' : World} (a : Gd N h w N' h' w') (b : Gd N' h' w' N'' h'' w'') : Gd N h w N'' h'' w'' := by
  refine ⟨a.le.trans b.le, Nat.le_trans a.size b.size, b.tape.trans a.tape, b.os.trans a.os, b.output.trans a.output, fun k hk hn => ?_, fun n o c h1 h2 => ?_⟩
  · rw [b.frame k (Nat.lt_of_lt_of_le hk a.size) (fun ho => (a.own ho).elim hn (fun h => by omega)), a.frame k hk hn]
  · rcases b.has n o c h1 h2 with ⟨m, p, d, k1, k2, k3, k4⟩ | h
    · rcases a.has m p d k1 k2 with ⟨m', p', d', l1, l2, l3, l4⟩ | h
      · exact .inl ⟨m', p', d', l1, l2, l3.trans k3, fun x => l4 (k4 x)⟩
      · rw [k3] at h; exact .inr h
    · exact .inr (Nat.le_trans a.size h)

theorem hget_hset : ∀ {h : Heap} {n m : Nat} {o p : AObj}, hget h n = some p → hget (hset h n o) m = if n = m then some o else hget h m
  | [], n, m, o, p, hp => by cases hp
  | (k, q) :: h, n, m, o, p, hp => by
    simp only [hget] at hp
    simp only [hset]
    by_cases e : k = n
    · subst e
      rw [if_pos rfl]
      simp only [hget]
      by_cases e2 : k = m
      · rw [if_pos e2, if_pos e2]
      · rw [if_neg e2, if_neg e2, if_neg e2]
    · rw [if_neg e] at hp ⊢
      simp only [hget]
      by_cases e2 : k = m
      · subst e2
        rw [if_pos rfl, if_pos rfl, if_neg (fun x => e x.symm)]
      · rw [if_neg e2, if_neg e2, hget_hset hp]

theorem hget_hdel : ∀ {h : Heap} {n m : Nat}, hget (hdel h n) m = if n = m then none else hget h m
  | [], n, m => by simp [hdel, hget]
  | (k, q) :: h, n, m => by
    simp only [hdel]
    by_cases e : k = n
    · subst e
      rw [if_pos rfl, hget_hdel]
      simp only [hget]
      by_cases e2 : k = m
      · rw [if_pos e2, if_pos e2]
      · rw [if_neg e2, if_neg e2, if_neg e2]
    · rw [if_neg e]
      simp only [hget]
      by_cases e2 : k = m
      · subst e2
        rw [if_pos rfl, if_pos rfl, if_neg (fun x => e x.symm)]
      · rw [if_neg e2, if_neg e2, hget_hdel]

theorem EnvR.mono (hl : N.Le N') {e : Env} {tmps : Array Value} (h : EnvR X N e tmps) : EnvR X N' e tmps := fun t => (h t).mono hl _

theorem EntsR.mono (hl : N.Le N') : ∀ {es : List (AV × AV)} {ms : List MapEntry}, EntsR X N es ms → EntsR X N' es ms
  | [], _, h => h
  | (_, _) :: _, _, ⟨e, er, h0, h1, h2, h3⟩ => ⟨e, er, h0, h1.mono hl _, h2.mono hl _, h3.mono hl⟩

theorem ObjR.keep {w w' : World} {n : Nat} {o : AObj} (hl : N.Le N') (_hs : w.heap.size ≤ w'.heap.size) (hb : ∀ a, N.ρ n = some a → w'.heap[a.block]? = w.heap[a.block]?)
    (h : ObjR D X N w n o) : ObjR D X N' w' n o := by
  cases o with
  | cells ty l cs =>
    obtain ⟨b, us, fz, h1, h2, h3, h4⟩ := h
    exact ⟨b, us, fz, (hl _ _ h1).1, by rw [hb _ h1]; exact h2, h3.mono hl _, h4⟩
  | buf ty es cs =>
    obtain ⟨b, us, fz, h1, h2, h3, h4, h5, h6⟩ := h
    exact ⟨b, us, fz, (hl _ _ h1).1, by rw [hb _ h1]; exact h2, by rw [(hl _ _ h1).2]; exact h3, h4, h5.mono hl _, h6⟩
  | ro cs =>
    obtain ⟨a, h1, h2, h3⟩ := h
    refine ⟨a, (hl _ _ h1).1, by rw [hb _ h1]; exact h2, fun i x hx => ?_⟩
    obtain ⟨u, hu, hv⟩ := h3 i x hx
    refine ⟨u, ?_, hv.mono hl _⟩
    simp only [World.cell?, hb _ h1]
    exact hu
  | map es =>
    obtain ⟨b, mes, clk, h1, h2, h3⟩ := h
    exact ⟨b, mes, clk, (hl _ _ h1).1, by rw [hb _ h1]; exact h2, h3.mono hl⟩
  | loop st env ps assign body =>
    obtain ⟨b, l, S, h1, h2, h3, h4, h5⟩ := h
    exact ⟨b, l, S, (hl _ _ h1).1, by rw [hb _ h1]; exact h2, h3, h4.mono hl, h5⟩

theorem lt_of_get {w : World} {b : Nat} {o : Obj} (h : w.heap[b]? = some o) : b < w.heap.size := (Array.getElem?_eq_some_iff.1 h).1

theorem ObjR.lt {w : World} {n : Nat} {o : AObj} (h : ObjR D X N w n o) {a : Addr} (ha : N.ρ n = some a) : a.block < w.heap.size := by
  cases o with
  | cells ty l cs => obtain ⟨b, us, fz, h1, h2, _⟩ := h; rw [h1] at ha; cases ha; exact lt_of_get h2
  | buf ty es cs => obtain ⟨b, us, fz, h1, h2, _⟩ := h; rw [h1] at ha; cases ha; exact lt_of_get h2
  | ro cs => obtain ⟨b, h1, ⟨us, t, fz, h2⟩, _⟩ := h; rw [h1] at ha; cases ha; exact lt_of_get h2
  | map es => obtain ⟨b, mes, clk, h1, h2, _⟩ := h; rw [h1] at ha; cases ha; exact lt_of_get h2
  | loop st env ps assign body => obtain ⟨b, l, S, h1, h2, _⟩ := h; rw [h1] at ha; cases ha; exact lt_of_get h2

/-- One name more. -/
def Nu.add (N : Nu) (n : Nat) (a : Addr) (k : Nat) : Nu := ⟨fun m => if m = n then some a else N.ρ m, fun m => if m = n then k else N.κ m⟩

theorem Nu.le_add {n : Nat} {a : Addr} {k : Nat} (h : N.ρ n = none) : N.Le (N.add n a k) := by
  intro m b hb
  have : m ≠ n := by rintro rfl; rw [h] at hb; cases hb
  simp [Nu.add, this, hb]

theorem heap_push_lt (w : World) (o : Obj) {k : Nat} (h : k < w.heap.size) : (w.heap.push o)[k]? = w.heap[k]? := by
  rw [Array.getElem?_push, if_neg (by omega)]

/-- A new block. -/
theorem HR.new {h : Heap} {w : World} (hr : HR D X N h w) {n k : Nat} {obj : Obj} {o : AObj} (hn : N.ρ n = none)
    (ho : ObjR D X (N.add n ⟨w.heap.size, 0, none⟩ k) { w with heap := w.heap.push obj } n o) :
    HR D X (N.add n ⟨w.heap.size, 0, none⟩ k) ((n, o) :: h) { w with heap := w.heap.push obj } ∧
      Gd N h w (N.add n ⟨w.heap.size, 0, none⟩ k) ((n, o) :: h) { w with heap := w.heap.push obj } := by
  have hle : N.Le (N.add n ⟨w.heap.size, 0, none⟩ k) := Nu.le_add hn
  have hnew : (N.add n ⟨w.heap.size, 0, none⟩ k).ρ n = some ⟨w.heap.size, 0, none⟩ := by simp [Nu.add]
  have hold : ∀ m, m ≠ n → (N.add n ⟨w.heap.size, 0, none⟩ k).ρ m = N.ρ m := fun m hm => by simp [Nu.add, hm]
  have hkeep : ∀ m p, hget h m = some p → ∃ a, N.ρ m = some a ∧ a.block < w.heap.size ∧ m ≠ n := by
    intro m p hp
    have := hr.objs m p hp
    obtain ⟨a, ha⟩ : ∃ a, N.ρ m = some a := by
      cases p with
      | cells ty l cs => obtain ⟨b, us, fz, h1, _⟩ := this; exact ⟨_, h1⟩
      | buf ty es cs => obtain ⟨b, us, fz, h1, _⟩ := this; exact ⟨_, h1⟩
      | ro cs => obtain ⟨a, h1, _⟩ := this; exact ⟨_, h1⟩
      | map es => obtain ⟨b, mes, clk, h1, _⟩ := this; exact ⟨_, h1⟩
      | loop st env ps assign body => obtain ⟨b, l, S, h1, _⟩ := this; exact ⟨_, h1⟩
    exact ⟨a, ha, this.lt ha, by rintro rfl; rw [hn] at ha; cases ha⟩
  refine ⟨⟨fun m p hp => ?_, fun m m' p q a c hp hq hpo ha hc hac => ?_⟩, ⟨hle, by simp, rfl, rfl, rfl, fun b hb _ => heap_push_lt w obj hb, fun m p a hp ha => ?_⟩⟩
  · simp only [hget] at hp
    split at hp
    · rename_i e; subst e; cases hp; exact ho
    · exact (hr.objs m p hp).keep hle (by simp) (fun a ha => heap_push_lt w obj ((hr.objs m p hp).lt ha))
  · simp only [hget] at hp hq
    split at hp
    · rename_i e; subst e
      split at hq
      · assumption
      · exfalso
        obtain ⟨a', ha', hlt, hne⟩ := hkeep _ _ hq
        rw [hnew] at ha
        rw [hold _ hne, ha'] at hc
        cases ha; cases hc
        simp only at hac
        omega
    · split at hq
      · rename_i e; subst e
        exfalso
        obtain ⟨a', ha', hlt, hne⟩ := hkeep _ _ hp
        rw [hnew] at hc
        rw [hold _ hne, ha'] at ha
        cases ha; cases hc
        simp only at hac
        omega
      · obtain ⟨a', ha', _, hne⟩ := hkeep _ _ hp
        obtain ⟨c', hc', _, hne'⟩ := hkeep _ _ hq
        rw [hold _ hne] at ha
        rw [hold _ hne'] at hc
        exact hr.sep _ _ _ _ _ _ hp hq hpo ha hc hac
  · simp only [hget] at hp
    split at hp
    · rename_i e; subst e
      rw [hnew] at ha; cases ha
      exact .inr (Nat.le_refl _)
    · obtain ⟨a', ha', _, hne⟩ := hkeep _ _ hp
      rw [hold _ hne] at ha
      exact .inl ⟨m, p, a, hp, ha, rfl, id⟩

/-- A block of the heap's own turns into another. -/
theorem HR.put {h : Heap} {w w' : World} (hr : HR D X N h w) {n b : Nat} {o p : AObj} (hg : hget h n = some p) (hp : p.own = true) (hρ : N.ρ n = some ⟨b, 0, none⟩)
    (hs : w'.heap.size = w.heap.size) (ht : w'.tape = w.tape) (hos : w'.os = w.os) (hou : w'.output = w.output) (hb : ∀ k, k ≠ b → w'.heap[k]? = w.heap[k]?) (ho : ObjR D X N w' n o) :
    HR D X N (hset h n o) w' ∧ Gd N h w N (hset h n o) w' := by
  refine ⟨⟨fun m q hq => ?_, fun m m' q q' a c h1 h2 h3 h4 h5 h6 => ?_⟩, ⟨.refl N, by omega, ht, hos, hou, fun k hk hn => hb k ?_, fun m q a hq ha => ?_⟩⟩
  · rw [hget_hset hg] at hq
    split at hq
    · rename_i e; subst e; cases hq; exact ho
    · rename_i hne
      refine (hr.objs m q hq).keep (.refl N) (by omega) (fun a ha => hb _ ?_)
      intro e
      exact hne (hr.sep n m p q _ a hg hq hp hρ ha (by simpa using e.symm))
  · rw [hget_hset hg] at h1 h2
    have e1 : ∃ q1, hget h m = some q1 ∧ q1.own = true := by
      split at h1
      · rename_i e; subst e; exact ⟨p, hg, hp⟩
      · exact ⟨q, h1, h3⟩
    have e2 : ∃ q2, hget h m' = some q2 := by
      split at h2
      · rename_i e; subst e; exact ⟨p, hg⟩
      · exact ⟨q', h2⟩
    obtain ⟨q1, g1, o1⟩ := e1
    obtain ⟨q2, g2⟩ := e2
    exact hr.sep _ _ _ _ _ _ g1 g2 o1 h4 h5 h6
  · rintro rfl
    exact hn ⟨n, p, _, hg, hp, hρ, rfl⟩
  · rw [hget_hset hg] at hq
    split at hq
    · rename_i e; subst e; exact .inl ⟨n, p, a, hg, ha, rfl, fun _ => hp⟩
    · exact .inl ⟨m, q, a, hq, ha, rfl, id⟩

/-- Less is known. -/
theorem HR.weaken {h h' : Heap} {w : World} (hr : HR D X N h w) (hs : ∀ n o, hget h' n = some o → hget h n = some o) : HR D X N h' w :=
  ⟨fun n o ho => hr.objs n o (hs n o ho), fun n m o p a c h1 h2 h3 h4 h5 h6 => hr.sep n m o p a c (hs _ _ h1) (hs _ _ h2) h3 h4 h5 h6⟩

theorem Own.weaken {h h' : Heap} (hs : ∀ n o, hget h' n = some o → hget h n = some o) {b : Nat} (ho : Own N h' b) : Own N h b := by
  obtain ⟨n, o, a, h1, h2, h3, h4⟩ := ho
  exact ⟨n, o, a, hs _ _ h1, h2, h3, h4⟩

end Go.Ev

/- New blocks, stores, appends, copies, writes into maps do what the model's do. -/
namespace Go.Ev
open Go

variable {X : Cx} {N N' N'' : Nu} {D : ChkD}

def putC (w : World) (b : Nat) (us : Array Value) (t : TypeId) (fz : Nat × Nat) : World := { w with heap := w.heap.setIfInBounds b (.cells us t fz) }

theorem setCell_putC {w : World} {b i : Nat} {us : Array Value} {t : TypeId} {fz : Nat × Nat} {v : Value} (h : w.heap[b]? = some (.cells us t fz)) :
    w.setCell ⟨b, i, none⟩ v = putC w b (us.setIfInBounds i v) t fz := by
  simp only [World.setCell, putC]
  congr 1
  apply Array.ext_getElem?
  intro k
  rw [Array.getElem?_modify, Array.getElem?_setIfInBounds]
  by_cases e : b = k
  · subst e
    have hlt := lt_of_get h
    rw [if_pos rfl, if_pos rfl, if_pos hlt, h]
    rfl
  · rw [if_neg e, if_neg e]

theorem get_putC {w : World} {b : Nat} {us : Array Value} {t : TypeId} {fz : Nat × Nat} (h : b < w.heap.size) : (putC w b us t fz).heap[b]? = some (.cells us t fz) := by
  simp [putC, h]

theorem get_putC_ne {w : World} {b k : Nat} {us : Array Value} {t : TypeId} {fz : Nat × Nat} (h : k ≠ b) : (putC w b us t fz).heap[k]? = w.heap[k]? := by
  simp only [putC]
  rw [Array.getElem?_setIfInBounds, if_neg (fun e => h e.symm)]

theorem putC_putC (w : World) (b : Nat) (us vs : Array Value) (t : TypeId) (fz : Nat × Nat) : putC (putC w b us t fz) b vs t fz = putC w b vs t fz := by
  simp [putC]

theorem putC_self {w : World} {b : Nat} {us : Array Value} {t : TypeId} {fz : Nat × Nat} (h : w.heap[b]? = some (.cells us t fz)) : putC w b us t fz = w := by
  simp only [putC]
  have : w.heap.setIfInBounds b (.cells us t fz) = w.heap := by
    apply Array.ext_getElem?
    intro k
    rw [Array.getElem?_setIfInBounds]
    by_cases e : b = k
    · subst e; rw [if_pos rfl, if_pos (lt_of_get h), h]
    · rw [if_neg e]
  rw [this]

theorem VR.oneCell {x : AV} {u : Value} (h : VR X N x u) (hs : x.sc = true) : u.oneCell' = true := by
  cases x <;> simp only [AV.sc] at hs <;> first | (cases hs; done) | skip
  all_goals
    simp only [VR] at h
    first
    | (subst h; rfl)
    | (obtain ⟨_, _, rfl⟩ := h; rfl)
    | (obtain ⟨_, _, _, rfl, _⟩ := h; rfl)
    | (obtain ⟨_, _, rfl, _⟩ := h; rfl)
    | (obtain ⟨_, rfl, _⟩ := h; rfl)

theorem run_storeCells {P : Program} {b : Nat} {t : TypeId} {fz : Nat × Nat} (o : Nat) : ∀ (vs : List Value) (us : Array Value) (w : World) (i : Nat),
    w.heap[b]? = some (.cells us t fz) → unfz fz us.size → o + i + vs.length ≤ us.size → (∀ v ∈ vs, v.oneCell' = true) →
    (storeCells ⟨b, o, none⟩ vs i).run P w = .ok () (putC w b (spliceV us.toList (o + i) vs).toArray t fz)
  | [], us, w, i, h, _, _, _ => by simp [storeCells, spliceV, putC_self h]
  | v :: vs, us, w, i, h, hf, hl, hs => by
    simp only [List.length_cons] at hl
    have hc : w.cell? ⟨b, o + i, none⟩ = us[o + i]? := cell?_of h
    have hlt : o + i < us.size := by omega
    have hfz : w.frozen? ⟨b, o + i, none⟩ = false := by
      have := hf (o + i) hlt
      simp only [World.frozen?, h]
      rw [Bool.eq_false_iff]
      simp only [ne_eq, Bool.and_eq_true, decide_eq_true_eq]
      exact this
    have ih := run_storeCells (P := P) o vs (us.setIfInBounds (o + i) v) (putC w b (us.setIfInBounds (o + i) v) t fz) (i + 1) (get_putC (lt_of_get h))
      (by simpa using hf) (by simp; omega) (fun x hx => hs x (List.mem_cons_of_mem _ hx))
    simp only [storeCells, Sem.run_bind, add_plain, run_store P w _ v _ (hs v List.mem_cons_self), hc, Array.getElem?_eq_getElem hlt, hfz, Bool.false_eq_true, if_false, Result.andThen_ok, setCell_putC h]
    rw [ih, putC_putC]
    simp [spliceV, Nat.add_assoc]

/-- A write into a row of cells. -/
theorem wrCells_sound {h h' : Heap} {w : World} (hr : HR D X N h w) {n off : Nat} {vs : List AV} {us : List Value} (hv : VRs X N vs us) (hw : wrCells h n off vs = some h') :
    ∃ b w', N.ρ n = some ⟨b, 0, none⟩ ∧ (storeCells ⟨b, off, none⟩ us).run X.P w = .ok () w' ∧ HR D X N h' w' ∧ Gd N h w N h' w' := by
  unfold wrCells at hw
  split at hw
  · rename_i ty l cs hg
    split at hw
    · rename_i hcond
      obtain ⟨hle, hsc⟩ := hcond
      cases hw
      obtain ⟨b, ws, fz, h1, h2, h3, h4⟩ := hr.objs _ _ hg
      have hlen := hv.length
      have hlen3 := h3.length
      simp only [Array.length_toList] at hlen3
      have hone : ∀ v ∈ us, v.oneCell' = true := by
        intro v hvm
        obtain ⟨i, hi, rfl⟩ := List.getElem_of_mem hvm
        have hi' : i < vs.length := by omega
        exact ((VRs_iff.1 hv).2 i vs[i] us[i] (List.getElem?_eq_getElem hi') (List.getElem?_eq_getElem hi)).oneCell (List.all_eq_true.1 hsc _ (List.getElem_mem hi'))
      have hrun := run_storeCells (P := X.P) off us ws w 0 h2 h4 (by omega) hone
      refine ⟨b, _, h1, hrun, HR.put hr hg rfl h1 (by simp [putC]) rfl rfl rfl (fun k hk => get_putC_ne hk) ?_⟩
      refine ⟨b, _, fz, h1, get_putC (lt_of_get h2), ?_, ?_⟩
      · exact h3.splice hv _
      · simpa [length_spliceV] using h4
    · cases hw
  · rename_i ty es cs hg
    split at hw
    · rename_i hcond
      obtain ⟨hle, hsc⟩ := hcond
      cases hw
      obtain ⟨b, ws, fz, h1, h2, h3, h4, h5, h6⟩ := hr.objs _ _ hg
      have hlen := hv.length
      have hone : ∀ v ∈ us, v.oneCell' = true := by
        intro v hvm
        obtain ⟨i, hi, rfl⟩ := List.getElem_of_mem hvm
        have hi' : i < vs.length := by omega
        exact ((VRs_iff.1 hv).2 i vs[i] us[i] (List.getElem?_eq_getElem hi') (List.getElem?_eq_getElem hi)).oneCell (List.all_eq_true.1 hsc _ (List.getElem_mem hi'))
      have hrun := run_storeCells (P := X.P) off us ws w 0 h2 h6 (by omega) hone
      refine ⟨b, _, h1, hrun, HR.put hr hg rfl h1 (by simp [putC]) rfl rfl rfl (fun k hk => get_putC_ne hk) ?_⟩
      refine ⟨b, _, fz, h1, get_putC (lt_of_get h2), by simpa [length_spliceV] using h3, by simpa [length_splice, length_spliceV] using h4, ?_, ?_⟩
      · rw [length_splice]
        have key : (spliceV ws.toList off us).take cs.length = spliceV (ws.toList.take cs.length) off us := by
          clear hrun hone hv hr hg
          have : ∀ (us : List Value) (l : List Value) (o : Nat), o + us.length ≤ cs.length → (spliceV l o us).take cs.length = spliceV (l.take cs.length) o us := by
            intro us
            induction us with
            | nil => intro l o _; rfl
            | cons u us ih =>
              intro l o ho
              simp only [List.length_cons] at ho
              simp only [spliceV]
              rw [ih _ _ (by omega), List.take_set]
          exact this us ws.toList off (by omega)
        rw [Nat.add_zero, key]
        exact h5.splice hv _
      · simpa [length_spliceV] using h6
    · cases hw
  · cases hw

end Go.Ev

/- New blocks do what the model's do. -/
namespace Go.Ev
open Go

variable {X : Cx} {N N' N'' : Nu} {D : ChkD}

theorem HR.drawn {h : Heap} {w : World} (hr : HR D X N h w) (k : Nat) : HR D X N h { w with drawn := k } :=
  ⟨fun n o ho => (hr.objs n o ho).keep (.refl N) (Nat.le_refl _) (fun _ _ => rfl), hr.sep⟩

theorem Gd.drawn (N : Nu) (h : Heap) (w : World) (k : Nat) : Gd N h w N h { w with drawn := k } :=
  ⟨.refl N, Nat.le_refl _, rfl, rfl, rfl, fun _ _ _ => rfl, fun n o a h1 h2 => .inl ⟨n, o, a, h1, h2, rfl, id⟩⟩

theorem unfz_zero (n : Nat) : unfz (0, 0) n := fun i _ h => by omega

theorem elemIs_spec {t e : TypeId} (h : elemIs X t e = true) : X.P.underlying t = some (.slice e) := by
  unfold elemIs at h
  split at h
  · rename_i e' he; simp only [beq_iff_eq] at h; rw [he, h]
  · cases h

theorem reps_map (z : List Value) : ∀ (n : Nat), ((List.range (n * z.length)).map fun i => z[i % z.length]!) = (List.replicate n z).flatten
  | 0 => by simp
  | n + 1 => by
    rw [List.replicate_succ', List.flatten_append, ← reps_map z n, Nat.succ_mul, List.range_add, List.map_append, List.map_map]
    congr 1
    simp only [List.flatten_cons, List.flatten_nil, List.append_nil]
    apply List.ext_getElem?
    intro i
    by_cases hi : i < z.length
    · simp only [List.getElem?_map, List.getElem?_range hi, Option.map_some, Function.comp]
      rw [Nat.mul_comm, Nat.mul_add_mod, Nat.mod_eq_of_lt hi, List.getElem?_eq_getElem hi, List.getElem!_eq_getElem?_getD, List.getElem?_eq_getElem hi]
      rfl
    · rw [List.getElem?_eq_none (by simpa using Nat.le_of_not_lt hi), List.getElem?_eq_none (Nat.le_of_not_lt hi)]

theorem VRs.reps {zs : List AV} {us : List Value} (h : VRs X N zs us) : ∀ n, VRs X N (reps zs n) (List.replicate n us).flatten
  | 0 => by simp [Ev.reps]; rfl
  | n + 1 => by
    rw [List.replicate_succ, List.flatten_cons]
    exact h.append (VRs.reps h n)

theorem zeroIs_spec {t : TypeId} {zs : List AV} (h : zeroIs X t zs = true) : ∃ i z, X.P.info? t = some i ∧ i.zero = some z ∧ ∀ N, VRs X N zs z.cells.toList := by
  unfold zeroIs at h
  split at h
  · rename_i i hi
    split at h
    · rename_i z hz; exact ⟨i, z, hi, hz, fun N => chkVs_VRs _ _ h⟩
    · cases h
  · cases h

theorem wrap64_id {n : Int} (h1 : -9223372036854775808 ≤ n) (h2 : n ≤ 9223372036854775807) : IntKind.i64.wrap n = n := by
  rw [← wrp_eq]; simp only [wrp]; rw [if_pos ⟨h1, h2⟩]

theorem bytesIs_spec {t n : Nat} (h : bytesIs X t n = true) : ∃ i, X.P.info? t = some i ∧ i.bytes = n := by
  unfold bytesIs at h
  split at h
  · rename_i i hi; exact ⟨i, hi, by simpa using h⟩
  · cases h

theorem sizeIs_spec {t n : Nat} (h : sizeIs X t n = true) : ∃ i, X.P.info? t = some i ∧ i.size = n := by
  unfold sizeIs at h
  split at h
  · rename_i i hi; exact ⟨i, hi, by simpa using h⟩
  · cases h

theorem new_cells {h : Heap} {w : World} (hr : HR D X N h w) {n : Nat} (hn : N.ρ n = none) {ty : Nat} {loc : Bool} {cs : List AV} {us : Array Value} (hv : VRs X N cs us.toList) :
    HR D X (N.add n ⟨w.heap.size, 0, none⟩ 0) ((n, .cells ty loc cs) :: h) { w with heap := w.heap.push (.cells us (X.τ ty) (0, 0)) } ∧
      Gd N h w (N.add n ⟨w.heap.size, 0, none⟩ 0) ((n, .cells ty loc cs) :: h) { w with heap := w.heap.push (.cells us (X.τ ty) (0, 0)) } :=
  hr.new hn ⟨w.heap.size, us, (0, 0), by simp [Nu.add], by simp, hv.mono (Nu.le_add hn) _, unfz_zero _⟩

theorem new_map {h : Heap} {w : World} (hr : HR D X N h w) {n : Nat} (hn : N.ρ n = none) :
    HR D X (N.add n ⟨w.heap.size, 0, none⟩ 0) ((n, .map []) :: h) { w with heap := w.heap.push (.map #[] 0) } ∧
      Gd N h w (N.add n ⟨w.heap.size, 0, none⟩ 0) ((n, .map []) :: h) { w with heap := w.heap.push (.map #[] 0) } := by
  refine hr.new hn ?_
  refine ⟨w.heap.size, #[], 0, by simp [Nu.add], by simp, ?_⟩
  simp only [EntsR]

theorem NO_sound {o : Oper} {m : NO} {v : AV} {ob : AObj} {ev : AO → AV} {r : Operand → Value} {h : Heap} {w : World} {n : Nat} (hc : chkN X o.op m = true) (he : Evs X N ev r) (hk : ∀ v, r (.const v) = v) (hr : HR D X N h w)
    (hn : N.ρ n = none) (hv : NO.run ev n m = some (v, ob)) :
    ∃ N' u w', (execOp r o).run X.P w = .ok (.value u) w' ∧ VR X N' v u ∧ HR D X N' ((n, ob) :: h) w' ∧ Gd N h w N' ((n, ob) :: h) w' ∧ ∀ m, m ≠ n → N'.ρ m = N.ρ m := by
  have hadd : ∀ a k m, m ≠ n → (N.add n a k).ρ m = N.ρ m := fun a k m hm => by simp [Nu.add, hm]
  have hnew : ∀ a k, (N.add n a k).ρ n = some a := fun a k => by simp [Nu.add]
  unfold chkN at hc
  split at hc <;> (first | (cases hc; done) | skip) <;> rename_i hop <;> (try simp only [bool_and, beq_iff_eq] at hc)
  · -- alloc
    rename_i t ty l zs
    obtain ⟨rfl, hz⟩ := hc
    obtain ⟨i, z, hi, hz, hzs⟩ := zeroIs_spec hz
    cases hv
    obtain ⟨h1, h2⟩ := new_cells hr hn (ty := ty) (loc := l) (hzs N)
    exact ⟨_, .pointer (some ⟨w.heap.size, 0, none⟩), _, by simp [execOp, hop, Instr.alloc, zeroValue, typeInfo, hi, hz, newVar, newRow], ⟨_, hnew _ _, by simp⟩, h1, h2, hadd _ _⟩
  · -- box
    rename_i t x ty l a
    obtain ⟨rfl, hx⟩ := hc
    simp only [NO.run] at hv
    split at hv
    · rename_i hnb
      cases hv
      obtain ⟨h1, h2⟩ := new_cells hr hn (ty := ty) (loc := l) ((he _ _ hx).cells' hnb)
      exact ⟨_, .pointer (some ⟨w.heap.size, 0, none⟩), _, by simp [execOp, hop, Instr.box, newVar, newRow], ⟨_, hnew _ _, by simp⟩, h1, h2, hadd _ _⟩
    · cases hv
  · -- buildSlice
    rename_i t len ps ty len' zs qs
    obtain ⟨ht, rfl, hc⟩ := hc
    have hd := elemIs_spec ht
    split at hc
    · rename_i k hk
      simp only [bool_and, decide_eq_true_eq] at hc
      obtain ⟨hlim, hz, hp⟩ := hc
      split at hz
      · rename_i us hus
        have hv0 := chkVs_VRs (N := N) _ _ hz
        simp only [NO.run] at hv
        split at hv
        · rename_i cs hcs
          cases hv
          unfold zerosOf at hus
          cases hi : X.P.info? (X.τ ty) with
          | none => rw [hi] at hus; cases hus
          | some i =>
            rw [hi] at hus
            simp only at hus
            cases hiz : i.zero with
            | none => rw [hiz] at hus; cases hus
            | some z =>
              rw [hiz] at hus
              cases hus
              have hsz : k = i.size := by
                unfold cells? at hk; rw [hi] at hk; cases hk; rfl
              obtain ⟨us', hf, hv1⟩ := fill_sound he (us := (Array.range (len * k)).map (z.cells[· % z.cells.size]!)) hv0 hp hcs
              obtain ⟨h1, h2⟩ := new_cells hr hn (ty := ty) (loc := false) hv1
              refine ⟨_, .slice (some ⟨w.heap.size, 0, none⟩) len len, _, ?_, ⟨_, _, hnew _ _, by simp, Nat.le_refl _, rfl⟩, h1, h2, hadd _ _⟩
              have hs : (sizeOf (X.τ ty)).run X.P w = .ok k w := by simp [sizeOf, typeInfo, hi, hsz]
              simp only [execOp, hop, Instr.buildSlice, Sem.run_bind, run_underlying hd, Result.andThen_ok, hs, if_neg (show ¬ (len * k > 2 ^ 24) by omega), Sem.run_pure]
              have e : len * k = 0 → (Array.map (fun _ => (default : Value)) (Array.range (len * k))) = Array.map (fun x => z.cells[x % z.cells.size]!) (Array.range (len * k)) := by
                intro h0; simp [h0]
              simp only [newRow]
              simp
              split
              · rename_i h0
                simp only [e (by simpa using h0), hf]
                simp
              · simp [zeroValue, typeInfo, hi, hiz, hf]
        · cases hv
      · cases hz
    · cases hc
  · -- makeSlice
    rename_i t l c ty es bytes zs l' c'
    obtain ⟨ht, hes, hby, hz, hzl, hl, hcc⟩ := hc
    have hd := elemIs_spec ht
    obtain ⟨i, hi, hbytes⟩ := bytesIs_spec hby
    obtain ⟨i1, hi1, hsize⟩ := sizeIs_spec hes
    rw [hi] at hi1; cases hi1
    obtain ⟨i2, z, hi2, hiz, hzs⟩ := zeroIs_spec hz
    rw [hi] at hi2; cases hi2
    simp only [NO.run] at hv
    split at hv
    · rename_i k1 p k2 q hp hq
      split at hv
      · rename_i hcond
        obtain ⟨hl0, hlc, hcb, hc47, hzes⟩ := hcond
        cases hv
        have h1 := he _ _ hl
        have h2 := he _ _ hcc
        rw [hp] at h1; rw [hq] at h2
        simp only [VR] at h1 h2
        have hq0 : 0 ≤ q := by omega
        obtain ⟨qn, rfl⟩ := Int.eq_ofNat_of_zero_le hq0
        obtain ⟨pn, rfl⟩ := Int.eq_ofNat_of_zero_le hl0
        have hw1 := wrap64_id (n := (pn : Int)) (by omega) (by omega)
        have hw2 := wrap64_id (n := (qn : Int)) (by omega) (by omega)
        have hzlen := (hzs N).length
        rw [hzes] at hzlen
        simp only [Array.length_toList] at hzlen
        have hcells : VRs X N (reps zs qn) ((Array.range (qn * es)).map (z.cells[· % z.cells.size]!)).toList := by
          have := (hzs N).reps qn
          rw [← reps_map] at this
          simp only [Array.length_toList] at this
          simp only [Array.toList_map, Array.toList_range]
          rw [hzlen]
          have hm : (List.range (qn * z.cells.size)).map (fun i => z.cells.toList[i % z.cells.size]!) = (List.range (qn * z.cells.size)).map (fun x => z.cells[x % z.cells.size]!) :=
            List.map_congr_left (fun i _ => by
              rw [List.getElem!_eq_getElem?_getD, Array.getElem?_toList, getElem!_def]
              cases z.cells[i % z.cells.size]? <;> rfl)
          rw [← hm]
          exact this
        obtain ⟨g1, g2⟩ := new_cells hr hn (ty := ty) (loc := false) hcells
        refine ⟨_, .slice (some ⟨w.heap.size, 0, none⟩) pn qn, _, ?_, ⟨⟨w.heap.size, 0, none⟩, qn, hnew _ _, by simp, by omega, by simp⟩, g1, g2, hadd _ _⟩
        have htl : ∀ n : Int, 0 ≤ n → n ≤ qn → (decide (n < 0) || decide ((i.bytes : Int) * n > 2 ^ 48)) = false := by
          intro n hn0 hnq
          simp only [Bool.or_eq_false_iff, decide_eq_false_iff_not, Int.not_lt, gt_iff_lt]
          refine ⟨by omega, ?_⟩
          rw [hbytes]
          have : (bytes : Int) * n ≤ (bytes : Int) * qn := Int.mul_le_mul_of_nonneg_left hnq (by omega)
          rw [Int.mul_comm] at hcb
          have h48 : (2 : Int) ^ 48 = 281474976710656 := by decide
          omega
        have e : qn * es = 0 → (Array.map (fun _ => (default : Value)) (Array.range (qn * es))) = Array.map (fun x => z.cells[x % z.cells.size]!) (Array.range (qn * es)) := by
          intro h0; simp [h0]
        have hs : (sizeOf (X.τ ty)).run X.P w = .ok es w := by simp [sizeOf, typeInfo, hi, hsize]
        have hti : (typeInfo (X.τ ty)).run X.P w = .ok i w := by simp [typeInfo, hi]
        have hnl : (decide ((qn : Int) < 0) || decide ((i.bytes : Int) * qn > 2 ^ 48) || decide ((pn : Int) < 0) || decide ((pn : Int) > qn)) = false := by
          rw [htl qn (by omega) (by omega)]
          simp only [Bool.false_or, Bool.or_eq_false_iff, decide_eq_false_iff_not, Int.not_lt, gt_iff_lt]
          exact ⟨by omega, by omega⟩
        simp only [execOp, hop, Instr.makeSlice, h1, h2, Sem.run_bind, run_underlying hd, Result.andThen_ok, asInt, asIntOf, Sem.run_pure, hti, hw1, hw2, hnl, Bool.false_eq_true, if_false, run_askRoom, Int.toNat_natCast, hs, newRow]
        simp
        split
        · rename_i h0
          simp only [e (by simpa using h0)]
        · simp [zeroValue, typeInfo, hi, hiz]
      · cases hv
    · cases hv
  · -- makeMap
    cases hv
    obtain ⟨g1, g2⟩ := new_map hr hn
    exact ⟨_, .map (some w.heap.size), _, by simp [execOp, hop, Instr.makeMap], ⟨_, hnew ⟨w.heap.size, 0, none⟩ 0, rfl⟩, g1, g2, hadd _ _⟩
  · -- makeMap with a hint
    cases hv
    obtain ⟨g1, g2⟩ := new_map hr hn
    split at hc
    · rename_i hd
      exact ⟨_, .map (some w.heap.size), _, by simp [execOp, hop, Instr.makeMap, run_underlying hd, hk, asInt, asIntOf], ⟨_, hnew ⟨w.heap.size, 0, none⟩ 0, rfl⟩, g1, g2, hadd _ _⟩
    · cases hc
  · -- a string's bytes
    rename_i s d x ty a
    obtain ⟨hs, hd, hel, hx⟩ := hc
    have h1 := he _ _ hx
    have hs := string_part hs
    obtain ⟨e, he1, he2⟩ := byteSlice_parts hd
    have hel := elemIs_spec hel
    rw [he1] at hel
    cases hel
    simp only [NO.run] at hv
    split at hv
    · rename_i l hl
      cases hv
      rw [hl] at h1
      simp only [VR] at h1
      have hsz : (⟨l.toArray⟩ : ByteArray).size = l.length := by simp [ByteArray.size]
      let q : Question := .appendCap l.length 0 (X.τ ty)
      let cp := q.cut (w.tape w.drawn q)
      have hcp : l.length ≤ cp := by
        show l.length ≤ l.length + _
        omega
      let us : Array Value := (l.map fun b => Value.int .u8 b.toNat).toArray ++ Array.replicate (cp - l.length) (.int .u8 0)
      have hus : us.size = cp := by simp [us]; omega
      let w0 : World := { w with drawn := w.drawn + 1 }
      have hr0 : HR D X N h w0 := hr.drawn _
      have hcells : ∀ l : List UInt8, VRs X (N.add n ⟨w.heap.size, 0, none⟩ cp) (l.map fun b => .int .u8 b.toNat) (l.map fun b => Value.int .u8 b.toNat) := by
        intro l
        induction l with
        | nil => exact rfl
        | cons b l ih => exact ⟨_, _, rfl, rfl, ih⟩
      have hnewo : ObjR D X (N.add n ⟨w0.heap.size, 0, none⟩ cp) { w0 with heap := w0.heap.push (.cells us (X.τ ty) (us.size, us.size + 1)) } n (.buf ty 1 (l.map fun b => .int .u8 b.toNat)) := by
        refine ⟨w0.heap.size, us, (us.size, us.size + 1), by simp [Nu.add], by simp, ?_, ?_, ?_, ?_⟩
        · rw [hus]; simp [Nu.add]
        · rw [hus]; simpa using hcp
        · have : us.toList.take (l.map fun b => (AV.int .u8 b.toNat)).length = l.map fun b => Value.int .u8 b.toNat := by
            simp [us]
          rw [this]
          exact hcells l
        · intro i hi hh; omega
      obtain ⟨g1, g2⟩ := hr0.new hn hnewo
      refine ⟨_, .slice (some ⟨w.heap.size, 0, none⟩) l.length cp, _, ?_, ⟨⟨w.heap.size, 0, none⟩, cp, hnew _ _, by simp, hcp, rfl, by simp [Nu.add]⟩, g1, (Gd.drawn N h w _).trans g2, hadd _ _⟩
      have hconv : (convert s d (.string ⟨l.toArray⟩)).run X.P w = .ok (.slice (some ⟨w.heap.size, 0, none⟩) l.length cp) { w0 with heap := w0.heap.push (.cells us (X.τ ty) (us.size, us.size + 1)) } := by
        simp only [convert, Sem.run_bind, run_underlying hs, run_underlying he1, Result.andThen_ok, run_underlying he2, Conv.stringToBytes, hsz, run_choose]
        have hf : (Question.appendCap l.length 0 (X.τ ty)).forced = false := rfl
        have hmap : Array.map (fun b : UInt8 => Value.int .u8 b.toNat) l.toArray = (l.map fun b => Value.int .u8 b.toNat).toArray := by simp
        simp only [hf, Bool.false_eq_true, if_false, Result.andThen_ok, newRow, Sem.run_bind, run_newObj, Sem.run_pure, markStringish, run_shape, hmap]
        have hsh : ({ w0 with heap := w0.heap.push (.cells us (X.τ ty)) } : World).shape? w.heap.size = some (X.τ ty, us.size) := by
          simp [World.shape?, w0]
        rw [show ({ heap := w.heap.push (.cells ((l.map fun b => Value.int .u8 b.toNat).toArray ++ Array.replicate (cp - l.length) (.int .u8 0)) (X.τ ty)), tape := w.tape, drawn := w.drawn + 1, os := w.os, output := w.output } : World).shape? w.heap.size = some (X.τ ty, us.size) from hsh]
        simp only [run_freeze, Result.andThen_ok]
        congr 1
        simp only [World.freeze]
        rw [if_neg (by omega)]
        congr 1
        apply Array.ext_getElem?
        intro k
        rw [Array.getElem?_modify, Array.getElem?_push, Array.getElem?_push]
        by_cases e : w.heap.size = k
        · subst e
          simp [w0, us]
          rfl
        · have e' : ¬ k = w.heap.size := fun h => e h.symm
          rw [if_neg e, if_neg e', if_neg (by simpa [w0] using e')]
      simp [execOp, hop, h1, hconv]
    · cases hv

end Go.Ev

/- Stores, appends, copies, writes into maps do what the model's do. -/
namespace Go.Ev
open Go

variable {X : Cx} {N N' N'' : Nu} {D : ChkD}

/-- The cells that a copy or an append takes. -/
theorem srcCells_sound {h : Heap} {w : World} (hr : HR D X N h w) {es k : Nat} {x : AV} {u : Value} {vs : List AV} (hx : VR X N x u) (hs : srcCells h es x = some (k, vs)) :
    ∃ us, (Builtin.lenOf u).run X.P w = .ok k w ∧ VRs X N vs us ∧ us.length = k * es ∧ ∀ m, m ≤ k → ∀ w' : World, w'.heap = w.heap → (Builtin.firstCells es m u).run X.P w' = .ok (us.take (m * es)).toArray w' := by
  unfold srcCells at hs
  split at hs
  · cases hs
    simp only [VR] at hx; subst hx
    exact ⟨[], by simp [Builtin.lenOf], rfl, by simp, fun m hm w' hw' => by simp [Builtin.firstCells]⟩
  · rename_i n o ln c
    simp only [Option.map_eq_some_iff] at hs
    obtain ⟨cs, hcs, hk⟩ := hs
    cases hk
    obtain ⟨ad, cp, hρ, rfl, _⟩ := hx
    obtain ⟨ad', us, h2, h3, h4, h5⟩ := rdCells_sound hr hcs
    rw [hρ] at h2; cases h2
    refine ⟨us, by simp [Builtin.lenOf], h3, h4, fun m hm w' hw' => ?_⟩
    simp only [Builtin.firstCells]
    have hl : (us.take (m * es)).length = m * es := by
      rw [List.length_take, h4]
      exact Nat.min_eq_left (Nat.mul_le_mul_right _ hm)
    have := run_loadCells_at (P := X.P) (a := ad) (off := o) (us := us.take (m * es)) (w := w') (fun j u hj => by
      have := h5 j u (by
        rw [List.getElem?_take] at hj
        split at hj
        · exact hj
        · cases hj)
      simp only [World.cell?, hw'] at this ⊢
      exact this)
    rw [hl] at this
    exact this
  · rename_i s
    split at hs
    case isFalse => cases hs
    rename_i hes1
    cases hs
    simp only [VR] at hx; subst hx
    subst hes1
    have hsz : (⟨s.toArray⟩ : ByteArray).size = s.length := by simp [ByteArray.size]
    refine ⟨s.map fun b => .int .u8 b.toNat, by simp [Builtin.lenOf, hsz], ?_, by simp, fun m hm w' hw' => ?_⟩
    · induction s with
      | nil => exact rfl
      | cons b s ih => exact ⟨_, _, rfl, rfl, ih (by simp [ByteArray.size])⟩
    · simp only [Builtin.firstCells, Sem.run_pure]
      congr 1
      apply Array.ext'
      simp [ByteArray.data_extract, List.map_take]
  · cases hs

theorem WO_store {o : Oper} {t : TypeId} {a x : Operand} {sz : Nat} {a' x' : AO} {ev : AO → AV} {r : Operand → Value} {st st' : St} {w : World} {v : AV} {call : AV → List AV → St → Option (AV × St)}
    (hop : o.op = .store t a x) (hs : sizeIs X t sz = true) (ha : chkA X a' a = true) (hx : chkA X x' x = true) (he : Evs X N ev r) (hr : SR D X N st w)
    (hv : WO.run call ev st (.store sz a' x') = some (v, st')) :
    ∃ w', (execOp r o).run X.P w = .ok .skip w' ∧ v = .bot ∧ SR D X N st' w' ∧ Gd N st.h w N st'.h w' ∧ st'.nx = st.nx := by
  simp only [WO.run] at hv
  split at hv
  · rename_i n off hn
    split at hv
    · rename_i hlen
      simp only [Option.map_eq_some_iff] at hv
      obtain ⟨h', hw, hp⟩ := hv
      cases hp
      have h1 := he _ _ ha
      rw [hn] at h1
      obtain ⟨ad, hρ, h1⟩ := h1
      have hnb : (ev x').nb = true := by
        unfold wrCells at hw
        cases hxv : ev x' <;> first | rfl | skip
        exfalso
        split at hw <;> first | (cases hw; done) | skip
        all_goals
          split at hw
          · rename_i hc
            have := hc.2
            rw [hxv] at this
            simp [acells, AV.sc] at this
          · cases hw
      have hcs := (he _ _ hx).cells' hnb
      obtain ⟨b, w', hb, hrun, g1, g2⟩ := wrCells_sound hr.hr hcs hw
      rw [hρ] at hb; cases hb
      refine ⟨w', ?_, rfl, ⟨g1, hr.fresh⟩, g2, rfl⟩
      have hsz : (r x).cells.size = sz := by
        have := hcs.length
        simp only [Array.length_toList] at this
        omega
      simp only [Nat.zero_add] at h1
      simp [execOp, hop, h1, Instr.storeAt, Instr.sureAddr, storeVar, run_size hs, hsz, hrun]
    · cases hv
  · cases hv

theorem WO_copy {o : Oper} {args : Array Operand} {argTypes : Array TypeId} {es : Nat} {d s : AO} {ev : AO → AV} {r : Operand → Value} {st st' : St} {w : World} {v : AV} {call : AV → List AV → St → Option (AV × St)}
    (hop : o.op = .call { callee := .builtin .copy, args, argTypes })
    (ht : (match argTypes[0]? with | some t => (match X.P.underlying t with | some (.slice e) => sizeIs X e es | _ => false) | none => false) = true)
    (ha : chkAs X [d, s] args.toList = true) (he : Evs X N ev r) (hr : SR D X N st w)
    (hv : WO.run call ev st (.copy es d s) = some (v, st')) :
    ∃ u w', (execOp r o).run X.P w = .ok (.value u) w' ∧ VR X N v u ∧ SR D X N st' w' ∧ Gd N st.h w N st'.h w' ∧ st'.nx = st.nx := by
  obtain ⟨xd, xs, rfl, hd, hs⟩ : ∃ xd xs, args = #[xd, xs] ∧ chkA X d xd = true ∧ chkA X s xs = true := by
    obtain ⟨l⟩ := args
    match l, ha with
    | [x, y], h => simp [chkAs] at h; exact ⟨x, y, rfl, h.1, h.2⟩
    | [], h => simp [chkAs] at h
    | [_], h => simp [chkAs] at h
    | _ :: _ :: _ :: _, h => simp [chkAs] at h
  have hcall : ∀ u w', (Builtin.copy_ argTypes o.type #[r xd, r xs]).run X.P w = .ok u w' → (execOp r o).run X.P w = .ok (.value u) w' := by
    intro u w' hu
    simp [execOp, hop, resolve, invoke, builtin, hu]
  split at ht
  · rename_i t hat
    split at ht
    · rename_i e hde
      simp only [WO.run] at hv
      split at hv
      · cases hv
      · rename_i k new hsrc
        obtain ⟨us, hlen, hnew, husl, hfirst⟩ := srcCells_sound hr.hr (he _ _ hs) hsrc
        have h1 := he _ _ hd
        split at hv
        · rename_i hn
          cases hv
          rw [hn] at h1; simp only [VR] at h1
          have hf := hfirst 0 (Nat.zero_le _) w rfl
          refine ⟨.int .i64 0, w, hcall _ _ ?_, by simp [VR], hr, .refl _ _ _, rfl⟩
          simp [Builtin.copy_, hat, h1, run_underlying hde, run_size ht, hlen, hf, goInt]
        · rename_i n off ln c hn
          simp only [Option.map_eq_some_iff] at hv
          obtain ⟨h', hw, hp⟩ := hv
          cases hp
          rw [hn] at h1
          obtain ⟨ad, cp, hρ, h1, _⟩ := h1
          have hf := hfirst (min k ln) (Nat.min_le_left _ _) w rfl
          obtain ⟨b, w', hb, hrun, g1, g2⟩ := wrCells_sound hr.hr (hnew.take (min k ln * es)) hw
          rw [hρ] at hb; cases hb
          simp only [Nat.zero_add] at h1
          refine ⟨.int .i64 (min k ln : Nat), w', hcall _ _ ?_, by simp [VR], ⟨g1, hr.fresh⟩, g2, rfl⟩
          simp [Builtin.copy_, hat, h1, run_underlying hde, run_size ht, hlen, hf, goInt, hrun]
        · cases hv
    · cases ht
  · cases ht

theorem growBy_le (n : Nat) (hn : 256 ≤ n) : ∀ (r c : Nat), c ≤ 2 * n → Builtin.growBy n r c ≤ 2 * n
  | 0, c, h => h
  | r + 1, c, h => by
    simp only [Builtin.growBy]
    split
    · exact h
    · exact growBy_le n hn r _ (by omega)

theorem nextslicecap_le {n c : Nat} (h : c < n) : Builtin.nextslicecap n c ≤ 2 * n := by
  unfold Builtin.nextslicecap
  split
  · omega
  · split
    · omega
    · exact growBy_le n (by omega) 4 c (by omega)

/-- An append that takes a new block. -/
theorem run_append_new {sT : TypeId} {argTypes : Array TypeId} {ty e es bytes k : Nat} {i : TypeInfo} {z : Value} {base : Option Addr} {len c : Nat} {x : Value} {old new : Array Value} {w : World}
    (h0 : argTypes[0]? = some sT) (hd : X.P.underlying sT = some (.slice e)) (hn : notInt X argTypes[1]? = true) (hi : X.P.info? e = some i) (hsz : i.size = es) (hby : i.bytes = bytes) (hz : i.zero = some z)
    (hlen : (Builtin.lenOf x).run X.P w = .ok k w) (hold : ∀ w', w'.heap = w.heap → (Builtin.firstCells es len (.slice base len c)).run X.P w' = .ok old w')
    (hnew : ∀ w', w'.heap = w.heap → (Builtin.firstCells es k x).run X.P w' = .ok new w')
    (hgt : c < len + k) (hb1 : (len + k) * bytes ≤ 35184372088832) (hb2 : len + k ≤ 35184372088832) :
    ∃ cp, len + k ≤ cp ∧ (Builtin.append_ argTypes ty #[.slice base len c, x]).run X.P w = .ok (.slice (some ⟨w.heap.size, 0, none⟩) (len + k) cp)
      { w with drawn := w.drawn + 1, heap := w.heap.push (.cells (old ++ new ++ Builtin.zeroCells z.cells (cp - (len + k))) e) } := by
  let q : Question := .appendCap (len + k) c e
  refine ⟨q.cut (w.tape w.drawn q), by show len + k ≤ len + k + _; omega, ?_⟩
  have hs : (sizeOf e).run X.P w = .ok es w := by simp [sizeOf, typeInfo, hi, hsz]
  obtain ⟨xT, hx, hxd⟩ : ∃ xT, argTypes[1]? = some xT ∧ ∃ d, X.P.underlying xT = some d ∧ ∀ k, d ≠ .int k := by
    unfold notInt at hn
    split at hn
    · rename_i t ht
      split at hn
      · cases hn
      · cases hn
      · rename_i h1 h2
        cases hd' : X.P.underlying t with
        | none => exact (h2 hd').elim
        | some d => exact ⟨t, ht, d, hd', fun k e => h1 k (by rw [hd', e])⟩
    · cases hn
  obtain ⟨dx, hdx, hni⟩ := hxd
  have hm : (match dx with | .int _ => true | _ => false) = false := by cases dx <;> first | rfl | exact absurd rfl (hni _)
  have hcap : ¬ (Builtin.nextslicecap (len + k) c * i.bytes > 2 ^ 48) := by
    have h1 := nextslicecap_le hgt
    have h2 : Builtin.nextslicecap (len + k) c * i.bytes ≤ 2 * (len + k) * bytes := by rw [hby]; exact Nat.mul_le_mul_right _ h1
    rw [Nat.mul_assoc] at h2
    omega
  have hmax : ¬ (((len + k : Nat) : Int) > IntKind.i64.max) := by
    simp [IntKind.max, IntKind.signed, IntKind.bits]; omega
  have hti : (typeInfo e).run X.P w = .ok i w := by simp [typeInfo, hi]
  have hw' : ∀ (w' : World), (zeroValue e).run X.P w' = .ok z w' := fun w' => by simp [zeroValue, typeInfo, hi, hz]
  have hti' : ∀ (w' : World), (typeInfo e).run X.P w' = .ok i w' := fun w' => by simp [typeInfo, hi]
  have hqf : q.forced = false := rfl
  simp only [Builtin.append_, h0, hx, List.getElem?_toArray, List.getElem?_cons_zero, List.getElem?_cons_succ, Sem.run_bind, run_underlying hd, Result.andThen_ok, hs, run_underlying hdx, Sem.run_pure]
  have hng : ¬ (len + k ≤ c) := by omega
  have hf : (Question.appendCap (len + k) c e).forced = false := rfl
  have ho := hold { w with drawn := w.drawn + 1 } rfl
  have hn2 := hnew { w with drawn := w.drawn + 1 } rfl
  simp only [Bool.false_eq_true, if_false, if_true, Bool.not_false, Sem.run_bind, hlen, Result.andThen_ok, hng, hmax, false_and, hti, hcap, run_choose, hf, hti', run_askRoom, ho, hn2, hw', newRow, run_newObj, Sem.run_pure]
  rfl

theorem run_append_room {sT : TypeId} {argTypes : Array TypeId} {ty e es k : Nat} {i : TypeInfo} {base : Option Addr} {len c : Nat} {x : Value} {new : Array Value} {w w' : World}
    (h0 : argTypes[0]? = some sT) (hd : X.P.underlying sT = some (.slice e)) (hn : notInt X argTypes[1]? = true) (hi : X.P.info? e = some i) (hsz : i.size = es)
    (hlen : (Builtin.lenOf x).run X.P w = .ok k w) (hnew : (Builtin.firstCells es k x).run X.P w = .ok new w) (hle : len + k ≤ c)
    (hst : (match base with | some a => storeCells (a.add (len * es)) new.toList | none => pure () : Sem Unit).run X.P w = .ok () w') :
    (Builtin.append_ argTypes ty #[.slice base len c, x]).run X.P w = .ok (.slice base (len + k) c) w' := by
  have hs : (sizeOf e).run X.P w = .ok es w := by simp [sizeOf, typeInfo, hi, hsz]
  obtain ⟨xT, hx, hxd⟩ : ∃ xT, argTypes[1]? = some xT ∧ ∃ d, X.P.underlying xT = some d ∧ ∀ k, d ≠ .int k := by
    unfold notInt at hn
    split at hn
    · rename_i t ht
      split at hn
      · cases hn
      · cases hn
      · rename_i h1 h2
        cases hd' : X.P.underlying t with
        | none => exact (h2 hd').elim
        | some d => exact ⟨t, ht, d, hd', fun k e => h1 k (by rw [hd', e])⟩
    · cases hn
  obtain ⟨dx, hdx, hni⟩ := hxd
  simp only [Builtin.append_, h0, hx, List.getElem?_toArray, List.getElem?_cons_zero, List.getElem?_cons_succ, Sem.run_bind, run_underlying hd, Result.andThen_ok, hs, run_underlying hdx, Sem.run_pure,
    Bool.false_eq_true, if_false, if_true, Bool.not_false, hlen, hle, hnew]
  cases base with
  | none => simp only [Sem.run_pure] at hst ⊢; cases hst; rfl
  | some a => simp only at hst ⊢; rw [Sem.run_bind, hst]; rfl

/-- A grown block. -/
theorem grow_HR {st : St} {w : World} (hr : SR D X N st w) {ty es cp : Nat} {cs : List AV} {us : Array Value} (hsz : us.size = cp * es) (hle : cs.length ≤ us.size) (hcs : VRs X N cs (us.toList.take cs.length)) :
    SR D X (N.add st.nx ⟨w.heap.size, 0, none⟩ cp) ⟨(st.nx, .buf ty es cs) :: st.h, st.nx + 1⟩ { w with drawn := w.drawn + 1, heap := w.heap.push (.cells us (X.τ ty)) } ∧
      Gd N st.h w (N.add st.nx ⟨w.heap.size, 0, none⟩ cp) ((st.nx, .buf ty es cs) :: st.h) { w with drawn := w.drawn + 1, heap := w.heap.push (.cells us (X.τ ty)) } := by
  have hn := hr.fresh st.nx (Nat.le_refl _)
  have hr0 := hr.hr.drawn (w.drawn + 1)
  obtain ⟨g1, g2⟩ := hr0.new (n := st.nx) (k := cp) (obj := .cells us (X.τ ty)) (o := .buf ty es cs) hn
    ⟨w.heap.size, us, (0, 0), by simp [Nu.add], by simp, by simp [Nu.add, hsz], hle, hcs.mono (Nu.le_add hn) _, unfz_zero _⟩
  refine ⟨⟨g1, fun n hn' => ?_⟩, (Gd.drawn N st.h w _).trans g2⟩
  have : n ≠ st.nx := by simp only at hn'; omega
  simp only [Nu.add, if_neg this]
  exact hr.fresh n (by simp only at hn'; omega)

theorem Gd.sub {h h' h'' : Heap} {w w' : World} (g : Gd N h w N' h' w') (hs : ∀ n o, hget h'' n = some o → hget h' n = some o) : Gd N h w N' h'' w' :=
  ⟨g.le, g.size, g.tape, g.os, g.output, g.frame, fun n o a h1 h2 => g.has n o a (hs _ _ h1) h2⟩

theorem take_spliceV : ∀ (vs us : List Value) (o : Nat), o + vs.length ≤ us.length → (spliceV us o vs).take (o + vs.length) = us.take o ++ vs
  | [], us, o, _ => by simp [spliceV]
  | v :: vs, us, o, h => by
    simp only [List.length_cons] at h
    simp only [spliceV, List.length_cons]
    have := take_spliceV vs (us.set o v) (o + 1) (by simp; omega)
    rw [show o + (vs.length + 1) = o + 1 + vs.length by omega, this]
    rw [List.take_set, List.take_succ_eq_append_getElem (by omega)]
    rw [List.set_append_right _ _ (by simp; omega)]
    simp [Nat.min_eq_left (show o ≤ us.length by omega)]

theorem WO_append {o : Oper} {args : Array Operand} {argTypes : Array TypeId} {ty es bytes : Nat} {zs : List AV} {s x : AO} {ev : AO → AV} {r : Operand → Value} {st st' : St} {w : World} {v : AV}
    (hop : o.op = .call { callee := .builtin .append, args, argTypes })
    (ht : (match argTypes[0]? with | some t => elemIs X t (X.τ ty) | none => false) = true) (hn : notInt X argTypes[1]? = true) (hs : sizeIs X (X.τ ty) es = true) (hb : bytesIs X (X.τ ty) bytes = true)
    (hz : zeroIs X (X.τ ty) zs = true) (hzl : zs.length = es) (ha : chkAs X [s, x] args.toList = true) (he : Evs X N ev r) (hr : SR D X N st w)
    (hv : aappend ty es bytes st (ev s) (ev x) = some (v, st')) :
    ∃ N' u w', (execOp r o).run X.P w = .ok (.value u) w' ∧ VR X N' v u ∧ SR D X N' st' w' ∧ Gd N st.h w N' st'.h w' ∧ st.nx ≤ st'.nx ∧ ∀ n, n < st.nx → N'.ρ n = N.ρ n := by
  obtain ⟨xs, xx, rfl, hcs, hcx⟩ : ∃ xd xs, args = #[xd, xs] ∧ chkA X s xd = true ∧ chkA X x xs = true := by
    obtain ⟨l⟩ := args
    match l, ha with
    | [x, y], h => simp [chkAs] at h; exact ⟨x, y, rfl, h.1, h.2⟩
    | [], h => simp [chkAs] at h
    | [_], h => simp [chkAs] at h
    | _ :: _ :: _ :: _, h => simp [chkAs] at h
  have hcall : ∀ u w', (Builtin.append_ argTypes o.type #[r xs, r xx]).run X.P w = .ok u w' → (execOp r o).run X.P w = .ok (.value u) w' := by
    intro u w' hu
    simp [execOp, hop, resolve, invoke, builtin, hu]
  split at ht
  case h_2 => cases ht
  rename_i sT h0
  have hd := elemIs_spec ht
  obtain ⟨i, hi, hsz⟩ := sizeIs_spec hs
  obtain ⟨i1, hi1, hby⟩ := bytesIs_spec hb
  rw [hi] at hi1; cases hi1
  obtain ⟨i2, z, hi2, hiz, hzs⟩ := zeroIs_spec hz
  rw [hi] at hi2; cases hi2
  have hzc : z.cells.size = es := by
    have := (hzs N).length
    simp only [Array.length_toList] at this
    omega
  have hzn : ∀ m, (Builtin.zeroCells z.cells m).size = m * es := fun m => by simp [Builtin.zeroCells, hzc]
  unfold aappend at hv
  split at hv
  · cases hv
  · rename_i k new hsrc
    obtain ⟨us, hlen, hnew, husl, hfirst⟩ := srcCells_sound hr.hr (he _ _ hcx) hsrc
    have hfull : ∀ w' : World, w'.heap = w.heap → (Builtin.firstCells es k (r xx)).run X.P w' = .ok us.toArray w' := by
      intro w' hw'
      have := hfirst k (Nat.le_refl _) w' hw'
      rwa [List.take_of_length_le (by omega)] at this
    have hnl := hnew.length
    have h1 := he _ _ hcs
    -- a new block
    have grow : ∀ (base : Option Addr) (len c : Nat) (old : List AV) (os : List Value), r xs = .slice base len c → VRs X N old os → os.length = len * es →
        (∀ w' : World, w'.heap = w.heap → (Builtin.firstCells es len (.slice base len c)).run X.P w' = .ok os.toArray w') → c < len + k → (len + k) * bytes ≤ 35184372088832 → len + k ≤ 35184372088832 →
        ∃ N' u w', (execOp r o).run X.P w = .ok (.value u) w' ∧ VR X N' (.slice st.nx 0 (len + k) .full) u ∧ SR D X N' ⟨(st.nx, .buf ty es (old ++ new)) :: st.h, st.nx + 1⟩ w' ∧
          Gd N st.h w N' ((st.nx, .buf ty es (old ++ new)) :: st.h) w' ∧ ∀ n, n < st.nx → N'.ρ n = N.ρ n := by
      intro base len c old os hrx hold hosl hof hlt hb1 hb2
      obtain ⟨cp, hcp, hrun⟩ := run_append_new (ty := o.type) h0 hd hn hi hsz hby hiz hlen hof hfull hlt hb1 hb2
      have htot : (os.toArray ++ us.toArray ++ Builtin.zeroCells z.cells (cp - (len + k))).size = cp * es := by
        simp only [Array.size_append, hzn, List.size_toArray, hosl, husl]
        rw [← Nat.add_mul, ← Nat.add_mul]
        congr 1
        omega
      have hol := hold.length
      have hlen2 : (old ++ new).length = (len + k) * es := by simp [hol, hnl, hosl, husl, Nat.add_mul]
      obtain ⟨g1, g2⟩ := grow_HR hr (ty := ty) (es := es) (cp := cp) (cs := old ++ new) htot
        (by rw [htot, hlen2]; exact Nat.mul_le_mul_right _ hcp)
        (by
          have : (os.toArray ++ us.toArray ++ Builtin.zeroCells z.cells (cp - (len + k))).toList.take (old ++ new).length = os ++ us := by
            simp only [Array.toList_append]
            rw [List.take_append_of_le_length (by simp [hol, hnl])]
            rw [List.take_of_length_le (by simp [hol, hnl])]
          rw [this]
          exact hold.append hnew)
      refine ⟨_, _, _, hcall _ _ (by rw [hrx]; exact hrun), ⟨⟨w.heap.size, 0, none⟩, cp, by simp [Nu.add], by simp, hcp, rfl, by simp [Nu.add]⟩, g1, g2, fun n hn => ?_⟩
      simp [Nu.add, Nat.ne_of_lt hn]
    split at hv
    · -- to nil
      rename_i hsn
      rw [hsn] at h1; simp only [VR] at h1
      split at hv
      · rename_i hk
        cases hv
        subst hk
        have := run_append_room (ty := o.type) (base := none) (len := 0) (c := 0) h0 hd hn hi hsz hlen (hfull w rfl) (Nat.le_refl _) (w' := w) rfl
        exact ⟨N, .slice none 0 0, w, hcall _ _ (by rw [h1]; exact this), by simp [VR], hr, .refl _ _ _, Nat.le_refl _, fun _ _ => rfl⟩
      · split at hv
        · rename_i hk hb
          cases hv
          obtain ⟨N', u, w', a1, a2, a3, a4, a5⟩ := grow none 0 0 [] [] h1 rfl (by simp) (fun w' _ => by simp [Builtin.firstCells]) (by omega) (by simpa using hb.1) (by simpa using hb.2)
          simp only [Nat.zero_add, List.nil_append] at a2 a3 a4
          exact ⟨N', u, w', a1, a2, a3, a4, by simp, a5⟩
        · cases hv
    · rename_i n off len cap hsn
      rw [hsn] at h1
      obtain ⟨ad, c, hρ, h1, hle, hcap⟩ := h1
      split at hv
      · rename_i hbd
        split at hv
        · -- a capacity that is known
          rename_i cc
          simp only at hcap
          subst hcap
          split at hv
          · rename_i hroom
            simp only [Option.map_eq_some_iff] at hv
            obtain ⟨h', hw, hp⟩ := hv
            cases hp
            obtain ⟨b, w', hb, hrun, g1, g2⟩ := wrCells_sound hr.hr hnew hw
            rw [hρ] at hb; cases hb
            have := run_append_room (ty := o.type) (base := some ⟨b, 0 + off, none⟩) (len := len) (c := c) h0 hd hn hi hsz hlen (hfull w rfl) hroom (w' := w') (by
              simp only [add_plain]
              rw [Nat.zero_add]
              exact hrun)
            exact ⟨N, _, w', hcall _ _ (by rw [h1]; exact this), ⟨_, _, hρ, rfl, hroom, rfl⟩, ⟨g1, hr.fresh⟩, g2, Nat.le_refl _, fun _ _ => rfl⟩
          · rename_i hroom
            split at hv
            · rename_i old hold
              cases hv
              obtain ⟨ad', os, h2, h3, h4, h5⟩ := rdCells_sound hr.hr hold
              rw [hρ] at h2; cases h2
              obtain ⟨N', u, w', a1, a2, a3, a4, a5⟩ := grow _ len c old os h1 h3 h4 (fun w' hw' => by
                have := run_loadCells_at (P := X.P) (a := ad) (off := off) (us := os) (w := w') (fun j u hj => by
                  have := h5 j u hj
                  simp only [World.cell?, hw'] at this ⊢
                  exact this)
                rw [h4] at this
                simpa [Builtin.firstCells] using this) (by omega) hbd.1 hbd.2
              exact ⟨N', u, w', a1, a2, a3, a4, by simp, a5⟩
            · cases hv
        · -- a block that grows
          simp only at hcap
          obtain ⟨ho0, hcκ⟩ := hcap
          split at hv
          · rename_i ty' es' cs hg
            split at hv
            · rename_i hcond
              obtain ⟨_, rfl, rfl, hcl, hsc⟩ := hcond
              subst ho0
              obtain ⟨b, bs, fz, hb1, hb2, hb3, hb4, hb5, hb6⟩ := hr.hr.objs _ _ hg
              rw [hρ] at hb1
              cases hb1
              split at hv
              · rename_i hk
                cases hv
                subst hk
                have := run_append_room (ty := o.type) (base := some ⟨b, 0 + 0, none⟩) (len := len) (c := c) h0 hd hn hi hsz hlen (hfull w rfl) (by omega) (w' := w) (by
                  have : us = [] := List.eq_nil_of_length_eq_zero (by simpa using husl)
                  subst this
                  rfl)
                exact ⟨N, _, w, hcall _ _ (by rw [h1]; exact this), by rw [hsn]; exact ⟨_, _, hρ, rfl, by simpa using hle, rfl, hcκ⟩, hr, .refl _ _ _, Nat.le_refl _, fun _ _ => rfl⟩
              · rename_i hk
                cases hv
                have hdelsub : ∀ m o, hget (hdel st.h n) m = some o → hget st.h m = some o := by
                  intro m o ho
                  rw [hget_hdel] at ho
                  split at ho
                  · cases ho
                  · exact ho
                by_cases hroom : len + k ≤ c
                · have hone : ∀ v ∈ us, v.oneCell' = true := by
                    intro v hvm
                    obtain ⟨i, hi, rfl⟩ := List.getElem_of_mem hvm
                    have hi' : i < new.length := by omega
                    exact ((VRs_iff.1 hnew).2 i new[i] us[i] (List.getElem?_eq_getElem hi') (List.getElem?_eq_getElem hi)).oneCell (List.all_eq_true.1 hsc _ (List.getElem_mem hi'))
                  have hroom2 : len * es' + us.length ≤ bs.size := by
                    rw [husl, ← Nat.add_mul, hb3, ← hcκ]
                    exact Nat.mul_le_mul_right _ hroom
                  have hrun := run_storeCells (P := X.P) (len * es') us bs w 0 hb2 hb6 (by omega) hone
                  have happ := run_append_room (ty := o.type) (base := some ⟨b, 0 + 0, none⟩) (len := len) (c := c) h0 hd hn hi hsz hlen (hfull w rfl) hroom (by
                    simp only [add_plain]
                    rw [show (0 : Nat) + 0 + len * es' = len * es' by omega]
                    exact hrun)
                  have hnx := hr.fresh st.nx (Nat.le_refl _)
                  have hLe : N.Le (N.add st.nx ⟨b, 0, none⟩ c) := Nu.le_add hnx
                  have hold : ∀ m, m ≠ st.nx → (N.add st.nx ⟨b, 0, none⟩ c).ρ m = N.ρ m := fun m hm => by simp [Nu.add, hm]
                  have hnewρ : (N.add st.nx ⟨b, 0, none⟩ c).ρ st.nx = some ⟨b, 0, none⟩ := by simp [Nu.add]
                  have hget' : ∀ m o, hget ((st.nx, AObj.buf ty' es' (cs ++ new)) :: hdel st.h n) m = some o →
                      (m = st.nx ∧ o = .buf ty' es' (cs ++ new)) ∨ (m ≠ st.nx ∧ m ≠ n ∧ hget st.h m = some o) := by
                    intro m o ho
                    simp only [hget] at ho
                    split at ho
                    · rename_i e; cases ho; exact .inl ⟨e.symm, rfl⟩
                    · rename_i e
                      rw [hget_hdel] at ho
                      split at ho
                      · cases ho
                      · rename_i e2; exact .inr ⟨fun h => e h.symm, fun h => e2 h.symm, ho⟩
                  have hlen2 : (cs ++ new).length = len * es' + us.length := by simp [hcl, hnl]
                  refine ⟨N.add st.nx ⟨b, 0, none⟩ c, _, _, hcall _ _ (by rw [h1]; exact happ), ⟨_, _, hnewρ, rfl, hroom, rfl, by simp [Nu.add]⟩, ⟨⟨?_, ?_⟩, ?_⟩, ?_, by simp, fun m hm => hold m (Nat.ne_of_lt hm)⟩
                  · intro m o ho
                    rcases hget' m o ho with ⟨rfl, rfl⟩ | ⟨hm1, hm2, hg2⟩
                    · refine ⟨b, _, fz, hnewρ, get_putC (lt_of_get hb2), ?_, ?_, ?_, ?_⟩
                      · simp [length_spliceV, Nu.add, hb3, ← hcκ]
                      · simp only [List.size_toArray, length_spliceV, Array.length_toList]; omega
                      · rw [hlen2]
                        simp only [Nat.add_zero]
                        rw [take_spliceV _ _ _ (by simpa using hroom2), ← hcl]
                        exact (hb5.append hnew).mono hLe _
                      · simpa [length_spliceV] using hb6
                    · refine (hr.hr.objs m o hg2).keep hLe (by simp [putC]) (fun a ha => get_putC_ne ?_)
                      intro e
                      exact hm2 (hr.hr.sep n m _ _ _ a hg hg2 rfl hρ ha (by simpa using e.symm)).symm
                  · intro m m' p q a c' hp hq hpo ha hc' hac
                    rcases hget' m p hp with ⟨rfl, rfl⟩ | ⟨hm1, hm2, hg2⟩
                    · rcases hget' m' q hq with ⟨rfl, rfl⟩ | ⟨hm1', hm2', hg2'⟩
                      · rfl
                      · exfalso
                        rw [hnewρ] at ha; cases ha
                        rw [hold _ hm1'] at hc'
                        exact hm2' (hr.hr.sep n m' _ _ _ c' hg hg2' rfl hρ hc' hac).symm
                    · rw [hold _ hm1] at ha
                      rcases hget' m' q hq with ⟨rfl, rfl⟩ | ⟨hm1', hm2', hg2'⟩
                      · exfalso
                        rw [hnewρ] at hc'; cases hc'
                        exact hm2 (hr.hr.sep m n _ _ a _ hg2 hg hpo ha hρ hac)
                      · rw [hold _ hm1'] at hc'
                        exact hr.hr.sep m m' _ _ a c' hg2 hg2' hpo ha hc' hac
                  · intro m hm
                    simp only at hm
                    rw [hold m (by omega)]
                    exact hr.fresh m (by omega)
                  · refine ⟨hLe, by simp [putC], rfl, rfl, rfl, fun k hk hno => get_putC_ne ?_, fun m p a hp ha => .inl ?_⟩
                    · rintro rfl
                      exact hno ⟨n, _, _, hg, rfl, hρ, rfl⟩
                    · rcases hget' m p hp with ⟨rfl, rfl⟩ | ⟨hm1, hm2, hg2⟩
                      · rw [hnewρ] at ha; cases ha
                        exact ⟨n, _, _, hg, hρ, rfl, fun _ => rfl⟩
                      · rw [hold _ hm1] at ha
                        exact ⟨m, p, a, hg2, ha, rfl, id⟩
                · obtain ⟨N', u, w', a1, a2, a3, a4, a5⟩ := grow _ len c cs (bs.toList.take cs.length) h1 hb5 (by simp; omega) (fun w' hw' => by
                    have := run_loadCells_at (P := X.P) (a := ⟨b, 0, none⟩) (off := 0) (us := bs.toList.take cs.length) (w := w') (fun j u hj => by
                      rw [List.getElem?_take] at hj
                      split at hj
                      · rw [Array.getElem?_toList] at hj
                        have := cell?_of (i := 0 + (0 + j)) hb2
                        simp only [World.cell?, hw'] at this ⊢
                        rw [this]; simpa using hj
                      · cases hj)
                    rw [List.length_take, Nat.min_eq_left (by simpa using hb4), hcl] at this
                    rw [hcl]
                    simpa [Builtin.firstCells] using this) (by omega) hbd.1 hbd.2
                  have hsub : ∀ m o, hget ((st.nx, .buf ty' es' (cs ++ new)) :: hdel st.h n) m = some o → hget ((st.nx, AObj.buf ty' es' (cs ++ new)) :: st.h) m = some o := by
                    intro m o ho
                    simp only [hget] at ho ⊢
                    split at ho
                    · rename_i e; rw [if_pos e]; exact ho
                    · rename_i e; rw [if_neg e]; exact hdelsub _ _ ho
                  exact ⟨N', u, w', a1, a2, ⟨a3.hr.weaken hsub, a3.fresh⟩, a4.sub hsub, by simp, a5⟩
            · cases hv
          · cases hv
        · cases hv
      · cases hv
    · cases hv

end Go.Ev

/- Writes into maps; and all operations that are no calls, together. -/
namespace Go.Ev
open Go

variable {X : Cx} {N N' N'' : Nu} {D : ChkD}

theorem sameBits_of {kk : Kd} {k a : AV} {u v : Value} (hk : VR X N k u) (ha : VR X N a v) (h : cellEqK kk k a = some true) (n : Nat) : Instr.sameBits n v u = true := by
  unfold cellEqK at h
  split at h <;> first | (cases h; done) | skip
  · simp only [VR] at hk ha; subst hk; subst ha
    simp only [Option.some.injEq, beq_iff_eq] at h; subst h
    simp [Instr.sameBits]
  · simp only [VR] at hk ha; subst hk; subst ha
    split at h
    · rename_i hkk
      obtain ⟨rfl, rfl⟩ := hkk
      simp only [Option.some.injEq, decide_eq_true_eq] at h; subst h
      simp [Instr.sameBits]
    · cases h
  · simp only [VR] at hk ha; subst hk; subst ha
    simp only [Option.some.injEq, seq8_iff] at h; subst h
    simp only [Instr.sameBits]
    rename_i x
    show (x.toArray == x.toArray) = true
    simp

theorem mins_now {kk : Kd} {k v : AV} {u x : Value} {d : TypeDesc} {t : TypeId} (ht : kdTy X t kk = true) (hd : X.P.underlying t = some d) (hk : VR X N k u) (hx : VR X N v x) :
    ∀ {es es' : List (AV × AV)} {ms : List MapEntry} (j : Nat), EntsR X N es ms → mins kk k v es = some es' →
      (∃ i e, Instr.findNow d u ms j = some (some (j + i, e.val)) ∧ ms[i]? = some e ∧ (∀ n, Instr.sameBits n e.key u = true) ∧ EntsR X N es' (ms.modify i fun e => { e with key := u, val := x })) ∨
      (Instr.findNow d u ms j = some none ∧ ∀ c, EntsR X N es' (ms ++ [{ key := u, val := x, born := c }]))
  | [], es', ms, j, h, hm => by
    simp only [EntsR] at h; subst h
    simp only [mins] at hm
    split at hm
    · cases hm
      exact .inr ⟨rfl, fun c => ⟨_, [], rfl, hk, hx, rfl⟩⟩
    · cases hm
  | (a, b) :: es, es', ms, j, h, hm => by
    obtain ⟨e, er, rfl, h1, h2, h3⟩ := h
    simp only [mins] at hm
    split at hm
    · rename_i hc
      cases hm
      refine .inl ⟨0, e, by simp [Instr.findNow, cellEqK_now ht hd hk h1 hc], rfl, fun n => sameBits_of hk h1 hc n, ?_⟩
      exact ⟨{ e with key := u, val := x }, er, by simp, hk, hx, h3⟩
    · rename_i hc
      split at hm
      · rename_i r hr
        cases hm
        rcases mins_now ht hd hk hx (j + 1) h3 hr with ⟨i, e', h4, h5, h6, h7⟩ | ⟨h4, h5⟩
        · refine .inl ⟨i + 1, e', ?_, by simpa using h5, h6, ?_⟩
          · simp [Instr.findNow, cellEqK_now ht hd hk h1 hc, h4]; omega
          · exact ⟨e, _, by simp, h1, h2, h7⟩
        · refine .inr ⟨by simp [Instr.findNow, cellEqK_now ht hd hk h1 hc, h4], fun c => ⟨e, _, rfl, h1, h2, h5 c⟩⟩
      · cases hm
    · cases hm

theorem run_mapUpdate {st st' : St} {w : World} {t kt et : TypeId} {kk : Kd} {m k v : AV} {um uk uv : Value} {n : Nat} {es es' : List (AV × AV)} (hd : X.P.underlying t = some (.map kt et)) (hkt : kdTy X kt kk = true)
    (hm : VR X N m um) (hk : VR X N k uk) (hv : VR X N v uv) (hr : SR D X N st w) (hmn : m = .map n) (hg : hget st.h n = some (.map es)) (hi : mins kk k v es = some es')
    (hst : st' = ⟨hset st.h n (.map es'), st.nx⟩) :
    ∃ w', (Instr.mapUpdate t um uk uv).run X.P w = .ok () w' ∧ SR D X N st' w' ∧ Gd N st.h w N st'.h w' := by
  subst hmn hst
  obtain ⟨ad, hρ, rfl⟩ := hm
  obtain ⟨b, mes, clk, hb1, hb2, hb3⟩ := hr.hr.objs _ _ hg
  rw [hρ] at hb1
  cases hb1
  have hgo : (getObj b).run X.P w = .ok (.map mes clk) w := by simp [getObj, Sem.run, hb2]
  have hso : ∀ o, (setObj b o).run X.P w = .ok () { w with heap := w.heap.setIfInBounds b o } := fun o => by simp [setObj, Sem.run, hb2]
  obtain ⟨dk, hdk⟩ : ∃ dk, X.P.underlying kt = some dk := by
    unfold kdTy at hkt
    split at hkt <;> first | exact ⟨_, ‹_›⟩ | cases hkt
  have hck := fun e => checkKey_plain hkt e uk 9999 w
  have fin : ∀ ms' clk', EntsR X N es' ms'.toList → HR D X N (hset st.h n (.map es')) { w with heap := w.heap.setIfInBounds b (.map ms' clk') } ∧ Gd N st.h w N (hset st.h n (.map es')) { w with heap := w.heap.setIfInBounds b (.map ms' clk') } := by
    intro ms' clk' hms
    refine HR.put hr.hr hg rfl hρ (by simp) rfl rfl rfl (fun q hq => ?_) ⟨b, ms', clk', hρ, ?_, hms⟩
    · rw [Array.getElem?_setIfInBounds, if_neg (fun e => hq e.symm)]
    · simp [lt_of_get hb2]
  rcases mins_now hkt hdk hk hv 0 hb3 hi with ⟨i, e, h4, h5, h6, h7⟩ | ⟨h4, h5⟩
  · have h5' : mes[i]? = some e := by rw [← Array.getElem?_toList]; exact h5
    obtain ⟨g1, g2⟩ := fin (mes.modify i fun e => { e with key := uk, val := uv }) clk (by rw [Array.toList_modify]; exact h7)
    refine ⟨_, ?_, ⟨g1, hr.fresh⟩, g2⟩
    simp only [Nat.zero_add] at h4
    have hsb := h6 10000
    simp [Instr.mapUpdate, run_underlying hd, hgo, hck, Instr.findKey, run_underlying hdk, h4, h5', Instr.keyThatStays, hsb, hso]
  · obtain ⟨g1, g2⟩ := fin (mes.push { key := uk, val := uv, born := clk }) (clk + 1) (by simpa using h5 clk)
    refine ⟨_, ?_, ⟨g1, hr.fresh⟩, g2⟩
    simp [Instr.mapUpdate, run_underlying hd, hgo, hck, Instr.findKey, run_underlying hdk, h4, hso]

/-- Does an operation call? -/
def WO.calls : WO → Bool
  | .call .. => true
  | _ => false

def MO.calls : MO → Bool
  | .w o => o.calls
  | _ => false

/-- What an operation leaves in its slot. -/
def outOf : Next → Option Value
  | .value u => some u
  | .skip => some undef
  | _ => none

/-- Every operation that is no call does what the model's does. -/
theorem MO_sound {o : Oper} {m : MO} {v : AV} {ev : AO → AV} {r : Operand → Value} {st st' : St} {w : World} {call : AV → List AV → St → Option (AV × St)} (hc : chkM X o.op m = true) (hnc : m.calls = false)
    (he : Evs X N ev r) (hk : ∀ v, r (.const v) = v) (hr : SR D X N st w) (hv : MO.run call ev st m = some (v, st')) :
    ∃ N' nx u w', (execOp r o).run X.P w = .ok nx w' ∧ outOf nx = some u ∧ VR X N' v u ∧ SR D X N' st' w' ∧ Gd N st.h w N' st'.h w' ∧ st.nx ≤ st'.nx ∧ ∀ n, n < st.nx → N'.ρ n = N.ρ n := by
  cases m with
  | p p =>
    simp only [MO.run] at hv
    split at hv
    · rename_i x hx
      cases hv
      obtain ⟨u, h1, h2⟩ := PO_sound (N := N) hc he hx w
      exact ⟨N, _, u, w, h1, rfl, h2, hr, .refl _ _ _, Nat.le_refl _, fun _ _ => rfl⟩
    · cases hv
  | r p =>
    simp only [MO.run] at hv
    split at hv
    · rename_i x hx
      cases hv
      obtain ⟨u, h1, h2⟩ := RO_sound hc he hr.hr hx
      exact ⟨N, _, u, w, h1, rfl, h2, hr, .refl _ _ _, Nat.le_refl _, fun _ _ => rfl⟩
    · cases hv
  | n p =>
    simp only [MO.run] at hv
    split at hv
    · rename_i x b hx
      cases hv
      obtain ⟨N', u, w', h1, h2, h3, h4, h5⟩ := NO_sound hc he hk hr.hr (hr.fresh _ (Nat.le_refl _)) hx
      refine ⟨N', _, u, w', h1, rfl, h2, ⟨h3, fun m hm => ?_⟩, h4, by simp, fun m hm => h5 m (by omega)⟩
      simp only at hm
      rw [h5 m (by omega)]
      exact hr.fresh m (by omega)
    · cases hv
  | w p =>
    simp only [chkM] at hc
    unfold chkW at hc
    split at hc <;> (first | (cases hc; done) | skip) <;> rename_i hop <;> simp only [bool_and, beq_iff_eq] at hc
    · obtain ⟨h1, h2, h3⟩ := hc
      obtain ⟨w', g1, rfl, g3, g4, g5⟩ := WO_store (call := call) hop h1 h2 h3 he hr hv
      exact ⟨N, _, undef, w', g1, rfl, trivial, g3, g4, by omega, fun _ _ => rfl⟩
    · obtain ⟨h1, h2, h3, h4, h5, h6, h7⟩ := hc
      obtain ⟨N', u, w', g1, g2, g3, g4, g5, g6⟩ := WO_append hop h1 h2 h3 h4 h5 h6 h7 he hr hv
      exact ⟨N', _, u, w', g1, rfl, g2, g3, g4, g5, g6⟩
    · obtain ⟨h1, h2⟩ := hc
      obtain ⟨u, w', g1, g2, g3, g4, g5⟩ := WO_copy (call := call) hop h1 h2 he hr hv
      exact ⟨N, _, u, w', g1, rfl, g2, g3, g4, by omega, fun _ _ => rfl⟩
    · rename_i t m k v' kk m' k' v''
      obtain ⟨h1, h2, h3, h4⟩ := hc
      split at h1
      · rename_i kt et hd
        simp only [MO.run, WO.run] at hv
        split at hv
        · rename_i n hn
          split at hv
          · rename_i es hg
            simp only [Option.map_eq_some_iff] at hv
            obtain ⟨es', hes, hp⟩ := hv
            cases hp
            obtain ⟨w', g1, g2, g3⟩ := run_mapUpdate hd h1 (he _ _ h2) (he _ _ h3) (he _ _ h4) hr hn hg hes rfl
            exact ⟨N, .skip, undef, w', by simp [execOp, hop, g1], rfl, trivial, g2, g3, Nat.le_refl _, fun _ _ => rfl⟩
          · cases hv
        · cases hv
      · cases h1
    · rename_i t m k v' kk m' k' v''
      obtain ⟨h1, h2, h3, h4⟩ := hc
      split at h1
      · rename_i kt et hd
        simp only [MO.run, WO.run] at hv
        split at hv
        · rename_i n hn
          split at hv
          · rename_i es hg
            simp only [Option.map_eq_some_iff] at hv
            obtain ⟨es', hes, hp⟩ := hv
            cases hp
            obtain ⟨w', g1, g2, g3⟩ := run_mapUpdate hd h1 (he _ _ h2) (he _ _ h3) (he _ _ h4) hr hn hg hes rfl
            exact ⟨N, .skip, undef, w', by simp [execOp, hop, g1], rfl, trivial, g2, g3, Nat.le_refl _, fun _ _ => rfl⟩
          · cases hv
        · cases hv
      · cases h1
    · cases hnc

end Go.Ev
