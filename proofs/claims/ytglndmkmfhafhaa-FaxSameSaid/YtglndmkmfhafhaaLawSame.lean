/- The law FaxSame returns true whatever its arguments are, and they read behind the call as they read before: the given statement, with no condition of its own. -/
import Derived.Test.YtglndmkmfhafhaaEvR
import Derived.Test.YtglndmkmfhafhaaEvFaxG
import Derived.Test.YtglndmkmfhafhaaEvFaxLaw3
import Derived.Test.YtglndmkmfhafhaaEvFaxT
import Derived.Test.YtglndmkmfhafhaaEvFaxShelf
import Derived.Test.YtglndmkmfhafhaaRows
import Derived.WalkKit
import Derived.ProofKit
import Derived.OpenShut
import Derived.ShutString
import Derived.ChangeOld
import Derived.Below
import Derived.SizedLaws
namespace Go.Proofs.Ytglndmkmfhafhaa.faxSame
open Go.ChangeShapes Go.WideShapes Go.ChangeAt Go.RowKit
open Go.ChangeMaps (open_string shut_string)
open Go.Ev
set_option linter.unusedVariables false
def T : Tab := ⟨Fax.fnT.get, fun k => if k = 13 then some repeatE else Option.none⟩
theorem has : B.HasFax T := by constructor <;> rfl
theorem rep : EntryOK chkD Fax.cx 13 repeatE := repeat_entry (by kernel_rfl) (fun s c w h1 h2 => Try.strings_Repeat s c w h1 h2)
theorem tabOK : TabOK chkD Fax.cx T := tabOK_of Fax.fnT_all (fun f F h => by
  by_cases e : f = 13
  · rw [if_pos e] at h
    subst e
    injection h with h
    subst h
    exact rep
  · rw [if_neg e] at h
    cases h)
theorem own : ownKnob Try.prog.godebug = Option.none := by kernel_rfl
theorem laidOut : laidOutB Try.prog = true := by kernel_rfl
theorem walk (k : Nat) (v : Value) (w : World) (hs : k < 256) (wide : Nat) (N : Nu) (st : St) (sv : AV) (kk : Nat) (xs : List Nat) (hwd : wide < 256) (hr : SR chkD Fax.cx N st w) (hwf : st.Wf) (h1 : 1 < st.nx) (how : ∀ b, ¬ Own N st.h b)
    (hD : DraftIn st sv kk xs) (hk : kk < 9223372036854775808) (hv : VR Fax.cx N (.agg [.int .u8 (wide : Int), sv]) v) :
    Calls Try.prog 7 #[v, .int .u8 (k : Int)] w fun e w' => e = .returned (.bool true) ∧ Below w.heap.size w w' := by
  have law := faxSame_law (T := T) has rfl hwf h1 hwd hs hD hk
  refine law_calls (X := Fax.cx) (T := T) tabOK (by kernel_rfl) (k := 4) (mf := B.chaselaw07_FaxSame) rfl rfl (args := [.agg [.int .u8 (wide : Int), sv], .int .u8 (k : Int)]) (us := [v, .int .u8 (k : Int)]) rfl (CRes.mono law fun v s h => h.1) hr ?_ how
  exact ⟨_, _, rfl, hv, _, _, rfl, by simp [VR], rfl⟩
set_option maxRecDepth 100000 in
theorem lifted (os : Os) (started : os.Started) (H : Type) (enc : TypeId × Value → H) :
    ReturnsInHanded {} Try.checked os 7 .any (Rows.faxSameSpec.pre6 enc Try.prog Try.f7 Rows.faxSameRow.domain false) (Rows.faxSameSpec.post enc Try.prog Try.f7 false true false false) := by
  refine returnsInHanded_of_change_sized (C := Try.checked) own started (by kernel_rfl) Try.func7
    (ChangeSpec.witness6 (enc := enc) (C := Try.checked) false ⟨#[], #[.agg #[.int .u8 0, .slice none 0 0], .int .u8 0], []⟩ 8 (by kernel_rfl) (by kernel_rfl) (by kernel_rfl) (by kernel_rfl)) ?_
  intro W base args ds gs before hval0 hW hcnd hsz0 _
  have hsz : (DataW.weightsEach Try.prog (Try.f7.params.toList ++ Rows.faxSameSpec.plain.varTypes Try.prog) (ds ++ gs)).all (· ≤ reachBytes) = true := hsz0
  have hval : ∀ (j : Nat) t v, Try.f7.params[j]? = some t → args[j]? = some v → Value.okWide Try.prog W .any base t v := hval0
  have hW' := hW
  obtain ⟨p, q, hA0, hV, rfl, hfz, hnd⟩ := hW
  have hA : DataW.TrodAll enc Try.prog W 0 (fun _ => true) true Try.f7.params.toList args.toList ds p := hA0
  rw [Try.params7] at hA hval hsz
  obtain ⟨v0, vs0, d0, ds0, p0, q0, hargs, rfl, rfl, h0, r0⟩ := trodAll_cons hA
  obtain ⟨v1, vs1, d1, ds1, p1, q1, rfl, rfl, rfl, h1, r1⟩ := trodAll_cons r0
  obtain ⟨rfl, rfl, rfl⟩ := trodAll_nil r1
  obtain rfl : args = #[v0, v1] := by cases args; simp_all
  obtain ⟨rfl, rfl⟩ := trodVars_none hV
  have k0 := h0
  have lt0 : ∀ x ∈ p0, x.block < W.heap.size := by obtain ⟨m, hm⟩ := k0; exact DataW.trod_lt m _ _ _ hm
  obtain ⟨a1, rfl, rfl, rfl, w1⟩ := open_int Try.underlying5 (hval 1 5 v1 rfl rfl) h1
  have w2 := wf_u8 w1
  obtain ⟨a1, rfl⟩ := Int.eq_ofNat_of_zero_le w2.1
  obtain ⟨wide, N, st, sv, kk, xs, z1, z2, z3, z4, z5, z6, z7, z8⟩ := draft_open (X := Fax.cx) (P := Try.prog) (tb := 5) (tsl := 22) (te := 46) rfl Try.underlying24 (by kernel_rfl) (by kernel_rfl) rfl rfl Try.underlying5 (by kernel_rfl) Try.underlying22 Try.underlying46 (by kernel_rfl) (by kernel_rfl) (hval 0 24 v0 rfl rfl) h0
  clear hA0 hval0 hsz0 hsz
  refine (walk a1 v0 W (by omega) wide N st sv kk xs z1 z2 z3 z4 z5 z6 z7 z8).mono fun e W' ⟨he, bel⟩ => ?_
  subst he
  exact ⟨_, rfl, _, _, _, [], _, [], hW', trodAll_mk1 (shut_bool Try.underlying4 _), trodAll_cons_mk (Below.trod laidOut (by kernel_rfl) (of_decide_eq_true (by kernel_rfl)) k0 bel lt0) (trodAll_cons_mk (shut_int Try.underlying5 w1) trodAll_mk0), rfl, bel.frame _, fun h => by cases h⟩
theorem over : Rows.faxSameRow.holds Try.pinned (OpenSpec.ofChange Rows.faxSameSpec) :=
  OpenClaim.holds_of_wide 7 Try.f7 rfl rfl rfl rfl rfl rfl rfl ⟨rfl, rfl, rfl, rfl, rfl⟩ rfl rfl rfl rfl rfl (by kernel_rfl) Try.func7 (by kernel_rfl)
    (of_decide_eq_true (by kernel_rfl)) (by unfold Func.isWrapper; first | (rw [if_pos (by decide +kernel)]; kernel_rfl) | (rw [if_neg (by decide +kernel)]; exact ⟨rfl, rfl⟩))
    (fun os started H enc _ => lifted os started H enc)
theorem proved : Rows.FaxSameSaid := over
#print axioms proved
end Go.Proofs.Ytglndmkmfhafhaa.faxSame
