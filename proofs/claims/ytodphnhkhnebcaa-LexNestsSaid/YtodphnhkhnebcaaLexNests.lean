/- The law LexNests returns true whatever its arguments are, and they read behind the call as they read before: the given statement, with no condition of its own. -/
import Derived.Test.YtodphnhkhnebcaaP04
import Derived.Test.YtodphnhkhnebcaaP08
import Derived.Test.YtodphnhkhnebcaaRows
import Derived.WalkKit
import Derived.ProofKit
import Derived.OpenShut
import Derived.ShutString
import Derived.ChangeOld
import Derived.Below
import Derived.SizedLaws
namespace Go.Proofs.Ytodphnhkhnebcaa.lexNests
open Go.ChangeShapes Go.WideShapes Go.ChangeAt Go.RowKit
open Go.ChangeMaps (open_string shut_string)
open Go.Ev
set_option linter.unusedVariables false
theorem tabOK : TabOK chkD LexNests.cx LexNests.tab := LexNests.tabOK_all
  (repeat_entry (by kernel_rfl) (fun s c w h1 h2 => Try.strings_Repeat s c w h1 h2))
  (indexByte_entry (by kernel_rfl) (fun s c w => Try.strings_IndexByte s c w))
  (noescape_entry Try.func76 (by kernel_rfl) (by kernel_rfl) (by kernel_rfl) (by kernel_rfl))
  (index1_entry (by kernel_rfl) (fun s c w => Try.stringslite_Index_one s c w))
theorem own : ownKnob Try.prog.godebug = Option.none := by kernel_rfl
theorem laidOut : laidOutB Try.prog = true := by kernel_rfl
theorem walk (w : World) (v0 : Value)  (N : Nu) (st : St) (sv : AV) (l : List UInt8) (hr : SR chkD LexNests.cx N st w) (hwf : st.Wf) (how : ∀ b, ¬ Own N st.h b) (hin : InL st.h sv l) (hln : l.length < 9223372036854775808) (hv : VR LexNests.cx N sv v0) : Calls Try.prog 5 #[v0] w fun e w' => e = .returned (.bool true) ∧ Below w.heap.size w w' := by
  have law := nests_tells LexNests.has_chaselaw03_LexNests hwf hin hln
  exact law_calls (X := LexNests.cx) (T := LexNests.tab) tabOK (by kernel_rfl) (k := 60) (mf := B.chaselaw03_LexNests) rfl rfl (args := [sv]) (us := [v0]) rfl (CRes.mono law fun v s h => h.1) hr (⟨_, _, rfl, hv, rfl⟩) how
set_option maxRecDepth 100000 in
theorem lifted (os : Os) (started : os.Started) (H : Type) (enc : TypeId × Value → H) :
    ReturnsInHanded {} Try.checked os 5 .any (Rows.lexNestsSpec.pre6 enc Try.prog Try.f5 Rows.lexNestsRow.domain false) (Rows.lexNestsSpec.post enc Try.prog Try.f5 false true false false) := by
  refine returnsInHanded_of_change_sized (C := Try.checked) own started (by kernel_rfl) Try.func5
    (ChangeSpec.witness6 (enc := enc) (C := Try.checked) false ⟨#[], #[.slice none 0 0], []⟩ 8 (by kernel_rfl) (by kernel_rfl) (by kernel_rfl) (by kernel_rfl)) ?_
  intro W base args ds gs before hval0 hW hcnd hsz0 _
  have hsz : (DataW.weightsEach Try.prog (Try.f5.params.toList ++ Rows.lexNestsSpec.plain.varTypes Try.prog) (ds ++ gs)).all (· ≤ reachBytes) = true := hsz0
  have hval : ∀ (j : Nat) t v, Try.f5.params[j]? = some t → args[j]? = some v → Value.okWide Try.prog W .any base t v := hval0
  have hW' := hW
  obtain ⟨p, q, hA0, hV, rfl, hfz, hnd⟩ := hW
  have hA : DataW.TrodAll enc Try.prog W 0 (fun _ => true) true Try.f5.params.toList args.toList ds p := hA0
  rw [Try.params5] at hA hval hsz
  obtain ⟨v0, vs0, d0, ds0, p0, q0, hargs, rfl, rfl, h0, r0⟩ := trodAll_cons hA
  obtain ⟨rfl, rfl, rfl⟩ := trodAll_nil r0
  obtain rfl : args = #[v0] := by cases args; simp_all
  obtain ⟨rfl, rfl⟩ := trodVars_none hV
  have k0 := h0
  have lt0 : ∀ x ∈ p0, x.block < W.heap.size := by obtain ⟨m, hm⟩ := k0; exact DataW.trod_lt m _ _ _ hm
  obtain ⟨N, st, sv, l, z1, z2, z3, z4, z5, z6⟩ := octets_open (X := LexNests.cx) (P := Try.prog) (tb := 5) (tsl := 22) rfl Try.underlying5 (by kernel_rfl) Try.underlying22 (hval 0 22 v0 rfl rfl) h0
  clear hA0 hval0 hsz0 hsz
  refine (walk W v0  N st sv l z1 z2 z3 z4 z5 z6).mono fun e W' ⟨he, bel⟩ => ?_
  subst he
  exact ⟨_, rfl, _, _, _, [], _, [], hW', trodAll_mk1 (shut_bool Try.underlying4 _), trodAll_cons_mk (Below.trod laidOut (by kernel_rfl) (of_decide_eq_true (by kernel_rfl)) k0 bel lt0) trodAll_mk0, rfl, bel.frame _, fun h => by cases h⟩
theorem over : Rows.lexNestsRow.holds Try.pinned (OpenSpec.ofChange Rows.lexNestsSpec) :=
  OpenClaim.holds_of_wide 5 Try.f5 rfl rfl rfl rfl rfl rfl rfl ⟨rfl, rfl, rfl, rfl, rfl⟩ rfl rfl rfl rfl rfl (by kernel_rfl) Try.func5 (by kernel_rfl)
    (of_decide_eq_true (by kernel_rfl)) (by unfold Func.isWrapper; first | (rw [if_pos (by decide +kernel)]; kernel_rfl) | (rw [if_neg (by decide +kernel)]; exact ⟨rfl, rfl⟩))
    (fun os started H enc _ => lifted os started H enc)
theorem proved : Rows.LexNestsSaid := over
#print axioms proved
end Go.Proofs.Ytodphnhkhnebcaa.lexNests
