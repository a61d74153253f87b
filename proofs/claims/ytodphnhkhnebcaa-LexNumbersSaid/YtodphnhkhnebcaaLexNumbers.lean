/- The law LexNumbers returns true whatever its arguments are, and they read behind the call as they read before: the given statement, with no condition of its own. -/
import Derived.Test.YtodphnhkhnebcaaP04
import Derived.Test.YtodphnhkhnebcaaP08
import Derived.Test.YtodphnhkhnebcaaP09
import Derived.Test.YtodphnhkhnebcaaRows
import Derived.WalkKit
import Derived.ProofKit
import Derived.OpenShut
import Derived.ShutString
import Derived.ChangeOld
import Derived.Below
import Derived.SizedLaws
namespace Go.Proofs.Ytodphnhkhnebcaa.lexNumbers
open Go.ChangeShapes Go.WideShapes Go.ChangeAt Go.RowKit
open Go.ChangeMaps (open_string shut_string)
open Go.Ev
set_option linter.unusedVariables false
theorem tabOK : TabOK chkD LexNumbers.cx LexNumbers.tab := LexNumbers.tabOK_all
  (indexByte_entry (by kernel_rfl) (fun s c w => Try.strings_IndexByte s c w))
  (noescape_entry Try.func76 (by kernel_rfl) (by kernel_rfl) (by kernel_rfl) (by kernel_rfl))
  (index1_entry (by kernel_rfl) (fun s c w => Try.stringslite_Index_one s c w))
theorem own : ownKnob Try.prog.godebug = Option.none := by kernel_rfl
theorem laidOut : laidOutB Try.prog = true := by kernel_rfl
theorem walk (w : World) (s0 : ByteArray) (v1 : Value) (c2 : Nat) (hs0 : s0.size ≤ 140737488351232) (hc2 : c2 < 256) (N : Nu) (st : St) (sv : AV) (l : List UInt8) (hr : SR chkD LexNumbers.cx N st w) (hwf : st.Wf) (how : ∀ b, ¬ Own N st.h b) (hin : InL st.h sv l) (hln : l.length < 9223372036854775808) (hv : VR LexNumbers.cx N sv v1) : Calls Try.prog 3 #[.string s0, v1, .int .u8 (c2 : Int)] w fun e w' => e = .returned (.bool true) ∧ Below w.heap.size w w' := by
  have law := numbers_tells LexNumbers.has_chaselaw03_LexNumbers hwf (s := s0.data.toList) (by simpa using hs0) hin hln (hc2)
  exact law_calls (X := LexNumbers.cx) (T := LexNumbers.tab) tabOK (by kernel_rfl) (k := 58) (mf := B.chaselaw03_LexNumbers) rfl rfl (args := [.str s0.data.toList, sv, .int .u8 (c2 : Int)]) (us := [.string s0, v1, .int .u8 (c2 : Int)]) rfl (CRes.mono law fun v s h => h.1) hr (⟨_, _, rfl, by simp [VR], ⟨_, _, rfl, hv, ⟨_, _, rfl, rfl, rfl⟩⟩⟩) how
set_option maxRecDepth 100000 in
theorem lifted (os : Os) (started : os.Started) (H : Type) (enc : TypeId × Value → H) :
    ReturnsInHanded {} Try.checked os 3 .any (Rows.lexNumbersSpec.pre6 enc Try.prog Try.f3 Rows.lexNumbersRow.domain false) (Rows.lexNumbersSpec.post enc Try.prog Try.f3 false true false false) := by
  refine returnsInHanded_of_change_sized (C := Try.checked) own started (by kernel_rfl) Try.func3
    (ChangeSpec.witness6 (enc := enc) (C := Try.checked) false ⟨#[], #[.string ByteArray.empty, .slice none 0 0, .int .u8 0], []⟩ 8 (by kernel_rfl) (by kernel_rfl) (by kernel_rfl) (by kernel_rfl)) ?_
  intro W base args ds gs before hval0 hW hcnd hsz0 _
  have hsz : (DataW.weightsEach Try.prog (Try.f3.params.toList ++ Rows.lexNumbersSpec.plain.varTypes Try.prog) (ds ++ gs)).all (· ≤ reachBytes) = true := hsz0
  have hval : ∀ (j : Nat) t v, Try.f3.params[j]? = some t → args[j]? = some v → Value.okWide Try.prog W .any base t v := hval0
  have hW' := hW
  obtain ⟨p, q, hA0, hV, rfl, hfz, hnd⟩ := hW
  have hA : DataW.TrodAll enc Try.prog W 0 (fun _ => true) true Try.f3.params.toList args.toList ds p := hA0
  rw [Try.params3] at hA hval hsz
  obtain ⟨v0, vs0, d0, ds0, p0, q0, hargs, rfl, rfl, h0, r0⟩ := trodAll_cons hA
  obtain ⟨v1, vs1, d1, ds1, p1, q1, rfl, rfl, rfl, h1, r1⟩ := trodAll_cons r0
  obtain ⟨v2, vs2, d2, ds2, p2, q2, rfl, rfl, rfl, h2, r2⟩ := trodAll_cons r1
  obtain ⟨rfl, rfl, rfl⟩ := trodAll_nil r2
  obtain rfl : args = #[v0, v1, v2] := by cases args; simp_all
  obtain ⟨rfl, rfl⟩ := trodVars_none hV
  obtain ⟨a0, rfl, rfl, rfl, y0⟩ := open_string Try.underlying9 (hval 0 9 v0 rfl rfl) h0
  have w0 : a0.size ≤ 140737488351232 := by
    have z := sized_string hsz (j := 0) (t := 9) rfl rfl
    rw [Array.length_toList] at z
    exact z
  have k1 := h1
  have lt1 : ∀ x ∈ p1, x.block < W.heap.size := by obtain ⟨m, hm⟩ := k1; exact DataW.trod_lt m _ _ _ hm
  obtain ⟨N, st, sv, l, z1, z2, z3, z4, z5, z6⟩ := octets_open (X := LexNumbers.cx) (P := Try.prog) (tb := 5) (tsl := 22) rfl Try.underlying5 (by kernel_rfl) Try.underlying22 (hval 1 22 v1 rfl rfl) h1
  obtain ⟨b2, rfl, rfl, rfl, w2⟩ := open_int Try.underlying5 (hval 2 5 v2 rfl rfl) h2
  obtain ⟨b2, rfl⟩ := Int.eq_ofNat_of_zero_le (wf_u8 w2).1
  clear hA0 hval0 hsz0 hsz
  refine (walk W a0 v1 b2 w0 (by have := (wf_u8 w2).2; omega) N st sv l z1 z2 z3 z4 z5 z6).mono fun e W' ⟨he, bel⟩ => ?_
  subst he
  exact ⟨_, rfl, _, _, _, [], _, [], hW', trodAll_mk1 (shut_bool Try.underlying4 _), trodAll_cons_mk (shut_string Try.underlying9 y0) (trodAll_cons_mk (Below.trod laidOut (by kernel_rfl) (of_decide_eq_true (by kernel_rfl)) k1 bel lt1) (trodAll_cons_mk (shut_int Try.underlying5 w2) trodAll_mk0)), rfl, bel.frame _, fun h => by cases h⟩
theorem over : Rows.lexNumbersRow.holds Try.pinned (OpenSpec.ofChange Rows.lexNumbersSpec) :=
  OpenClaim.holds_of_wide 3 Try.f3 rfl rfl rfl rfl rfl rfl rfl ⟨rfl, rfl, rfl, rfl, rfl⟩ rfl rfl rfl rfl rfl (by kernel_rfl) Try.func3 (by kernel_rfl)
    (of_decide_eq_true (by kernel_rfl)) (by unfold Func.isWrapper; first | (rw [if_pos (by decide +kernel)]; kernel_rfl) | (rw [if_neg (by decide +kernel)]; exact ⟨rfl, rfl⟩))
    (fun os started H enc _ => lifted os started H enc)
theorem proved : Rows.LexNumbersSaid := over
#print axioms proved
end Go.Proofs.Ytodphnhkhnebcaa.lexNumbers
