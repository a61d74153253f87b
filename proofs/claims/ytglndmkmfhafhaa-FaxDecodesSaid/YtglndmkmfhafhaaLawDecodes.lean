/- The law FaxDecodes returns true whatever its arguments are, and they read behind the call as they read before: the given statement, with no condition of its own. -/
import Derived.Test.YtglndmkmfhafhaaEvR
import Derived.Test.YtglndmkmfhafhaaEvFaxG
import Derived.Test.YtglndmkmfhafhaaEvFaxLaw4
import Derived.Test.YtglndmkmfhafhaaEvFaxT
import Derived.Test.YtglndmkmfhafhaaRows
import Derived.WalkKit
import Derived.ProofKit
import Derived.OpenShut
import Derived.ShutString
import Derived.ChangeOld
import Derived.Below
import Derived.SizedLaws
namespace Go.Proofs.Ytglndmkmfhafhaa.faxDecodes
open Go.ChangeShapes Go.WideShapes Go.ChangeAt Go.RowKit
open Go.ChangeMaps (open_string shut_string)
open Go.Ev
set_option linter.unusedVariables false
def T : Tab := ⟨Fax.fnT.get, fun _ => Option.none⟩
theorem has : B.HasFax T := by constructor <;> rfl
theorem tabOK : TabOK chkD Fax.cx T := tabOK_of Fax.fnT_all (fun f F h => by cases h)
theorem own : ownKnob Try.prog.godebug = Option.none := by kernel_rfl
theorem laidOut : laidOutB Try.prog = true := by kernel_rfl
theorem wf_u16 {n : Int} (h : (Lit.int .u16 n).wf = true) : 0 ≤ n ∧ n < 65536 := by
  simp [Lit.wf, IntKind.min, IntKind.max, IntKind.signed, IntKind.bits] at h
  omega
theorem walk (s : ByteArray) (n : Int) (v : Value) (k y : Nat) (w : World) (hs : s.size < 4611686018427387904) (hat : k < 65536) (hy : y < 256) (wide : Nat) (N : Nu) (st : St) (sv : AV) (kk : Nat) (xs : List Nat) (hwd : wide < 256) (hr : SR chkD Fax.cx N st w) (hwf : st.Wf) (h1 : 1 < st.nx) (how : ∀ b, ¬ Own N st.h b)
    (hD : DraftIn st sv kk xs) (hk : kk < 9223372036854775808) (hv : VR Fax.cx N (.agg [.int .u8 (wide : Int), sv]) v) :
    Calls Try.prog 4 #[.string s, .int .i64 n, v, .int .u16 (k : Int), .int .u8 (y : Int)] w fun e w' => e = .returned (.bool true) ∧ Below w.heap.size w w' := by
  have law := faxDecodes_law (T := T) has hwf h1 (s := s.data.toList) (w := n) (by simpa using hs) hwd hat hy hD hk
  refine law_calls (X := Fax.cx) (T := T) tabOK (by kernel_rfl) (k := 1) (mf := B.chaselaw07_FaxDecodes) rfl rfl (args := [.str s.data.toList, .int .i64 n, .agg [.int .u8 (wide : Int), sv], .int .u16 (k : Int), .int .u8 (y : Int)]) (us := [.string s, .int .i64 n, v, .int .u16 (k : Int), .int .u8 (y : Int)]) rfl (CRes.mono law fun v s h => h.1) hr ?_ how
  exact ⟨_, _, rfl, by simp [VR], _, _, rfl, rfl, _, _, rfl, hv, _, _, rfl, rfl, _, _, rfl, rfl, rfl⟩
set_option maxRecDepth 100000 in
theorem lifted (os : Os) (started : os.Started) (H : Type) (enc : TypeId × Value → H) :
    ReturnsInHanded {} Try.checked os 4 .any (Rows.faxDecodesSpec.pre6 enc Try.prog Try.f4 Rows.faxDecodesRow.domain false) (Rows.faxDecodesSpec.post enc Try.prog Try.f4 false true false false) := by
  refine returnsInHanded_of_change_sized (C := Try.checked) own started (by kernel_rfl) Try.func4
    (ChangeSpec.witness6 (enc := enc) (C := Try.checked) false ⟨#[], #[.string ByteArray.empty, .int .i64 0, .agg #[.int .u8 0, .slice none 0 0], .int .u16 0, .int .u8 0], []⟩ 8 (by kernel_rfl) (by kernel_rfl) (by kernel_rfl) (by kernel_rfl)) ?_
  intro W base args ds gs before hval0 hW hcnd hsz0 _
  have hsz : (DataW.weightsEach Try.prog (Try.f4.params.toList ++ Rows.faxDecodesSpec.plain.varTypes Try.prog) (ds ++ gs)).all (· ≤ reachBytes) = true := hsz0
  have hval : ∀ (j : Nat) t v, Try.f4.params[j]? = some t → args[j]? = some v → Value.okWide Try.prog W .any base t v := hval0
  have hW' := hW
  obtain ⟨p, q, hA0, hV, rfl, hfz, hnd⟩ := hW
  have hA : DataW.TrodAll enc Try.prog W 0 (fun _ => true) true Try.f4.params.toList args.toList ds p := hA0
  rw [Try.params4] at hA hval hsz
  obtain ⟨v0, vs0, d0, ds0, p0, q0, hargs, rfl, rfl, h0, r0⟩ := trodAll_cons hA
  obtain ⟨v1, vs1, d1, ds1, p1, q1, rfl, rfl, rfl, h1, r1⟩ := trodAll_cons r0
  obtain ⟨v2, vs2, d2, ds2, p2, q2, rfl, rfl, rfl, h2, r2⟩ := trodAll_cons r1
  obtain ⟨v3, vs3, d3, ds3, p3, q3, rfl, rfl, rfl, h3, r3⟩ := trodAll_cons r2
  obtain ⟨v4, vs4, d4, ds4, p4, q4, rfl, rfl, rfl, h4, r4⟩ := trodAll_cons r3
  obtain ⟨rfl, rfl, rfl⟩ := trodAll_nil r4
  obtain rfl : args = #[v0, v1, v2, v3, v4] := by cases args; simp_all
  obtain ⟨rfl, rfl⟩ := trodVars_none hV
  obtain ⟨a0, rfl, rfl, rfl, y0⟩ := open_string Try.underlying9 (hval 0 9 v0 rfl rfl) h0
  have w0 : a0.size ≤ 140737488351232 := by
    have z := sized_string hsz (j := 0) (t := 9) rfl rfl
    rw [Array.length_toList] at z
    exact z
  obtain ⟨a1, rfl, rfl, rfl, w1⟩ := open_int Try.underlying3 (hval 1 3 v1 rfl rfl) h1
  obtain ⟨a3, rfl, rfl, rfl, w3⟩ := open_int Try.underlying34 (hval 3 34 v3 rfl rfl) h3
  have w3' := wf_u16 w3
  obtain ⟨a3, rfl⟩ := Int.eq_ofNat_of_zero_le w3'.1
  obtain ⟨a4, rfl, rfl, rfl, w4⟩ := open_int Try.underlying5 (hval 4 5 v4 rfl rfl) h4
  have w4' := wf_u8 w4
  obtain ⟨a4, rfl⟩ := Int.eq_ofNat_of_zero_le w4'.1
  have k2 := h2
  have lt2 : ∀ x ∈ p2, x.block < W.heap.size := by obtain ⟨m, hm⟩ := k2; exact DataW.trod_lt m _ _ _ hm
  obtain ⟨wide, N, st, sv, kk, xs, z1, z2, z3, z4, z5, z6, z7, z8⟩ := draft_open (X := Fax.cx) (P := Try.prog) (tb := 5) (tsl := 22) (te := 46) rfl Try.underlying24 (by kernel_rfl) (by kernel_rfl) rfl rfl Try.underlying5 (by kernel_rfl) Try.underlying22 Try.underlying46 (by kernel_rfl) (by kernel_rfl) (hval 2 24 v2 rfl rfl) h2
  clear hA0 hval0 hsz0 hsz
  refine (walk a0 a1 v2 a3 a4 W (by omega) (by omega) (by omega) wide N st sv kk xs z1 z2 z3 z4 z5 z6 z7 z8).mono fun e W' ⟨he, bel⟩ => ?_
  subst he
  exact ⟨_, rfl, _, _, _, [], _, [], hW', trodAll_mk1 (shut_bool Try.underlying4 _), trodAll_cons_mk (shut_string Try.underlying9 y0) (trodAll_cons_mk (shut_int Try.underlying3 w1) (trodAll_cons_mk (Below.trod laidOut (by kernel_rfl) (of_decide_eq_true (by kernel_rfl)) k2 bel lt2) (trodAll_cons_mk (shut_int Try.underlying34 w3) (trodAll_cons_mk (shut_int Try.underlying5 w4) trodAll_mk0)))), rfl, bel.frame _, fun h => by cases h⟩
theorem over : Rows.faxDecodesRow.holds Try.pinned (OpenSpec.ofChange Rows.faxDecodesSpec) :=
  OpenClaim.holds_of_wide 4 Try.f4 rfl rfl rfl rfl rfl rfl rfl ⟨rfl, rfl, rfl, rfl, rfl⟩ rfl rfl rfl rfl rfl (by kernel_rfl) Try.func4 (by kernel_rfl)
    (of_decide_eq_true (by kernel_rfl)) (by unfold Func.isWrapper; first | (rw [if_pos (by decide +kernel)]; kernel_rfl) | (rw [if_neg (by decide +kernel)]; exact ⟨rfl, rfl⟩))
    (fun os started H enc _ => lifted os started H enc)
theorem proved : Rows.FaxDecodesSaid := over
#print axioms proved
end Go.Proofs.Ytglndmkmfhafhaa.faxDecodes
