/- The law FilterChecks returns true whatever its arguments are, and they read behind the call as they read before: the given statement, a card; what the code's table holds is tied to the program's text. No condition of its own. -/
import Derived.Test.YtcjbjemfobdkgaaGreatDoorP04
import Derived.Test.YtcjbjemfobdkgaaGreatDoorP07
import Derived.Test.YtcjbjemfobdkgaaGreatDoorRows
import Derived.Test.YtcjbjemfobdkgaaGreatDoorTie
import Derived.Test.YtcjbjemfobdkgaaGreatDoorCards
import Derived.WalkKit
import Derived.ProofKit
import Derived.LaidMore
import Derived.OpenShut
import Derived.ShutString
import Derived.ChangeOld
import Derived.Below
import Derived.Carry
import Derived.SizedLaws
import Derived.Stop.Joined
import Derived.SevenTiedAt
import Derived.Lay
namespace Go.Proofs.YtcjbjemfobdkgaaGreatDoor.filterChecks
open Go.ChangeShapes Go.WideShapes Go.ChangeAt Go.RowKit
open Go.ChangeMaps (open_string shut_string)
open Go.Ev
set_option linter.unusedVariables false
set_option maxRecDepth 100000 in
theorem tabOK : TabOK chkD FilterChecks.cx FilterChecks.tab := FilterChecks.tabOK_all
  (noescape_entry Tryz.func102 (by kernel_rfl) (by kernel_rfl) (by kernel_rfl) (by kernel_rfl))
  (indexByte_entry (by kernel_rfl) (fun s c w => Tryz.strings_IndexByte s c w))
theorem own : ownKnob Tryz.prog.godebug = Option.none := by kernel_rfl
theorem laidOut : laidOutB Tryz.prog = true := by kernel_rfl
def laid1 : List (String × DataW Unit) := [("chase/cosine.matrix", Rows.laid_chase_cosine_matrix)]
set_option maxRecDepth 1000000 in
theorem works_res (nm : List UInt8) (a b c : Int) (K W G Q : Nat) : CRes (call FilterChecks.tab (.fn 228 [] []) [] (stChecks nm a b c K W G Q)) fun v s => v = .bool true ∧ Ext (stChecks nm a b c K W G Q) s :=
  closed_res (n := 1000) (mf := B.chaselaw09_works) rfl rfl rfl rfl (by kernel_rfl)
theorem walk (w : World) (nm : ByteArray) (a b c : Int) (K W G Q : Nat) (d : Int) (hK : K < 256) (hW : W < 256) (hG : G < 256) (hQ : Q < 256) :
    Calls Tryz.prog 3 #[.agg #[.string nm, .int .i64 a, .int .i64 b, .int .i64 c], .agg #[.int .u8 (K : Int), .int .u8 (W : Int), .int .u8 (G : Int), .int .u8 (Q : Int)], .int .i64 d] w fun e w' => e = .returned (.bool true) ∧ Below w.heap.size w w' := by
  have law := checks_res (T := FilterChecks.tab) FilterChecks.has_chaselaw09_FilterChecks (nm := nm.data.toList) (w := a) (h := b) (q := c) (c := d) hK hW hG hQ (works_res _ _ _ _ _ _ _ _)
  exact law_calls (X := FilterChecks.cx) (T := FilterChecks.tab) tabOK (by kernel_rfl) (k := 227) (mf := B.chaselaw09_FilterChecks) rfl rfl (args := [.agg (filC nm.data.toList a b c), .agg [.int .u8 (K : Int), .int .u8 (W : Int), .int .u8 (G : Int), .int .u8 (Q : Int)], .int .i64 d])
    (us := [.agg #[.string nm, .int .i64 a, .int .i64 b, .int .i64 c], .agg #[.int .u8 (K : Int), .int .u8 (W : Int), .int .u8 (G : Int), .int .u8 (Q : Int)], .int .i64 d]) rfl law (sr_none 3 w)
    ⟨_, _, rfl, ⟨_, rfl, ⟨_, _, rfl, by simp [VR], ⟨_, _, rfl, rfl, ⟨_, _, rfl, rfl, ⟨_, _, rfl, rfl, rfl⟩⟩⟩⟩⟩, ⟨_, _, rfl, ⟨_, rfl, ⟨_, _, rfl, rfl, ⟨_, _, rfl, rfl, ⟨_, _, rfl, rfl, ⟨_, _, rfl, rfl, rfl⟩⟩⟩⟩⟩, ⟨_, _, rfl, rfl, rfl⟩⟩⟩ own_none
set_option maxRecDepth 100000 in
theorem lifted (os : Os) (started : os.Started) (H : Type) (enc : TypeId × Value → H) :
    ReturnsInHanded {} Tryz.checked os 3 .any (fun w args => (Rows.filterChecksSpec.pre enc Tryz.prog Tryz.f3 [] false w args ∧ laidMetH Tryz.prog laid1 w) ∧ sizedMet enc Tryz.prog Tryz.f3 (OpenSpec.ofChange Rows.filterChecksSpec) false w args)
      (Rows.filterChecksSpec.post enc Tryz.prog Tryz.f3 false true false false) := by
  refine returnsInHanded_of_change_and (C := Tryz.checked) (X := fun w _ => laidMetH Tryz.prog laid1 w) (fun _ _ _ hh h => h.of_heap hh) own started (by kernel_rfl) Tryz.func3
    (ChangeSpec.witness_shaped (enc := enc) (C := Tryz.checked) (os := os) (X := fun w _ => laidMetH Tryz.prog laid1 w) false (World.laidAll Tryz.prog os laid1) #[.agg #[.string ByteArray.empty, .int .i64 0, .int .i64 0, .int .i64 0], .agg #[.int .u8 0, .int .u8 0, .int .u8 0, .int .u8 0], .int .i64 0] 8 (World.laidAll_os _ _ _)
      (World.shaped_of_ZipB (by kernel_rfl) (by kernel_rfl)) (by kernel_rfl) (by kernel_rfl) (by kernel_rfl)
      (by rw [MakeChecks.laidMetH_plain _ _ _ (by kernel_rfl)]; exact laidMet_laidAll _ (by kernel_rfl) (by kernel_rfl))) ?_
  intro W base args ds gs before hval0 hW _ hsz0 hL _
  have hval : ∀ (j : Nat) t v, Tryz.f3.params[j]? = some t → args[j]? = some v → Value.okWide Tryz.prog W .any base t v := hval0
  have hW' := hW
  obtain ⟨p, q, hA0, hV, rfl, hfz, hnd⟩ := hW
  have hA : DataW.TrodAll enc Tryz.prog W 0 (fun _ => true) true Tryz.f3.params.toList args.toList ds p := hA0
  rw [Tryz.params3] at hA hval
  obtain ⟨v0, vs0, d0, ds0, p0, q0, hargs, rfl, rfl, h0, r0⟩ := trodAll_cons hA
  obtain ⟨v1, vs1, d1, ds1, p1, q1, rfl, rfl, rfl, h1, r1⟩ := trodAll_cons r0
  obtain ⟨v2, vs2, d2, ds2, p2, q2, rfl, rfl, rfl, h2, r2⟩ := trodAll_cons r1
  obtain ⟨rfl, rfl, rfl⟩ := trodAll_nil r2
  obtain rfl : args = #[v0, v1, v2] := by cases args; simp_all
  obtain ⟨rfl, rfl⟩ := trodVars_none hV
  have k0 := h0
  have lt0 : ∀ x ∈ p0, x.block < W.heap.size := by obtain ⟨m, hm⟩ := k0; exact DataW.trod_lt m _ _ _ hm
  have k1 := h1
  have lt1 : ∀ x ∈ p1, x.block < W.heap.size := by obtain ⟨m, hm⟩ := k1; exact DataW.trod_lt m _ _ _ hm
  obtain ⟨nm, a, b, c, rfl, rfl⟩ := filter_open Tryz.underlying23 (by kernel_rfl) (by kernel_rfl) Tryz.underlying9 Tryz.underlying3 Tryz.underlying3 Tryz.underlying3 (hval 0 23 v0 rfl rfl) h0
  obtain ⟨K, G, Q, R, rfl, rfl, hK, hG, hQ, hR⟩ := octets4_open Tryz.underlying25 (by kernel_rfl) (by kernel_rfl) Tryz.underlying5 Tryz.underlying5 Tryz.underlying5 Tryz.underlying5 (hval 1 25 v1 rfl rfl) h1
  obtain ⟨d, rfl, rfl, rfl, w2⟩ := open_int Tryz.underlying3 (hval 2 3 v2 rfl rfl) h2
  clear hA0 hval0 hsz0
  refine (walk W nm a b c K G Q R d hK hG hQ hR).mono fun e W' ⟨he, bel⟩ => ?_
  subst he
  exact ⟨_, rfl, _, _, _, [], _, [], hW', trodAll_mk1 (shut_bool Tryz.underlying4 _), trodAll_cons_mk (Below.trod laidOut (by kernel_rfl) (of_decide_eq_true (by kernel_rfl)) k0 bel lt0) (trodAll_cons_mk (Below.trod laidOut (by kernel_rfl) (of_decide_eq_true (by kernel_rfl)) k1 bel lt1) (trodAll_cons_mk (shut_int Tryz.underlying3 w2) trodAll_mk0)), rfl, bel.frame _, fun h => by cases h⟩
theorem over : Rows.filterChecksRow.holds Tryz.pinned (OpenSpec.ofChange Rows.filterChecksSpec) :=
  OpenClaim.holds_of_wide 3 Tryz.f3 rfl rfl rfl rfl rfl rfl rfl ⟨rfl, rfl, rfl, rfl, rfl⟩ rfl rfl rfl rfl rfl (by kernel_rfl) Tryz.func3 (by kernel_rfl)
    (of_decide_eq_true (by kernel_rfl)) (by unfold Func.isWrapper; first | (rw [if_pos (by decide +kernel)]; kernel_rfl) | (rw [if_neg (by decide +kernel)]; exact ⟨rfl, rfl⟩))
    (fun os started H enc _ => lifted os started H enc)
theorem proved : Rows.FilterChecksCardSaid :=
  Claim7.holds_tied_plain_at .later [] [.data] true (true, "73c626fe4eabbcb0cb59e325dabc2cd9995bc949708e13eecc935ddeb20f9043") false
    over (fun _ h => by cases h) (by kernel_rfl) (fun _ h => by cases h) filterChecks_row_tie rfl ⟨rfl, rfl⟩ (by kernel_rfl) rfl
    (fun f fn hf hfn => by
      obtain rfl : f = 3 := Option.some.inj ((show Tryz.prog.funcNamed "chase/chaselaw09.FilterChecks" = some 3 by kernel_rfl).symm.trans hf) |>.symm
      obtain rfl : fn = Tryz.f3 := (Option.some.inj (Tryz.func3.symm.trans hfn)).symm
      exact ⟨by kernel_rfl, fun j t ht => by
        rw [Tryz.params3] at ht
        have hm : t ∈ [23, 25, 3] := by simpa using Array.mem_of_getElem? ht
        have hall : ([23, 25, 3].all fun u => !Tryz.prog.wantsStandIn u) = true := by kernel_rfl
        exact (show Tryz.prog.wantsStandIn t = false by simpa using List.all_eq_true.1 hall t hm)⟩)
    (by kernel_rfl)
#print axioms proved
end Go.Proofs.YtcjbjemfobdkgaaGreatDoor.filterChecks
