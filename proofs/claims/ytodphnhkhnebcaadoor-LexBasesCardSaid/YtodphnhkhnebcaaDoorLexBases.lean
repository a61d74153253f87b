/- The law LexBases returns true whatever its arguments are, and they read behind the call as they read before: the given statement, a card; what the library's tables hold is tied to the program's text. No condition of its own. -/
import Derived.Test.YtodphnhkhnebcaaDoorP04
import Derived.Test.YtodphnhkhnebcaaDoorP10
import Derived.Test.YtodphnhkhnebcaaDoorRows
import Derived.Test.YtodphnhkhnebcaaDoorTie
import Derived.Test.YtodphnhkhnebcaaDoorCards
import Derived.WalkKit
import Derived.ProofKit
import Derived.LaidMore
import Derived.OpenShut
import Derived.ShutString
import Derived.ChangeOld
import Derived.Below
import Derived.SizedLaws
import Derived.Stop.Joined
import Derived.SevenTiedAt
import Derived.Lay
namespace Go.Proofs.YtodphnhkhnebcaaDoor.lexBases
open Go.ChangeShapes Go.WideShapes Go.ChangeAt Go.RowKit
open Go.ChangeMaps (open_string shut_string)
open Go.Ev
set_option linter.unusedVariables false
set_option maxRecDepth 100000 in
theorem tabOK : TabOK chkD LexBases.cx LexBases.tab := LexBases.tabOK_all
  (toLower_entry (by kernel_rfl) (fun s w h1 h2 => Tryd.strings_ToLower_ascii s w h1 h2))
  (indexByte_entry (by kernel_rfl) (fun s c w => Tryd.strings_IndexByte s c w))
  (noescape_entry Tryd.func76 (by kernel_rfl) (by kernel_rfl) (by kernel_rfl) (by kernel_rfl))
  (index1_entry (by kernel_rfl) (fun s c w => Tryd.stringslite_Index_one s c w))
theorem own : ownKnob Tryd.prog.godebug = Option.none := by kernel_rfl
theorem laidOut : laidOutB Tryd.prog = true := by kernel_rfl
def laid3 : List (String × DataW Unit) := [("unicode/utf8.acceptRanges", Rows.laid_unicode_utf8_acceptRanges), ("unicode.CaseRanges", Rows.laid_unicode_CaseRanges), ("unicode/utf8.first", Rows.laid_unicode_utf8_first)]
theorem walk (w : World) (N : Int) (K : Nat) (small : Bool) (hN0 : -2147483648 ≤ N) (hN1 : N ≤ 2147483647) (hK : K < 256) :
    Calls Tryd.prog 5 #[.int .i32 N, .int .u8 (K : Int), .bool small] w fun e w' => e = .returned (.bool true) ∧ Below w.heap.size w w' := by
  have law := bases_tells (T := LexBases.tab) LexBases.has_chaselaw03_LexBases (stNone_wf 3) hN0 hN1 hK (small := small)
  exact law_calls (X := LexBases.cx) (T := LexBases.tab) tabOK (by kernel_rfl) (k := 126) (mf := B.chaselaw03_LexBases) rfl rfl (args := [.int .i32 N, .int .u8 (K : Int), .bool small])
    (us := [.int .i32 N, .int .u8 (K : Int), .bool small]) rfl (CRes.mono law fun v s h => h.1) (sr_none 3 w)
    ⟨_, _, rfl, rfl, ⟨_, _, rfl, rfl, ⟨_, _, rfl, rfl, rfl⟩⟩⟩ own_none
set_option maxRecDepth 100000 in
theorem lifted (os : Os) (started : os.Started) (H : Type) (enc : TypeId × Value → H) :
    ReturnsInHanded {} Tryd.checked os 5 .any (fun w args => (Rows.lexBasesSpec.pre enc Tryd.prog Tryd.f5 [] false w args ∧ laidMetH Tryd.prog laid3 w) ∧ sizedMet enc Tryd.prog Tryd.f5 (OpenSpec.ofChange Rows.lexBasesSpec) false w args)
      (Rows.lexBasesSpec.post enc Tryd.prog Tryd.f5 false true false false) := by
  refine returnsInHanded_of_change_and (C := Tryd.checked) (X := fun w _ => laidMetH Tryd.prog laid3 w) (fun _ _ _ hh h => h.of_heap hh) own started (by kernel_rfl) Tryd.func5
    (ChangeSpec.witness_shaped (enc := enc) (C := Tryd.checked) (os := os) (X := fun w _ => laidMetH Tryd.prog laid3 w) false (World.laidAll Tryd.prog os laid3) #[.int .i32 0, .int .u8 0, .bool false] 8 (World.laidAll_os _ _ _)
      (World.shaped_of_ZipB (by kernel_rfl) (by kernel_rfl)) (by kernel_rfl) (by kernel_rfl) (by kernel_rfl)
      (by rw [MakeChecks.laidMetH_plain _ _ _ (by kernel_rfl)]; exact laidMet_laidAll _ (by kernel_rfl) (by kernel_rfl))) ?_
  intro W base args ds gs before hval0 hW _ hsz0 hL _
  have hval : ∀ (j : Nat) t v, Tryd.f5.params[j]? = some t → args[j]? = some v → Value.okWide Tryd.prog W .any base t v := hval0
  have hW' := hW
  obtain ⟨p, q, hA0, hV, rfl, hfz, hnd⟩ := hW
  have hA : DataW.TrodAll enc Tryd.prog W 0 (fun _ => true) true Tryd.f5.params.toList args.toList ds p := hA0
  rw [Tryd.params5] at hA hval
  obtain ⟨v0, vs0, d0, ds0, p0, q0, hargs, rfl, rfl, h0, r0⟩ := trodAll_cons hA
  obtain ⟨v1, vs1, d1, ds1, p1, q1, rfl, rfl, rfl, h1, r1⟩ := trodAll_cons r0
  obtain ⟨v2, vs2, d2, ds2, p2, q2, rfl, rfl, rfl, h2, r2⟩ := trodAll_cons r1
  obtain ⟨rfl, rfl, rfl⟩ := trodAll_nil r2
  obtain rfl : args = #[v0, v1, v2] := by cases args; simp_all
  obtain ⟨rfl, rfl⟩ := trodVars_none hV
  obtain ⟨N, rfl, rfl, rfl, wN⟩ := open_int Tryd.underlying21 (hval 0 21 v0 rfl rfl) h0
  obtain ⟨K, rfl, rfl, rfl, wK⟩ := open_int Tryd.underlying5 (hval 1 5 v1 rfl rfl) h1
  obtain ⟨small, rfl, rfl, rfl⟩ := open_bool Tryd.underlying4 (hval 2 4 v2 rfl rfl) h2
  obtain ⟨K, rfl⟩ := Int.eq_ofNat_of_zero_le (wf_u8 wK).1
  clear hA0 hval0 hsz0
  refine (walk W N K small (wf_i32 wN).1 (wf_i32 wN).2 (by have := (wf_u8 wK).2; omega)).mono fun e W' ⟨he, bel⟩ => ?_
  subst he
  exact ⟨_, rfl, _, _, _, [], _, [], hW', trodAll_mk1 (shut_bool Tryd.underlying4 _), trodAll_cons_mk (shut_int Tryd.underlying21 wN) (trodAll_cons_mk (shut_int Tryd.underlying5 wK) (trodAll_cons_mk (shut_bool Tryd.underlying4 _) trodAll_mk0)), rfl, bel.frame _, fun h => by cases h⟩
theorem over : Rows.lexBasesRow.holds Tryd.pinned (OpenSpec.ofChange Rows.lexBasesSpec) :=
  OpenClaim.holds_of_wide 5 Tryd.f5 rfl rfl rfl rfl rfl rfl rfl ⟨rfl, rfl, rfl, rfl, rfl⟩ rfl rfl rfl rfl rfl (by kernel_rfl) Tryd.func5 (by kernel_rfl)
    (of_decide_eq_true (by kernel_rfl)) (by unfold Func.isWrapper; first | (rw [if_pos (by decide +kernel)]; kernel_rfl) | (rw [if_neg (by decide +kernel)]; exact ⟨rfl, rfl⟩))
    (fun os started H enc _ => lifted os started H enc)
theorem proved : Rows.LexBasesCardSaid :=
  Claim7.holds_tied_plain_at .later [] [.data, .pinned, .pinned] true (true, "52ea1da6dd4a69e6b9eadeb4ef3339353cfeca390447343a0726293f4dff1a53") false
    over (fun _ h => by cases h) (by kernel_rfl) (fun _ h => by cases h) lexBases_row_tie rfl ⟨rfl, rfl⟩ (by kernel_rfl) rfl
    (fun f fn hf hfn => by
      obtain rfl : f = 5 := Option.some.inj ((show Tryd.prog.funcNamed "chase/chaselaw03.LexBases" = some 5 by kernel_rfl).symm.trans hf) |>.symm
      obtain rfl : fn = Tryd.f5 := (Option.some.inj (Tryd.func5.symm.trans hfn)).symm
      exact ⟨by kernel_rfl, fun j t ht => by
        rw [Tryd.params5] at ht
        have hm : t ∈ [21, 5, 4] := by simpa using Array.mem_of_getElem? ht
        have hall : ([21, 5, 4].all fun u => !Tryd.prog.wantsStandIn u) = true := by kernel_rfl
        exact (show Tryd.prog.wantsStandIn t = false by simpa using List.all_eq_true.1 hall t hm)⟩)
    (by kernel_rfl)
#print axioms proved
end Go.Proofs.YtodphnhkhnebcaaDoor.lexBases
