/- The law LogicKnown returns true whatever its arguments are, and they read behind the call as they read before: the given statement, a card; what the library's tables hold is tied to the program's text. No condition of its own. Printed by mkrowlog.py. -/
import Derived.Test.YtdlhjfmakdbmkaaGreatDoorP03
import Derived.Test.YtdlhjfmakdbmkaaGreatDoorP05
import Derived.Test.YtdlhjfmakdbmkaaGreatDoorP10
import Derived.Test.YtdlhjfmakdbmkaaGreatDoorP06
import Derived.Test.YtdlhjfmakdbmkaaGreatDoorP11
import Derived.Test.YtdlhjfmakdbmkaaGreatDoorRows
import Derived.Test.YtdlhjfmakdbmkaaGreatDoorTie
import Derived.Test.YtdlhjfmakdbmkaaGreatDoorCards
import Derived.WalkKit
import Derived.ProofKit
import Derived.LaidMore
import Derived.OpenShut
import Derived.ShutString
import Derived.ChangeOld
import Derived.Below
import Derived.SizedLaws
import Derived.Stop.Joined
import Derived.SevenTiedAt
import Derived.Lay
namespace Go.Proofs.YtdlhjfmakdbmkaaGreatDoor.logicKnown
open Go.ChangeShapes Go.WideShapes Go.ChangeAt Go.RowKit
open Go.ChangeMaps (open_string shut_string)
open Go.Ev
set_option linter.unusedVariables false
theorem below_grow (w : World) (k : Nat) (os : Array Obj) : Below w.heap.size w (Go.Sort.grow (w.drewN k) os) :=
  ⟨rfl, rfl, rfl, by simp [Go.Sort.grow, World.drewN], fun i hi => by simp [Go.Sort.grow, World.drewN, Array.getElem?_append, hi]⟩
set_option maxRecDepth 100000 in
theorem itoaOK : EntryOK chkD LogicKnown.cx 132 B.E_strconv_Itoa :=
  itoa_entry (X := LogicKnown.cx) (by kernel_rfl) (by kernel_rfl) (fun n w h0 h1 ht => (Tryz.strconv_Itoa n h0 h1 w ht).mono fun e w' ⟨h1, k, os, h2⟩ => ⟨h1, by subst h2; exact below_grow _ _ _⟩)
set_option maxRecDepth 100000 in
theorem tabOK : TabOK chkD LogicKnown.cx LogicKnown.tab := LogicKnown.tabOK_all
  (compare_entry (by kernel_rfl) (fun a b w => Tryz.strings_Compare a b w))
  (toUpper_entry (by kernel_rfl) (fun s w h1 h2 => Tryz.strings_ToUpper_ascii s w h1 h2))
  (formatBool_entry (by kernel_rfl) (fun b w => Tryz.strconv_FormatBool b w))
  itoaOK
  (noescape_entry Tryz.func201 (by kernel_rfl) (by kernel_rfl) (by kernel_rfl) (by kernel_rfl))
  (index1_entry (by kernel_rfl) (fun s c w => Tryz.stringslite_Index_one s c w))
  (indexByte_entry (by kernel_rfl) (fun s c w => Tryz.strings_IndexByte s c w))
theorem own : ownKnob Tryz.prog.godebug = Option.none := by kernel_rfl
theorem laidOut : laidOutB Tryz.prog = true := by kernel_rfl
def laid6 : List (String × DataW Unit) := [("math/bits.deBruijn32tab", Rows.laid_math_bits_deBruijn32tab), ("math/bits.deBruijn64tab", Rows.laid_math_bits_deBruijn64tab), ("internal/strconv.uint64pow10", Rows.laid_internal_strconv_uint64pow10), ("unicode/utf8.acceptRanges", Rows.laid_unicode_utf8_acceptRanges), ("unicode.CaseRanges", Rows.laid_unicode_CaseRanges), ("unicode/utf8.first", Rows.laid_unicode_utf8_first)]
theorem plain {W : World} (h : laidMetH Tryz.prog laid6 W) : laidMet Tryz.prog laid6 W := by rw [MakeChecks.laidMetH_plain _ _ _ (by kernel_rfl)] at h; exact h
theorem tabB {W : World} (h : laidMetH Tryz.prog laid6 W) : Lib.TabIs Tryz.prog W "math/bits.deBruijn64tab" .u8 deB64z :=
  tab2_of_laid (g := 7) (t := 296) (e := 5) (n := 64) (by kernel_rfl) (by kernel_rfl) (by kernel_rfl) (by kernel_rfl) (by kernel_rfl) (by kernel_rfl) (show laidMet Tryz.prog (_ :: ("math/bits.deBruijn64tab", Lib.tabData .u8 deB64z) :: _) W from plain h)
theorem tabP {W : World} (h : laidMetH Tryz.prog laid6 W) : Lib.TabIs Tryz.prog W "internal/strconv.uint64pow10" .u64 Lib.pow10Tab :=
  tab3_of_laid (g := 3) (t := 259) (e := 159) (n := 20) (by kernel_rfl) (by kernel_rfl) (by kernel_rfl) (by kernel_rfl) (by kernel_rfl) (by kernel_rfl) (show laidMet Tryz.prog (_ :: _ :: ("internal/strconv.uint64pow10", Lib.tabData .u64 Lib.pow10Tab) :: _) W from plain h)
theorem walk (w : World) (hL : laidMetH Tryz.prog laid6 w)  :
    Calls Tryz.prog 9 #[] w fun e w' => e = .returned (.bool true) ∧ Below w.heap.size w w' := by
  obtain ⟨N, hr, how⟩ := sr14 (X := LogicKnown.cx) (by kernel_rfl) (by kernel_rfl) (tabB hL) (tabP hL)
  have law := known14_res (T := LogicKnown.tab) LogicKnown.has_chaselaw14_LogicKnown st14_wf st14_pow st14_bru 
  exact law_calls (X := LogicKnown.cx) (T := LogicKnown.tab) tabOK (by kernel_rfl) (k := 296) (mf := B.chaselaw14_LogicKnown) rfl rfl (args := [])
    (us := []) rfl (CRes.mono law fun v s h => h.1) hr (rfl) how
set_option maxRecDepth 100000 in
theorem lifted (os : Os) (started : os.Started) (H : Type) (enc : TypeId × Value → H) :
    ReturnsInHanded {} Tryz.checked os 9 .any (fun w args => (Rows.logicKnownSpec.pre enc Tryz.prog Tryz.f9 [] false w args ∧ laidMetH Tryz.prog laid6 w) ∧ sizedMet enc Tryz.prog Tryz.f9 (OpenSpec.ofChange Rows.logicKnownSpec) false w args)
      (Rows.logicKnownSpec.post enc Tryz.prog Tryz.f9 false true false false) := by
  refine returnsInHanded_of_change_and (C := Tryz.checked) (X := fun w _ => laidMetH Tryz.prog laid6 w) (fun _ _ _ hh h => h.of_heap hh) own started (by kernel_rfl) Tryz.func9
    (ChangeSpec.witness_shaped (enc := enc) (C := Tryz.checked) (os := os) (X := fun w _ => laidMetH Tryz.prog laid6 w) false (World.laidAll Tryz.prog os laid6) #[] 8 (World.laidAll_os _ _ _)
      (World.shaped_of_ZipB (by kernel_rfl) (by kernel_rfl)) (by kernel_rfl) (by kernel_rfl) (by kernel_rfl)
      (by rw [MakeChecks.laidMetH_plain _ _ _ (by kernel_rfl)]; exact laidMet_laidAll _ (by kernel_rfl) (by kernel_rfl))) ?_
  intro W base args ds gs before hval0 hW _ hsz0 hL _
  have hval : ∀ (j : Nat) t v, Tryz.f9.params[j]? = some t → args[j]? = some v → Value.okWide Tryz.prog W .any base t v := hval0
  have hW' := hW
  obtain ⟨p, q, hA0, hV, rfl, hfz, hnd⟩ := hW
  have hA : DataW.TrodAll enc Tryz.prog W 0 (fun _ => true) true Tryz.f9.params.toList args.toList ds p := hA0
  rw [Tryz.params9] at hA hval
  obtain ⟨hargs, rfl, rfl⟩ := trodAll_nil hA
  obtain rfl : args = #[] := by cases args; simp_all
  obtain ⟨rfl, rfl⟩ := trodVars_none hV
  clear hA0 hval0 hsz0
  refine (walk W hL ).mono fun e W' ⟨he, bel⟩ => ?_
  subst he
  exact ⟨_, rfl, _, _, _, [], _, [], hW', trodAll_mk1 (shut_bool Tryz.underlying4 _), trodAll_mk0, rfl, bel.frame _, fun h => by cases h⟩
theorem over : Rows.logicKnownRow.holds Tryz.pinned (OpenSpec.ofChange Rows.logicKnownSpec) :=
  OpenClaim.holds_of_wide 9 Tryz.f9 rfl rfl rfl rfl rfl rfl rfl ⟨rfl, rfl, rfl, rfl, rfl⟩ rfl rfl rfl rfl rfl (by kernel_rfl) Tryz.func9 (by kernel_rfl)
    (of_decide_eq_true (by kernel_rfl)) (by unfold Func.isWrapper; first | (rw [if_pos (by decide +kernel)]; kernel_rfl) | (rw [if_neg (by decide +kernel)]; exact ⟨rfl, rfl⟩))
    (fun os started H enc _ => lifted os started H enc)
theorem proved : Rows.LogicKnownCardSaid :=
  Claim7.holds_tied_plain_at .later [] [.data, .data, .data, .data, .pinned, .pinned] true (true, "2f44a24deaf24122f0868da2d46fde64df1e1dde7ef37a44f0d62e2e12ad3e1e") false
    over (fun _ h => by cases h) (by kernel_rfl) (fun _ h => by cases h) logicKnown_row_tie rfl ⟨rfl, rfl⟩ (by kernel_rfl) rfl
    (fun f fn hf hfn => by
      obtain rfl : f = 9 := Option.some.inj ((show Tryz.prog.funcNamed "chase/chaselaw14.LogicKnown" = some 9 by kernel_rfl).symm.trans hf) |>.symm
      obtain rfl : fn = Tryz.f9 := (Option.some.inj (Tryz.func9.symm.trans hfn)).symm
      exact ⟨by kernel_rfl, fun j t ht => by
        rw [Tryz.params9] at ht
        simp at ht⟩)
    (by kernel_rfl)
#print axioms proved
end Go.Proofs.YtdlhjfmakdbmkaaGreatDoor.logicKnown
