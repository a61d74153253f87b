/- The law LogicTurns returns true whatever its arguments are, and they read behind the call as they read before: the given statement, a card; what the library's tables hold is tied to the program's text. No condition of its own. Printed by mkrowlog.py. -/
import Derived.Test.YtdlhjfmakdbmkaaGreatDoorP03
import Derived.Test.YtdlhjfmakdbmkaaGreatDoorP05
import Derived.Test.YtdlhjfmakdbmkaaGreatDoorP10
import Derived.Test.YtdlhjfmakdbmkaaGreatDoorP06
import Derived.Test.YtdlhjfmakdbmkaaGreatDoorRows
import Derived.Test.YtdlhjfmakdbmkaaGreatDoorTie
import Derived.Test.YtdlhjfmakdbmkaaGreatDoorCards
import Derived.WalkKit
import Derived.ProofKit
import Derived.LaidMore
import Derived.OpenShut
import Derived.ShutString
import Derived.ChangeOld
import Derived.Below
import Derived.SizedLaws
import Derived.Stop.Joined
import Derived.SevenTiedAt
import Derived.Lay
namespace Go.Proofs.YtdlhjfmakdbmkaaGreatDoor.logicTurns
open Go.ChangeShapes Go.WideShapes Go.ChangeAt Go.RowKit
open Go.ChangeMaps (open_string shut_string)
open Go.Ev
set_option linter.unusedVariables false
theorem below_grow (w : World) (k : Nat) (os : Array Obj) : Below w.heap.size w (Go.Sort.grow (w.drewN k) os) :=
  ⟨rfl, rfl, rfl, by simp [Go.Sort.grow, World.drewN], fun i hi => by simp [Go.Sort.grow, World.drewN, Array.getElem?_append, hi]⟩
set_option maxRecDepth 100000 in
theorem itoaOK : EntryOK chkD LogicTurns.cx 132 B.E_strconv_Itoa :=
  itoa_entry (X := LogicTurns.cx) (by kernel_rfl) (by kernel_rfl) (fun n w h0 h1 ht => (Tryz.strconv_Itoa n h0 h1 w ht).mono fun e w' ⟨h1, k, os, h2⟩ => ⟨h1, by subst h2; exact below_grow _ _ _⟩)
set_option maxRecDepth 100000 in
theorem tabOK : TabOK chkD LogicTurns.cx LogicTurns.tab := LogicTurns.tabOK_all
  (compare_entry (by kernel_rfl) (fun a b w => Tryz.strings_Compare a b w))
  (toUpper_entry (by kernel_rfl) (fun s w h1 h2 => Tryz.strings_ToUpper_ascii s w h1 h2))
  (formatBool_entry (by kernel_rfl) (fun b w => Tryz.strconv_FormatBool b w))
  itoaOK
  (index1_entry (by kernel_rfl) (fun s c w => Tryz.stringslite_Index_one s c w))
  (indexByte_entry (by kernel_rfl) (fun s c w => Tryz.strings_IndexByte s c w))
  (noescape_entry Tryz.func201 (by kernel_rfl) (by kernel_rfl) (by kernel_rfl) (by kernel_rfl))
theorem own : ownKnob Tryz.prog.godebug = Option.none := by kernel_rfl
theorem laidOut : laidOutB Tryz.prog = true := by kernel_rfl
def laid6 : List (String × DataW Unit) := [("math/bits.deBruijn32tab", Rows.laid_math_bits_deBruijn32tab), ("math/bits.deBruijn64tab", Rows.laid_math_bits_deBruijn64tab), ("internal/strconv.uint64pow10", Rows.laid_internal_strconv_uint64pow10), ("unicode/utf8.acceptRanges", Rows.laid_unicode_utf8_acceptRanges), ("unicode.CaseRanges", Rows.laid_unicode_CaseRanges), ("unicode/utf8.first", Rows.laid_unicode_utf8_first)]
theorem plain {W : World} (h : laidMetH Tryz.prog laid6 W) : laidMet Tryz.prog laid6 W := by rw [MakeChecks.laidMetH_plain _ _ _ (by kernel_rfl)] at h; exact h
theorem tabB {W : World} (h : laidMetH Tryz.prog laid6 W) : Lib.TabIs Tryz.prog W "math/bits.deBruijn64tab" .u8 deB64z :=
  tab2_of_laid (g := 7) (t := 296) (e := 5) (n := 64) (by kernel_rfl) (by kernel_rfl) (by kernel_rfl) (by kernel_rfl) (by kernel_rfl) (by kernel_rfl) (show laidMet Tryz.prog (_ :: ("math/bits.deBruijn64tab", Lib.tabData .u8 deB64z) :: _) W from plain h)
theorem tabP {W : World} (h : laidMetH Tryz.prog laid6 W) : Lib.TabIs Tryz.prog W "internal/strconv.uint64pow10" .u64 Lib.pow10Tab :=
  tab3_of_laid (g := 3) (t := 259) (e := 159) (n := 20) (by kernel_rfl) (by kernel_rfl) (by kernel_rfl) (by kernel_rfl) (by kernel_rfl) (by kernel_rfl) (show laidMet Tryz.prog (_ :: _ :: ("internal/strconv.uint64pow10", Lib.tabData .u64 Lib.pow10Tab) :: _) W from plain h)
theorem walk (w : World) (hL : laidMetH Tryz.prog laid6 w) (o0 : Ob) (s0 : ByteArray) (e0 : o0.t = s0.data.toList) :
    Calls Tryz.prog 7 #[.agg #[.int .i64 o0.k, .bool o0.x, .int .i64 o0.n, .string s0, .int .i64 o0.r, .int .i64 o0.o, .int .i64 o0.l]] w fun e w' => e = .returned (.bool true) ∧ Below w.heap.size w w' := by
  obtain ⟨N, hr, how⟩ := sr14 (X := LogicTurns.cx) (by kernel_rfl) (by kernel_rfl) (tabB hL) (tabP hL)
  have law := turns14_res (T := LogicTurns.tab) LogicTurns.has_chaselaw14_LogicTurns st14_wf st14_pow st14_bru o0
  have vrO0 : VR LogicTurns.cx N o0.v (.agg #[.int .i64 o0.k, .bool o0.x, .int .i64 o0.n, .string s0, .int .i64 o0.r, .int .i64 o0.o, .int .i64 o0.l]) := by
    refine ⟨_, rfl, ?_⟩
    simp [Ob.A, VRs, VR, e0]
  exact law_calls (X := LogicTurns.cx) (T := LogicTurns.tab) tabOK (by kernel_rfl) (k := 293) (mf := B.chaselaw14_LogicTurns) rfl rfl (args := [o0.v])
    (us := [.agg #[.int .i64 o0.k, .bool o0.x, .int .i64 o0.n, .string s0, .int .i64 o0.r, .int .i64 o0.o, .int .i64 o0.l]]) rfl (CRes.mono law fun v s h => h.1) hr (⟨_, _, rfl, vrO0, rfl⟩) how
set_option maxRecDepth 100000 in
theorem lifted (os : Os) (started : os.Started) (H : Type) (enc : TypeId × Value → H) :
    ReturnsInHanded {} Tryz.checked os 7 .any (fun w args => (Rows.logicTurnsSpec.pre enc Tryz.prog Tryz.f7 [] false w args ∧ laidMetH Tryz.prog laid6 w) ∧ sizedMet enc Tryz.prog Tryz.f7 (OpenSpec.ofChange Rows.logicTurnsSpec) false w args)
      (Rows.logicTurnsSpec.post enc Tryz.prog Tryz.f7 false true false false) := by
  refine returnsInHanded_of_change_and (C := Tryz.checked) (X := fun w _ => laidMetH Tryz.prog laid6 w) (fun _ _ _ hh h => h.of_heap hh) own started (by kernel_rfl) Tryz.func7
    (ChangeSpec.witness_shaped (enc := enc) (C := Tryz.checked) (os := os) (X := fun w _ => laidMetH Tryz.prog laid6 w) false (World.laidAll Tryz.prog os laid6) #[.agg #[.int .i64 0, .bool false, .int .i64 0, .string ByteArray.empty, .int .i64 0, .int .i64 0, .int .i64 0]] 8 (World.laidAll_os _ _ _)
      (World.shaped_of_ZipB (by kernel_rfl) (by kernel_rfl)) (by kernel_rfl) (by kernel_rfl) (by kernel_rfl)
      (by rw [MakeChecks.laidMetH_plain _ _ _ (by kernel_rfl)]; exact laidMet_laidAll _ (by kernel_rfl) (by kernel_rfl))) ?_
  intro W base args ds gs before hval0 hW _ hsz0 hL _
  have hval : ∀ (j : Nat) t v, Tryz.f7.params[j]? = some t → args[j]? = some v → Value.okWide Tryz.prog W .any base t v := hval0
  have hW' := hW
  obtain ⟨p, q, hA0, hV, rfl, hfz, hnd⟩ := hW
  have hA : DataW.TrodAll enc Tryz.prog W 0 (fun _ => true) true Tryz.f7.params.toList args.toList ds p := hA0
  rw [Tryz.params7] at hA hval
  obtain ⟨v0, vs0, d0, ds0, p0, q0, hargs, rfl, rfl, h0, r0⟩ := trodAll_cons hA
  obtain ⟨rfl, rfl, rfl⟩ := trodAll_nil r0
  obtain rfl : args = #[v0] := by cases args; simp_all
  obtain ⟨rfl, rfl⟩ := trodVars_none hV
  have k0 := h0
  have lt0 : ∀ x ∈ p0, x.block < W.heap.size := by obtain ⟨m, hm⟩ := k0; exact DataW.trod_lt m _ _ _ hm
  obtain ⟨k_0, n_0, r_0, o_0, l_0, x_0, s_0, rfl, rfl, rfl⟩ := obj_open Tryz.underlying48 (by kernel_rfl) (by kernel_rfl) (by kernel_rfl) (by kernel_rfl) (by kernel_rfl) (by kernel_rfl) (by kernel_rfl) (by kernel_rfl) (by kernel_rfl) (hval 0 48 v0 rfl rfl) h0
  clear hA0 hval0 hsz0
  refine (walk W hL ⟨k_0, x_0, n_0, s_0.data.toList, r_0, o_0, l_0⟩ s_0 rfl).mono fun e W' ⟨he, bel⟩ => ?_
  subst he
  exact ⟨_, rfl, _, _, _, [], _, [], hW', trodAll_mk1 (shut_bool Tryz.underlying4 _), trodAll_cons_mk (Below.trod laidOut (by kernel_rfl) (of_decide_eq_true (by kernel_rfl)) k0 bel lt0) trodAll_mk0, rfl, bel.frame _, fun h => by cases h⟩
theorem over : Rows.logicTurnsRow.holds Tryz.pinned (OpenSpec.ofChange Rows.logicTurnsSpec) :=
  OpenClaim.holds_of_wide 7 Tryz.f7 rfl rfl rfl rfl rfl rfl rfl ⟨rfl, rfl, rfl, rfl, rfl⟩ rfl rfl rfl rfl rfl (by kernel_rfl) Tryz.func7 (by kernel_rfl)
    (of_decide_eq_true (by kernel_rfl)) (by unfold Func.isWrapper; first | (rw [if_pos (by decide +kernel)]; kernel_rfl) | (rw [if_neg (by decide +kernel)]; exact ⟨rfl, rfl⟩))
    (fun os started H enc _ => lifted os started H enc)
theorem proved : Rows.LogicTurnsCardSaid :=
  Claim7.holds_tied_plain_at .later [] [.data, .data, .data, .data, .pinned, .pinned] true (true, "2f44a24deaf24122f0868da2d46fde64df1e1dde7ef37a44f0d62e2e12ad3e1e") false
    over (fun _ h => by cases h) (by kernel_rfl) (fun _ h => by cases h) logicTurns_row_tie rfl ⟨rfl, rfl⟩ (by kernel_rfl) rfl
    (fun f fn hf hfn => by
      obtain rfl : f = 7 := Option.some.inj ((show Tryz.prog.funcNamed "chase/chaselaw14.LogicTurns" = some 7 by kernel_rfl).symm.trans hf) |>.symm
      obtain rfl : fn = Tryz.f7 := (Option.some.inj (Tryz.func7.symm.trans hfn)).symm
      exact ⟨by kernel_rfl, fun j t ht => by
        rw [Tryz.params7] at ht
        have hm : t ∈ [48] := by simpa using Array.mem_of_getElem? ht
        have hall : ([48].all fun u => !Tryz.prog.wantsStandIn u) = true := by kernel_rfl
        exact (show Tryz.prog.wantsStandIn t = false by simpa using List.all_eq_true.1 hall t hm)⟩)
    (by kernel_rfl)
#print axioms proved
end Go.Proofs.YtdlhjfmakdbmkaaGreatDoor.logicTurns
