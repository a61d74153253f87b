/- The law LexBack returns true whatever its arguments are, and they read behind the call as they read before: the given statement, a card; what the library's tables hold is tied to the program's text. No condition of its own. -/
import Derived.Test.YtodphnhkhnebcaaDoorP04
import Derived.Test.YtodphnhkhnebcaaDoorP10
import Derived.Test.YtodphnhkhnebcaaDoorP11
import Derived.Test.YtodphnhkhnebcaaDoorRows
import Derived.Test.YtodphnhkhnebcaaDoorTie
import Derived.Test.YtodphnhkhnebcaaDoorCards
import Derived.WalkKit
import Derived.ProofKit
import Derived.LaidMore
import Derived.OpenShut
import Derived.ShutString
import Derived.ChangeOld
import Derived.Below
import Derived.SizedLaws
import Derived.Stop.Joined
import Derived.SevenTiedAt
namespace Go.Proofs.YtodphnhkhnebcaaDoor.lexBack
open Go.ChangeShapes Go.WideShapes Go.ChangeAt Go.RowKit
open Go.ChangeMaps (open_string shut_string)
open Go.Ev
set_option linter.unusedVariables false
theorem below_grow (w : World) (k : Nat) (os : Array Obj) : Below w.heap.size w (Go.Sort.grow (w.drewN k) os) :=
  ⟨rfl, rfl, rfl, by simp [Go.Sort.grow, World.drewN], fun i hi => by simp [Go.Sort.grow, World.drewN, Array.getElem?_append, hi]⟩
set_option maxRecDepth 100000 in
theorem itoaOK : EntryOK chkD LexBack.cx 132 B.E_strconv_Itoa :=
  itoa_entry (X := LexBack.cx) (by kernel_rfl) (by kernel_rfl) (fun n w h0 h1 ht => (Tryd.strconv_Itoa n h0 h1 w ht).mono fun e w' ⟨h1, k, os, h2⟩ => ⟨h1, by subst h2; exact below_grow _ _ _⟩)
set_option maxRecDepth 100000 in
theorem tabOK : TabOK chkD LexBack.cx LexBack.tab := LexBack.tabOK_all
  itoaOK
  (indexByte_entry (by kernel_rfl) (fun s c w => Tryd.strings_IndexByte s c w))
  (noescape_entry Tryd.func76 (by kernel_rfl) (by kernel_rfl) (by kernel_rfl) (by kernel_rfl))
  (index1_entry (by kernel_rfl) (fun s c w => Tryd.stringslite_Index_one s c w))
theorem own : ownKnob Tryd.prog.godebug = Option.none := by kernel_rfl
theorem laidOut : laidOutB Tryd.prog = true := by kernel_rfl
def laid3 : List (String × DataW Unit) := [("math/bits.deBruijn32tab", Rows.laid_math_bits_deBruijn32tab), ("math/bits.deBruijn64tab", Rows.laid_math_bits_deBruijn64tab), ("internal/strconv.uint64pow10", Rows.laid_internal_strconv_uint64pow10)]
theorem door_met (os : Os) (args : Array Value) : laidMetH Tryd.prog laid3 ((World.doorLaid Tryd.prog 400 os).forCall (fun _ _ => 0) ⟨#[], args, []⟩).memory :=
  laidMetH_of_parts3 (fuel := 8) (laidMet_of_run' 8 (by kernel_rfl) (by kernel_rfl)) (by kernel_rfl) (by kernel_rfl)
theorem pow10 {W : World} (h : laidMetH Tryd.prog laid3 W) : Lib.TabIs Tryd.prog W "internal/strconv.uint64pow10" .u64 Lib.pow10Tab :=
  pow_of_laid (g := 4) (t := 152) (e := 132) (n := 20) (fun h => by rw [MakeChecks.laidMetH_plain _ _ _ (by kernel_rfl)] at h; exact h) rfl (by kernel_rfl) (by kernel_rfl) (by kernel_rfl) (by kernel_rfl) (by kernel_rfl) (by kernel_rfl) h
theorem walk (w : World) (K K' : Nat) (N N' : Int) (t s m : ByteArray) (ht : t.size ≤ 140737488351232) (hs : s.size ≤ 140737488351232) (hm : m.size ≤ 140737488351232) (hK : K < 256) (hN0 : -2147483648 ≤ N) (hN1 : N ≤ 2147483647) (hK' : K' < 256) (hN0' : -2147483648 ≤ N') (hN1' : N' ≤ 2147483647) (hp : Lib.TabIs Tryd.prog w "internal/strconv.uint64pow10" .u64 Lib.pow10Tab) :
    Calls Tryd.prog 4 #[.agg #[.int .u8 (K : Int), .int .i32 N, .string t], .agg #[.int .u8 (K' : Int), .int .i32 N', .string s], .string m] w fun e w' => e = .returned (.bool true) ∧ Below w.heap.size w w' := by
  have law := back_tells (T := LexBack.tab) LexBack.has_chaselaw03_LexBack (stGlob_wf B.gPow10 powAV) stGlob_pow hK hN0 hN1 hK' hN0' hN1' (t := t.data.toList) (t' := s.data.toList) (more := m.data.toList) (by simpa using ht) (by simpa using hs) (by simpa using hm)
  exact law_calls (X := LexBack.cx) (T := LexBack.tab) tabOK (by kernel_rfl) (k := 125) (mf := B.chaselaw03_LexBack) rfl rfl (args := [.agg [.int .u8 (K : Int), .int .i32 N, .str t.data.toList], .agg [.int .u8 (K' : Int), .int .i32 N', .str s.data.toList], .str m.data.toList])
    (us := [.agg #[.int .u8 (K : Int), .int .i32 N, .string t], .agg #[.int .u8 (K' : Int), .int .i32 N', .string s], .string m]) rfl (CRes.mono law fun v s h => h.1) (sr_glob (X := LexBack.cx) (k := B.gPow10) (name := "internal/strconv.uint64pow10") (by kernel_rfl) hp)
    ⟨_, _, rfl, ⟨_, rfl, ⟨_, _, rfl, rfl, ⟨_, _, rfl, rfl, ⟨_, _, rfl, by simp [VR], rfl⟩⟩⟩⟩, ⟨_, _, rfl, ⟨_, rfl, ⟨_, _, rfl, rfl, ⟨_, _, rfl, rfl, ⟨_, _, rfl, by simp [VR], rfl⟩⟩⟩⟩, ⟨_, _, rfl, by simp [VR], rfl⟩⟩⟩ own_glob
set_option maxRecDepth 100000 in
theorem lifted (os : Os) (started : os.Started) (H : Type) (enc : TypeId × Value → H) :
    ReturnsInHanded {} Tryd.checked os 4 .any (fun w args => (Rows.lexBackSpec.pre enc Tryd.prog Tryd.f4 [] false w args ∧ laidMetH Tryd.prog laid3 w) ∧ sizedMet enc Tryd.prog Tryd.f4 (OpenSpec.ofChange Rows.lexBackSpec) false w args)
      (Rows.lexBackSpec.post enc Tryd.prog Tryd.f4 false true false false) := by
  refine returnsInHanded_of_change_and (C := Tryd.checked) (X := fun w _ => laidMetH Tryd.prog laid3 w) (fun _ _ _ hh h => h.of_heap hh) own started (by kernel_rfl) Tryd.func4
    (ChangeSpec.witness_shaped (enc := enc) (C := Tryd.checked) (os := os) (X := fun w _ => laidMetH Tryd.prog laid3 w) false (World.doorLaid Tryd.prog 400 os) #[.agg #[.int .u8 0, .int .i32 0, .string ByteArray.empty], .agg #[.int .u8 0, .int .i32 0, .string ByteArray.empty], .string ByteArray.empty] 8 rfl
      (World.shaped_of_RefB (by kernel_rfl) (by kernel_rfl)) (by kernel_rfl) (by kernel_rfl) (by kernel_rfl) (door_met os _)) ?_
  intro W base args ds gs before hval0 hW _ hsz0 hL _
  have hsz : (DataW.weightsEach Tryd.prog (Tryd.f4.params.toList ++ Rows.lexBackSpec.plain.varTypes Tryd.prog) (ds ++ gs)).all (· ≤ reachBytes) = true := hsz0
  have hval : ∀ (j : Nat) t v, Tryd.f4.params[j]? = some t → args[j]? = some v → Value.okWide Tryd.prog W .any base t v := hval0
  have hW' := hW
  obtain ⟨p, q, hA0, hV, rfl, hfz, hnd⟩ := hW
  have hA : DataW.TrodAll enc Tryd.prog W 0 (fun _ => true) true Tryd.f4.params.toList args.toList ds p := hA0
  rw [Tryd.params4] at hA hval hsz
  obtain ⟨v0, vs0, d0, ds0, p0, q0, hargs, rfl, rfl, h0, r0⟩ := trodAll_cons hA
  obtain ⟨v1, vs1, d1, ds1, p1, q1, rfl, rfl, rfl, h1, r1⟩ := trodAll_cons r0
  obtain ⟨v2, vs2, d2, ds2, p2, q2, rfl, rfl, rfl, h2, r2⟩ := trodAll_cons r1
  obtain ⟨rfl, rfl, rfl⟩ := trodAll_nil r2
  obtain rfl : args = #[v0, v1, v2] := by cases args; simp_all
  obtain ⟨rfl, rfl⟩ := trodVars_none hV
  have k0 := h0
  have lt0 : ∀ x ∈ p0, x.block < W.heap.size := by obtain ⟨m, hm⟩ := k0; exact DataW.trod_lt m _ _ _ hm
  have k1 := h1
  have lt1 : ∀ x ∈ p1, x.block < W.heap.size := by obtain ⟨m, hm⟩ := k1; exact DataW.trod_lt m _ _ _ hm
  obtain ⟨K, N, t, rfl, rfl, rfl, wK, wN⟩ := three_open Tryd.underlying25 (by kernel_rfl) (by kernel_rfl) Tryd.underlying5 Tryd.underlying21 Tryd.underlying9 (hval 0 25 v0 rfl rfl) h0
  obtain ⟨K', N', s, rfl, rfl, rfl, wK', wN'⟩ := three_open Tryd.underlying25 (by kernel_rfl) (by kernel_rfl) Tryd.underlying5 Tryd.underlying21 Tryd.underlying9 (hval 1 25 v1 rfl rfl) h1
  obtain ⟨m, rfl, rfl, rfl, y2⟩ := open_string Tryd.underlying9 (hval 2 9 v2 rfl rfl) h2
  obtain ⟨K, rfl⟩ := Int.eq_ofNat_of_zero_le (wf_u8 wK).1
  obtain ⟨K', rfl⟩ := Int.eq_ofNat_of_zero_le (wf_u8 wK').1
  have z0 : t.size ≤ 140737488351232 := by
    have z := sized_three hsz (j := 0) (t := 25) rfl Tryd.underlying25 rfl
    rw [Array.length_toList] at z
    exact z
  have z1 : s.size ≤ 140737488351232 := by
    have z := sized_three hsz (j := 1) (t := 25) rfl Tryd.underlying25 rfl
    rw [Array.length_toList] at z
    exact z
  have z2 : m.size ≤ 140737488351232 := by
    have z := sized_string hsz (j := 2) (t := 9) rfl rfl
    rw [Array.length_toList] at z
    exact z
  clear hA0 hval0 hsz0 hsz
  refine (walk W K K' N N' t s m z0 z1 z2 (by have := (wf_u8 wK).2; omega) (wf_i32 wN).1 (wf_i32 wN).2 (by have := (wf_u8 wK').2; omega) (wf_i32 wN').1 (wf_i32 wN').2 (pow10 hL)).mono fun e W' ⟨he, bel⟩ => ?_
  subst he
  exact ⟨_, rfl, _, _, _, [], _, [], hW', trodAll_mk1 (shut_bool Tryd.underlying4 _), trodAll_cons_mk (Below.trod laidOut (by kernel_rfl) (of_decide_eq_true (by kernel_rfl)) k0 bel lt0) (trodAll_cons_mk (Below.trod laidOut (by kernel_rfl) (of_decide_eq_true (by kernel_rfl)) k1 bel lt1) (trodAll_cons_mk (shut_string Tryd.underlying9 y2) trodAll_mk0)), rfl, bel.frame _, fun h => by cases h⟩
theorem over : Rows.lexBackRow.holds Tryd.pinned (OpenSpec.ofChange Rows.lexBackSpec) :=
  OpenClaim.holds_of_wide 4 Tryd.f4 rfl rfl rfl rfl rfl rfl rfl ⟨rfl, rfl, rfl, rfl, rfl⟩ rfl rfl rfl rfl rfl (by kernel_rfl) Tryd.func4 (by kernel_rfl)
    (of_decide_eq_true (by kernel_rfl)) (by unfold Func.isWrapper; first | (rw [if_pos (by decide +kernel)]; kernel_rfl) | (rw [if_neg (by decide +kernel)]; exact ⟨rfl, rfl⟩))
    (fun os started H enc _ => lifted os started H enc)
theorem proved : Rows.LexBackCardSaid :=
  Claim7.holds_tied_plain_at .later [] [.data, .data, .data] true (true, "52ea1da6dd4a69e6b9eadeb4ef3339353cfeca390447343a0726293f4dff1a53") false
    over (fun _ h => by cases h) (by kernel_rfl) (fun _ h => by cases h) lexBack_row_tie rfl ⟨rfl, rfl⟩ (by kernel_rfl) rfl
    (fun f fn hf hfn => by
      obtain rfl : f = 4 := Option.some.inj ((show Tryd.prog.funcNamed "chase/chaselaw03.LexBack" = some 4 by kernel_rfl).symm.trans hf) |>.symm
      obtain rfl : fn = Tryd.f4 := (Option.some.inj (Tryd.func4.symm.trans hfn)).symm
      exact ⟨by kernel_rfl, fun j t ht => by
        rw [Tryd.params4] at ht
        have hm : t ∈ [25, 25, 9] := by simpa using Array.mem_of_getElem? ht
        have hall : ([25, 25, 9].all fun u => !Tryd.prog.wantsStandIn u) = true := by kernel_rfl
        exact (show Tryd.prog.wantsStandIn t = false by simpa using List.all_eq_true.1 hall t hm)⟩)
    (by kernel_rfl)
#print axioms proved
end Go.Proofs.YtodphnhkhnebcaaDoor.lexBack
