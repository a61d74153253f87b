/- The law ScanSpaces returns true whatever its arguments are, and they read behind the call as they read before: the given statement, a card; what the library's tables hold is tied to the program's text. No condition of its own. -/
import Derived.Test.YthckfhllgpfidaaGreatDoorP03
import Derived.Test.YthckfhllgpfidaaGreatDoorP07
import Derived.Test.YthckfhllgpfidaaGreatDoorP10
import Derived.Test.YthckfhllgpfidaaGreatDoorRows
import Derived.Test.YthckfhllgpfidaaGreatDoorTie
import Derived.Test.YthckfhllgpfidaaGreatDoorCards
import Derived.WalkKit
import Derived.ProofKit
import Derived.LaidMore
import Derived.OpenShut
import Derived.ShutString
import Derived.ChangeOld
import Derived.Below
import Derived.SizedLaws
import Derived.Stop.Joined
import Derived.SevenTiedAt
namespace Go.Proofs.YthckfhllgpfidaaGreatDoor.scanSpaces
open Go.ChangeShapes Go.WideShapes Go.ChangeAt Go.RowKit
open Go.ChangeMaps (open_string shut_string)
open Go.Ev
set_option linter.unusedVariables false
theorem below_grow (w : World) (k : Nat) (os : Array Obj) : Below w.heap.size w (Go.Sort.grow (w.drewN k) os) :=
  ⟨rfl, rfl, rfl, by simp [Go.Sort.grow, World.drewN], fun i hi => by simp [Go.Sort.grow, World.drewN, Array.getElem?_append, hi]⟩
set_option maxRecDepth 100000 in
theorem joinOK : EntryOK chkD ScanSpaces.cx 179 B.E_strings_Join :=
  join_entry (X := ScanSpaces.cx) (by kernel_rfl) (fun sep w => Tryz.strings_Join_none Option.none 0 sep w) (fun bk o c xs sep w h1 h2 h3 h4 h5 => Tryz.strings_Join bk o c xs sep w h1 h2 h3 h4 h5)
set_option maxRecDepth 100000 in
theorem itoaOK : EntryOK chkD ScanSpaces.cx 132 B.E_strconv_Itoa :=
  itoa_entry (X := ScanSpaces.cx) (by kernel_rfl) (by kernel_rfl) (fun n w h0 h1 ht => (Tryz.strconv_Itoa n h0 h1 w ht).mono fun e w' ⟨h1, k, os, h2⟩ => ⟨h1, by subst h2; exact below_grow _ _ _⟩)
set_option maxRecDepth 100000 in
theorem tabOK : TabOK chkD ScanSpaces.cx ScanSpaces.tab := ScanSpaces.tabOK_all
  joinOK
  itoaOK
  (noescape_entry Tryz.func79 (by kernel_rfl) (by kernel_rfl) (by kernel_rfl) (by kernel_rfl))
  (indexByte_entry (by kernel_rfl) (fun s c w => Tryz.strings_IndexByte s c w))
  (index1_entry (by kernel_rfl) (fun s c w => Tryz.stringslite_Index_one s c w))
theorem own : ownKnob Tryz.prog.godebug = Option.none := by kernel_rfl
theorem laidOut : laidOutB Tryz.prog = true := by kernel_rfl
def laid3 : List (String × DataW Unit) := [("math/bits.deBruijn32tab", Rows.laid_math_bits_deBruijn32tab), ("math/bits.deBruijn64tab", Rows.laid_math_bits_deBruijn64tab), ("internal/strconv.uint64pow10", Rows.laid_internal_strconv_uint64pow10)]
theorem door_met (os : Os) (args : Array Value) : laidMetH Tryz.prog laid3 ((World.doorLaid Tryz.prog 400 os).forCall (fun _ _ => 0) ⟨#[], args, []⟩).memory :=
  laidMetH_of_parts3 (fuel := 8) (laidMet_of_run' 8 (by kernel_rfl) (by kernel_rfl)) (by kernel_rfl) (by kernel_rfl)
theorem pow10 {W : World} (h : laidMetH Tryz.prog laid3 W) : Lib.TabIs Tryz.prog W "internal/strconv.uint64pow10" .u64 Lib.pow10Tab :=
  pow_of_laid (g := 1) (t := 201) (e := 120) (n := 20) (fun h => by rw [MakeChecks.laidMetH_plain _ _ _ (by kernel_rfl)] at h; exact h) rfl (by kernel_rfl) (by kernel_rfl) (by kernel_rfl) (by kernel_rfl) (by kernel_rfl) (by kernel_rfl) h
set_option maxRecDepth 1000000 in
theorem works_two (c1 c2 : List AV) : CRes (call ScanSpaces.tab (.fn 157 [] []) [] ⟨[(4, .glob B.gPow10 powAV), (3, .ro c2), (2, .ro c1)], 5⟩) fun v s => v = .bool true ∧ Ext ⟨[(4, .glob B.gPow10 powAV), (3, .ro c2), (2, .ro c1)], 5⟩ s :=
  closed_res (n := 3000) (mf := B.chaselaw04_works) rfl rfl rfl rfl (by kernel_rfl)
theorem walk (w : World) (hp : Lib.TabIs Tryz.prog w "internal/strconv.uint64pow10" .u64 Lib.pow10Tab) (v0 : Value) (l0 : List Dra) (hs0 : SliceD ScanSpaces.cx w v0 3 l0.length (drasA l0)) (hk0 : ∀ d ∈ l0, d.ok) (v1 : Value) (l1 : List (List UInt8)) (hs1 : SliceD ScanSpaces.cx w v1 1 l1.length (strsX l1)) (hl1 : l1.length < 9223372036854775808) :
    Calls Tryz.prog 7 #[v0, v1] w fun e w' => e = .returned (.bool true) ∧ Below w.heap.size w w' := by
  have hb0 := tab_block (X := ScanSpaces.cx) (k := B.gPow10) (name := "internal/strconv.uint64pow10") (by kernel_rfl) hp
  obtain ⟨N1, c1, sv0, hr1, how1, le1, hv0, r0⟩ := add_slice (sr_none 2 w) own_none hb0 hs0
  have wf1 : St.Wf ⟨[(2, .ro c1)], 3⟩ := wf_add (st := ⟨[], 2⟩) (stNone_wf 2) (Nat.succ_pos _)
  obtain ⟨N2, c2, sv1, hr2, how2, le2, hv1, r1⟩ := add_slice hr1 how1 hb0 hs1
  have wf2 : St.Wf ⟨[(3, .ro c2), (2, .ro c1)], 4⟩ := wf_add wf1 (Nat.succ_pos _)
  obtain ⟨N3, hr3, how3, le3⟩ := sr_pow (X := ScanSpaces.cx) (k := B.gPow10) (name := "internal/strconv.uint64pow10") (by kernel_rfl) hp hr2 how2
  have wf3 : St.Wf ⟨[(4, .glob B.gPow10 powAV), (3, .ro c2), (2, .ro c1)], 5⟩ := wf_add wf2 (Nat.succ_pos _)
  have x2 : Ext ⟨[(2, .ro c1)], 3⟩ ⟨[(3, .ro c2), (2, .ro c1)], 4⟩ := Ext.new wf1 (.ro c2)
  have x3 : Ext ⟨[(3, .ro c2), (2, .ro c1)], 4⟩ ⟨[(4, .glob B.gPow10 powAV), (3, .ro c2), (2, .ro c1)], 5⟩ := Ext.new wf2 (.glob B.gPow10 powAV)
  have rd0 : Rd ((4, AObj.glob B.gPow10 powAV) :: (3, .ro c2) :: [(2, .ro c1)]) sv0 3 l0.length (drasA l0) := r0.ext (x2.trans x3) wf1
  have rd1 : Rd ((4, AObj.glob B.gPow10 powAV) :: (3, .ro c2) :: [(2, .ro c1)]) sv1 1 l1.length (strsX l1) := r1.ext x3 wf2
  have law := spaces_res (T := ScanSpaces.tab) ScanSpaces.has_chaselaw04_ScanSpaces wf3 (pow_glob _ _ _) ⟨rd0, hk0⟩ rd1 hl1 (works_two c1 c2)
  exact law_calls (X := ScanSpaces.cx) (T := ScanSpaces.tab) tabOK (by kernel_rfl) (k := 154) (mf := B.chaselaw04_ScanSpaces) rfl rfl (args := [sv0, sv1])
    (us := [v0, v1]) rfl law hr3 (⟨_, _, rfl, VR.mono (le2.trans le3) _ hv0, ⟨_, _, rfl, VR.mono le3 _ hv1, rfl⟩⟩) how3
set_option maxRecDepth 100000 in
theorem lifted (os : Os) (started : os.Started) (H : Type) (enc : TypeId × Value → H) :
    ReturnsInHanded {} Tryz.checked os 7 .any (fun w args => (Rows.scanSpacesSpec.pre enc Tryz.prog Tryz.f7 [] false w args ∧ laidMetH Tryz.prog laid3 w) ∧ sizedMet enc Tryz.prog Tryz.f7 (OpenSpec.ofChange Rows.scanSpacesSpec) false w args)
      (Rows.scanSpacesSpec.post enc Tryz.prog Tryz.f7 false true false false) := by
  refine returnsInHanded_of_change_and (C := Tryz.checked) (X := fun w _ => laidMetH Tryz.prog laid3 w) (fun _ _ _ hh h => h.of_heap hh) own started (by kernel_rfl) Tryz.func7
    (ChangeSpec.witness_shaped (enc := enc) (C := Tryz.checked) (os := os) (X := fun w _ => laidMetH Tryz.prog laid3 w) false (World.doorLaid Tryz.prog 400 os) #[.slice none 0 0, .slice none 0 0] 8 rfl
      (World.shaped_of_RefB (by kernel_rfl) (by kernel_rfl)) (by kernel_rfl) (by kernel_rfl) (by kernel_rfl) (door_met os _)) ?_
  intro W base args ds gs before hval0 hW _ hsz0 hL _
  have hsz : (DataW.weightsEach Tryz.prog (Tryz.f7.params.toList ++ Rows.scanSpacesSpec.plain.varTypes Tryz.prog) (ds ++ gs)).all (· ≤ reachBytes) = true := hsz0
  have hval : ∀ (j : Nat) t v, Tryz.f7.params[j]? = some t → args[j]? = some v → Value.okWide Tryz.prog W .any base t v := hval0
  have hW' := hW
  obtain ⟨p, q, hA0, hV, rfl, hfz, hnd⟩ := hW
  have hA : DataW.TrodAll enc Tryz.prog W 0 (fun _ => true) true Tryz.f7.params.toList args.toList ds p := hA0
  rw [Tryz.params7] at hA hval hsz
  obtain ⟨v0, vs0, d0, ds0, p0, q0, hargs, rfl, rfl, h0, r0⟩ := trodAll_cons hA
  obtain ⟨v1, vs1, d1, ds1, p1, q1, rfl, rfl, rfl, h1, r1⟩ := trodAll_cons r0
  obtain ⟨rfl, rfl, rfl⟩ := trodAll_nil r1
  obtain rfl : args = #[v0, v1] := by cases args; simp_all
  obtain ⟨rfl, rfl⟩ := trodVars_none hV
  have k0 := h0
  have lt0 : ∀ x ∈ p0, x.block < W.heap.size := by obtain ⟨m, hm⟩ := k0; exact DataW.trod_lt m _ _ _ hm
  obtain ⟨l0, z0, y0⟩ := drafts_data (X := ScanSpaces.cx) (P := Tryz.prog) (td := 74) (tsl := 32) Tryz.underlying74 rfl rfl rfl (by kernel_rfl) (by kernel_rfl) (by kernel_rfl) (by kernel_rfl) Tryz.underlying5 Tryz.underlying21 Tryz.underlying9 Tryz.underlying32 (hval 0 32 v0 rfl rfl) h0
  have k1 := h1
  have lt1 : ∀ x ∈ p1, x.block < W.heap.size := by obtain ⟨m, hm⟩ := k1; exact DataW.trod_lt m _ _ _ hm
  obtain ⟨l1, z1, y1⟩ := strs_data (X := ScanSpaces.cx) (P := Tryz.prog) (te := 9) (tsl := 58) Tryz.underlying9 (by kernel_rfl) Tryz.underlying58 (hval 1 58 v1 rfl rfl) h1
  clear hA0 hval0 hsz0
  refine (walk W (pow10 hL) v0 l0 z0 y0 v1 l1 z1 y1).mono fun e W' ⟨he, bel⟩ => ?_
  subst he
  exact ⟨_, rfl, _, _, _, [], _, [], hW', trodAll_mk1 (shut_bool Tryz.underlying4 _), trodAll_cons_mk (Below.trod laidOut (by kernel_rfl) (of_decide_eq_true (by kernel_rfl)) k0 bel lt0) (trodAll_cons_mk (Below.trod laidOut (by kernel_rfl) (of_decide_eq_true (by kernel_rfl)) k1 bel lt1) trodAll_mk0), rfl, bel.frame _, fun h => by cases h⟩
theorem over : Rows.scanSpacesRow.holds Tryz.pinned (OpenSpec.ofChange Rows.scanSpacesSpec) :=
  OpenClaim.holds_of_wide 7 Tryz.f7 rfl rfl rfl rfl rfl rfl rfl ⟨rfl, rfl, rfl, rfl, rfl⟩ rfl rfl rfl rfl rfl (by kernel_rfl) Tryz.func7 (by kernel_rfl)
    (of_decide_eq_true (by kernel_rfl)) (by unfold Func.isWrapper; first | (rw [if_pos (by decide +kernel)]; kernel_rfl) | (rw [if_neg (by decide +kernel)]; exact ⟨rfl, rfl⟩))
    (fun os started H enc _ => lifted os started H enc)
theorem proved : Rows.ScanSpacesCardSaid :=
  Claim7.holds_tied_plain_at .later [] [.data, .data, .data] true (true, "b620d7d99bd304bd5b1ef685d383035002741168776b1069508e91bb65ed3e70") false
    over (fun _ h => by cases h) (by kernel_rfl) (fun _ h => by cases h) scanSpaces_row_tie rfl ⟨rfl, rfl⟩ (by kernel_rfl) rfl
    (fun f fn hf hfn => by
      obtain rfl : f = 7 := Option.some.inj ((show Tryz.prog.funcNamed "chase/chaselaw04.ScanSpaces" = some 7 by kernel_rfl).symm.trans hf) |>.symm
      obtain rfl : fn = Tryz.f7 := (Option.some.inj (Tryz.func7.symm.trans hfn)).symm
      exact ⟨by kernel_rfl, fun j t ht => by
        rw [Tryz.params7] at ht
        have hm : t ∈ [32, 58] := by simpa using Array.mem_of_getElem? ht
        have hall : ([32, 58].all fun u => !Tryz.prog.wantsStandIn u) = true := by kernel_rfl
        exact (show Tryz.prog.wantsStandIn t = false by simpa using List.all_eq_true.1 hall t hm)⟩)
    (by kernel_rfl)
#print axioms proved
end Go.Proofs.YthckfhllgpfidaaGreatDoor.scanSpaces
