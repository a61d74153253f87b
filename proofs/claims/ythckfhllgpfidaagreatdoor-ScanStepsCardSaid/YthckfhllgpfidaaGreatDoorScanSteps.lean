/- The law ScanSteps returns true whatever its arguments are, and they read behind the call as they read before: the given statement, a card; what the library's tables hold is tied to the program's text. No condition of its own. -/
import Derived.Test.YthckfhllgpfidaaGreatDoorP03
import Derived.Test.YthckfhllgpfidaaGreatDoorP07
import Derived.Test.YthckfhllgpfidaaGreatDoorP10
import Derived.Test.YthckfhllgpfidaaGreatDoorRows
import Derived.Test.YthckfhllgpfidaaGreatDoorTie
import Derived.Test.YthckfhllgpfidaaGreatDoorCards
import Derived.WalkKit
import Derived.ProofKit
import Derived.LaidMore
import Derived.OpenShut
import Derived.ShutString
import Derived.ChangeOld
import Derived.Below
import Derived.SizedLaws
import Derived.Stop.Joined
import Derived.SevenTiedAt
namespace Go.Proofs.YthckfhllgpfidaaGreatDoor.scanSteps
open Go.ChangeShapes Go.WideShapes Go.ChangeAt Go.RowKit
open Go.ChangeMaps (open_string shut_string)
open Go.Ev
set_option linter.unusedVariables false
theorem below_grow (w : World) (k : Nat) (os : Array Obj) : Below w.heap.size w (Go.Sort.grow (w.drewN k) os) :=
  ⟨rfl, rfl, rfl, by simp [Go.Sort.grow, World.drewN], fun i hi => by simp [Go.Sort.grow, World.drewN, Array.getElem?_append, hi]⟩
set_option maxRecDepth 100000 in
theorem joinOK : EntryOK chkD ScanSteps.cx 179 B.E_strings_Join :=
  join_entry (X := ScanSteps.cx) (by kernel_rfl) (fun sep w => Tryz.strings_Join_none Option.none 0 sep w) (fun bk o c xs sep w h1 h2 h3 h4 h5 => Tryz.strings_Join bk o c xs sep w h1 h2 h3 h4 h5)
set_option maxRecDepth 100000 in
theorem itoaOK : EntryOK chkD ScanSteps.cx 132 B.E_strconv_Itoa :=
  itoa_entry (X := ScanSteps.cx) (by kernel_rfl) (by kernel_rfl) (fun n w h0 h1 ht => (Tryz.strconv_Itoa n h0 h1 w ht).mono fun e w' ⟨h1, k, os, h2⟩ => ⟨h1, by subst h2; exact below_grow _ _ _⟩)
set_option maxRecDepth 100000 in
theorem tabOK : TabOK chkD ScanSteps.cx ScanSteps.tab := ScanSteps.tabOK_all
  joinOK
  itoaOK
  (indexByte_entry (by kernel_rfl) (fun s c w => Tryz.strings_IndexByte s c w))
  (noescape_entry Tryz.func79 (by kernel_rfl) (by kernel_rfl) (by kernel_rfl) (by kernel_rfl))
  (index1_entry (by kernel_rfl) (fun s c w => Tryz.stringslite_Index_one s c w))
theorem own : ownKnob Tryz.prog.godebug = Option.none := by kernel_rfl
theorem laidOut : laidOutB Tryz.prog = true := by kernel_rfl
def laid3 : List (String × DataW Unit) := [("math/bits.deBruijn32tab", Rows.laid_math_bits_deBruijn32tab), ("math/bits.deBruijn64tab", Rows.laid_math_bits_deBruijn64tab), ("internal/strconv.uint64pow10", Rows.laid_internal_strconv_uint64pow10)]
theorem door_met (os : Os) (args : Array Value) : laidMetH Tryz.prog laid3 ((World.doorLaid Tryz.prog 400 os).forCall (fun _ _ => 0) ⟨#[], args, []⟩).memory :=
  laidMetH_of_parts3 (fuel := 8) (laidMet_of_run' 8 (by kernel_rfl) (by kernel_rfl)) (by kernel_rfl) (by kernel_rfl)
theorem pow10 {W : World} (h : laidMetH Tryz.prog laid3 W) : Lib.TabIs Tryz.prog W "internal/strconv.uint64pow10" .u64 Lib.pow10Tab :=
  pow_of_laid (g := 1) (t := 201) (e := 120) (n := 20) (fun h => by rw [MakeChecks.laidMetH_plain _ _ _ (by kernel_rfl)] at h; exact h) rfl (by kernel_rfl) (by kernel_rfl) (by kernel_rfl) (by kernel_rfl) (by kernel_rfl) (by kernel_rfl) h
set_option maxRecDepth 1000000 in
theorem works_none : CRes (call ScanSteps.tab (.fn 157 [] []) [] ⟨[(3, .glob B.gPow10 powAV)], 4⟩) fun v s => v = .bool true ∧ Ext ⟨[(3, .glob B.gPow10 powAV)], 4⟩ s :=
  closed_res (n := 3000) (mf := B.chaselaw04_works) rfl rfl rfl rfl (by kernel_rfl)
set_option maxRecDepth 1000000 in
theorem works_one (cs : List AV) : CRes (call ScanSteps.tab (.fn 157 [] []) [] ⟨[(3, .glob B.gPow10 powAV), (2, .ro cs)], 4⟩) fun v s => v = .bool true ∧ Ext ⟨[(3, .glob B.gPow10 powAV), (2, .ro cs)], 4⟩ s :=
  closed_res (n := 3000) (mf := B.chaselaw04_works) rfl rfl rfl rfl (by kernel_rfl)
theorem walk (w : World) (N : Nu) (st : St) (hr : SR chkD ScanSteps.cx N st w) (hwf : st.Wf) (how : ∀ b, ¬ Own N st.h b) (hst : st = ⟨[], 3⟩ ∨ ∃ cs, st = stOne cs) (hp : Lib.TabIs Tryz.prog w "internal/strconv.uint64pow10" .u64 Lib.pow10Tab) (s0 : ByteArray) (hs0 : s0.size ≤ 140737488351232) (v1 : Value) (sv : AV) (l : List Dra) (hin : InD st.h sv l) (hv : VR ScanSteps.cx N sv v1) :
    Calls Tryz.prog 8 #[.string s0, v1] w fun e w' => e = .returned (.bool true) ∧ Below w.heap.size w w' := by
  obtain ⟨N', hr', how', hle⟩ := sr_pow (X := ScanSteps.cx) (k := B.gPow10) (name := "internal/strconv.uint64pow10") (by kernel_rfl) hp hr how
  have hwf' : St.Wf ⟨(st.nx, .glob B.gPow10 powAV) :: st.h, st.nx + 1⟩ := by
    refine wf_add hwf ?_
    rcases hst with rfl | ⟨cs, rfl⟩ <;> exact Nat.succ_pos _
  have works : CRes (call ScanSteps.tab (.fn 157 [] []) [] ⟨(st.nx, .glob B.gPow10 powAV) :: st.h, st.nx + 1⟩) fun v s => v = .bool true ∧ Ext ⟨(st.nx, .glob B.gPow10 powAV) :: st.h, st.nx + 1⟩ s := by
    rcases hst with rfl | ⟨cs, rfl⟩
    · exact works_none
    · exact works_one cs
  have hin2 : InD ((st.nx, .glob B.gPow10 powAV) :: st.h) sv l := hin.ext (Ext.new hwf _) hwf
  have law := steps_res (T := ScanSteps.tab) ScanSteps.has_chaselaw04_ScanSteps hwf' (pow_glob _ _ _) (src := s0.data.toList) (by rw [Array.length_toList]; exact Nat.lt_of_le_of_lt hs0 (by decide)) (hin2) works
  exact law_calls (X := ScanSteps.cx) (T := ScanSteps.tab) tabOK (by kernel_rfl) (k := 155) (mf := B.chaselaw04_ScanSteps) rfl rfl (args := [.str s0.data.toList, sv])
    (us := [.string s0, v1]) rfl law hr' (⟨_, _, rfl, by simp [VR], ⟨_, _, rfl, VR.mono hle _ hv, rfl⟩⟩) how'
set_option maxRecDepth 100000 in
theorem lifted (os : Os) (started : os.Started) (H : Type) (enc : TypeId × Value → H) :
    ReturnsInHanded {} Tryz.checked os 8 .any (fun w args => (Rows.scanStepsSpec.pre enc Tryz.prog Tryz.f8 [] false w args ∧ laidMetH Tryz.prog laid3 w) ∧ sizedMet enc Tryz.prog Tryz.f8 (OpenSpec.ofChange Rows.scanStepsSpec) false w args)
      (Rows.scanStepsSpec.post enc Tryz.prog Tryz.f8 false true false false) := by
  refine returnsInHanded_of_change_and (C := Tryz.checked) (X := fun w _ => laidMetH Tryz.prog laid3 w) (fun _ _ _ hh h => h.of_heap hh) own started (by kernel_rfl) Tryz.func8
    (ChangeSpec.witness_shaped (enc := enc) (C := Tryz.checked) (os := os) (X := fun w _ => laidMetH Tryz.prog laid3 w) false (World.doorLaid Tryz.prog 400 os) #[.string ByteArray.empty, .slice none 0 0] 8 rfl
      (World.shaped_of_RefB (by kernel_rfl) (by kernel_rfl)) (by kernel_rfl) (by kernel_rfl) (by kernel_rfl) (door_met os _)) ?_
  intro W base args ds gs before hval0 hW _ hsz0 hL _
  have hsz : (DataW.weightsEach Tryz.prog (Tryz.f8.params.toList ++ Rows.scanStepsSpec.plain.varTypes Tryz.prog) (ds ++ gs)).all (· ≤ reachBytes) = true := hsz0
  have hval : ∀ (j : Nat) t v, Tryz.f8.params[j]? = some t → args[j]? = some v → Value.okWide Tryz.prog W .any base t v := hval0
  have hW' := hW
  obtain ⟨p, q, hA0, hV, rfl, hfz, hnd⟩ := hW
  have hA : DataW.TrodAll enc Tryz.prog W 0 (fun _ => true) true Tryz.f8.params.toList args.toList ds p := hA0
  rw [Tryz.params8] at hA hval hsz
  obtain ⟨v0, vs0, d0, ds0, p0, q0, hargs, rfl, rfl, h0, r0⟩ := trodAll_cons hA
  obtain ⟨v1, vs1, d1, ds1, p1, q1, rfl, rfl, rfl, h1, r1⟩ := trodAll_cons r0
  obtain ⟨rfl, rfl, rfl⟩ := trodAll_nil r1
  obtain rfl : args = #[v0, v1] := by cases args; simp_all
  obtain ⟨rfl, rfl⟩ := trodVars_none hV
  obtain ⟨a0, rfl, rfl, rfl, y0⟩ := open_string Tryz.underlying9 (hval 0 9 v0 rfl rfl) h0
  have w0 : a0.size ≤ 140737488351232 := by
    have z := sized_string hsz (j := 0) (t := 9) rfl rfl
    rw [Array.length_toList] at z
    exact z
  have k1 := h1
  have lt1 : ∀ x ∈ p1, x.block < W.heap.size := by obtain ⟨m, hm⟩ := k1; exact DataW.trod_lt m _ _ _ hm
  obtain ⟨N, st, sv, l, z1, z2, z3, z4, z6, z7⟩ := drafts_open (X := ScanSteps.cx) (P := Tryz.prog) (td := 74) (tsl := 32) rfl Tryz.underlying74 rfl rfl rfl (by kernel_rfl) (by kernel_rfl) (by kernel_rfl) (by kernel_rfl) Tryz.underlying5 Tryz.underlying21 Tryz.underlying9 Tryz.underlying32 (hval 1 32 v1 rfl rfl) h1
  clear hA0 hval0 hsz0
  refine (walk W N st z1 z2 z3 z7 (pow10 hL) a0 w0 v1 sv l z4 z6).mono fun e W' ⟨he, bel⟩ => ?_
  subst he
  exact ⟨_, rfl, _, _, _, [], _, [], hW', trodAll_mk1 (shut_bool Tryz.underlying4 _), trodAll_cons_mk (shut_string Tryz.underlying9 y0) (trodAll_cons_mk (Below.trod laidOut (by kernel_rfl) (of_decide_eq_true (by kernel_rfl)) k1 bel lt1) trodAll_mk0), rfl, bel.frame _, fun h => by cases h⟩
theorem over : Rows.scanStepsRow.holds Tryz.pinned (OpenSpec.ofChange Rows.scanStepsSpec) :=
  OpenClaim.holds_of_wide 8 Tryz.f8 rfl rfl rfl rfl rfl rfl rfl ⟨rfl, rfl, rfl, rfl, rfl⟩ rfl rfl rfl rfl rfl (by kernel_rfl) Tryz.func8 (by kernel_rfl)
    (of_decide_eq_true (by kernel_rfl)) (by unfold Func.isWrapper; first | (rw [if_pos (by decide +kernel)]; kernel_rfl) | (rw [if_neg (by decide +kernel)]; exact ⟨rfl, rfl⟩))
    (fun os started H enc _ => lifted os started H enc)
theorem proved : Rows.ScanStepsCardSaid :=
  Claim7.holds_tied_plain_at .later [] [.data, .data, .data] true (true, "b620d7d99bd304bd5b1ef685d383035002741168776b1069508e91bb65ed3e70") false
    over (fun _ h => by cases h) (by kernel_rfl) (fun _ h => by cases h) scanSteps_row_tie rfl ⟨rfl, rfl⟩ (by kernel_rfl) rfl
    (fun f fn hf hfn => by
      obtain rfl : f = 8 := Option.some.inj ((show Tryz.prog.funcNamed "chase/chaselaw04.ScanSteps" = some 8 by kernel_rfl).symm.trans hf) |>.symm
      obtain rfl : fn = Tryz.f8 := (Option.some.inj (Tryz.func8.symm.trans hfn)).symm
      exact ⟨by kernel_rfl, fun j t ht => by
        rw [Tryz.params8] at ht
        have hm : t ∈ [9, 32] := by simpa using Array.mem_of_getElem? ht
        have hall : ([9, 32].all fun u => !Tryz.prog.wantsStandIn u) = true := by kernel_rfl
        exact (show Tryz.prog.wantsStandIn t = false by simpa using List.all_eq_true.1 hall t hm)⟩)
    (by kernel_rfl)
#print axioms proved
end Go.Proofs.YthckfhllgpfidaaGreatDoor.scanSteps
