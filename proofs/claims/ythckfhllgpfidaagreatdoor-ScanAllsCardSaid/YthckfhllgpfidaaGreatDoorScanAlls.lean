/- The law ScanAlls returns true whatever its arguments are, and they read behind the call as they read before: the given statement, a card; what the library's tables hold is tied to the program's text. No condition of its own. -/
import Derived.Test.YthckfhllgpfidaaGreatDoorP03
import Derived.Test.YthckfhllgpfidaaGreatDoorP07
import Derived.Test.YthckfhllgpfidaaGreatDoorP10
import Derived.Test.YthckfhllgpfidaaGreatDoorP11
import Derived.Test.YthckfhllgpfidaaGreatDoorRows
import Derived.Test.YthckfhllgpfidaaGreatDoorTie
import Derived.Test.YthckfhllgpfidaaGreatDoorCards
import Derived.WalkKit
import Derived.ProofKit
import Derived.LaidMore
import Derived.OpenShut
import Derived.ShutString
import Derived.ChangeOld
import Derived.Below
import Derived.SizedLaws
import Derived.Stop.Joined
import Derived.SevenTiedAt
namespace Go.Proofs.YthckfhllgpfidaaGreatDoor.scanAlls
open Go.ChangeShapes Go.WideShapes Go.ChangeAt Go.RowKit
open Go.ChangeMaps (open_string shut_string)
open Go.Ev
set_option linter.unusedVariables false
theorem below_grow (w : World) (k : Nat) (os : Array Obj) : Below w.heap.size w (Go.Sort.grow (w.drewN k) os) :=
  ⟨rfl, rfl, rfl, by simp [Go.Sort.grow, World.drewN], fun i hi => by simp [Go.Sort.grow, World.drewN, Array.getElem?_append, hi]⟩
set_option maxRecDepth 100000 in
theorem joinOK : Ww H4 ScanAlls.cx 179 B.X1 :=
  Zs5 (X := ScanAlls.cx) (by kernel_rfl) (fun sep w => Tryz.strings_Join_none Option.none 0 sep w) (fun bk o c xs sep w h1 h2 h3 h4 h5 => Tryz.strings_Join bk o c xs sep w h1 h2 h3 h4 h5)
set_option maxRecDepth 100000 in
theorem itoaOK : Ww H4 ScanAlls.cx 132 B.X0 :=
  Zs4 (X := ScanAlls.cx) (by kernel_rfl) (by kernel_rfl) (fun n w h0 h1 ht => (Tryz.strconv_Itoa n h0 h1 w ht).mono fun e w' ⟨h1, k, os, h2⟩ => ⟨h1, by subst h2; exact below_grow _ _ _⟩)
set_option maxRecDepth 100000 in
theorem tabOK : Zdr H4 ScanAlls.cx ScanAlls.tab := ScanAlls.Zwp
  joinOK
  itoaOK
  (Zhu (by kernel_rfl) (fun s c w => Tryz.strings_IndexByte s c w))
  (Zj5 Tryz.func79 (by kernel_rfl) (by kernel_rfl) (by kernel_rfl) (by kernel_rfl))
  (Zob (by kernel_rfl) (fun s c w => Tryz.stringslite_Index_one s c w))
theorem own : ownKnob Tryz.prog.godebug = Option.none := by kernel_rfl
theorem laidOut : laidOutB Tryz.prog = true := by kernel_rfl
def laid3 : List (String × DataW Unit) := [("math/bits.deBruijn32tab", Rows.laid_math_bits_deBruijn32tab), ("math/bits.deBruijn64tab", Rows.laid_math_bits_deBruijn64tab), ("internal/strconv.uint64pow10", Rows.laid_internal_strconv_uint64pow10)]
theorem door_met (os : Os) (args : Array Value) : laidMetH Tryz.prog laid3 ((World.doorLaid Tryz.prog 400 os).forCall (fun _ _ => 0) ⟨#[], args, []⟩).memory :=
  laidMetH_of_parts3 (fuel := 8) (laidMet_of_run' 8 (by kernel_rfl) (by kernel_rfl)) (by kernel_rfl) (by kernel_rfl)
theorem pow10 {W : World} (h : laidMetH Tryz.prog laid3 W) : Lib.TabIs Tryz.prog W "internal/strconv.uint64pow10" .u64 Lib.pow10Tab :=
  Zq7 (g := 1) (t := 201) (e := 120) (n := 20) (fun h => by rw [MakeChecks.laidMetH_plain _ _ _ (by kernel_rfl)] at h; exact h) rfl (by kernel_rfl) (by kernel_rfl) (by kernel_rfl) (by kernel_rfl) (by kernel_rfl) (by kernel_rfl) h
set_option maxRecDepth 1000000 in
theorem works_none : Jg (call ScanAlls.tab (.fn 157 [] []) [] ⟨[(3, .By B.C9 Ay)], 4⟩) fun v s => v = .bool true ∧ Ext ⟨[(3, .By B.C9 Ay)], 4⟩ s :=
  Ziz (n := 3000) (mf := B.Ut) rfl rfl rfl rfl (by kernel_rfl)
set_option maxRecDepth 1000000 in
theorem works_one (cs : List AV) : Jg (call ScanAlls.tab (.fn 157 [] []) [] ⟨[(3, .By B.C9 Ay), (2, .ro cs)], 4⟩) fun v s => v = .bool true ∧ Ext ⟨[(3, .By B.C9 Ay), (2, .ro cs)], 4⟩ s :=
  Ziz (n := 3000) (mf := B.Ut) rfl rfl rfl rfl (by kernel_rfl)
theorem walk (w : World) (N : Nu) (st : St) (hr : SR H4 ScanAlls.cx N st w) (hwf : st.Wf) (how : ∀ b, ¬ Own N st.h b) (hst : st = ⟨[], 3⟩ ∨ ∃ cs, st = I1 cs) (hp : Lib.TabIs Tryz.prog w "internal/strconv.uint64pow10" .u64 Lib.pow10Tab) (s0 : ByteArray) (hs0 : s0.size ≤ 140737488351232) (v1 : Value) (sv : AV) (l : List Dra) (hin : InD st.h sv l) (hv : VR ScanAlls.cx N sv v1) (n2 : Nat) (hn2 : n2 < 65536) (n3 : Nat) (hn3 : n3 < 256) :
    Calls Tryz.prog 4 #[.string s0, v1, .int .u16 (n2 : Int), .int .u8 (n3 : Int)] w fun e w' => e = .returned (.bool true) ∧ Below w.heap.size w w' := by
  obtain ⟨N', hr', how', hle⟩ := Zacf (X := ScanAlls.cx) (k := B.C9) (name := "internal/strconv.uint64pow10") (by kernel_rfl) hp hr how
  have hwf' : St.Wf ⟨(st.nx, .By B.C9 Ay) :: st.h, st.nx + 1⟩ := by
    refine Zaci hwf ?_
    rcases hst with rfl | ⟨cs, rfl⟩ <;> exact Nat.succ_pos _
  have works : Jg (call ScanAlls.tab (.fn 157 [] []) [] ⟨(st.nx, .By B.C9 Ay) :: st.h, st.nx + 1⟩) fun v s => v = .bool true ∧ Ext ⟨(st.nx, .By B.C9 Ay) :: st.h, st.nx + 1⟩ s := by
    rcases hst with rfl | ⟨cs, rfl⟩
    · exact works_none
    · exact works_one cs
  have hin2 : InD ((st.nx, .By B.C9 Ay) :: st.h) sv l := hin.ext (Ext.new hwf _) hwf
  have law := Zw9 (T := ScanAlls.tab) ScanAlls.Ij hwf' (src := s0.data.toList) (by rw [Array.length_toList]; exact Nat.lt_of_le_of_lt hs0 (by decide)) (hin2) hn2 hn3 works
  exact Zvs (X := ScanAlls.cx) (T := ScanAlls.tab) tabOK (by kernel_rfl) (k := 151) (mf := B.Uh) rfl rfl (args := [.str s0.data.toList, sv, .int .u16 (n2 : Int), .int .u8 (n3 : Int)])
    (us := [.string s0, v1, .int .u16 (n2 : Int), .int .u8 (n3 : Int)]) rfl law hr' (⟨_, _, rfl, by simp [VR], ⟨_, _, rfl, VR.mono hle _ hv, ⟨_, _, rfl, rfl, ⟨_, _, rfl, rfl, rfl⟩⟩⟩⟩) how'
set_option maxRecDepth 100000 in
theorem lifted (os : Os) (started : os.Started) (H : Type) (enc : TypeId × Value → H) :
    ReturnsInHanded {} Tryz.checked os 4 .any (fun w args => (Rows.scanAllsSpec.pre enc Tryz.prog Tryz.f4 [] false w args ∧ laidMetH Tryz.prog laid3 w) ∧ sizedMet enc Tryz.prog Tryz.f4 (OpenSpec.ofChange Rows.scanAllsSpec) false w args)
      (Rows.scanAllsSpec.post enc Tryz.prog Tryz.f4 false true false false) := by
  refine returnsInHanded_of_change_and (C := Tryz.checked) (X := fun w _ => laidMetH Tryz.prog laid3 w) (fun _ _ _ hh h => h.of_heap hh) own started (by kernel_rfl) Tryz.func4
    (ChangeSpec.witness_shaped (enc := enc) (C := Tryz.checked) (os := os) (X := fun w _ => laidMetH Tryz.prog laid3 w) false (World.doorLaid Tryz.prog 400 os) #[.string ByteArray.empty, .slice none 0 0, .int .u16 0, .int .u8 0] 8 rfl
      (World.shaped_of_RefB (by kernel_rfl) (by kernel_rfl)) (by kernel_rfl) (by kernel_rfl) (by kernel_rfl) (door_met os _)) ?_
  intro W base args ds gs before hval0 hW _ hsz0 hL _
  have hsz : (DataW.weightsEach Tryz.prog (Tryz.f4.params.toList ++ Rows.scanAllsSpec.plain.varTypes Tryz.prog) (ds ++ gs)).all (· ≤ reachBytes) = true := hsz0
  have hval : ∀ (j : Nat) t v, Tryz.f4.params[j]? = some t → args[j]? = some v → Value.okWide Tryz.prog W .any base t v := hval0
  have hW' := hW
  obtain ⟨p, q, hA0, hV, rfl, hfz, hnd⟩ := hW
  have hA : DataW.TrodAll enc Tryz.prog W 0 (fun _ => true) true Tryz.f4.params.toList args.toList ds p := hA0
  rw [Tryz.params4] at hA hval hsz
  obtain ⟨v0, vs0, d0, ds0, p0, q0, hargs, rfl, rfl, h0, r0⟩ := trodAll_cons hA
  obtain ⟨v1, vs1, d1, ds1, p1, q1, rfl, rfl, rfl, h1, r1⟩ := trodAll_cons r0
  obtain ⟨v2, vs2, d2, ds2, p2, q2, rfl, rfl, rfl, h2, r2⟩ := trodAll_cons r1
  obtain ⟨v3, vs3, d3, ds3, p3, q3, rfl, rfl, rfl, h3, r3⟩ := trodAll_cons r2
  obtain ⟨rfl, rfl, rfl⟩ := trodAll_nil r3
  obtain rfl : args = #[v0, v1, v2, v3] := by cases args; simp_all
  obtain ⟨rfl, rfl⟩ := trodVars_none hV
  obtain ⟨a0, rfl, rfl, rfl, y0⟩ := open_string Tryz.underlying9 (hval 0 9 v0 rfl rfl) h0
  have w0 : a0.size ≤ 140737488351232 := by
    have z := sized_string hsz (j := 0) (t := 9) rfl rfl
    rw [Array.length_toList] at z
    exact z
  have k1 := h1
  have lt1 : ∀ x ∈ p1, x.block < W.heap.size := by obtain ⟨m, hm⟩ := k1; exact DataW.trod_lt m _ _ _ hm
  obtain ⟨N, st, sv, l, z1, z2, z3, z4, z6, z7⟩ := Zpw (X := ScanAlls.cx) (P := Tryz.prog) (td := 74) (tsl := 32) rfl Tryz.underlying74 rfl rfl rfl (by kernel_rfl) (by kernel_rfl) (by kernel_rfl) (by kernel_rfl) Tryz.underlying5 Tryz.underlying21 Tryz.underlying9 Tryz.underlying32 (hval 1 32 v1 rfl rfl) h1
  obtain ⟨i2, rfl, rfl, rfl, w2⟩ := open_int Tryz.underlying33 (hval 2 33 v2 rfl rfl) h2
  obtain ⟨n2, rfl⟩ := Int.eq_ofNat_of_zero_le (wf_u16 w2).1
  obtain ⟨i3, rfl, rfl, rfl, w3⟩ := open_int Tryz.underlying5 (hval 3 5 v3 rfl rfl) h3
  obtain ⟨n3, rfl⟩ := Int.eq_ofNat_of_zero_le (wf_u8 w3).1
  clear hA0 hval0 hsz0
  refine (walk W N st z1 z2 z3 z7 (pow10 hL) a0 w0 v1 sv l z4 z6 n2 (by have := (wf_u16 w2).2; omega) n3 (by have := (wf_u8 w3).2; omega)).mono fun e W' ⟨he, bel⟩ => ?_
  subst he
  exact ⟨_, rfl, _, _, _, [], _, [], hW', trodAll_mk1 (shut_bool Tryz.underlying4 _), trodAll_cons_mk (shut_string Tryz.underlying9 y0) (trodAll_cons_mk (Below.trod laidOut (by kernel_rfl) (of_decide_eq_true (by kernel_rfl)) k1 bel lt1) (trodAll_cons_mk (shut_int Tryz.underlying33 w2) (trodAll_cons_mk (shut_int Tryz.underlying5 w3) trodAll_mk0))), rfl, bel.frame _, fun h => by cases h⟩
theorem over : Rows.scanAllsRow.holds Tryz.pinned (OpenSpec.ofChange Rows.scanAllsSpec) :=
  OpenClaim.holds_of_wide 4 Tryz.f4 rfl rfl rfl rfl rfl rfl rfl ⟨rfl, rfl, rfl, rfl, rfl⟩ rfl rfl rfl rfl rfl (by kernel_rfl) Tryz.func4 (by kernel_rfl)
    (of_decide_eq_true (by kernel_rfl)) (by unfold Func.isWrapper; first | (rw [if_pos (by decide +kernel)]; kernel_rfl) | (rw [if_neg (by decide +kernel)]; exact ⟨rfl, rfl⟩))
    (fun os started H enc _ => lifted os started H enc)
theorem proved : Rows.ScanAllsCardSaid :=
  Claim7.holds_tied_plain_at .later [] [.data, .data, .data] true (true, "b620d7d99bd304bd5b1ef685d383035002741168776b1069508e91bb65ed3e70") false
    over (fun _ h => by cases h) (by kernel_rfl) (fun _ h => by cases h) scanAlls_row_tie rfl ⟨rfl, rfl⟩ (by kernel_rfl) rfl
    (fun f fn hf hfn => by
      obtain rfl : f = 4 := Option.some.inj ((show Tryz.prog.funcNamed "chase/chaselaw04.ScanAlls" = some 4 by kernel_rfl).symm.trans hf) |>.symm
      obtain rfl : fn = Tryz.f4 := (Option.some.inj (Tryz.func4.symm.trans hfn)).symm
      exact ⟨by kernel_rfl, fun j t ht => by
        rw [Tryz.params4] at ht
        have hm : t ∈ [9, 32, 33, 5] := by simpa using Array.mem_of_getElem? ht
        have hall : ([9, 32, 33, 5].all fun u => !Tryz.prog.wantsStandIn u) = true := by kernel_rfl
        exact (show Tryz.prog.wantsStandIn t = false by simpa using List.all_eq_true.1 hall t hm)⟩)
    (by kernel_rfl)
#print axioms proved
end Go.Proofs.YthckfhllgpfidaaGreatDoor.scanAlls
