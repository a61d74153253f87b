/- The law LogicOrders returns true whatever its arguments are, and they read behind the call as they read before: the given statement, a card; what the library's tables hold is tied to the program's text. No condition of its own. Printed by mkrowlog.py. -/
import Derived.Test.YtdlhjfmakdbmkaaGreatDoorP03
import Derived.Test.YtdlhjfmakdbmkaaGreatDoorP05
import Derived.Test.YtdlhjfmakdbmkaaGreatDoorP10
import Derived.Test.YtdlhjfmakdbmkaaGreatDoorP09
import Derived.Test.YtdlhjfmakdbmkaaGreatDoorRows
import Derived.Test.YtdlhjfmakdbmkaaGreatDoorTie
import Derived.Test.YtdlhjfmakdbmkaaGreatDoorCards
import Derived.WalkKit
import Derived.ProofKit
import Derived.LaidMore
import Derived.OpenShut
import Derived.ShutString
import Derived.ChangeOld
import Derived.Below
import Derived.SizedLaws
import Derived.Stop.Joined
import Derived.SevenTiedAt
import Derived.Lay
namespace Go.Proofs.YtdlhjfmakdbmkaaGreatDoor.logicOrders
open Go.ChangeShapes Go.WideShapes Go.ChangeAt Go.RowKit
open Go.ChangeMaps (open_string shut_string)
open Go.Ev
set_option linter.unusedVariables false
theorem below_grow (w : World) (k : Nat) (os : Array Obj) : Below w.heap.size w (Go.Sort.grow (w.drewN k) os) :=
  ⟨rfl, rfl, rfl, by simp [Go.Sort.grow, World.drewN], fun i hi => by simp [Go.Sort.grow, World.drewN, Array.getElem?_append, hi]⟩
set_option maxRecDepth 100000 in
theorem itoaOK : Vp Lt LogicOrders.cx 132 B.Uo :=
  Zto (X := LogicOrders.cx) (by kernel_rfl) (by kernel_rfl) (fun n w h0 h1 ht => (Tryz.strconv_Itoa n h0 h1 w ht).mono fun e w' ⟨h1, k, os, h2⟩ => ⟨h1, by subst h2; exact below_grow _ _ _⟩)
set_option maxRecDepth 100000 in
theorem tabOK : Zdd Lt LogicOrders.cx LogicOrders.tab := LogicOrders.Zw2
  (Zlg (by kernel_rfl) (fun a b w => Tryz.strings_Compare a b w))
  (Zmg (by kernel_rfl) (fun s w h1 h2 => Tryz.strings_ToUpper_ascii s w h1 h2))
  (Zfj (by kernel_rfl) (fun b w => Tryz.strconv_FormatBool b w))
  itoaOK
  (Zof (by kernel_rfl) (fun s c w => Tryz.stringslite_Index_one s c w))
  (Zhw (by kernel_rfl) (fun s c w => Tryz.strings_IndexByte s c w))
  (Zkj Tryz.func201 (by kernel_rfl) (by kernel_rfl) (by kernel_rfl) (by kernel_rfl))
theorem wordT : Zp0 Tryz.prog 64 63 := ⟨⟨_, _, _, _, _, Tryz.underlying64, ⟨rfl, rfl, rfl, rfl, rfl⟩, ⟨by kernel_rfl, by kernel_rfl, by kernel_rfl, by kernel_rfl, by kernel_rfl⟩, Tryz.underlying5, Tryz.underlying5, Tryz.underlying5, Tryz.underlying21, Tryz.underlying9⟩, by kernel_rfl⟩
theorem own : ownKnob Tryz.prog.godebug = Option.none := by kernel_rfl
theorem laidOut : laidOutB Tryz.prog = true := by kernel_rfl
def laid7 : List (String × DataW Unit) := [("chase/chaseref11.Words", Rows.laid_chase_chaseref11_Words), ("math/bits.deBruijn32tab", Rows.laid_math_bits_deBruijn32tab), ("math/bits.deBruijn64tab", Rows.laid_math_bits_deBruijn64tab), ("internal/strconv.uint64pow10", Rows.laid_internal_strconv_uint64pow10), ("unicode/utf8.acceptRanges", Rows.laid_unicode_utf8_acceptRanges), ("unicode.CaseRanges", Rows.laid_unicode_CaseRanges), ("unicode/utf8.first", Rows.laid_unicode_utf8_first)]
theorem plain {W : World} (h : laidMetH Tryz.prog laid7 W) : laidMet Tryz.prog laid7 W := by rw [MakeChecks.laidMetH_plain _ _ _ (by kernel_rfl)] at h; exact h
theorem tabB {W : World} (h : laidMetH Tryz.prog laid7 W) : Lib.TabIs Tryz.prog W "math/bits.deBruijn64tab" .u8 Zs1 :=
  Ze7 (g := 7) (t := 296) (e := 5) (n := 64) (by kernel_rfl) (by kernel_rfl) (by kernel_rfl) (by kernel_rfl) (by kernel_rfl) (by kernel_rfl) (show laidMet Tryz.prog (_ :: _ :: ("math/bits.deBruijn64tab", Lib.tabData .u8 Zs1) :: _) W from plain h)
theorem tabP {W : World} (h : laidMetH Tryz.prog laid7 W) : Lib.TabIs Tryz.prog W "internal/strconv.uint64pow10" .u64 Lib.pow10Tab :=
  Ze7 (g := 3) (t := 259) (e := 159) (n := 20) (by kernel_rfl) (by kernel_rfl) (by kernel_rfl) (by kernel_rfl) (by kernel_rfl) (by kernel_rfl) (laidMet.tail (show laidMet Tryz.prog (_ :: _ :: _ :: ("internal/strconv.uint64pow10", Lib.tabData .u64 Lib.pow10Tab) :: _) W from plain h))
theorem walk (w : World) (hL : laidMetH Tryz.prog laid7 w) (va0 vb0 vc0 : Value) (l1 l2 : List Wd) (l3 : List UInt8) (ha : Hg LogicOrders.cx w va0 5 l1.length (l1.flatMap Wd.c)) (k1 : ∀ d ∈ l1, d.ok) (hb : Hg LogicOrders.cx w vb0 5 l2.length (l2.flatMap Wd.c)) (k2 : ∀ d ∈ l2, d.ok) (hc : Hg LogicOrders.cx w vc0 1 l3.length (l3.map fun b => .int .u8 b.toNat)) (hl3 : l3.length < 9223372036854775808) (x1 y1 : Wd) (s1 t1 : ByteArray) (kx1 : x1.ok) (ky1 : y1.ok) (ex1 : x1.S = s1.data.toList) (ey1 : y1.S = t1.data.toList) :
    Calls Tryz.prog 5 #[.agg #[va0, vb0, vc0], .agg (wdV x1 s1 ++ wdV y1 t1).toArray] w fun e w' => e = .returned (.bool true) ∧ Below w.heap.size w w' := by
  obtain ⟨N1, hr1, how1⟩ := sr14 (X := LogicOrders.cx) (by kernel_rfl) (by kernel_rfl) (tabB hL) (tabP hL)
  obtain ⟨N2, hr2, how2, le2⟩ := Zabu (X := LogicOrders.cx) (k := 8) (ss := P7) (name := "chase/chaseref11.Words") (t := 127) (e := 9) (m := 8) (by kernel_rfl) (by kernel_rfl) (by kernel_rfl) (by kernel_rfl) (by kernel_rfl) (by kernel_rfl) (show laidMet Tryz.prog (("chase/chaseref11.Words", Zab P7) :: _) w from plain hL) hr1 how1
  have hb0 := Zw3 (X := LogicOrders.cx) (k := B.Aa) (name := "internal/strconv.uint64pow10") (by kernel_rfl) (tabP hL)
  obtain ⟨NN, st, wc, wo, wd, hr, how, LE, hwf, hx, hvD, iw1, iw2, rd3⟩ := Zy7 hr2 how2 Ze6 (by decide) hb0 ha k1 hb k2 hc
  have h9 : 9 ≤ st.nx := hx.nx
  have hpw : Pow st := Zwz.ext hx Ze6
  have hbr : Bru st := Zwx.ext hx Ze6
  have hwd : Wrd st := Zw0.ext hx Ze6
  have law := Ztv (T := LogicOrders.tab) LogicOrders.Bc hwf h9 hpw hbr hwd iw1 iw2 rd3 kx1 ky1
  exact Zv7 (X := LogicOrders.cx) (T := LogicOrders.tab) tabOK (by kernel_rfl) (k := 295) (mf := B.Yh) rfl rfl (args := [.agg [wc, wo, wd], .agg (x1.c ++ y1.c)])
    (us := [.agg #[va0, vb0, vc0], .agg (wdV x1 s1 ++ wdV y1 t1).toArray]) rfl (Qt.mono law fun v s h => h.1) hr (⟨_, _, rfl, hvD, ⟨_, _, rfl, Zw6 ex1 ey1, rfl⟩⟩) how
set_option maxRecDepth 100000 in
theorem lifted (os : Os) (started : os.Started) (H : Type) (enc : TypeId × Value → H) :
    ReturnsInHanded {} Tryz.checked os 5 .any (fun w args => (Rows.logicOrdersSpec.pre enc Tryz.prog Tryz.f5 [] false w args ∧ laidMetH Tryz.prog laid7 w) ∧ sizedMet enc Tryz.prog Tryz.f5 (OpenSpec.ofChange Rows.logicOrdersSpec) false w args)
      (Rows.logicOrdersSpec.post enc Tryz.prog Tryz.f5 false true false false) := by
  refine returnsInHanded_of_change_and (C := Tryz.checked) (X := fun w _ => laidMetH Tryz.prog laid7 w) (fun _ _ _ hh h => h.of_heap hh) own started (by kernel_rfl) Tryz.func5
    (ChangeSpec.witness_shaped (enc := enc) (C := Tryz.checked) (os := os) (X := fun w _ => laidMetH Tryz.prog laid7 w) false (World.laidAll Tryz.prog os laid7) #[.agg #[.slice none 0 0, .slice none 0 0, .slice none 0 0], .agg #[.int .u8 0, .int .u8 0, .int .u8 0, .int .i32 0, .string ByteArray.empty, .int .u8 0, .int .u8 0, .int .u8 0, .int .i32 0, .string ByteArray.empty]] 8 (World.laidAll_os _ _ _)
      (World.shaped_of_ZipB (by kernel_rfl) (by kernel_rfl)) (by kernel_rfl) (by kernel_rfl) (by kernel_rfl)
      (by rw [MakeChecks.laidMetH_plain _ _ _ (by kernel_rfl)]; exact laidMet_laidAll _ (by kernel_rfl) (by kernel_rfl))) ?_
  intro W base args ds gs before hval0 hW _ hsz0 hL _
  have hval : ∀ (j : Nat) t v, Tryz.f5.params[j]? = some t → args[j]? = some v → Value.okWide Tryz.prog W .any base t v := hval0
  have hW' := hW
  obtain ⟨p, q, hA0, hV, rfl, hfz, hnd⟩ := hW
  have hA : DataW.TrodAll enc Tryz.prog W 0 (fun _ => true) true Tryz.f5.params.toList args.toList ds p := hA0
  rw [Tryz.params5] at hA hval
  obtain ⟨v0, vs0, d0, ds0, p0, q0, hargs, rfl, rfl, h0, r0⟩ := trodAll_cons hA
  obtain ⟨v1, vs1, d1, ds1, p1, q1, rfl, rfl, rfl, h1, r1⟩ := trodAll_cons r0
  obtain ⟨rfl, rfl, rfl⟩ := trodAll_nil r1
  obtain rfl : args = #[v0, v1] := by cases args; simp_all
  obtain ⟨rfl, rfl⟩ := trodVars_none hV
  have k0 := h0
  have lt0 : ∀ x ∈ p0, x.block < W.heap.size := by obtain ⟨m, hm⟩ := k0; exact DataW.trod_lt m _ _ _ hm
  obtain ⟨va0, vb0, vc0, rfl, ⟨l1, ha, kd1⟩, ⟨l2, hb, kd2⟩, ⟨l3, hc, hl3⟩⟩ := Zxy (X := LogicOrders.cx) (P := Tryz.prog) (tD := 25) (tW := 22) (tB := 23) (td := 64) (tu := 63) (te := 5) Tryz.underlying25 ⟨rfl, rfl, rfl⟩ ⟨rfl, rfl, rfl⟩ ⟨by kernel_rfl, by kernel_rfl, by kernel_rfl⟩ (by kernel_rfl) wordT Tryz.underlying22 Tryz.underlying23 Tryz.underlying5 (by kernel_rfl) (hval 0 25 v0 rfl rfl) h0
  have k1 := h1
  have lt1 : ∀ x ∈ p1, x.block < W.heap.size := by obtain ⟨m, hm⟩ := k1; exact DataW.trod_lt m _ _ _ hm
  obtain ⟨x1, y1, s1, t1, kx1, ky1, ex1, ey1, rfl⟩ := Zsk (P := Tryz.prog) Tryz.underlying77 (by kernel_rfl) wordT (hval 1 77 v1 rfl rfl) h1
  clear hA0 hval0 hsz0
  refine (walk W hL va0 vb0 vc0 l1 l2 l3 ha kd1 hb kd2 hc hl3 x1 y1 s1 t1 kx1 ky1 ex1 ey1).mono fun e W' ⟨he, bel⟩ => ?_
  subst he
  exact ⟨_, rfl, _, _, _, [], _, [], hW', trodAll_mk1 (shut_bool Tryz.underlying4 _), trodAll_cons_mk (Below.trod laidOut (by kernel_rfl) (of_decide_eq_true (by kernel_rfl)) k0 bel lt0) (trodAll_cons_mk (Below.trod laidOut (by kernel_rfl) (of_decide_eq_true (by kernel_rfl)) k1 bel lt1) trodAll_mk0), rfl, bel.frame _, fun h => by cases h⟩
theorem over : Rows.logicOrdersRow.holds Tryz.pinned (OpenSpec.ofChange Rows.logicOrdersSpec) :=
  OpenClaim.holds_of_wide 5 Tryz.f5 rfl rfl rfl rfl rfl rfl rfl ⟨rfl, rfl, rfl, rfl, rfl⟩ rfl rfl rfl rfl rfl (by kernel_rfl) Tryz.func5 (by kernel_rfl)
    (of_decide_eq_true (by kernel_rfl)) (by unfold Func.isWrapper; first | (rw [if_pos (by decide +kernel)]; kernel_rfl) | (rw [if_neg (by decide +kernel)]; exact ⟨rfl, rfl⟩))
    (fun os started H enc _ => lifted os started H enc)
theorem proved : Rows.LogicOrdersCardSaid :=
  Claim7.holds_tied_plain_at .later [] [.data, .data, .data, .data, .data, .pinned, .pinned] true (true, "2f44a24deaf24122f0868da2d46fde64df1e1dde7ef37a44f0d62e2e12ad3e1e") false
    over (fun _ h => by cases h) (by kernel_rfl) (fun _ h => by cases h) logicOrders_row_tie rfl ⟨rfl, rfl⟩ (by kernel_rfl) rfl
    (fun f fn hf hfn => by
      obtain rfl : f = 5 := Option.some.inj ((show Tryz.prog.funcNamed "chase/chaselaw14.LogicOrders" = some 5 by kernel_rfl).symm.trans hf) |>.symm
      obtain rfl : fn = Tryz.f5 := (Option.some.inj (Tryz.func5.symm.trans hfn)).symm
      exact ⟨by kernel_rfl, fun j t ht => by
        rw [Tryz.params5] at ht
        have hm : t ∈ [25, 77] := by simpa using Array.mem_of_getElem? ht
        have hall : ([25, 77].all fun u => !Tryz.prog.wantsStandIn u) = true := by kernel_rfl
        exact (show Tryz.prog.wantsStandIn t = false by simpa using List.all_eq_true.1 hall t hm)⟩)
    (by kernel_rfl)
#print axioms proved
end Go.Proofs.YtdlhjfmakdbmkaaGreatDoor.logicOrders
