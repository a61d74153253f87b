/-
  NARROWER THAN 'FOR EVERY INPUT', by the rows' own cells (each row's printed sentence says how): FilterChecks: laid · FilterDecodes: laid · FilterEncodes: laid · FilterBack: laid · FilterJoins: laid · FilterPictures: laid · FilterKnown: laid.
  DERIVED. THE GIVEN ROWS OF THIS SEAT. 7 by the template 'for every input the law returns true; each argument reads behind the call as it read before'; 0 by the template 'total and deterministic' (their statements: YtcjbjemfobdkgaaGreatDoorTotals.lean).
  GIVEN WITH THE SEED: the statements are not yours to turn. If you find one false, say at which input.
  Laid BY PROGRAM, IN A SANDBOX (cutbox-rows.mjs): the forced cells as the released guide's own fill.sh prints them over the translation feee86ff2759b13b… (all of the seat's roots in one cut). By AI agents, Wed Nov 11 2026. No macro, syntax, notation, axiom, sorry.
-/
import Derived.Test.YtcjbjemfobdkgaaGreatDoorChecked
import GoSem.Claim
import GoSem.ClaimJoined
import GoSem.ClaimMapViews
import Derived.JoinedTies
import Derived.KernelRfl
namespace Go.Proofs.YtcjbjemfobdkgaaGreatDoor
/- THE CELL 'sum', in the pinned program and in every row, IS THE sha256 OF THE DUMP (.gsa) THAT YtcjbjemfobdkgaaGreatDoorProg.lean LOADS. Nothing in Lean hashes anything: it is a label: what it is worth is what the hold of that sum in a sandbox is worth. -/
noncomputable def Tryz.pinned : Pinned := { name := "ytcjbjemfobdkgaagreatdoor", sum := "feee86ff2759b13bb3b99dd54c19756d139c1a8a17f841f7e643f005e1e8c5bb", checked := Tryz.checked }
namespace Rows
def none {H : Type} : Left H := { results := [], args := [] }

/- WHAT THE LISTED PACKAGE-LEVEL VARIABLES READ AS WHEN THE CALL BEGINS. Each datum BY PROGRAM (the guide's laid-datum.mjs) off the statement by which the dump's own 'gosem.cut.vars' lays the variable. In a bare row this is a premise. The card (YtcjbjemfobdkgaaGreatDoorCards.lean) ties it to the program's text. -/
def laid_chase_cosine_matrix {H : Type} : DataW H := .agg [.agg [.lit (.int .i64 1), .lit (.int .i64 1), .lit (.int .i64 1), .lit (.int .i64 1), .lit (.int .i64 1), .lit (.int .i64 1), .lit (.int .i64 1), .lit (.int .i64 1)], .agg [.lit (.int .i64 10), .lit (.int .i64 9), .lit (.int .i64 6), .lit (.int .i64 2), .lit (.int .i64 (-2)), .lit (.int .i64 (-6)), .lit (.int .i64 (-9)), .lit (.int .i64 (-10))], .agg [.lit (.int .i64 3), .lit (.int .i64 1), .lit (.int .i64 (-1)), .lit (.int .i64 (-3)), .lit (.int .i64 (-3)), .lit (.int .i64 (-1)), .lit (.int .i64 1), .lit (.int .i64 3)], .agg [.lit (.int .i64 9), .lit (.int .i64 (-2)), .lit (.int .i64 (-10)), .lit (.int .i64 (-6)), .lit (.int .i64 6), .lit (.int .i64 10), .lit (.int .i64 2), .lit (.int .i64 (-9))], .agg [.lit (.int .i64 1), .lit (.int .i64 (-1)), .lit (.int .i64 (-1)), .lit (.int .i64 1), .lit (.int .i64 1), .lit (.int .i64 (-1)), .lit (.int .i64 (-1)), .lit (.int .i64 1)], .agg [.lit (.int .i64 6), .lit (.int .i64 (-10)), .lit (.int .i64 2), .lit (.int .i64 9), .lit (.int .i64 (-9)), .lit (.int .i64 (-2)), .lit (.int .i64 10), .lit (.int .i64 (-6))], .agg [.lit (.int .i64 1), .lit (.int .i64 (-3)), .lit (.int .i64 3), .lit (.int .i64 (-1)), .lit (.int .i64 (-1)), .lit (.int .i64 3), .lit (.int .i64 (-3)), .lit (.int .i64 1)], .agg [.lit (.int .i64 2), .lit (.int .i64 (-6)), .lit (.int .i64 9), .lit (.int .i64 (-10)), .lit (.int .i64 10), .lit (.int .i64 (-9)), .lit (.int .i64 6), .lit (.int .i64 (-2))]]

/-- 'chaselaw09.FilterChecks': WHATEVER THE INPUT: true; the input reads as it did. -/
def filterChecksSpec : ChangeSpec := { name := "filterChecks", fn := fun _ => fun
  | [d1, d2, d3] => { results := [.lit (.bool true)], args := [d1, d2, d3] }
  | _ => none }
def filterChecksRow : OpenClaim := { program := "ytcjbjemfobdkgaagreatdoor", sum := "feee86ff2759b13bb3b99dd54c19756d139c1a8a17f841f7e643f005e1e8c5bb", func := "chase/chaselaw09.FilterChecks", spec := "filterChecks", inPlace := ["internal/abi.NoEscape", "internal/bytealg.IndexByteString"], unfollowed := true, recurses := true, named := ["chase/cosine.matrix"], plainKeys := false, apart := false, laid := [("chase/cosine.matrix", laid_chase_cosine_matrix)] }
def FilterChecksSaid : Prop := filterChecksRow.holds Tryz.pinned (OpenSpec.ofChange filterChecksSpec)

/-- ITS FALSE NEIGHBOUR: 'it returns false'. Refute it at one input. -/
def filterChecksWrong : ChangeSpec := { name := "filterChecks", fn := fun _ => fun
  | [d1, d2, d3] => { results := [.lit (.bool false)], args := [d1, d2, d3] }
  | _ => none }
def FilterChecksWrongFalsely : Prop := filterChecksRow.holds Tryz.pinned (OpenSpec.ofChange filterChecksWrong)

/-- 'chaselaw09.FilterDecodes': WHATEVER THE INPUT: true; the input reads as it did. -/
def filterDecodesSpec : ChangeSpec := { name := "filterDecodes", fn := fun _ => fun
  | [d1, d2, d3, d4, d5] => { results := [.lit (.bool true)], args := [d1, d2, d3, d4, d5] }
  | _ => none }
def filterDecodesRow : OpenClaim := { program := "ytcjbjemfobdkgaagreatdoor", sum := "feee86ff2759b13bb3b99dd54c19756d139c1a8a17f841f7e643f005e1e8c5bb", func := "chase/chaselaw09.FilterDecodes", spec := "filterDecodes", inPlace := ["internal/abi.NoEscape", "internal/bytealg.IndexByteString"], unfollowed := true, recurses := true, named := ["chase/cosine.matrix"], plainKeys := false, apart := false, laid := [("chase/cosine.matrix", laid_chase_cosine_matrix)] }
def FilterDecodesSaid : Prop := filterDecodesRow.holds Tryz.pinned (OpenSpec.ofChange filterDecodesSpec)

/-- ITS FALSE NEIGHBOUR: 'it returns false'. Refute it at one input. -/
def filterDecodesWrong : ChangeSpec := { name := "filterDecodes", fn := fun _ => fun
  | [d1, d2, d3, d4, d5] => { results := [.lit (.bool false)], args := [d1, d2, d3, d4, d5] }
  | _ => none }
def FilterDecodesWrongFalsely : Prop := filterDecodesRow.holds Tryz.pinned (OpenSpec.ofChange filterDecodesWrong)

/-- 'chaselaw09.FilterEncodes': WHATEVER THE INPUT: true; the input reads as it did. -/
def filterEncodesSpec : ChangeSpec := { name := "filterEncodes", fn := fun _ => fun
  | [d1, d2, d3] => { results := [.lit (.bool true)], args := [d1, d2, d3] }
  | _ => none }
def filterEncodesRow : OpenClaim := { program := "ytcjbjemfobdkgaagreatdoor", sum := "feee86ff2759b13bb3b99dd54c19756d139c1a8a17f841f7e643f005e1e8c5bb", func := "chase/chaselaw09.FilterEncodes", spec := "filterEncodes", inPlace := ["internal/abi.NoEscape", "internal/bytealg.IndexByteString"], unfollowed := true, recurses := true, named := ["chase/cosine.matrix"], plainKeys := false, apart := false, laid := [("chase/cosine.matrix", laid_chase_cosine_matrix)] }
def FilterEncodesSaid : Prop := filterEncodesRow.holds Tryz.pinned (OpenSpec.ofChange filterEncodesSpec)

/-- ITS FALSE NEIGHBOUR: 'it returns false'. Refute it at one input. -/
def filterEncodesWrong : ChangeSpec := { name := "filterEncodes", fn := fun _ => fun
  | [d1, d2, d3] => { results := [.lit (.bool false)], args := [d1, d2, d3] }
  | _ => none }
def FilterEncodesWrongFalsely : Prop := filterEncodesRow.holds Tryz.pinned (OpenSpec.ofChange filterEncodesWrong)

/-- 'chaselaw09.FilterBack': WHATEVER THE INPUT: true; the input reads as it did. -/
def filterBackSpec : ChangeSpec := { name := "filterBack", fn := fun _ => fun
  | [d1, d2, d3] => { results := [.lit (.bool true)], args := [d1, d2, d3] }
  | _ => none }
def filterBackRow : OpenClaim := { program := "ytcjbjemfobdkgaagreatdoor", sum := "feee86ff2759b13bb3b99dd54c19756d139c1a8a17f841f7e643f005e1e8c5bb", func := "chase/chaselaw09.FilterBack", spec := "filterBack", inPlace := ["internal/abi.NoEscape", "internal/bytealg.IndexByteString"], unfollowed := true, recurses := true, named := ["chase/cosine.matrix"], plainKeys := false, apart := false, laid := [("chase/cosine.matrix", laid_chase_cosine_matrix)] }
def FilterBackSaid : Prop := filterBackRow.holds Tryz.pinned (OpenSpec.ofChange filterBackSpec)

/-- ITS FALSE NEIGHBOUR: 'it returns false'. Refute it at one input. -/
def filterBackWrong : ChangeSpec := { name := "filterBack", fn := fun _ => fun
  | [d1, d2, d3] => { results := [.lit (.bool false)], args := [d1, d2, d3] }
  | _ => none }
def FilterBackWrongFalsely : Prop := filterBackRow.holds Tryz.pinned (OpenSpec.ofChange filterBackWrong)

/-- 'chaselaw09.FilterJoins': WHATEVER THE INPUT: true; the input reads as it did. -/
def filterJoinsSpec : ChangeSpec := { name := "filterJoins", fn := fun _ => fun
  | [d1, d2, d3] => { results := [.lit (.bool true)], args := [d1, d2, d3] }
  | _ => none }
def filterJoinsRow : OpenClaim := { program := "ytcjbjemfobdkgaagreatdoor", sum := "feee86ff2759b13bb3b99dd54c19756d139c1a8a17f841f7e643f005e1e8c5bb", func := "chase/chaselaw09.FilterJoins", spec := "filterJoins", inPlace := ["internal/abi.NoEscape", "internal/bytealg.IndexByteString"], unfollowed := true, recurses := true, named := ["chase/cosine.matrix"], plainKeys := false, apart := false, laid := [("chase/cosine.matrix", laid_chase_cosine_matrix)] }
def FilterJoinsSaid : Prop := filterJoinsRow.holds Tryz.pinned (OpenSpec.ofChange filterJoinsSpec)

/-- ITS FALSE NEIGHBOUR: 'it returns false'. Refute it at one input. -/
def filterJoinsWrong : ChangeSpec := { name := "filterJoins", fn := fun _ => fun
  | [d1, d2, d3] => { results := [.lit (.bool false)], args := [d1, d2, d3] }
  | _ => none }
def FilterJoinsWrongFalsely : Prop := filterJoinsRow.holds Tryz.pinned (OpenSpec.ofChange filterJoinsWrong)

/-- 'chaselaw09.FilterPictures': WHATEVER THE INPUT: true; the input reads as it did. -/
def filterPicturesSpec : ChangeSpec := { name := "filterPictures", fn := fun _ => fun
  | [d1, d2, d3, d4] => { results := [.lit (.bool true)], args := [d1, d2, d3, d4] }
  | _ => none }
def filterPicturesRow : OpenClaim := { program := "ytcjbjemfobdkgaagreatdoor", sum := "feee86ff2759b13bb3b99dd54c19756d139c1a8a17f841f7e643f005e1e8c5bb", func := "chase/chaselaw09.FilterPictures", spec := "filterPictures", inPlace := ["internal/abi.NoEscape", "internal/bytealg.IndexByteString", "internal/bytealg.MakeNoZero"], unfollowed := true, recurses := true, named := ["chase/cosine.matrix"], plainKeys := false, apart := false, laid := [("chase/cosine.matrix", laid_chase_cosine_matrix)] }
def FilterPicturesSaid : Prop := filterPicturesRow.holds Tryz.pinned (OpenSpec.ofChange filterPicturesSpec)

/-- ITS FALSE NEIGHBOUR: 'it returns false'. Refute it at one input. -/
def filterPicturesWrong : ChangeSpec := { name := "filterPictures", fn := fun _ => fun
  | [d1, d2, d3, d4] => { results := [.lit (.bool false)], args := [d1, d2, d3, d4] }
  | _ => none }
def FilterPicturesWrongFalsely : Prop := filterPicturesRow.holds Tryz.pinned (OpenSpec.ofChange filterPicturesWrong)

/-- 'chaselaw09.FilterKnown': WHATEVER THE INPUT: true; the input reads as it did. -/
def filterKnownSpec : ChangeSpec := { name := "filterKnown", fn := fun _ => fun
  | [] => { results := [.lit (.bool true)], args := [] }
  | _ => none }
def filterKnownRow : OpenClaim := { program := "ytcjbjemfobdkgaagreatdoor", sum := "feee86ff2759b13bb3b99dd54c19756d139c1a8a17f841f7e643f005e1e8c5bb", func := "chase/chaselaw09.FilterKnown", spec := "filterKnown", inPlace := ["internal/abi.NoEscape", "internal/bytealg.IndexByteString", "internal/bytealg.MakeNoZero"], unfollowed := true, recurses := true, named := ["chase/cosine.matrix"], plainKeys := false, apart := false, laid := [("chase/cosine.matrix", laid_chase_cosine_matrix)] }
def FilterKnownSaid : Prop := filterKnownRow.holds Tryz.pinned (OpenSpec.ofChange filterKnownSpec)

/-- ITS FALSE NEIGHBOUR: 'it returns false'. Refute it at one input. -/
def filterKnownWrong : ChangeSpec := { name := "filterKnown", fn := fun _ => fun
  | [] => { results := [.lit (.bool false)], args := [] }
  | _ => none }
def FilterKnownWrongFalsely : Prop := filterKnownRow.holds Tryz.pinned (OpenSpec.ofChange filterKnownWrong)

/- THE SECOND FORM. 'bulk': how many values and letters a reading holds, each counted each time it is reached (what is shared counts as often as it is met; a slice's spare places count too). A statement '..UptoSaid' is the law's where the arguments, and the package variables that the reading takes, are together of bulk at most 1048576: NARROWER than '..Said'. Prove '..Said' where nothing that the law and all that it calls make is longer than what came in: it says more and counts as full. Else prove '..UptoSaid'. A law counts once. -/
mutual
def uptoBulk {H : Type} : DataW H → Nat
  | .lit (.string bytes) => bytes.length + 1
  | .lit _ => 1
  | .nil => 1
  | .ptr d => uptoBulk d + 1
  | .slice elems spare => uptoBulkAll elems + uptoBulkAll spare + 1
  | .agg parts => uptoBulkAll parts + 1
  | .iface _ d => uptoBulk d + 1
  | .map entries => uptoBulkEntries entries + 1
  | .held _ => 1
def uptoBulkAll {H : Type} : List (DataW H) → Nat
  | [] => 0
  | d :: r => uptoBulk d + uptoBulkAll r
def uptoBulkEntries {H : Type} : List (Lit × DataW H) → Nat
  | [] => 0
  | x :: r => uptoBulkEntry x + uptoBulkEntries r
def uptoBulkEntry {H : Type} : Lit × DataW H → Nat
  | (.string bytes, d) => bytes.length + uptoBulk d + 1
  | (_, d) => uptoBulk d + 1
 end
def uptoSmall : (H : Type) → List (DataW H) → Bool := fun _ ds => decide (uptoBulkAll ds ≤ 1048576)
def OpenSpec.upto (s : _root_.Go.ChangeSpec) : _root_.Go.OpenSpec := { _root_.Go.OpenSpec.ofChange s with cond := some uptoSmall }

/-- 'chaselaw09.FilterChecks', WHERE WHAT IT READS IS OF BULK AT MOST 1048576: true; the input reads as it did. -/
def filterChecksUptoRow : OpenClaim := { program := "ytcjbjemfobdkgaagreatdoor", sum := "feee86ff2759b13bb3b99dd54c19756d139c1a8a17f841f7e643f005e1e8c5bb", func := "chase/chaselaw09.FilterChecks", spec := "filterChecks", inPlace := ["internal/abi.NoEscape", "internal/bytealg.IndexByteString"], unfollowed := true, recurses := true, named := ["chase/cosine.matrix"], plainKeys := false, apart := false, laid := [("chase/cosine.matrix", laid_chase_cosine_matrix)], narrowed := true }
def FilterChecksUptoSaid : Prop := filterChecksUptoRow.holds Tryz.pinned (OpenSpec.upto filterChecksSpec)

/-- 'chaselaw09.FilterDecodes', WHERE WHAT IT READS IS OF BULK AT MOST 1048576: true; the input reads as it did. -/
def filterDecodesUptoRow : OpenClaim := { program := "ytcjbjemfobdkgaagreatdoor", sum := "feee86ff2759b13bb3b99dd54c19756d139c1a8a17f841f7e643f005e1e8c5bb", func := "chase/chaselaw09.FilterDecodes", spec := "filterDecodes", inPlace := ["internal/abi.NoEscape", "internal/bytealg.IndexByteString"], unfollowed := true, recurses := true, named := ["chase/cosine.matrix"], plainKeys := false, apart := false, laid := [("chase/cosine.matrix", laid_chase_cosine_matrix)], narrowed := true }
def FilterDecodesUptoSaid : Prop := filterDecodesUptoRow.holds Tryz.pinned (OpenSpec.upto filterDecodesSpec)

/-- 'chaselaw09.FilterEncodes', WHERE WHAT IT READS IS OF BULK AT MOST 1048576: true; the input reads as it did. -/
def filterEncodesUptoRow : OpenClaim := { program := "ytcjbjemfobdkgaagreatdoor", sum := "feee86ff2759b13bb3b99dd54c19756d139c1a8a17f841f7e643f005e1e8c5bb", func := "chase/chaselaw09.FilterEncodes", spec := "filterEncodes", inPlace := ["internal/abi.NoEscape", "internal/bytealg.IndexByteString"], unfollowed := true, recurses := true, named := ["chase/cosine.matrix"], plainKeys := false, apart := false, laid := [("chase/cosine.matrix", laid_chase_cosine_matrix)], narrowed := true }
def FilterEncodesUptoSaid : Prop := filterEncodesUptoRow.holds Tryz.pinned (OpenSpec.upto filterEncodesSpec)

/-- 'chaselaw09.FilterBack', WHERE WHAT IT READS IS OF BULK AT MOST 1048576: true; the input reads as it did. -/
def filterBackUptoRow : OpenClaim := { program := "ytcjbjemfobdkgaagreatdoor", sum := "feee86ff2759b13bb3b99dd54c19756d139c1a8a17f841f7e643f005e1e8c5bb", func := "chase/chaselaw09.FilterBack", spec := "filterBack", inPlace := ["internal/abi.NoEscape", "internal/bytealg.IndexByteString"], unfollowed := true, recurses := true, named := ["chase/cosine.matrix"], plainKeys := false, apart := false, laid := [("chase/cosine.matrix", laid_chase_cosine_matrix)], narrowed := true }
def FilterBackUptoSaid : Prop := filterBackUptoRow.holds Tryz.pinned (OpenSpec.upto filterBackSpec)

/-- 'chaselaw09.FilterJoins', WHERE WHAT IT READS IS OF BULK AT MOST 1048576: true; the input reads as it did. -/
def filterJoinsUptoRow : OpenClaim := { program := "ytcjbjemfobdkgaagreatdoor", sum := "feee86ff2759b13bb3b99dd54c19756d139c1a8a17f841f7e643f005e1e8c5bb", func := "chase/chaselaw09.FilterJoins", spec := "filterJoins", inPlace := ["internal/abi.NoEscape", "internal/bytealg.IndexByteString"], unfollowed := true, recurses := true, named := ["chase/cosine.matrix"], plainKeys := false, apart := false, laid := [("chase/cosine.matrix", laid_chase_cosine_matrix)], narrowed := true }
def FilterJoinsUptoSaid : Prop := filterJoinsUptoRow.holds Tryz.pinned (OpenSpec.upto filterJoinsSpec)

/-- 'chaselaw09.FilterPictures', WHERE WHAT IT READS IS OF BULK AT MOST 1048576: true; the input reads as it did. -/
def filterPicturesUptoRow : OpenClaim := { program := "ytcjbjemfobdkgaagreatdoor", sum := "feee86ff2759b13bb3b99dd54c19756d139c1a8a17f841f7e643f005e1e8c5bb", func := "chase/chaselaw09.FilterPictures", spec := "filterPictures", inPlace := ["internal/abi.NoEscape", "internal/bytealg.IndexByteString", "internal/bytealg.MakeNoZero"], unfollowed := true, recurses := true, named := ["chase/cosine.matrix"], plainKeys := false, apart := false, laid := [("chase/cosine.matrix", laid_chase_cosine_matrix)], narrowed := true }
def FilterPicturesUptoSaid : Prop := filterPicturesUptoRow.holds Tryz.pinned (OpenSpec.upto filterPicturesSpec)

/-- 'chaselaw09.FilterKnown', WHERE WHAT IT READS IS OF BULK AT MOST 1048576: true; the input reads as it did. -/
def filterKnownUptoRow : OpenClaim := { program := "ytcjbjemfobdkgaagreatdoor", sum := "feee86ff2759b13bb3b99dd54c19756d139c1a8a17f841f7e643f005e1e8c5bb", func := "chase/chaselaw09.FilterKnown", spec := "filterKnown", inPlace := ["internal/abi.NoEscape", "internal/bytealg.IndexByteString", "internal/bytealg.MakeNoZero"], unfollowed := true, recurses := true, named := ["chase/cosine.matrix"], plainKeys := false, apart := false, laid := [("chase/cosine.matrix", laid_chase_cosine_matrix)], narrowed := true }
def FilterKnownUptoSaid : Prop := filterKnownUptoRow.holds Tryz.pinned (OpenSpec.upto filterKnownSpec)

end Rows
end Go.Proofs.YtcjbjemfobdkgaaGreatDoor
