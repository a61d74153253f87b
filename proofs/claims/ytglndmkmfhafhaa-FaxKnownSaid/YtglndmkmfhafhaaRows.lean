/-
  No cell of these rows narrows 'for every input' (looked for: loops, veiled, ifaces, maps, wideKeys, modest, calm, conditions, laid).
  DERIVED. THE GIVEN ROWS OF THIS SEAT. 6 by the template 'for every input the law returns true; each argument reads behind the call as it read before'; 0 by the template 'total and deterministic' (their statements: YtglndmkmfhafhaaTotals.lean).
  GIVEN WITH THE SEED: the statements are not yours to turn. If you find one false, say at which input.
  Laid BY PROGRAM, IN A SANDBOX (cutbox-rows.mjs): the forced cells as the released guide's own fill.sh prints them over the translation 638fbdfd723a49ca… (all of the seat's roots in one cut). By AI agents, Wed Nov 11 2026. No macro, syntax, notation, axiom, sorry.
-/
import Derived.Test.YtglndmkmfhafhaaChecked
import GoSem.Claim
import GoSem.ClaimJoined
import GoSem.ClaimMapViews
import Derived.JoinedTies
import Derived.KernelRfl
namespace Go.Proofs.Ytglndmkmfhafhaa
/- THE CELL 'sum', in the pinned program and in every row, IS THE sha256 OF THE DUMP (.gsa) THAT YtglndmkmfhafhaaProg.lean LOADS. Nothing in Lean hashes anything: it is a label: what it is worth is what the hold of that sum in a sandbox is worth. -/
noncomputable def Try.pinned : Pinned := { name := "ytglndmkmfhafhaa", sum := "638fbdfd723a49ca5a4a7cb156ac4da1f32fe05402335bba4e312437155b3dbe", checked := Try.checked }
namespace Rows
def none {H : Type} : Left H := { results := [], args := [] }

/-- 'chaselaw07.FaxEncodes': WHATEVER THE INPUT: true; the input reads as it did. -/
def faxEncodesSpec : ChangeSpec := { name := "faxEncodes", fn := fun _ => fun
  | [d1, d2, d3] => { results := [.lit (.bool true)], args := [d1, d2, d3] }
  | _ => none }
def faxEncodesRow : OpenClaim := { program := "ytglndmkmfhafhaa", sum := "638fbdfd723a49ca5a4a7cb156ac4da1f32fe05402335bba4e312437155b3dbe", func := "chase/chaselaw07.FaxEncodes", spec := "faxEncodes", unfollowed := true, recurses := true, apart := false }
def FaxEncodesSaid : Prop := faxEncodesRow.holds Try.pinned (OpenSpec.ofChange faxEncodesSpec)

/-- ITS FALSE NEIGHBOUR: 'it returns false'. Refute it at one input. -/
def faxEncodesWrong : ChangeSpec := { name := "faxEncodes", fn := fun _ => fun
  | [d1, d2, d3] => { results := [.lit (.bool false)], args := [d1, d2, d3] }
  | _ => none }
def FaxEncodesWrongFalsely : Prop := faxEncodesRow.holds Try.pinned (OpenSpec.ofChange faxEncodesWrong)

/-- 'chaselaw07.FaxDecodes': WHATEVER THE INPUT: true; the input reads as it did. -/
def faxDecodesSpec : ChangeSpec := { name := "faxDecodes", fn := fun _ => fun
  | [d1, d2, d3, d4, d5] => { results := [.lit (.bool true)], args := [d1, d2, d3, d4, d5] }
  | _ => none }
def faxDecodesRow : OpenClaim := { program := "ytglndmkmfhafhaa", sum := "638fbdfd723a49ca5a4a7cb156ac4da1f32fe05402335bba4e312437155b3dbe", func := "chase/chaselaw07.FaxDecodes", spec := "faxDecodes", unfollowed := true, recurses := true, apart := false }
def FaxDecodesSaid : Prop := faxDecodesRow.holds Try.pinned (OpenSpec.ofChange faxDecodesSpec)

/-- ITS FALSE NEIGHBOUR: 'it returns false'. Refute it at one input. -/
def faxDecodesWrong : ChangeSpec := { name := "faxDecodes", fn := fun _ => fun
  | [d1, d2, d3, d4, d5] => { results := [.lit (.bool false)], args := [d1, d2, d3, d4, d5] }
  | _ => none }
def FaxDecodesWrongFalsely : Prop := faxDecodesRow.holds Try.pinned (OpenSpec.ofChange faxDecodesWrong)

/-- 'chaselaw07.FaxBack': WHATEVER THE INPUT: true; the input reads as it did. -/
def faxBackSpec : ChangeSpec := { name := "faxBack", fn := fun _ => fun
  | [d1, d2] => { results := [.lit (.bool true)], args := [d1, d2] }
  | _ => none }
def faxBackRow : OpenClaim := { program := "ytglndmkmfhafhaa", sum := "638fbdfd723a49ca5a4a7cb156ac4da1f32fe05402335bba4e312437155b3dbe", func := "chase/chaselaw07.FaxBack", spec := "faxBack", unfollowed := true, recurses := true, apart := false }
def FaxBackSaid : Prop := faxBackRow.holds Try.pinned (OpenSpec.ofChange faxBackSpec)

/-- ITS FALSE NEIGHBOUR: 'it returns false'. Refute it at one input. -/
def faxBackWrong : ChangeSpec := { name := "faxBack", fn := fun _ => fun
  | [d1, d2] => { results := [.lit (.bool false)], args := [d1, d2] }
  | _ => none }
def FaxBackWrongFalsely : Prop := faxBackRow.holds Try.pinned (OpenSpec.ofChange faxBackWrong)

/-- 'chaselaw07.FaxMirrors': WHATEVER THE INPUT: true; the input reads as it did. -/
def faxMirrorsSpec : ChangeSpec := { name := "faxMirrors", fn := fun _ => fun
  | [d1, d2] => { results := [.lit (.bool true)], args := [d1, d2] }
  | _ => none }
def faxMirrorsRow : OpenClaim := { program := "ytglndmkmfhafhaa", sum := "638fbdfd723a49ca5a4a7cb156ac4da1f32fe05402335bba4e312437155b3dbe", func := "chase/chaselaw07.FaxMirrors", spec := "faxMirrors", unfollowed := true, recurses := true, apart := false }
def FaxMirrorsSaid : Prop := faxMirrorsRow.holds Try.pinned (OpenSpec.ofChange faxMirrorsSpec)

/-- ITS FALSE NEIGHBOUR: 'it returns false'. Refute it at one input. -/
def faxMirrorsWrong : ChangeSpec := { name := "faxMirrors", fn := fun _ => fun
  | [d1, d2] => { results := [.lit (.bool false)], args := [d1, d2] }
  | _ => none }
def FaxMirrorsWrongFalsely : Prop := faxMirrorsRow.holds Try.pinned (OpenSpec.ofChange faxMirrorsWrong)

/-- 'chaselaw07.FaxSame': WHATEVER THE INPUT: true; the input reads as it did. -/
def faxSameSpec : ChangeSpec := { name := "faxSame", fn := fun _ => fun
  | [d1, d2] => { results := [.lit (.bool true)], args := [d1, d2] }
  | _ => none }
def faxSameRow : OpenClaim := { program := "ytglndmkmfhafhaa", sum := "638fbdfd723a49ca5a4a7cb156ac4da1f32fe05402335bba4e312437155b3dbe", func := "chase/chaselaw07.FaxSame", spec := "faxSame", inPlace := ["internal/abi.NoEscape", "internal/bytealg.MakeNoZero"], unfollowed := true, recurses := true, apart := false }
def FaxSameSaid : Prop := faxSameRow.holds Try.pinned (OpenSpec.ofChange faxSameSpec)

/-- ITS FALSE NEIGHBOUR: 'it returns false'. Refute it at one input. -/
def faxSameWrong : ChangeSpec := { name := "faxSame", fn := fun _ => fun
  | [d1, d2] => { results := [.lit (.bool false)], args := [d1, d2] }
  | _ => none }
def FaxSameWrongFalsely : Prop := faxSameRow.holds Try.pinned (OpenSpec.ofChange faxSameWrong)

/-- 'chaselaw07.FaxKnown': WHATEVER THE INPUT: true; the input reads as it did. -/
def faxKnownSpec : ChangeSpec := { name := "faxKnown", fn := fun _ => fun
  | [] => { results := [.lit (.bool true)], args := [] }
  | _ => none }
def faxKnownRow : OpenClaim := { program := "ytglndmkmfhafhaa", sum := "638fbdfd723a49ca5a4a7cb156ac4da1f32fe05402335bba4e312437155b3dbe", func := "chase/chaselaw07.FaxKnown", spec := "faxKnown", inPlace := ["internal/abi.NoEscape", "internal/bytealg.MakeNoZero"], unfollowed := true, recurses := true, apart := false }
def FaxKnownSaid : Prop := faxKnownRow.holds Try.pinned (OpenSpec.ofChange faxKnownSpec)

/-- ITS FALSE NEIGHBOUR: 'it returns false'. Refute it at one input. -/
def faxKnownWrong : ChangeSpec := { name := "faxKnown", fn := fun _ => fun
  | [] => { results := [.lit (.bool false)], args := [] }
  | _ => none }
def FaxKnownWrongFalsely : Prop := faxKnownRow.holds Try.pinned (OpenSpec.ofChange faxKnownWrong)

/- THE SECOND FORM. 'bulk': how many values and letters a reading holds, each counted each time it is reached (what is shared counts as often as it is met; a slice's spare places count too). A statement '..UptoSaid' is the law's where the arguments, and the package variables that the reading takes, are together of bulk at most 1048576: NARROWER than '..Said'. Prove '..Said' where nothing that the law and all that it calls make is longer than what came in: it says more and counts as full. Else prove '..UptoSaid'. A law counts once. -/
mutual
def uptoBulk {H : Type} : DataW H → Nat
  | .lit (.string bytes) => bytes.length + 1
  | .lit _ => 1
  | .nil => 1
  | .ptr d => uptoBulk d + 1
  | .slice elems spare => uptoBulkAll elems + uptoBulkAll spare + 1
  | .agg parts => uptoBulkAll parts + 1
  | .iface _ d => uptoBulk d + 1
  | .map entries => uptoBulkEntries entries + 1
  | .held _ => 1
def uptoBulkAll {H : Type} : List (DataW H) → Nat
  | [] => 0
  | d :: r => uptoBulk d + uptoBulkAll r
def uptoBulkEntries {H : Type} : List (Lit × DataW H) → Nat
  | [] => 0
  | x :: r => uptoBulkEntry x + uptoBulkEntries r
def uptoBulkEntry {H : Type} : Lit × DataW H → Nat
  | (.string bytes, d) => bytes.length + uptoBulk d + 1
  | (_, d) => uptoBulk d + 1
 end
def uptoSmall : (H : Type) → List (DataW H) → Bool := fun _ ds => decide (uptoBulkAll ds ≤ 1048576)
def OpenSpec.upto (s : _root_.Go.ChangeSpec) : _root_.Go.OpenSpec := { _root_.Go.OpenSpec.ofChange s with cond := some uptoSmall }

/-- 'chaselaw07.FaxEncodes', WHERE WHAT IT READS IS OF BULK AT MOST 1048576: true; the input reads as it did. -/
def faxEncodesUptoRow : OpenClaim := { program := "ytglndmkmfhafhaa", sum := "638fbdfd723a49ca5a4a7cb156ac4da1f32fe05402335bba4e312437155b3dbe", func := "chase/chaselaw07.FaxEncodes", spec := "faxEncodes", unfollowed := true, recurses := true, apart := false, narrowed := true }
def FaxEncodesUptoSaid : Prop := faxEncodesUptoRow.holds Try.pinned (OpenSpec.upto faxEncodesSpec)

/-- 'chaselaw07.FaxDecodes', WHERE WHAT IT READS IS OF BULK AT MOST 1048576: true; the input reads as it did. -/
def faxDecodesUptoRow : OpenClaim := { program := "ytglndmkmfhafhaa", sum := "638fbdfd723a49ca5a4a7cb156ac4da1f32fe05402335bba4e312437155b3dbe", func := "chase/chaselaw07.FaxDecodes", spec := "faxDecodes", unfollowed := true, recurses := true, apart := false, narrowed := true }
def FaxDecodesUptoSaid : Prop := faxDecodesUptoRow.holds Try.pinned (OpenSpec.upto faxDecodesSpec)

/-- 'chaselaw07.FaxBack', WHERE WHAT IT READS IS OF BULK AT MOST 1048576: true; the input reads as it did. -/
def faxBackUptoRow : OpenClaim := { program := "ytglndmkmfhafhaa", sum := "638fbdfd723a49ca5a4a7cb156ac4da1f32fe05402335bba4e312437155b3dbe", func := "chase/chaselaw07.FaxBack", spec := "faxBack", unfollowed := true, recurses := true, apart := false, narrowed := true }
def FaxBackUptoSaid : Prop := faxBackUptoRow.holds Try.pinned (OpenSpec.upto faxBackSpec)

/-- 'chaselaw07.FaxMirrors', WHERE WHAT IT READS IS OF BULK AT MOST 1048576: true; the input reads as it did. -/
def faxMirrorsUptoRow : OpenClaim := { program := "ytglndmkmfhafhaa", sum := "638fbdfd723a49ca5a4a7cb156ac4da1f32fe05402335bba4e312437155b3dbe", func := "chase/chaselaw07.FaxMirrors", spec := "faxMirrors", unfollowed := true, recurses := true, apart := false, narrowed := true }
def FaxMirrorsUptoSaid : Prop := faxMirrorsUptoRow.holds Try.pinned (OpenSpec.upto faxMirrorsSpec)

/-- 'chaselaw07.FaxSame', WHERE WHAT IT READS IS OF BULK AT MOST 1048576: true; the input reads as it did. -/
def faxSameUptoRow : OpenClaim := { program := "ytglndmkmfhafhaa", sum := "638fbdfd723a49ca5a4a7cb156ac4da1f32fe05402335bba4e312437155b3dbe", func := "chase/chaselaw07.FaxSame", spec := "faxSame", inPlace := ["internal/abi.NoEscape", "internal/bytealg.MakeNoZero"], unfollowed := true, recurses := true, apart := false, narrowed := true }
def FaxSameUptoSaid : Prop := faxSameUptoRow.holds Try.pinned (OpenSpec.upto faxSameSpec)

/-- 'chaselaw07.FaxKnown', WHERE WHAT IT READS IS OF BULK AT MOST 1048576: true; the input reads as it did. -/
def faxKnownUptoRow : OpenClaim := { program := "ytglndmkmfhafhaa", sum := "638fbdfd723a49ca5a4a7cb156ac4da1f32fe05402335bba4e312437155b3dbe", func := "chase/chaselaw07.FaxKnown", spec := "faxKnown", inPlace := ["internal/abi.NoEscape", "internal/bytealg.MakeNoZero"], unfollowed := true, recurses := true, apart := false, narrowed := true }
def FaxKnownUptoSaid : Prop := faxKnownUptoRow.holds Try.pinned (OpenSpec.upto faxKnownSpec)

end Rows
end Go.Proofs.Ytglndmkmfhafhaa
