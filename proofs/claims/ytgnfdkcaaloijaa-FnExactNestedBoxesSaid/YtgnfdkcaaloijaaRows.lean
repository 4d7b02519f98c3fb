/-
  No cell of these rows narrows 'for every input' (looked for: loops, veiled, ifaces, maps, wideKeys, modest, calm, conditions, laid).
  DERIVED. THE GIVEN ROWS OF THIS SEAT. 6 by the template 'for every input the law returns true; each argument reads behind the call as it read before'; 0 by the template 'total and deterministic' (their statements: YtgnfdkcaaloijaaTotals.lean).
  GIVEN WITH THE SEED: the statements are not yours to turn. If you find one false, say at which input.
  Laid BY PROGRAM, IN A SANDBOX (cutbox-rows.mjs): the forced cells as the released guide's own fill.sh prints them over the translation f1c092b661caddcf… (all of the seat's roots in one cut). By AI agents, Wed Nov 11 2026. No macro, syntax, notation, axiom, sorry.
-/
import Derived.Test.YtgnfdkcaaloijaaChecked
import GoSem.Claim
import GoSem.ClaimJoined
import GoSem.ClaimMapViews
import Derived.JoinedTies
import Derived.KernelRfl
namespace Go.Proofs.Ytgnfdkcaaloijaa
/- THE CELL 'sum', in the pinned program and in every row, IS THE sha256 OF THE DUMP (.gsa) THAT YtgnfdkcaaloijaaProg.lean LOADS. Nothing in Lean hashes anything: it is a label: what it is worth is what the hold of that sum in a sandbox is worth. -/
noncomputable def Try.pinned : Pinned := { name := "ytgnfdkcaaloijaa", sum := "f1c092b661caddcf6fffdc0b4109120e146558aacc442600034d655a43d16c77", checked := Try.checked }
namespace Rows
def none {H : Type} : Left H := { results := [], args := [] }

/-- 'laws.FnExactNestedBoxes': WHATEVER THE INPUT: true; the input reads as it did. -/
def fnExactNestedBoxesSpec : ChangeSpec := { name := "fnExactNestedBoxes", fn := fun _ => fun
  | [d] => { results := [.lit (.bool true)], args := [d] }
  | _ => none }
def fnExactNestedBoxesRow : OpenClaim := { program := "ytgnfdkcaaloijaa", sum := "f1c092b661caddcf6fffdc0b4109120e146558aacc442600034d655a43d16c77", func := "loop.example/g03309/laws.FnExactNestedBoxes", spec := "fnExactNestedBoxes", recurses := true, apart := false }
def FnExactNestedBoxesSaid : Prop := fnExactNestedBoxesRow.holds Try.pinned (OpenSpec.ofChange fnExactNestedBoxesSpec)

/-- ITS FALSE NEIGHBOUR: 'it returns false'. Refute it at one input. -/
def fnExactNestedBoxesWrong : ChangeSpec := { name := "fnExactNestedBoxes", fn := fun _ => fun
  | [d] => { results := [.lit (.bool false)], args := [d] }
  | _ => none }
def FnExactNestedBoxesWrongFalsely : Prop := fnExactNestedBoxesRow.holds Try.pinned (OpenSpec.ofChange fnExactNestedBoxesWrong)

/-- 'laws.FnExactCrank': WHATEVER THE INPUT: true; the input reads as it did. -/
def fnExactCrankSpec : ChangeSpec := { name := "fnExactCrank", fn := fun _ => fun
  | [d1, d2] => { results := [.lit (.bool true)], args := [d1, d2] }
  | _ => none }
def fnExactCrankRow : OpenClaim := { program := "ytgnfdkcaaloijaa", sum := "f1c092b661caddcf6fffdc0b4109120e146558aacc442600034d655a43d16c77", func := "loop.example/g03309/laws.FnExactCrank", spec := "fnExactCrank", apart := false }
def FnExactCrankSaid : Prop := fnExactCrankRow.holds Try.pinned (OpenSpec.ofChange fnExactCrankSpec)

/-- ITS FALSE NEIGHBOUR: 'it returns false'. Refute it at one input. -/
def fnExactCrankWrong : ChangeSpec := { name := "fnExactCrank", fn := fun _ => fun
  | [d1, d2] => { results := [.lit (.bool false)], args := [d1, d2] }
  | _ => none }
def FnExactCrankWrongFalsely : Prop := fnExactCrankRow.holds Try.pinned (OpenSpec.ofChange fnExactCrankWrong)

/-- 'laws.FnExactRemovePin': WHATEVER THE INPUT: true; the input reads as it did. -/
def fnExactRemovePinSpec : ChangeSpec := { name := "fnExactRemovePin", fn := fun _ => fun
  | [d1, d2] => { results := [.lit (.bool true)], args := [d1, d2] }
  | _ => none }
def fnExactRemovePinRow : OpenClaim := { program := "ytgnfdkcaaloijaa", sum := "f1c092b661caddcf6fffdc0b4109120e146558aacc442600034d655a43d16c77", func := "loop.example/g03309/laws.FnExactRemovePin", spec := "fnExactRemovePin", apart := false }
def FnExactRemovePinSaid : Prop := fnExactRemovePinRow.holds Try.pinned (OpenSpec.ofChange fnExactRemovePinSpec)

/-- ITS FALSE NEIGHBOUR: 'it returns false'. Refute it at one input. -/
def fnExactRemovePinWrong : ChangeSpec := { name := "fnExactRemovePin", fn := fun _ => fun
  | [d1, d2] => { results := [.lit (.bool false)], args := [d1, d2] }
  | _ => none }
def FnExactRemovePinWrongFalsely : Prop := fnExactRemovePinRow.holds Try.pinned (OpenSpec.ofChange fnExactRemovePinWrong)

/-- 'laws.FnExactPlayOnce': WHATEVER THE INPUT: true; the input reads as it did. -/
def fnExactPlayOnceSpec : ChangeSpec := { name := "fnExactPlayOnce", fn := fun _ => fun
  | [d] => { results := [.lit (.bool true)], args := [d] }
  | _ => none }
def fnExactPlayOnceRow : OpenClaim := { program := "ytgnfdkcaaloijaa", sum := "f1c092b661caddcf6fffdc0b4109120e146558aacc442600034d655a43d16c77", func := "loop.example/g03309/laws.FnExactPlayOnce", spec := "fnExactPlayOnce", apart := false }
def FnExactPlayOnceSaid : Prop := fnExactPlayOnceRow.holds Try.pinned (OpenSpec.ofChange fnExactPlayOnceSpec)

/-- ITS FALSE NEIGHBOUR: 'it returns false'. Refute it at one input. -/
def fnExactPlayOnceWrong : ChangeSpec := { name := "fnExactPlayOnce", fn := fun _ => fun
  | [d] => { results := [.lit (.bool false)], args := [d] }
  | _ => none }
def FnExactPlayOnceWrongFalsely : Prop := fnExactPlayOnceRow.holds Try.pinned (OpenSpec.ofChange fnExactPlayOnceWrong)

/-- 'laws.FnExactSetPin': WHATEVER THE INPUT: true; the input reads as it did. -/
def fnExactSetPinSpec : ChangeSpec := { name := "fnExactSetPin", fn := fun _ => fun
  | [d1, d2] => { results := [.lit (.bool true)], args := [d1, d2] }
  | _ => none }
def fnExactSetPinRow : OpenClaim := { program := "ytgnfdkcaaloijaa", sum := "f1c092b661caddcf6fffdc0b4109120e146558aacc442600034d655a43d16c77", func := "loop.example/g03309/laws.FnExactSetPin", spec := "fnExactSetPin", unfollowed := true, recurses := true, apart := false }
def FnExactSetPinSaid : Prop := fnExactSetPinRow.holds Try.pinned (OpenSpec.ofChange fnExactSetPinSpec)

/-- ITS FALSE NEIGHBOUR: 'it returns false'. Refute it at one input. -/
def fnExactSetPinWrong : ChangeSpec := { name := "fnExactSetPin", fn := fun _ => fun
  | [d1, d2] => { results := [.lit (.bool false)], args := [d1, d2] }
  | _ => none }
def FnExactSetPinWrongFalsely : Prop := fnExactSetPinRow.holds Try.pinned (OpenSpec.ofChange fnExactSetPinWrong)

/-- 'laws.FnExactMelodyOf': WHATEVER THE INPUT: true; the input reads as it did. -/
def fnExactMelodyOfSpec : ChangeSpec := { name := "fnExactMelodyOf", fn := fun _ => fun
  | [d] => { results := [.lit (.bool true)], args := [d] }
  | _ => none }
def fnExactMelodyOfRow : OpenClaim := { program := "ytgnfdkcaaloijaa", sum := "f1c092b661caddcf6fffdc0b4109120e146558aacc442600034d655a43d16c77", func := "loop.example/g03309/laws.FnExactMelodyOf", spec := "fnExactMelodyOf", unfollowed := true, recurses := true, apart := false }
def FnExactMelodyOfSaid : Prop := fnExactMelodyOfRow.holds Try.pinned (OpenSpec.ofChange fnExactMelodyOfSpec)

/-- ITS FALSE NEIGHBOUR: 'it returns false'. Refute it at one input. -/
def fnExactMelodyOfWrong : ChangeSpec := { name := "fnExactMelodyOf", fn := fun _ => fun
  | [d] => { results := [.lit (.bool false)], args := [d] }
  | _ => none }
def FnExactMelodyOfWrongFalsely : Prop := fnExactMelodyOfRow.holds Try.pinned (OpenSpec.ofChange fnExactMelodyOfWrong)

/- THE SECOND FORM. 'bulk': how many values and letters a reading holds, each counted each time it is reached (what is shared counts as often as it is met; a slice's spare places count too). A statement '..UptoSaid' is the law's where the arguments, and the package variables that the reading takes, are together of bulk at most 1048576: NARROWER than '..Said'. Prove '..Said' where nothing that the law and all that it calls make is longer than what came in: it says more and counts as full. Else prove '..UptoSaid'. A law counts once. -/
mutual
def uptoBulk {H : Type} : DataW H → Nat
  | .lit (.string bytes) => bytes.length + 1
  | .lit _ => 1
  | .nil => 1
  | .ptr d => uptoBulk d + 1
  | .slice elems spare => uptoBulkAll elems + uptoBulkAll spare + 1
  | .agg parts => uptoBulkAll parts + 1
  | .iface _ d => uptoBulk d + 1
  | .map entries => uptoBulkEntries entries + 1
  | .held _ => 1
def uptoBulkAll {H : Type} : List (DataW H) → Nat
  | [] => 0
  | d :: r => uptoBulk d + uptoBulkAll r
def uptoBulkEntries {H : Type} : List (Lit × DataW H) → Nat
  | [] => 0
  | x :: r => uptoBulkEntry x + uptoBulkEntries r
def uptoBulkEntry {H : Type} : Lit × DataW H → Nat
  | (.string bytes, d) => bytes.length + uptoBulk d + 1
  | (_, d) => uptoBulk d + 1
 end
def uptoSmall : (H : Type) → List (DataW H) → Bool := fun _ ds => decide (uptoBulkAll ds ≤ 1048576)
def OpenSpec.upto (s : _root_.Go.ChangeSpec) : _root_.Go.OpenSpec := { _root_.Go.OpenSpec.ofChange s with cond := some uptoSmall }

/-- 'laws.FnExactNestedBoxes', WHERE WHAT IT READS IS OF BULK AT MOST 1048576: true; the input reads as it did. -/
def fnExactNestedBoxesUptoRow : OpenClaim := { program := "ytgnfdkcaaloijaa", sum := "f1c092b661caddcf6fffdc0b4109120e146558aacc442600034d655a43d16c77", func := "loop.example/g03309/laws.FnExactNestedBoxes", spec := "fnExactNestedBoxes", recurses := true, apart := false, narrowed := true }
def FnExactNestedBoxesUptoSaid : Prop := fnExactNestedBoxesUptoRow.holds Try.pinned (OpenSpec.upto fnExactNestedBoxesSpec)

/-- 'laws.FnExactCrank', WHERE WHAT IT READS IS OF BULK AT MOST 1048576: true; the input reads as it did. -/
def fnExactCrankUptoRow : OpenClaim := { program := "ytgnfdkcaaloijaa", sum := "f1c092b661caddcf6fffdc0b4109120e146558aacc442600034d655a43d16c77", func := "loop.example/g03309/laws.FnExactCrank", spec := "fnExactCrank", apart := false, narrowed := true }
def FnExactCrankUptoSaid : Prop := fnExactCrankUptoRow.holds Try.pinned (OpenSpec.upto fnExactCrankSpec)

/-- 'laws.FnExactRemovePin', WHERE WHAT IT READS IS OF BULK AT MOST 1048576: true; the input reads as it did. -/
def fnExactRemovePinUptoRow : OpenClaim := { program := "ytgnfdkcaaloijaa", sum := "f1c092b661caddcf6fffdc0b4109120e146558aacc442600034d655a43d16c77", func := "loop.example/g03309/laws.FnExactRemovePin", spec := "fnExactRemovePin", apart := false, narrowed := true }
def FnExactRemovePinUptoSaid : Prop := fnExactRemovePinUptoRow.holds Try.pinned (OpenSpec.upto fnExactRemovePinSpec)

/-- 'laws.FnExactPlayOnce', WHERE WHAT IT READS IS OF BULK AT MOST 1048576: true; the input reads as it did. -/
def fnExactPlayOnceUptoRow : OpenClaim := { program := "ytgnfdkcaaloijaa", sum := "f1c092b661caddcf6fffdc0b4109120e146558aacc442600034d655a43d16c77", func := "loop.example/g03309/laws.FnExactPlayOnce", spec := "fnExactPlayOnce", apart := false, narrowed := true }
def FnExactPlayOnceUptoSaid : Prop := fnExactPlayOnceUptoRow.holds Try.pinned (OpenSpec.upto fnExactPlayOnceSpec)

/-- 'laws.FnExactSetPin', WHERE WHAT IT READS IS OF BULK AT MOST 1048576: true; the input reads as it did. -/
def fnExactSetPinUptoRow : OpenClaim := { program := "ytgnfdkcaaloijaa", sum := "f1c092b661caddcf6fffdc0b4109120e146558aacc442600034d655a43d16c77", func := "loop.example/g03309/laws.FnExactSetPin", spec := "fnExactSetPin", unfollowed := true, recurses := true, apart := false, narrowed := true }
def FnExactSetPinUptoSaid : Prop := fnExactSetPinUptoRow.holds Try.pinned (OpenSpec.upto fnExactSetPinSpec)

/-- 'laws.FnExactMelodyOf', WHERE WHAT IT READS IS OF BULK AT MOST 1048576: true; the input reads as it did. -/
def fnExactMelodyOfUptoRow : OpenClaim := { program := "ytgnfdkcaaloijaa", sum := "f1c092b661caddcf6fffdc0b4109120e146558aacc442600034d655a43d16c77", func := "loop.example/g03309/laws.FnExactMelodyOf", spec := "fnExactMelodyOf", unfollowed := true, recurses := true, apart := false, narrowed := true }
def FnExactMelodyOfUptoSaid : Prop := fnExactMelodyOfUptoRow.holds Try.pinned (OpenSpec.upto fnExactMelodyOfSpec)

end Rows
end Go.Proofs.Ytgnfdkcaaloijaa
