/-
  No cell of these rows narrows 'for every input' (looked for: loops, veiled, ifaces, maps, wideKeys, modest, calm, conditions, laid).
  DERIVED. THE GIVEN ROWS OF THIS SEAT. 6 by the template 'for every input the law returns true; each argument reads behind the call as it read before'; 0 by the template 'total and deterministic' (their statements: YtehjkomfifejbaaTotals.lean).
  GIVEN WITH THE SEED: the statements are not yours to turn. If you find one false, say at which input.
  Laid BY PROGRAM, IN A SANDBOX (cutbox-rows.mjs): the forced cells as the released guide's own fill.sh prints them over the translation 8ea3ece6750cd7cd… (all of the seat's roots in one cut). By AI agents, Wed Nov 11 2026. No macro, syntax, notation, axiom, sorry.
-/
import Derived.Test.YtehjkomfifejbaaChecked
import GoSem.Claim
import GoSem.ClaimJoined
import GoSem.ClaimMapViews
import Derived.JoinedTies
import Derived.KernelRfl
namespace Go.Proofs.Ytehjkomfifejbaa
/- THE CELL 'sum', in the pinned program and in every row, IS THE sha256 OF THE DUMP (.gsa) THAT YtehjkomfifejbaaProg.lean LOADS. Nothing in Lean hashes anything: it is a label: what it is worth is what the hold of that sum in a sandbox is worth. -/
noncomputable def Try.pinned : Pinned := { name := "ytehjkomfifejbaa", sum := "8ea3ece6750cd7cd4d56506ad0588e09d20352815ff7e1ee44ad43bd972dc93c", checked := Try.checked }
namespace Rows
def none {H : Type} : Left H := { results := [], args := [] }

/-- 'laws.FnExactBoxOk': WHATEVER THE INPUT: true; the input reads as it did. -/
def fnExactBoxOkSpec : ChangeSpec := { name := "fnExactBoxOk", fn := fun _ => fun
  | [d] => { results := [.lit (.bool true)], args := [d] }
  | _ => none }
def fnExactBoxOkRow : OpenClaim := { program := "ytehjkomfifejbaa", sum := "8ea3ece6750cd7cd4d56506ad0588e09d20352815ff7e1ee44ad43bd972dc93c", func := "loop.example/g03309/laws.FnExactBoxOk", spec := "fnExactBoxOk", apart := false }
def FnExactBoxOkSaid : Prop := fnExactBoxOkRow.holds Try.pinned (OpenSpec.ofChange fnExactBoxOkSpec)

/-- ITS FALSE NEIGHBOUR: 'it returns false'. Refute it at one input. -/
def fnExactBoxOkWrong : ChangeSpec := { name := "fnExactBoxOk", fn := fun _ => fun
  | [d] => { results := [.lit (.bool false)], args := [d] }
  | _ => none }
def FnExactBoxOkWrongFalsely : Prop := fnExactBoxOkRow.holds Try.pinned (OpenSpec.ofChange fnExactBoxOkWrong)

/-- 'laws.FnExactActOk': WHATEVER THE INPUT: true; the input reads as it did. -/
def fnExactActOkSpec : ChangeSpec := { name := "fnExactActOk", fn := fun _ => fun
  | [d] => { results := [.lit (.bool true)], args := [d] }
  | _ => none }
def fnExactActOkRow : OpenClaim := { program := "ytehjkomfifejbaa", sum := "8ea3ece6750cd7cd4d56506ad0588e09d20352815ff7e1ee44ad43bd972dc93c", func := "loop.example/g03309/laws.FnExactActOk", spec := "fnExactActOk", apart := false }
def FnExactActOkSaid : Prop := fnExactActOkRow.holds Try.pinned (OpenSpec.ofChange fnExactActOkSpec)

/-- ITS FALSE NEIGHBOUR: 'it returns false'. Refute it at one input. -/
def fnExactActOkWrong : ChangeSpec := { name := "fnExactActOk", fn := fun _ => fun
  | [d] => { results := [.lit (.bool false)], args := [d] }
  | _ => none }
def FnExactActOkWrongFalsely : Prop := fnExactActOkRow.holds Try.pinned (OpenSpec.ofChange fnExactActOkWrong)

/-- 'laws.FnExactSortedBox': WHATEVER THE INPUT: true; the input reads as it did. -/
def fnExactSortedBoxSpec : ChangeSpec := { name := "fnExactSortedBox", fn := fun _ => fun
  | [d] => { results := [.lit (.bool true)], args := [d] }
  | _ => none }
def fnExactSortedBoxRow : OpenClaim := { program := "ytehjkomfifejbaa", sum := "8ea3ece6750cd7cd4d56506ad0588e09d20352815ff7e1ee44ad43bd972dc93c", func := "loop.example/g03309/laws.FnExactSortedBox", spec := "fnExactSortedBox", apart := false }
def FnExactSortedBoxSaid : Prop := fnExactSortedBoxRow.holds Try.pinned (OpenSpec.ofChange fnExactSortedBoxSpec)

/-- ITS FALSE NEIGHBOUR: 'it returns false'. Refute it at one input. -/
def fnExactSortedBoxWrong : ChangeSpec := { name := "fnExactSortedBox", fn := fun _ => fun
  | [d] => { results := [.lit (.bool false)], args := [d] }
  | _ => none }
def FnExactSortedBoxWrongFalsely : Prop := fnExactSortedBoxRow.holds Try.pinned (OpenSpec.ofChange fnExactSortedBoxWrong)

/-- 'laws.FnExactFitsIn': WHATEVER THE INPUT: true; the input reads as it did. -/
def fnExactFitsInSpec : ChangeSpec := { name := "fnExactFitsIn", fn := fun _ => fun
  | [d1, d2] => { results := [.lit (.bool true)], args := [d1, d2] }
  | _ => none }
def fnExactFitsInRow : OpenClaim := { program := "ytehjkomfifejbaa", sum := "8ea3ece6750cd7cd4d56506ad0588e09d20352815ff7e1ee44ad43bd972dc93c", func := "loop.example/g03309/laws.FnExactFitsIn", spec := "fnExactFitsIn", apart := false }
def FnExactFitsInSaid : Prop := fnExactFitsInRow.holds Try.pinned (OpenSpec.ofChange fnExactFitsInSpec)

/-- ITS FALSE NEIGHBOUR: 'it returns false'. Refute it at one input. -/
def fnExactFitsInWrong : ChangeSpec := { name := "fnExactFitsIn", fn := fun _ => fun
  | [d1, d2] => { results := [.lit (.bool false)], args := [d1, d2] }
  | _ => none }
def FnExactFitsInWrongFalsely : Prop := fnExactFitsInRow.holds Try.pinned (OpenSpec.ofChange fnExactFitsInWrong)

/-- 'laws.FnExactLeftOver': WHATEVER THE INPUT: true; the input reads as it did. -/
def fnExactLeftOverSpec : ChangeSpec := { name := "fnExactLeftOver", fn := fun _ => fun
  | [d1, d2] => { results := [.lit (.bool true)], args := [d1, d2] }
  | _ => none }
def fnExactLeftOverRow : OpenClaim := { program := "ytehjkomfifejbaa", sum := "8ea3ece6750cd7cd4d56506ad0588e09d20352815ff7e1ee44ad43bd972dc93c", func := "loop.example/g03309/laws.FnExactLeftOver", spec := "fnExactLeftOver", apart := false }
def FnExactLeftOverSaid : Prop := fnExactLeftOverRow.holds Try.pinned (OpenSpec.ofChange fnExactLeftOverSpec)

/-- ITS FALSE NEIGHBOUR: 'it returns false'. Refute it at one input. -/
def fnExactLeftOverWrong : ChangeSpec := { name := "fnExactLeftOver", fn := fun _ => fun
  | [d1, d2] => { results := [.lit (.bool false)], args := [d1, d2] }
  | _ => none }
def FnExactLeftOverWrongFalsely : Prop := fnExactLeftOverRow.holds Try.pinned (OpenSpec.ofChange fnExactLeftOverWrong)

/-- 'laws.FnExactPiecesOk': WHATEVER THE INPUT: true; the input reads as it did. -/
def fnExactPiecesOkSpec : ChangeSpec := { name := "fnExactPiecesOk", fn := fun _ => fun
  | [d] => { results := [.lit (.bool true)], args := [d] }
  | _ => none }
def fnExactPiecesOkRow : OpenClaim := { program := "ytehjkomfifejbaa", sum := "8ea3ece6750cd7cd4d56506ad0588e09d20352815ff7e1ee44ad43bd972dc93c", func := "loop.example/g03309/laws.FnExactPiecesOk", spec := "fnExactPiecesOk", apart := false }
def FnExactPiecesOkSaid : Prop := fnExactPiecesOkRow.holds Try.pinned (OpenSpec.ofChange fnExactPiecesOkSpec)

/-- ITS FALSE NEIGHBOUR: 'it returns false'. Refute it at one input. -/
def fnExactPiecesOkWrong : ChangeSpec := { name := "fnExactPiecesOk", fn := fun _ => fun
  | [d] => { results := [.lit (.bool false)], args := [d] }
  | _ => none }
def FnExactPiecesOkWrongFalsely : Prop := fnExactPiecesOkRow.holds Try.pinned (OpenSpec.ofChange fnExactPiecesOkWrong)

/- THE SECOND FORM. 'bulk': how many values and letters a reading holds, each counted each time it is reached (what is shared counts as often as it is met; a slice's spare places count too). A statement '..UptoSaid' is the law's where the arguments, and the package variables that the reading takes, are together of bulk at most 1048576: NARROWER than '..Said'. Prove '..Said' where nothing that the law and all that it calls make is longer than what came in: it says more and counts as full. Else prove '..UptoSaid'. A law counts once. -/
mutual
def uptoBulk {H : Type} : DataW H → Nat
  | .lit (.string bytes) => bytes.length + 1
  | .lit _ => 1
  | .nil => 1
  | .ptr d => uptoBulk d + 1
  | .slice elems spare => uptoBulkAll elems + uptoBulkAll spare + 1
  | .agg parts => uptoBulkAll parts + 1
  | .iface _ d => uptoBulk d + 1
  | .map entries => uptoBulkEntries entries + 1
  | .held _ => 1
def uptoBulkAll {H : Type} : List (DataW H) → Nat
  | [] => 0
  | d :: r => uptoBulk d + uptoBulkAll r
def uptoBulkEntries {H : Type} : List (Lit × DataW H) → Nat
  | [] => 0
  | x :: r => uptoBulkEntry x + uptoBulkEntries r
def uptoBulkEntry {H : Type} : Lit × DataW H → Nat
  | (.string bytes, d) => bytes.length + uptoBulk d + 1
  | (_, d) => uptoBulk d + 1
 end
def uptoSmall : (H : Type) → List (DataW H) → Bool := fun _ ds => decide (uptoBulkAll ds ≤ 1048576)
def OpenSpec.upto (s : _root_.Go.ChangeSpec) : _root_.Go.OpenSpec := { _root_.Go.OpenSpec.ofChange s with cond := some uptoSmall }

/-- 'laws.FnExactBoxOk', WHERE WHAT IT READS IS OF BULK AT MOST 1048576: true; the input reads as it did. -/
def fnExactBoxOkUptoRow : OpenClaim := { program := "ytehjkomfifejbaa", sum := "8ea3ece6750cd7cd4d56506ad0588e09d20352815ff7e1ee44ad43bd972dc93c", func := "loop.example/g03309/laws.FnExactBoxOk", spec := "fnExactBoxOk", apart := false, narrowed := true }
def FnExactBoxOkUptoSaid : Prop := fnExactBoxOkUptoRow.holds Try.pinned (OpenSpec.upto fnExactBoxOkSpec)

/-- 'laws.FnExactActOk', WHERE WHAT IT READS IS OF BULK AT MOST 1048576: true; the input reads as it did. -/
def fnExactActOkUptoRow : OpenClaim := { program := "ytehjkomfifejbaa", sum := "8ea3ece6750cd7cd4d56506ad0588e09d20352815ff7e1ee44ad43bd972dc93c", func := "loop.example/g03309/laws.FnExactActOk", spec := "fnExactActOk", apart := false, narrowed := true }
def FnExactActOkUptoSaid : Prop := fnExactActOkUptoRow.holds Try.pinned (OpenSpec.upto fnExactActOkSpec)

/-- 'laws.FnExactSortedBox', WHERE WHAT IT READS IS OF BULK AT MOST 1048576: true; the input reads as it did. -/
def fnExactSortedBoxUptoRow : OpenClaim := { program := "ytehjkomfifejbaa", sum := "8ea3ece6750cd7cd4d56506ad0588e09d20352815ff7e1ee44ad43bd972dc93c", func := "loop.example/g03309/laws.FnExactSortedBox", spec := "fnExactSortedBox", apart := false, narrowed := true }
def FnExactSortedBoxUptoSaid : Prop := fnExactSortedBoxUptoRow.holds Try.pinned (OpenSpec.upto fnExactSortedBoxSpec)

/-- 'laws.FnExactFitsIn', WHERE WHAT IT READS IS OF BULK AT MOST 1048576: true; the input reads as it did. -/
def fnExactFitsInUptoRow : OpenClaim := { program := "ytehjkomfifejbaa", sum := "8ea3ece6750cd7cd4d56506ad0588e09d20352815ff7e1ee44ad43bd972dc93c", func := "loop.example/g03309/laws.FnExactFitsIn", spec := "fnExactFitsIn", apart := false, narrowed := true }
def FnExactFitsInUptoSaid : Prop := fnExactFitsInUptoRow.holds Try.pinned (OpenSpec.upto fnExactFitsInSpec)

/-- 'laws.FnExactLeftOver', WHERE WHAT IT READS IS OF BULK AT MOST 1048576: true; the input reads as it did. -/
def fnExactLeftOverUptoRow : OpenClaim := { program := "ytehjkomfifejbaa", sum := "8ea3ece6750cd7cd4d56506ad0588e09d20352815ff7e1ee44ad43bd972dc93c", func := "loop.example/g03309/laws.FnExactLeftOver", spec := "fnExactLeftOver", apart := false, narrowed := true }
def FnExactLeftOverUptoSaid : Prop := fnExactLeftOverUptoRow.holds Try.pinned (OpenSpec.upto fnExactLeftOverSpec)

/-- 'laws.FnExactPiecesOk', WHERE WHAT IT READS IS OF BULK AT MOST 1048576: true; the input reads as it did. -/
def fnExactPiecesOkUptoRow : OpenClaim := { program := "ytehjkomfifejbaa", sum := "8ea3ece6750cd7cd4d56506ad0588e09d20352815ff7e1ee44ad43bd972dc93c", func := "loop.example/g03309/laws.FnExactPiecesOk", spec := "fnExactPiecesOk", apart := false, narrowed := true }
def FnExactPiecesOkUptoSaid : Prop := fnExactPiecesOkUptoRow.holds Try.pinned (OpenSpec.upto fnExactPiecesOkSpec)

end Rows
end Go.Proofs.Ytehjkomfifejbaa
