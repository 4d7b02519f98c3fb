/-
  No cell of these rows narrows 'for every input' (looked for: loops, veiled, ifaces, maps, wideKeys, modest, calm, conditions, laid).
  DERIVED. THE GIVEN ROWS OF THIS SEAT. 6 by the template 'for every input the law returns true; each argument reads behind the call as it read before'; 0 by the template 'total and deterministic' (their statements: YtbpghjdibloppabTotals.lean).
  GIVEN WITH THE SEED: the statements are not yours to turn. If you find one false, say at which input.
  Laid BY PROGRAM, IN A SANDBOX (cutbox-rows.mjs): the forced cells as the released guide's own fill.sh prints them over the translation 4e23a8f2645093be… (all of the seat's roots in one cut). By AI agents, Wed Nov 11 2026. No macro, syntax, notation, axiom, sorry.
-/
import Derived.Test.YtbpghjdibloppabChecked
import GoSem.Claim
import GoSem.ClaimJoined
import GoSem.ClaimMapViews
import Derived.JoinedTies
import Derived.KernelRfl
namespace Go.Proofs.Ytbpghjdibloppab
/- THE CELL 'sum', in the pinned program and in every row, IS THE sha256 OF THE DUMP (.gsa) THAT YtbpghjdibloppabProg.lean LOADS. Nothing in Lean hashes anything: it is a label: what it is worth is what the hold of that sum in a sandbox is worth. -/
noncomputable def Try.pinned : Pinned := { name := "ytbpghjdibloppab", sum := "4e23a8f2645093bec9ccfdbc114df81d77c249a583f361501ae208c57347e582", checked := Try.checked }
namespace Rows
def none {H : Type} : Left H := { results := [], args := [] }

/-- 'laws.FnExactChangedPins': WHATEVER THE INPUT: true; the input reads as it did. -/
def fnExactChangedPinsSpec : ChangeSpec := { name := "fnExactChangedPins", fn := fun _ => fun
  | [d] => { results := [.lit (.bool true)], args := [d] }
  | _ => none }
def fnExactChangedPinsRow : OpenClaim := { program := "ytbpghjdibloppab", sum := "4e23a8f2645093bec9ccfdbc114df81d77c249a583f361501ae208c57347e582", func := "loop.example/g03309/laws.FnExactChangedPins", spec := "fnExactChangedPins", apart := false }
def FnExactChangedPinsSaid : Prop := fnExactChangedPinsRow.holds Try.pinned (OpenSpec.ofChange fnExactChangedPinsSpec)

/-- ITS FALSE NEIGHBOUR: 'it returns false'. Refute it at one input. -/
def fnExactChangedPinsWrong : ChangeSpec := { name := "fnExactChangedPins", fn := fun _ => fun
  | [d] => { results := [.lit (.bool false)], args := [d] }
  | _ => none }
def FnExactChangedPinsWrongFalsely : Prop := fnExactChangedPinsRow.holds Try.pinned (OpenSpec.ofChange fnExactChangedPinsWrong)

/-- 'laws.FnExactTakeBack': WHATEVER THE INPUT: true; the input reads as it did. -/
def fnExactTakeBackSpec : ChangeSpec := { name := "fnExactTakeBack", fn := fun _ => fun
  | [d] => { results := [.lit (.bool true)], args := [d] }
  | _ => none }
def fnExactTakeBackRow : OpenClaim := { program := "ytbpghjdibloppab", sum := "4e23a8f2645093bec9ccfdbc114df81d77c249a583f361501ae208c57347e582", func := "loop.example/g03309/laws.FnExactTakeBack", spec := "fnExactTakeBack", apart := false }
def FnExactTakeBackSaid : Prop := fnExactTakeBackRow.holds Try.pinned (OpenSpec.ofChange fnExactTakeBackSpec)

/-- ITS FALSE NEIGHBOUR: 'it returns false'. Refute it at one input. -/
def fnExactTakeBackWrong : ChangeSpec := { name := "fnExactTakeBack", fn := fun _ => fun
  | [d] => { results := [.lit (.bool false)], args := [d] }
  | _ => none }
def FnExactTakeBackWrongFalsely : Prop := fnExactTakeBackRow.holds Try.pinned (OpenSpec.ofChange fnExactTakeBackWrong)

/-- 'laws.FnExactWorkshopOk': WHATEVER THE INPUT: true; the input reads as it did. -/
def fnExactWorkshopOkSpec : ChangeSpec := { name := "fnExactWorkshopOk", fn := fun _ => fun
  | [d] => { results := [.lit (.bool true)], args := [d] }
  | _ => none }
def fnExactWorkshopOkRow : OpenClaim := { program := "ytbpghjdibloppab", sum := "4e23a8f2645093bec9ccfdbc114df81d77c249a583f361501ae208c57347e582", func := "loop.example/g03309/laws.FnExactWorkshopOk", spec := "fnExactWorkshopOk", apart := false }
def FnExactWorkshopOkSaid : Prop := fnExactWorkshopOkRow.holds Try.pinned (OpenSpec.ofChange fnExactWorkshopOkSpec)

/-- ITS FALSE NEIGHBOUR: 'it returns false'. Refute it at one input. -/
def fnExactWorkshopOkWrong : ChangeSpec := { name := "fnExactWorkshopOk", fn := fun _ => fun
  | [d] => { results := [.lit (.bool false)], args := [d] }
  | _ => none }
def FnExactWorkshopOkWrongFalsely : Prop := fnExactWorkshopOkRow.holds Try.pinned (OpenSpec.ofChange fnExactWorkshopOkWrong)

/-- 'laws.FnExactTakePin': WHATEVER THE INPUT: true; the input reads as it did. -/
def fnExactTakePinSpec : ChangeSpec := { name := "fnExactTakePin", fn := fun _ => fun
  | [d1, d2] => { results := [.lit (.bool true)], args := [d1, d2] }
  | _ => none }
def fnExactTakePinRow : OpenClaim := { program := "ytbpghjdibloppab", sum := "4e23a8f2645093bec9ccfdbc114df81d77c249a583f361501ae208c57347e582", func := "loop.example/g03309/laws.FnExactTakePin", spec := "fnExactTakePin", apart := false }
def FnExactTakePinSaid : Prop := fnExactTakePinRow.holds Try.pinned (OpenSpec.ofChange fnExactTakePinSpec)

/-- ITS FALSE NEIGHBOUR: 'it returns false'. Refute it at one input. -/
def fnExactTakePinWrong : ChangeSpec := { name := "fnExactTakePin", fn := fun _ => fun
  | [d1, d2] => { results := [.lit (.bool false)], args := [d1, d2] }
  | _ => none }
def FnExactTakePinWrongFalsely : Prop := fnExactTakePinRow.holds Try.pinned (OpenSpec.ofChange fnExactTakePinWrong)

/-- 'laws.FnExactOpenWorkshop': WHATEVER THE INPUT: true; the input reads as it did. -/
def fnExactOpenWorkshopSpec : ChangeSpec := { name := "fnExactOpenWorkshop", fn := fun _ => fun
  | [d1, d2, d3] => { results := [.lit (.bool true)], args := [d1, d2, d3] }
  | _ => none }
def fnExactOpenWorkshopRow : OpenClaim := { program := "ytbpghjdibloppab", sum := "4e23a8f2645093bec9ccfdbc114df81d77c249a583f361501ae208c57347e582", func := "loop.example/g03309/laws.FnExactOpenWorkshop", spec := "fnExactOpenWorkshop", apart := false }
def FnExactOpenWorkshopSaid : Prop := fnExactOpenWorkshopRow.holds Try.pinned (OpenSpec.ofChange fnExactOpenWorkshopSpec)

/-- ITS FALSE NEIGHBOUR: 'it returns false'. Refute it at one input. -/
def fnExactOpenWorkshopWrong : ChangeSpec := { name := "fnExactOpenWorkshop", fn := fun _ => fun
  | [d1, d2, d3] => { results := [.lit (.bool false)], args := [d1, d2, d3] }
  | _ => none }
def FnExactOpenWorkshopWrongFalsely : Prop := fnExactOpenWorkshopRow.holds Try.pinned (OpenSpec.ofChange fnExactOpenWorkshopWrong)

/-- 'laws.FnExactSampleWorkshop': WHATEVER THE INPUT: true; the input reads as it did. -/
def fnExactSampleWorkshopSpec : ChangeSpec := { name := "fnExactSampleWorkshop", fn := fun _ => fun
  | [] => { results := [.lit (.bool true)], args := [] }
  | _ => none }
def fnExactSampleWorkshopRow : OpenClaim := { program := "ytbpghjdibloppab", sum := "4e23a8f2645093bec9ccfdbc114df81d77c249a583f361501ae208c57347e582", func := "loop.example/g03309/laws.FnExactSampleWorkshop", spec := "fnExactSampleWorkshop", apart := false }
def FnExactSampleWorkshopSaid : Prop := fnExactSampleWorkshopRow.holds Try.pinned (OpenSpec.ofChange fnExactSampleWorkshopSpec)

/-- ITS FALSE NEIGHBOUR: 'it returns false'. Refute it at one input. -/
def fnExactSampleWorkshopWrong : ChangeSpec := { name := "fnExactSampleWorkshop", fn := fun _ => fun
  | [] => { results := [.lit (.bool false)], args := [] }
  | _ => none }
def FnExactSampleWorkshopWrongFalsely : Prop := fnExactSampleWorkshopRow.holds Try.pinned (OpenSpec.ofChange fnExactSampleWorkshopWrong)

/- THE SECOND FORM. 'bulk': how many values and letters a reading holds, each counted each time it is reached (what is shared counts as often as it is met; a slice's spare places count too). A statement '..UptoSaid' is the law's where the arguments, and the package variables that the reading takes, are together of bulk at most 1048576: NARROWER than '..Said'. Prove '..Said' where nothing that the law and all that it calls make is longer than what came in: it says more and counts as full. Else prove '..UptoSaid'. A law counts once. -/
mutual
def uptoBulk {H : Type} : DataW H → Nat
  | .lit (.string bytes) => bytes.length + 1
  | .lit _ => 1
  | .nil => 1
  | .ptr d => uptoBulk d + 1
  | .slice elems spare => uptoBulkAll elems + uptoBulkAll spare + 1
  | .agg parts => uptoBulkAll parts + 1
  | .iface _ d => uptoBulk d + 1
  | .map entries => uptoBulkEntries entries + 1
  | .held _ => 1
def uptoBulkAll {H : Type} : List (DataW H) → Nat
  | [] => 0
  | d :: r => uptoBulk d + uptoBulkAll r
def uptoBulkEntries {H : Type} : List (Lit × DataW H) → Nat
  | [] => 0
  | x :: r => uptoBulkEntry x + uptoBulkEntries r
def uptoBulkEntry {H : Type} : Lit × DataW H → Nat
  | (.string bytes, d) => bytes.length + uptoBulk d + 1
  | (_, d) => uptoBulk d + 1
 end
def uptoSmall : (H : Type) → List (DataW H) → Bool := fun _ ds => decide (uptoBulkAll ds ≤ 1048576)
def OpenSpec.upto (s : _root_.Go.ChangeSpec) : _root_.Go.OpenSpec := { _root_.Go.OpenSpec.ofChange s with cond := some uptoSmall }

/-- 'laws.FnExactChangedPins', WHERE WHAT IT READS IS OF BULK AT MOST 1048576: true; the input reads as it did. -/
def fnExactChangedPinsUptoRow : OpenClaim := { program := "ytbpghjdibloppab", sum := "4e23a8f2645093bec9ccfdbc114df81d77c249a583f361501ae208c57347e582", func := "loop.example/g03309/laws.FnExactChangedPins", spec := "fnExactChangedPins", apart := false, narrowed := true }
def FnExactChangedPinsUptoSaid : Prop := fnExactChangedPinsUptoRow.holds Try.pinned (OpenSpec.upto fnExactChangedPinsSpec)

/-- 'laws.FnExactTakeBack', WHERE WHAT IT READS IS OF BULK AT MOST 1048576: true; the input reads as it did. -/
def fnExactTakeBackUptoRow : OpenClaim := { program := "ytbpghjdibloppab", sum := "4e23a8f2645093bec9ccfdbc114df81d77c249a583f361501ae208c57347e582", func := "loop.example/g03309/laws.FnExactTakeBack", spec := "fnExactTakeBack", apart := false, narrowed := true }
def FnExactTakeBackUptoSaid : Prop := fnExactTakeBackUptoRow.holds Try.pinned (OpenSpec.upto fnExactTakeBackSpec)

/-- 'laws.FnExactWorkshopOk', WHERE WHAT IT READS IS OF BULK AT MOST 1048576: true; the input reads as it did. -/
def fnExactWorkshopOkUptoRow : OpenClaim := { program := "ytbpghjdibloppab", sum := "4e23a8f2645093bec9ccfdbc114df81d77c249a583f361501ae208c57347e582", func := "loop.example/g03309/laws.FnExactWorkshopOk", spec := "fnExactWorkshopOk", apart := false, narrowed := true }
def FnExactWorkshopOkUptoSaid : Prop := fnExactWorkshopOkUptoRow.holds Try.pinned (OpenSpec.upto fnExactWorkshopOkSpec)

/-- 'laws.FnExactTakePin', WHERE WHAT IT READS IS OF BULK AT MOST 1048576: true; the input reads as it did. -/
def fnExactTakePinUptoRow : OpenClaim := { program := "ytbpghjdibloppab", sum := "4e23a8f2645093bec9ccfdbc114df81d77c249a583f361501ae208c57347e582", func := "loop.example/g03309/laws.FnExactTakePin", spec := "fnExactTakePin", apart := false, narrowed := true }
def FnExactTakePinUptoSaid : Prop := fnExactTakePinUptoRow.holds Try.pinned (OpenSpec.upto fnExactTakePinSpec)

/-- 'laws.FnExactOpenWorkshop', WHERE WHAT IT READS IS OF BULK AT MOST 1048576: true; the input reads as it did. -/
def fnExactOpenWorkshopUptoRow : OpenClaim := { program := "ytbpghjdibloppab", sum := "4e23a8f2645093bec9ccfdbc114df81d77c249a583f361501ae208c57347e582", func := "loop.example/g03309/laws.FnExactOpenWorkshop", spec := "fnExactOpenWorkshop", apart := false, narrowed := true }
def FnExactOpenWorkshopUptoSaid : Prop := fnExactOpenWorkshopUptoRow.holds Try.pinned (OpenSpec.upto fnExactOpenWorkshopSpec)

/-- 'laws.FnExactSampleWorkshop', WHERE WHAT IT READS IS OF BULK AT MOST 1048576: true; the input reads as it did. -/
def fnExactSampleWorkshopUptoRow : OpenClaim := { program := "ytbpghjdibloppab", sum := "4e23a8f2645093bec9ccfdbc114df81d77c249a583f361501ae208c57347e582", func := "loop.example/g03309/laws.FnExactSampleWorkshop", spec := "fnExactSampleWorkshop", apart := false, narrowed := true }
def FnExactSampleWorkshopUptoSaid : Prop := fnExactSampleWorkshopUptoRow.holds Try.pinned (OpenSpec.upto fnExactSampleWorkshopSpec)

end Rows
end Go.Proofs.Ytbpghjdibloppab
