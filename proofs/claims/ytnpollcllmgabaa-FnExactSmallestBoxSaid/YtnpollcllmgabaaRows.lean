/-
  No cell of these rows narrows 'for every input' (looked for: loops, veiled, ifaces, maps, wideKeys, modest, calm, conditions, laid).
  DERIVED. THE GIVEN ROWS OF THIS SEAT. 12 by the template 'for every input the law returns true; each argument reads behind the call as it read before'; 0 by the template 'total and deterministic' (their statements: YtnpollcllmgabaaTotals.lean).
  GIVEN WITH THE SEED: the statements are not yours to turn. If you find one false, say at which input.
  Laid BY PROGRAM, IN A SANDBOX (cutbox-rows.mjs): the forced cells as the released guide's own fill.sh prints them over the translation ecbf298e4bd14346… (all of the seat's roots in one cut). By AI agents, Wed Nov 11 2026. No macro, syntax, notation, axiom, sorry.
-/
import Derived.Test.YtnpollcllmgabaaChecked
import GoSem.Claim
import GoSem.ClaimJoined
import GoSem.ClaimMapViews
import Derived.JoinedTies
import Derived.KernelRfl
namespace Go.Proofs.Ytnpollcllmgabaa
/- THE CELL 'sum', in the pinned program and in every row, IS THE sha256 OF THE DUMP (.gsa) THAT YtnpollcllmgabaaProg.lean LOADS. Nothing in Lean hashes anything: it is a label: what it is worth is what the hold of that sum in a sandbox is worth. -/
noncomputable def Try.pinned : Pinned := { name := "ytnpollcllmgabaa", sum := "ecbf298e4bd1434603f0f79473ab7b545f959155e7dc6f780d8150e4bbc8ed5e", checked := Try.checked }
namespace Rows
def none {H : Type} : Left H := { results := [], args := [] }

/-- 'laws.FnExactShowTime': WHATEVER THE INPUT: true; the input reads as it did. -/
def fnExactShowTimeSpec : ChangeSpec := { name := "fnExactShowTime", fn := fun _ => fun
  | [d1, d2] => { results := [.lit (.bool true)], args := [d1, d2] }
  | _ => none }
def fnExactShowTimeRow : OpenClaim := { program := "ytnpollcllmgabaa", sum := "ecbf298e4bd1434603f0f79473ab7b545f959155e7dc6f780d8150e4bbc8ed5e", func := "loop.example/g03309/laws.FnExactShowTime", spec := "fnExactShowTime", apart := false }
def FnExactShowTimeSaid : Prop := fnExactShowTimeRow.holds Try.pinned (OpenSpec.ofChange fnExactShowTimeSpec)

/-- ITS FALSE NEIGHBOUR: 'it returns false'. Refute it at one input. -/
def fnExactShowTimeWrong : ChangeSpec := { name := "fnExactShowTime", fn := fun _ => fun
  | [d1, d2] => { results := [.lit (.bool false)], args := [d1, d2] }
  | _ => none }
def FnExactShowTimeWrongFalsely : Prop := fnExactShowTimeRow.holds Try.pinned (OpenSpec.ofChange fnExactShowTimeWrong)

/-- 'laws.FnExactStateOk': WHATEVER THE INPUT: true; the input reads as it did. -/
def fnExactStateOkSpec : ChangeSpec := { name := "fnExactStateOk", fn := fun _ => fun
  | [d1, d2] => { results := [.lit (.bool true)], args := [d1, d2] }
  | _ => none }
def fnExactStateOkRow : OpenClaim := { program := "ytnpollcllmgabaa", sum := "ecbf298e4bd1434603f0f79473ab7b545f959155e7dc6f780d8150e4bbc8ed5e", func := "loop.example/g03309/laws.FnExactStateOk", spec := "fnExactStateOk", apart := false }
def FnExactStateOkSaid : Prop := fnExactStateOkRow.holds Try.pinned (OpenSpec.ofChange fnExactStateOkSpec)

/-- ITS FALSE NEIGHBOUR: 'it returns false'. Refute it at one input. -/
def fnExactStateOkWrong : ChangeSpec := { name := "fnExactStateOk", fn := fun _ => fun
  | [d1, d2] => { results := [.lit (.bool false)], args := [d1, d2] }
  | _ => none }
def FnExactStateOkWrongFalsely : Prop := fnExactStateOkRow.holds Try.pinned (OpenSpec.ofChange fnExactStateOkWrong)

/-- 'laws.FnExactMoodSteps': WHATEVER THE INPUT: true; the input reads as it did. -/
def fnExactMoodStepsSpec : ChangeSpec := { name := "fnExactMoodSteps", fn := fun _ => fun
  | [d1, d2] => { results := [.lit (.bool true)], args := [d1, d2] }
  | _ => none }
def fnExactMoodStepsRow : OpenClaim := { program := "ytnpollcllmgabaa", sum := "ecbf298e4bd1434603f0f79473ab7b545f959155e7dc6f780d8150e4bbc8ed5e", func := "loop.example/g03309/laws.FnExactMoodSteps", spec := "fnExactMoodSteps", apart := false }
def FnExactMoodStepsSaid : Prop := fnExactMoodStepsRow.holds Try.pinned (OpenSpec.ofChange fnExactMoodStepsSpec)

/-- ITS FALSE NEIGHBOUR: 'it returns false'. Refute it at one input. -/
def fnExactMoodStepsWrong : ChangeSpec := { name := "fnExactMoodSteps", fn := fun _ => fun
  | [d1, d2] => { results := [.lit (.bool false)], args := [d1, d2] }
  | _ => none }
def FnExactMoodStepsWrongFalsely : Prop := fnExactMoodStepsRow.holds Try.pinned (OpenSpec.ofChange fnExactMoodStepsWrong)

/-- 'laws.FnExactPinSum': WHATEVER THE INPUT: true; the input reads as it did. -/
def fnExactPinSumSpec : ChangeSpec := { name := "fnExactPinSum", fn := fun _ => fun
  | [d] => { results := [.lit (.bool true)], args := [d] }
  | _ => none }
def fnExactPinSumRow : OpenClaim := { program := "ytnpollcllmgabaa", sum := "ecbf298e4bd1434603f0f79473ab7b545f959155e7dc6f780d8150e4bbc8ed5e", func := "loop.example/g03309/laws.FnExactPinSum", spec := "fnExactPinSum", apart := false }
def FnExactPinSumSaid : Prop := fnExactPinSumRow.holds Try.pinned (OpenSpec.ofChange fnExactPinSumSpec)

/-- ITS FALSE NEIGHBOUR: 'it returns false'. Refute it at one input. -/
def fnExactPinSumWrong : ChangeSpec := { name := "fnExactPinSum", fn := fun _ => fun
  | [d] => { results := [.lit (.bool false)], args := [d] }
  | _ => none }
def FnExactPinSumWrongFalsely : Prop := fnExactPinSumRow.holds Try.pinned (OpenSpec.ofChange fnExactPinSumWrong)

/-- 'laws.FnExactNestedBoxes': WHATEVER THE INPUT: true; the input reads as it did. -/
def fnExactNestedBoxesSpec : ChangeSpec := { name := "fnExactNestedBoxes", fn := fun _ => fun
  | [d] => { results := [.lit (.bool true)], args := [d] }
  | _ => none }
def fnExactNestedBoxesRow : OpenClaim := { program := "ytnpollcllmgabaa", sum := "ecbf298e4bd1434603f0f79473ab7b545f959155e7dc6f780d8150e4bbc8ed5e", func := "loop.example/g03309/laws.FnExactNestedBoxes", spec := "fnExactNestedBoxes", recurses := true, apart := false }
def FnExactNestedBoxesSaid : Prop := fnExactNestedBoxesRow.holds Try.pinned (OpenSpec.ofChange fnExactNestedBoxesSpec)

/-- ITS FALSE NEIGHBOUR: 'it returns false'. Refute it at one input. -/
def fnExactNestedBoxesWrong : ChangeSpec := { name := "fnExactNestedBoxes", fn := fun _ => fun
  | [d] => { results := [.lit (.bool false)], args := [d] }
  | _ => none }
def FnExactNestedBoxesWrongFalsely : Prop := fnExactNestedBoxesRow.holds Try.pinned (OpenSpec.ofChange fnExactNestedBoxesWrong)

/-- 'laws.FnExactWrongDigits': WHATEVER THE INPUT: true; the input reads as it did. -/
def fnExactWrongDigitsSpec : ChangeSpec := { name := "fnExactWrongDigits", fn := fun _ => fun
  | [d] => { results := [.lit (.bool true)], args := [d] }
  | _ => none }
def fnExactWrongDigitsRow : OpenClaim := { program := "ytnpollcllmgabaa", sum := "ecbf298e4bd1434603f0f79473ab7b545f959155e7dc6f780d8150e4bbc8ed5e", func := "loop.example/g03309/laws.FnExactWrongDigits", spec := "fnExactWrongDigits", apart := false }
def FnExactWrongDigitsSaid : Prop := fnExactWrongDigitsRow.holds Try.pinned (OpenSpec.ofChange fnExactWrongDigitsSpec)

/-- ITS FALSE NEIGHBOUR: 'it returns false'. Refute it at one input. -/
def fnExactWrongDigitsWrong : ChangeSpec := { name := "fnExactWrongDigits", fn := fun _ => fun
  | [d] => { results := [.lit (.bool false)], args := [d] }
  | _ => none }
def FnExactWrongDigitsWrongFalsely : Prop := fnExactWrongDigitsRow.holds Try.pinned (OpenSpec.ofChange fnExactWrongDigitsWrong)

/-- 'laws.FnExactSmallestBox': WHATEVER THE INPUT: true; the input reads as it did. -/
def fnExactSmallestBoxSpec : ChangeSpec := { name := "fnExactSmallestBox", fn := fun _ => fun
  | [d1, d2] => { results := [.lit (.bool true)], args := [d1, d2] }
  | _ => none }
def fnExactSmallestBoxRow : OpenClaim := { program := "ytnpollcllmgabaa", sum := "ecbf298e4bd1434603f0f79473ab7b545f959155e7dc6f780d8150e4bbc8ed5e", func := "loop.example/g03309/laws.FnExactSmallestBox", spec := "fnExactSmallestBox", apart := false }
def FnExactSmallestBoxSaid : Prop := fnExactSmallestBoxRow.holds Try.pinned (OpenSpec.ofChange fnExactSmallestBoxSpec)

/-- ITS FALSE NEIGHBOUR: 'it returns false'. Refute it at one input. -/
def fnExactSmallestBoxWrong : ChangeSpec := { name := "fnExactSmallestBox", fn := fun _ => fun
  | [d1, d2] => { results := [.lit (.bool false)], args := [d1, d2] }
  | _ => none }
def FnExactSmallestBoxWrongFalsely : Prop := fnExactSmallestBoxRow.holds Try.pinned (OpenSpec.ofChange fnExactSmallestBoxWrong)

/-- 'laws.FnExactStepsLeft': WHATEVER THE INPUT: true; the input reads as it did. -/
def fnExactStepsLeftSpec : ChangeSpec := { name := "fnExactStepsLeft", fn := fun _ => fun
  | [d1, d2] => { results := [.lit (.bool true)], args := [d1, d2] }
  | _ => none }
def fnExactStepsLeftRow : OpenClaim := { program := "ytnpollcllmgabaa", sum := "ecbf298e4bd1434603f0f79473ab7b545f959155e7dc6f780d8150e4bbc8ed5e", func := "loop.example/g03309/laws.FnExactStepsLeft", spec := "fnExactStepsLeft", apart := false }
def FnExactStepsLeftSaid : Prop := fnExactStepsLeftRow.holds Try.pinned (OpenSpec.ofChange fnExactStepsLeftSpec)

/-- ITS FALSE NEIGHBOUR: 'it returns false'. Refute it at one input. -/
def fnExactStepsLeftWrong : ChangeSpec := { name := "fnExactStepsLeft", fn := fun _ => fun
  | [d1, d2] => { results := [.lit (.bool false)], args := [d1, d2] }
  | _ => none }
def FnExactStepsLeftWrongFalsely : Prop := fnExactStepsLeftRow.holds Try.pinned (OpenSpec.ofChange fnExactStepsLeftWrong)

/-- 'laws.FnExactStartBox': WHATEVER THE INPUT: true; the input reads as it did. -/
def fnExactStartBoxSpec : ChangeSpec := { name := "fnExactStartBox", fn := fun _ => fun
  | [d1, d2] => { results := [.lit (.bool true)], args := [d1, d2] }
  | _ => none }
def fnExactStartBoxRow : OpenClaim := { program := "ytnpollcllmgabaa", sum := "ecbf298e4bd1434603f0f79473ab7b545f959155e7dc6f780d8150e4bbc8ed5e", func := "loop.example/g03309/laws.FnExactStartBox", spec := "fnExactStartBox", apart := false }
def FnExactStartBoxSaid : Prop := fnExactStartBoxRow.holds Try.pinned (OpenSpec.ofChange fnExactStartBoxSpec)

/-- ITS FALSE NEIGHBOUR: 'it returns false'. Refute it at one input. -/
def fnExactStartBoxWrong : ChangeSpec := { name := "fnExactStartBox", fn := fun _ => fun
  | [d1, d2] => { results := [.lit (.bool false)], args := [d1, d2] }
  | _ => none }
def FnExactStartBoxWrongFalsely : Prop := fnExactStartBoxRow.holds Try.pinned (OpenSpec.ofChange fnExactStartBoxWrong)

/-- 'laws.FnExactStopBox': WHATEVER THE INPUT: true; the input reads as it did. -/
def fnExactStopBoxSpec : ChangeSpec := { name := "fnExactStopBox", fn := fun _ => fun
  | [d1, d2] => { results := [.lit (.bool true)], args := [d1, d2] }
  | _ => none }
def fnExactStopBoxRow : OpenClaim := { program := "ytnpollcllmgabaa", sum := "ecbf298e4bd1434603f0f79473ab7b545f959155e7dc6f780d8150e4bbc8ed5e", func := "loop.example/g03309/laws.FnExactStopBox", spec := "fnExactStopBox", apart := false }
def FnExactStopBoxSaid : Prop := fnExactStopBoxRow.holds Try.pinned (OpenSpec.ofChange fnExactStopBoxSpec)

/-- ITS FALSE NEIGHBOUR: 'it returns false'. Refute it at one input. -/
def fnExactStopBoxWrong : ChangeSpec := { name := "fnExactStopBox", fn := fun _ => fun
  | [d1, d2] => { results := [.lit (.bool false)], args := [d1, d2] }
  | _ => none }
def FnExactStopBoxWrongFalsely : Prop := fnExactStopBoxRow.holds Try.pinned (OpenSpec.ofChange fnExactStopBoxWrong)

/-- 'laws.FnExactStepBox': WHATEVER THE INPUT: true; the input reads as it did. -/
def fnExactStepBoxSpec : ChangeSpec := { name := "fnExactStepBox", fn := fun _ => fun
  | [d1, d2] => { results := [.lit (.bool true)], args := [d1, d2] }
  | _ => none }
def fnExactStepBoxRow : OpenClaim := { program := "ytnpollcllmgabaa", sum := "ecbf298e4bd1434603f0f79473ab7b545f959155e7dc6f780d8150e4bbc8ed5e", func := "loop.example/g03309/laws.FnExactStepBox", spec := "fnExactStepBox", apart := false }
def FnExactStepBoxSaid : Prop := fnExactStepBoxRow.holds Try.pinned (OpenSpec.ofChange fnExactStepBoxSpec)

/-- ITS FALSE NEIGHBOUR: 'it returns false'. Refute it at one input. -/
def fnExactStepBoxWrong : ChangeSpec := { name := "fnExactStepBox", fn := fun _ => fun
  | [d1, d2] => { results := [.lit (.bool false)], args := [d1, d2] }
  | _ => none }
def FnExactStepBoxWrongFalsely : Prop := fnExactStepBoxRow.holds Try.pinned (OpenSpec.ofChange fnExactStepBoxWrong)

/-- 'laws.FnExactRunBox': WHATEVER THE INPUT: true; the input reads as it did. -/
def fnExactRunBoxSpec : ChangeSpec := { name := "fnExactRunBox", fn := fun _ => fun
  | [d1, d2] => { results := [.lit (.bool true)], args := [d1, d2] }
  | _ => none }
def fnExactRunBoxRow : OpenClaim := { program := "ytnpollcllmgabaa", sum := "ecbf298e4bd1434603f0f79473ab7b545f959155e7dc6f780d8150e4bbc8ed5e", func := "loop.example/g03309/laws.FnExactRunBox", spec := "fnExactRunBox", apart := false }
def FnExactRunBoxSaid : Prop := fnExactRunBoxRow.holds Try.pinned (OpenSpec.ofChange fnExactRunBoxSpec)

/-- ITS FALSE NEIGHBOUR: 'it returns false'. Refute it at one input. -/
def fnExactRunBoxWrong : ChangeSpec := { name := "fnExactRunBox", fn := fun _ => fun
  | [d1, d2] => { results := [.lit (.bool false)], args := [d1, d2] }
  | _ => none }
def FnExactRunBoxWrongFalsely : Prop := fnExactRunBoxRow.holds Try.pinned (OpenSpec.ofChange fnExactRunBoxWrong)

/- THE SECOND FORM. 'bulk': how many values and letters a reading holds, each counted each time it is reached (what is shared counts as often as it is met; a slice's spare places count too). A statement '..UptoSaid' is the law's where the arguments, and the package variables that the reading takes, are together of bulk at most 1048576: NARROWER than '..Said'. Prove '..Said' where nothing that the law and all that it calls make is longer than what came in: it says more and counts as full. Else prove '..UptoSaid'. A law counts once. -/
mutual
def uptoBulk {H : Type} : DataW H → Nat
  | .lit (.string bytes) => bytes.length + 1
  | .lit _ => 1
  | .nil => 1
  | .ptr d => uptoBulk d + 1
  | .slice elems spare => uptoBulkAll elems + uptoBulkAll spare + 1
  | .agg parts => uptoBulkAll parts + 1
  | .iface _ d => uptoBulk d + 1
  | .map entries => uptoBulkEntries entries + 1
  | .held _ => 1
def uptoBulkAll {H : Type} : List (DataW H) → Nat
  | [] => 0
  | d :: r => uptoBulk d + uptoBulkAll r
def uptoBulkEntries {H : Type} : List (Lit × DataW H) → Nat
  | [] => 0
  | x :: r => uptoBulkEntry x + uptoBulkEntries r
def uptoBulkEntry {H : Type} : Lit × DataW H → Nat
  | (.string bytes, d) => bytes.length + uptoBulk d + 1
  | (_, d) => uptoBulk d + 1
 end
def uptoSmall : (H : Type) → List (DataW H) → Bool := fun _ ds => decide (uptoBulkAll ds ≤ 1048576)
def OpenSpec.upto (s : _root_.Go.ChangeSpec) : _root_.Go.OpenSpec := { _root_.Go.OpenSpec.ofChange s with cond := some uptoSmall }

/-- 'laws.FnExactShowTime', WHERE WHAT IT READS IS OF BULK AT MOST 1048576: true; the input reads as it did. -/
def fnExactShowTimeUptoRow : OpenClaim := { program := "ytnpollcllmgabaa", sum := "ecbf298e4bd1434603f0f79473ab7b545f959155e7dc6f780d8150e4bbc8ed5e", func := "loop.example/g03309/laws.FnExactShowTime", spec := "fnExactShowTime", apart := false, narrowed := true }
def FnExactShowTimeUptoSaid : Prop := fnExactShowTimeUptoRow.holds Try.pinned (OpenSpec.upto fnExactShowTimeSpec)

/-- 'laws.FnExactStateOk', WHERE WHAT IT READS IS OF BULK AT MOST 1048576: true; the input reads as it did. -/
def fnExactStateOkUptoRow : OpenClaim := { program := "ytnpollcllmgabaa", sum := "ecbf298e4bd1434603f0f79473ab7b545f959155e7dc6f780d8150e4bbc8ed5e", func := "loop.example/g03309/laws.FnExactStateOk", spec := "fnExactStateOk", apart := false, narrowed := true }
def FnExactStateOkUptoSaid : Prop := fnExactStateOkUptoRow.holds Try.pinned (OpenSpec.upto fnExactStateOkSpec)

/-- 'laws.FnExactMoodSteps', WHERE WHAT IT READS IS OF BULK AT MOST 1048576: true; the input reads as it did. -/
def fnExactMoodStepsUptoRow : OpenClaim := { program := "ytnpollcllmgabaa", sum := "ecbf298e4bd1434603f0f79473ab7b545f959155e7dc6f780d8150e4bbc8ed5e", func := "loop.example/g03309/laws.FnExactMoodSteps", spec := "fnExactMoodSteps", apart := false, narrowed := true }
def FnExactMoodStepsUptoSaid : Prop := fnExactMoodStepsUptoRow.holds Try.pinned (OpenSpec.upto fnExactMoodStepsSpec)

/-- 'laws.FnExactPinSum', WHERE WHAT IT READS IS OF BULK AT MOST 1048576: true; the input reads as it did. -/
def fnExactPinSumUptoRow : OpenClaim := { program := "ytnpollcllmgabaa", sum := "ecbf298e4bd1434603f0f79473ab7b545f959155e7dc6f780d8150e4bbc8ed5e", func := "loop.example/g03309/laws.FnExactPinSum", spec := "fnExactPinSum", apart := false, narrowed := true }
def FnExactPinSumUptoSaid : Prop := fnExactPinSumUptoRow.holds Try.pinned (OpenSpec.upto fnExactPinSumSpec)

/-- 'laws.FnExactNestedBoxes', WHERE WHAT IT READS IS OF BULK AT MOST 1048576: true; the input reads as it did. -/
def fnExactNestedBoxesUptoRow : OpenClaim := { program := "ytnpollcllmgabaa", sum := "ecbf298e4bd1434603f0f79473ab7b545f959155e7dc6f780d8150e4bbc8ed5e", func := "loop.example/g03309/laws.FnExactNestedBoxes", spec := "fnExactNestedBoxes", recurses := true, apart := false, narrowed := true }
def FnExactNestedBoxesUptoSaid : Prop := fnExactNestedBoxesUptoRow.holds Try.pinned (OpenSpec.upto fnExactNestedBoxesSpec)

/-- 'laws.FnExactWrongDigits', WHERE WHAT IT READS IS OF BULK AT MOST 1048576: true; the input reads as it did. -/
def fnExactWrongDigitsUptoRow : OpenClaim := { program := "ytnpollcllmgabaa", sum := "ecbf298e4bd1434603f0f79473ab7b545f959155e7dc6f780d8150e4bbc8ed5e", func := "loop.example/g03309/laws.FnExactWrongDigits", spec := "fnExactWrongDigits", apart := false, narrowed := true }
def FnExactWrongDigitsUptoSaid : Prop := fnExactWrongDigitsUptoRow.holds Try.pinned (OpenSpec.upto fnExactWrongDigitsSpec)

/-- 'laws.FnExactSmallestBox', WHERE WHAT IT READS IS OF BULK AT MOST 1048576: true; the input reads as it did. -/
def fnExactSmallestBoxUptoRow : OpenClaim := { program := "ytnpollcllmgabaa", sum := "ecbf298e4bd1434603f0f79473ab7b545f959155e7dc6f780d8150e4bbc8ed5e", func := "loop.example/g03309/laws.FnExactSmallestBox", spec := "fnExactSmallestBox", apart := false, narrowed := true }
def FnExactSmallestBoxUptoSaid : Prop := fnExactSmallestBoxUptoRow.holds Try.pinned (OpenSpec.upto fnExactSmallestBoxSpec)

/-- 'laws.FnExactStepsLeft', WHERE WHAT IT READS IS OF BULK AT MOST 1048576: true; the input reads as it did. -/
def fnExactStepsLeftUptoRow : OpenClaim := { program := "ytnpollcllmgabaa", sum := "ecbf298e4bd1434603f0f79473ab7b545f959155e7dc6f780d8150e4bbc8ed5e", func := "loop.example/g03309/laws.FnExactStepsLeft", spec := "fnExactStepsLeft", apart := false, narrowed := true }
def FnExactStepsLeftUptoSaid : Prop := fnExactStepsLeftUptoRow.holds Try.pinned (OpenSpec.upto fnExactStepsLeftSpec)

/-- 'laws.FnExactStartBox', WHERE WHAT IT READS IS OF BULK AT MOST 1048576: true; the input reads as it did. -/
def fnExactStartBoxUptoRow : OpenClaim := { program := "ytnpollcllmgabaa", sum := "ecbf298e4bd1434603f0f79473ab7b545f959155e7dc6f780d8150e4bbc8ed5e", func := "loop.example/g03309/laws.FnExactStartBox", spec := "fnExactStartBox", apart := false, narrowed := true }
def FnExactStartBoxUptoSaid : Prop := fnExactStartBoxUptoRow.holds Try.pinned (OpenSpec.upto fnExactStartBoxSpec)

/-- 'laws.FnExactStopBox', WHERE WHAT IT READS IS OF BULK AT MOST 1048576: true; the input reads as it did. -/
def fnExactStopBoxUptoRow : OpenClaim := { program := "ytnpollcllmgabaa", sum := "ecbf298e4bd1434603f0f79473ab7b545f959155e7dc6f780d8150e4bbc8ed5e", func := "loop.example/g03309/laws.FnExactStopBox", spec := "fnExactStopBox", apart := false, narrowed := true }
def FnExactStopBoxUptoSaid : Prop := fnExactStopBoxUptoRow.holds Try.pinned (OpenSpec.upto fnExactStopBoxSpec)

/-- 'laws.FnExactStepBox', WHERE WHAT IT READS IS OF BULK AT MOST 1048576: true; the input reads as it did. -/
def fnExactStepBoxUptoRow : OpenClaim := { program := "ytnpollcllmgabaa", sum := "ecbf298e4bd1434603f0f79473ab7b545f959155e7dc6f780d8150e4bbc8ed5e", func := "loop.example/g03309/laws.FnExactStepBox", spec := "fnExactStepBox", apart := false, narrowed := true }
def FnExactStepBoxUptoSaid : Prop := fnExactStepBoxUptoRow.holds Try.pinned (OpenSpec.upto fnExactStepBoxSpec)

/-- 'laws.FnExactRunBox', WHERE WHAT IT READS IS OF BULK AT MOST 1048576: true; the input reads as it did. -/
def fnExactRunBoxUptoRow : OpenClaim := { program := "ytnpollcllmgabaa", sum := "ecbf298e4bd1434603f0f79473ab7b545f959155e7dc6f780d8150e4bbc8ed5e", func := "loop.example/g03309/laws.FnExactRunBox", spec := "fnExactRunBox", apart := false, narrowed := true }
def FnExactRunBoxUptoSaid : Prop := fnExactRunBoxUptoRow.holds Try.pinned (OpenSpec.upto fnExactRunBoxSpec)

end Rows
end Go.Proofs.Ytnpollcllmgabaa
