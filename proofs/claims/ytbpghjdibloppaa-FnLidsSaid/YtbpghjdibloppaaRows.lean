/-
  No cell of these rows narrows 'for every input' (looked for: loops, veiled, ifaces, maps, wideKeys, modest, calm, conditions, laid).
  DERIVED. THE GIVEN ROWS OF THIS SEAT. 6 by the template 'for every input the law returns true; each argument reads behind the call as it read before'; 0 by the template 'total and deterministic' (their statements: YtbpghjdibloppaaTotals.lean).
  GIVEN WITH THE SEED: the statements are not yours to turn. If you find one false, say at which input.
  Laid BY PROGRAM, IN A SANDBOX (cutbox-rows.mjs): the forced cells as the released guide's own fill.sh prints them over the translation 5e3227cee5e7949d… (all of the seat's roots in one cut). By AI agents, Wed Nov 11 2026. No macro, syntax, notation, axiom, sorry.
-/
import Derived.Test.YtbpghjdibloppaaChecked
import GoSem.Claim
import GoSem.ClaimJoined
import GoSem.ClaimMapViews
import Derived.JoinedTies
import Derived.KernelRfl
namespace Go.Proofs.Ytbpghjdibloppaa
/- THE CELL 'sum', in the pinned program and in every row, IS THE sha256 OF THE DUMP (.gsa) THAT YtbpghjdibloppaaProg.lean LOADS. Nothing in Lean hashes anything: it is a label: what it is worth is what the hold of that sum in a sandbox is worth. -/
noncomputable def Try.pinned : Pinned := { name := "ytbpghjdibloppaa", sum := "5e3227cee5e7949da37b720de44b062b33a3cb75319e8e4e78dbe1839b624ae7", checked := Try.checked }
namespace Rows
def none {H : Type} : Left H := { results := [], args := [] }

/-- 'laws.FnLids': WHATEVER THE INPUT: true; the input reads as it did. -/
def fnLidsSpec : ChangeSpec := { name := "fnLids", fn := fun _ => fun
  | [d] => { results := [.lit (.bool true)], args := [d] }
  | _ => none }
def fnLidsRow : OpenClaim := { program := "ytbpghjdibloppaa", sum := "5e3227cee5e7949da37b720de44b062b33a3cb75319e8e4e78dbe1839b624ae7", func := "loop.example/g03309/laws.FnLids", spec := "fnLids", apart := false }
def FnLidsSaid : Prop := fnLidsRow.holds Try.pinned (OpenSpec.ofChange fnLidsSpec)

/-- ITS FALSE NEIGHBOUR: 'it returns false'. Refute it at one input. -/
def fnLidsWrong : ChangeSpec := { name := "fnLids", fn := fun _ => fun
  | [d] => { results := [.lit (.bool false)], args := [d] }
  | _ => none }
def FnLidsWrongFalsely : Prop := fnLidsRow.holds Try.pinned (OpenSpec.ofChange fnLidsWrong)

/-- 'laws.FnExactLivelyShow': WHATEVER THE INPUT: true; the input reads as it did. -/
def fnExactLivelyShowSpec : ChangeSpec := { name := "fnExactLivelyShow", fn := fun _ => fun
  | [d] => { results := [.lit (.bool true)], args := [d] }
  | _ => none }
def fnExactLivelyShowRow : OpenClaim := { program := "ytbpghjdibloppaa", sum := "5e3227cee5e7949da37b720de44b062b33a3cb75319e8e4e78dbe1839b624ae7", func := "loop.example/g03309/laws.FnExactLivelyShow", spec := "fnExactLivelyShow", apart := false }
def FnExactLivelyShowSaid : Prop := fnExactLivelyShowRow.holds Try.pinned (OpenSpec.ofChange fnExactLivelyShowSpec)

/-- ITS FALSE NEIGHBOUR: 'it returns false'. Refute it at one input. -/
def fnExactLivelyShowWrong : ChangeSpec := { name := "fnExactLivelyShow", fn := fun _ => fun
  | [d] => { results := [.lit (.bool false)], args := [d] }
  | _ => none }
def FnExactLivelyShowWrongFalsely : Prop := fnExactLivelyShowRow.holds Try.pinned (OpenSpec.ofChange fnExactLivelyShowWrong)

/-- 'laws.FnSums': WHATEVER THE INPUT: true; the input reads as it did. -/
def fnSumsSpec : ChangeSpec := { name := "fnSums", fn := fun _ => fun
  | [d] => { results := [.lit (.bool true)], args := [d] }
  | _ => none }
def fnSumsRow : OpenClaim := { program := "ytbpghjdibloppaa", sum := "5e3227cee5e7949da37b720de44b062b33a3cb75319e8e4e78dbe1839b624ae7", func := "loop.example/g03309/laws.FnSums", spec := "fnSums", apart := false }
def FnSumsSaid : Prop := fnSumsRow.holds Try.pinned (OpenSpec.ofChange fnSumsSpec)

/-- ITS FALSE NEIGHBOUR: 'it returns false'. Refute it at one input. -/
def fnSumsWrong : ChangeSpec := { name := "fnSums", fn := fun _ => fun
  | [d] => { results := [.lit (.bool false)], args := [d] }
  | _ => none }
def FnSumsWrongFalsely : Prop := fnSumsRow.holds Try.pinned (OpenSpec.ofChange fnSumsWrong)

/-- 'laws.FnExactBenchOk': WHATEVER THE INPUT: true; the input reads as it did. -/
def fnExactBenchOkSpec : ChangeSpec := { name := "fnExactBenchOk", fn := fun _ => fun
  | [d] => { results := [.lit (.bool true)], args := [d] }
  | _ => none }
def fnExactBenchOkRow : OpenClaim := { program := "ytbpghjdibloppaa", sum := "5e3227cee5e7949da37b720de44b062b33a3cb75319e8e4e78dbe1839b624ae7", func := "loop.example/g03309/laws.FnExactBenchOk", spec := "fnExactBenchOk", apart := false }
def FnExactBenchOkSaid : Prop := fnExactBenchOkRow.holds Try.pinned (OpenSpec.ofChange fnExactBenchOkSpec)

/-- ITS FALSE NEIGHBOUR: 'it returns false'. Refute it at one input. -/
def fnExactBenchOkWrong : ChangeSpec := { name := "fnExactBenchOk", fn := fun _ => fun
  | [d] => { results := [.lit (.bool false)], args := [d] }
  | _ => none }
def FnExactBenchOkWrongFalsely : Prop := fnExactBenchOkRow.holds Try.pinned (OpenSpec.ofChange fnExactBenchOkWrong)

/-- 'laws.FnExactNewBench': WHATEVER THE INPUT: true; the input reads as it did. -/
def fnExactNewBenchSpec : ChangeSpec := { name := "fnExactNewBench", fn := fun _ => fun
  | [d1, d2] => { results := [.lit (.bool true)], args := [d1, d2] }
  | _ => none }
def fnExactNewBenchRow : OpenClaim := { program := "ytbpghjdibloppaa", sum := "5e3227cee5e7949da37b720de44b062b33a3cb75319e8e4e78dbe1839b624ae7", func := "loop.example/g03309/laws.FnExactNewBench", spec := "fnExactNewBench", apart := false }
def FnExactNewBenchSaid : Prop := fnExactNewBenchRow.holds Try.pinned (OpenSpec.ofChange fnExactNewBenchSpec)

/-- ITS FALSE NEIGHBOUR: 'it returns false'. Refute it at one input. -/
def fnExactNewBenchWrong : ChangeSpec := { name := "fnExactNewBench", fn := fun _ => fun
  | [d1, d2] => { results := [.lit (.bool false)], args := [d1, d2] }
  | _ => none }
def FnExactNewBenchWrongFalsely : Prop := fnExactNewBenchRow.holds Try.pinned (OpenSpec.ofChange fnExactNewBenchWrong)

/-- 'laws.FnStops': WHATEVER THE INPUT: true; the input reads as it did. -/
def fnStopsSpec : ChangeSpec := { name := "fnStops", fn := fun _ => fun
  | [d] => { results := [.lit (.bool true)], args := [d] }
  | _ => none }
def fnStopsRow : OpenClaim := { program := "ytbpghjdibloppaa", sum := "5e3227cee5e7949da37b720de44b062b33a3cb75319e8e4e78dbe1839b624ae7", func := "loop.example/g03309/laws.FnStops", spec := "fnStops", apart := false }
def FnStopsSaid : Prop := fnStopsRow.holds Try.pinned (OpenSpec.ofChange fnStopsSpec)

/-- ITS FALSE NEIGHBOUR: 'it returns false'. Refute it at one input. -/
def fnStopsWrong : ChangeSpec := { name := "fnStops", fn := fun _ => fun
  | [d] => { results := [.lit (.bool false)], args := [d] }
  | _ => none }
def FnStopsWrongFalsely : Prop := fnStopsRow.holds Try.pinned (OpenSpec.ofChange fnStopsWrong)

/- THE SECOND FORM. 'bulk': how many values and letters a reading holds, each counted each time it is reached (what is shared counts as often as it is met; a slice's spare places count too). A statement '..UptoSaid' is the law's where the arguments, and the package variables that the reading takes, are together of bulk at most 1048576: NARROWER than '..Said'. Prove '..Said' where nothing that the law and all that it calls make is longer than what came in: it says more and counts as full. Else prove '..UptoSaid'. A law counts once. -/
mutual
def uptoBulk {H : Type} : DataW H → Nat
  | .lit (.string bytes) => bytes.length + 1
  | .lit _ => 1
  | .nil => 1
  | .ptr d => uptoBulk d + 1
  | .slice elems spare => uptoBulkAll elems + uptoBulkAll spare + 1
  | .agg parts => uptoBulkAll parts + 1
  | .iface _ d => uptoBulk d + 1
  | .map entries => uptoBulkEntries entries + 1
  | .held _ => 1
def uptoBulkAll {H : Type} : List (DataW H) → Nat
  | [] => 0
  | d :: r => uptoBulk d + uptoBulkAll r
def uptoBulkEntries {H : Type} : List (Lit × DataW H) → Nat
  | [] => 0
  | x :: r => uptoBulkEntry x + uptoBulkEntries r
def uptoBulkEntry {H : Type} : Lit × DataW H → Nat
  | (.string bytes, d) => bytes.length + uptoBulk d + 1
  | (_, d) => uptoBulk d + 1
 end
def uptoSmall : (H : Type) → List (DataW H) → Bool := fun _ ds => decide (uptoBulkAll ds ≤ 1048576)
def OpenSpec.upto (s : _root_.Go.ChangeSpec) : _root_.Go.OpenSpec := { _root_.Go.OpenSpec.ofChange s with cond := some uptoSmall }

/-- 'laws.FnLids', WHERE WHAT IT READS IS OF BULK AT MOST 1048576: true; the input reads as it did. -/
def fnLidsUptoRow : OpenClaim := { program := "ytbpghjdibloppaa", sum := "5e3227cee5e7949da37b720de44b062b33a3cb75319e8e4e78dbe1839b624ae7", func := "loop.example/g03309/laws.FnLids", spec := "fnLids", apart := false, narrowed := true }
def FnLidsUptoSaid : Prop := fnLidsUptoRow.holds Try.pinned (OpenSpec.upto fnLidsSpec)

/-- 'laws.FnExactLivelyShow', WHERE WHAT IT READS IS OF BULK AT MOST 1048576: true; the input reads as it did. -/
def fnExactLivelyShowUptoRow : OpenClaim := { program := "ytbpghjdibloppaa", sum := "5e3227cee5e7949da37b720de44b062b33a3cb75319e8e4e78dbe1839b624ae7", func := "loop.example/g03309/laws.FnExactLivelyShow", spec := "fnExactLivelyShow", apart := false, narrowed := true }
def FnExactLivelyShowUptoSaid : Prop := fnExactLivelyShowUptoRow.holds Try.pinned (OpenSpec.upto fnExactLivelyShowSpec)

/-- 'laws.FnSums', WHERE WHAT IT READS IS OF BULK AT MOST 1048576: true; the input reads as it did. -/
def fnSumsUptoRow : OpenClaim := { program := "ytbpghjdibloppaa", sum := "5e3227cee5e7949da37b720de44b062b33a3cb75319e8e4e78dbe1839b624ae7", func := "loop.example/g03309/laws.FnSums", spec := "fnSums", apart := false, narrowed := true }
def FnSumsUptoSaid : Prop := fnSumsUptoRow.holds Try.pinned (OpenSpec.upto fnSumsSpec)

/-- 'laws.FnExactBenchOk', WHERE WHAT IT READS IS OF BULK AT MOST 1048576: true; the input reads as it did. -/
def fnExactBenchOkUptoRow : OpenClaim := { program := "ytbpghjdibloppaa", sum := "5e3227cee5e7949da37b720de44b062b33a3cb75319e8e4e78dbe1839b624ae7", func := "loop.example/g03309/laws.FnExactBenchOk", spec := "fnExactBenchOk", apart := false, narrowed := true }
def FnExactBenchOkUptoSaid : Prop := fnExactBenchOkUptoRow.holds Try.pinned (OpenSpec.upto fnExactBenchOkSpec)

/-- 'laws.FnExactNewBench', WHERE WHAT IT READS IS OF BULK AT MOST 1048576: true; the input reads as it did. -/
def fnExactNewBenchUptoRow : OpenClaim := { program := "ytbpghjdibloppaa", sum := "5e3227cee5e7949da37b720de44b062b33a3cb75319e8e4e78dbe1839b624ae7", func := "loop.example/g03309/laws.FnExactNewBench", spec := "fnExactNewBench", apart := false, narrowed := true }
def FnExactNewBenchUptoSaid : Prop := fnExactNewBenchUptoRow.holds Try.pinned (OpenSpec.upto fnExactNewBenchSpec)

/-- 'laws.FnStops', WHERE WHAT IT READS IS OF BULK AT MOST 1048576: true; the input reads as it did. -/
def fnStopsUptoRow : OpenClaim := { program := "ytbpghjdibloppaa", sum := "5e3227cee5e7949da37b720de44b062b33a3cb75319e8e4e78dbe1839b624ae7", func := "loop.example/g03309/laws.FnStops", spec := "fnStops", apart := false, narrowed := true }
def FnStopsUptoSaid : Prop := fnStopsUptoRow.holds Try.pinned (OpenSpec.upto fnStopsSpec)

end Rows
end Go.Proofs.Ytbpghjdibloppaa
