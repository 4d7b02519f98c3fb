/-
  No cell of these rows narrows 'for every input' (looked for: loops, veiled, ifaces, maps, wideKeys, modest, calm, conditions, laid).
  DERIVED. THE GIVEN ROWS OF THIS SEAT. 4 by the template 'for every input the law returns true; each argument reads behind the call as it read before'; 0 by the template 'total and deterministic' (their statements: YtafmiopgajbneaaTotals.lean).
  GIVEN WITH THE SEED: the statements are not yours to turn. If you find one false, say at which input.
  Laid BY PROGRAM, IN A SANDBOX (cutbox-rows.mjs): the forced cells as the released guide's own fill.sh prints them over the translation 1d9ead73da128565… (all of the seat's roots in one cut). By AI agents, Wed Nov 11 2026. No macro, syntax, notation, axiom, sorry.
-/
import Derived.Test.YtafmiopgajbneaaChecked
import GoSem.Claim
import GoSem.ClaimJoined
import GoSem.ClaimMapViews
import Derived.JoinedTies
import Derived.KernelRfl
namespace Go.Proofs.Ytafmiopgajbneaa
/- THE CELL 'sum', in the pinned program and in every row, IS THE sha256 OF THE DUMP (.gsa) THAT YtafmiopgajbneaaProg.lean LOADS. Nothing in Lean hashes anything: it is a label: what it is worth is what the hold of that sum in a sandbox is worth. -/
noncomputable def Try.pinned : Pinned := { name := "ytafmiopgajbneaa", sum := "1d9ead73da12856500b963a44bf1f4c30fb1341415aeca5669e800e36ee7e900", checked := Try.checked }
namespace Rows
def none {H : Type} : Left H := { results := [], args := [] }

/-- 'laws.FnBenches': WHATEVER THE INPUT: true; the input reads as it did. -/
def fnBenchesSpec : ChangeSpec := { name := "fnBenches", fn := fun _ => fun
  | [d] => { results := [.lit (.bool true)], args := [d] }
  | _ => none }
def fnBenchesRow : OpenClaim := { program := "ytafmiopgajbneaa", sum := "1d9ead73da12856500b963a44bf1f4c30fb1341415aeca5669e800e36ee7e900", func := "loop.example/g03309/laws.FnBenches", spec := "fnBenches", unfollowed := true, recurses := true, apart := false }
def FnBenchesSaid : Prop := fnBenchesRow.holds Try.pinned (OpenSpec.ofChange fnBenchesSpec)

/-- ITS FALSE NEIGHBOUR: 'it returns false'. Refute it at one input. -/
def fnBenchesWrong : ChangeSpec := { name := "fnBenches", fn := fun _ => fun
  | [d] => { results := [.lit (.bool false)], args := [d] }
  | _ => none }
def FnBenchesWrongFalsely : Prop := fnBenchesRow.holds Try.pinned (OpenSpec.ofChange fnBenchesWrong)

/-- 'laws.FnScenarios': WHATEVER THE INPUT: true; the input reads as it did. -/
def fnScenariosSpec : ChangeSpec := { name := "fnScenarios", fn := fun _ => fun
  | [d] => { results := [.lit (.bool true)], args := [d] }
  | _ => none }
def fnScenariosRow : OpenClaim := { program := "ytafmiopgajbneaa", sum := "1d9ead73da12856500b963a44bf1f4c30fb1341415aeca5669e800e36ee7e900", func := "loop.example/g03309/laws.FnScenarios", spec := "fnScenarios", unfollowed := true, recurses := true, apart := false }
def FnScenariosSaid : Prop := fnScenariosRow.holds Try.pinned (OpenSpec.ofChange fnScenariosSpec)

/-- ITS FALSE NEIGHBOUR: 'it returns false'. Refute it at one input. -/
def fnScenariosWrong : ChangeSpec := { name := "fnScenarios", fn := fun _ => fun
  | [d] => { results := [.lit (.bool false)], args := [d] }
  | _ => none }
def FnScenariosWrongFalsely : Prop := fnScenariosRow.holds Try.pinned (OpenSpec.ofChange fnScenariosWrong)

/-- 'laws.FnReplays': WHATEVER THE INPUT: true; the input reads as it did. -/
def fnReplaysSpec : ChangeSpec := { name := "fnReplays", fn := fun _ => fun
  | [d] => { results := [.lit (.bool true)], args := [d] }
  | _ => none }
def fnReplaysRow : OpenClaim := { program := "ytafmiopgajbneaa", sum := "1d9ead73da12856500b963a44bf1f4c30fb1341415aeca5669e800e36ee7e900", func := "loop.example/g03309/laws.FnReplays", spec := "fnReplays", unfollowed := true, recurses := true, apart := false }
def FnReplaysSaid : Prop := fnReplaysRow.holds Try.pinned (OpenSpec.ofChange fnReplaysSpec)

/-- ITS FALSE NEIGHBOUR: 'it returns false'. Refute it at one input. -/
def fnReplaysWrong : ChangeSpec := { name := "fnReplays", fn := fun _ => fun
  | [d] => { results := [.lit (.bool false)], args := [d] }
  | _ => none }
def FnReplaysWrongFalsely : Prop := fnReplaysRow.holds Try.pinned (OpenSpec.ofChange fnReplaysWrong)

/-- 'laws.FnTop': WHATEVER THE INPUT: true; the input reads as it did. -/
def fnTopSpec : ChangeSpec := { name := "fnTop", fn := fun _ => fun
  | [d] => { results := [.lit (.bool true)], args := [d] }
  | _ => none }
def fnTopRow : OpenClaim := { program := "ytafmiopgajbneaa", sum := "1d9ead73da12856500b963a44bf1f4c30fb1341415aeca5669e800e36ee7e900", func := "loop.example/g03309/laws.FnTop", spec := "fnTop", unfollowed := true, recurses := true, apart := false }
def FnTopSaid : Prop := fnTopRow.holds Try.pinned (OpenSpec.ofChange fnTopSpec)

/-- ITS FALSE NEIGHBOUR: 'it returns false'. Refute it at one input. -/
def fnTopWrong : ChangeSpec := { name := "fnTop", fn := fun _ => fun
  | [d] => { results := [.lit (.bool false)], args := [d] }
  | _ => none }
def FnTopWrongFalsely : Prop := fnTopRow.holds Try.pinned (OpenSpec.ofChange fnTopWrong)

/- THE SECOND FORM. 'bulk': how many values and letters a reading holds, each counted each time it is reached (what is shared counts as often as it is met; a slice's spare places count too). A statement '..UptoSaid' is the law's where the arguments, and the package variables that the reading takes, are together of bulk at most 1048576: NARROWER than '..Said'. Prove '..Said' where nothing that the law and all that it calls make is longer than what came in: it says more and counts as full. Else prove '..UptoSaid'. A law counts once. -/
mutual
def uptoBulk {H : Type} : DataW H → Nat
  | .lit (.string bytes) => bytes.length + 1
  | .lit _ => 1
  | .nil => 1
  | .ptr d => uptoBulk d + 1
  | .slice elems spare => uptoBulkAll elems + uptoBulkAll spare + 1
  | .agg parts => uptoBulkAll parts + 1
  | .iface _ d => uptoBulk d + 1
  | .map entries => uptoBulkEntries entries + 1
  | .held _ => 1
def uptoBulkAll {H : Type} : List (DataW H) → Nat
  | [] => 0
  | d :: r => uptoBulk d + uptoBulkAll r
def uptoBulkEntries {H : Type} : List (Lit × DataW H) → Nat
  | [] => 0
  | x :: r => uptoBulkEntry x + uptoBulkEntries r
def uptoBulkEntry {H : Type} : Lit × DataW H → Nat
  | (.string bytes, d) => bytes.length + uptoBulk d + 1
  | (_, d) => uptoBulk d + 1
 end
def uptoSmall : (H : Type) → List (DataW H) → Bool := fun _ ds => decide (uptoBulkAll ds ≤ 1048576)
def OpenSpec.upto (s : _root_.Go.ChangeSpec) : _root_.Go.OpenSpec := { _root_.Go.OpenSpec.ofChange s with cond := some uptoSmall }

/-- 'laws.FnBenches', WHERE WHAT IT READS IS OF BULK AT MOST 1048576: true; the input reads as it did. -/
def fnBenchesUptoRow : OpenClaim := { program := "ytafmiopgajbneaa", sum := "1d9ead73da12856500b963a44bf1f4c30fb1341415aeca5669e800e36ee7e900", func := "loop.example/g03309/laws.FnBenches", spec := "fnBenches", unfollowed := true, recurses := true, apart := false, narrowed := true }
def FnBenchesUptoSaid : Prop := fnBenchesUptoRow.holds Try.pinned (OpenSpec.upto fnBenchesSpec)

/-- 'laws.FnScenarios', WHERE WHAT IT READS IS OF BULK AT MOST 1048576: true; the input reads as it did. -/
def fnScenariosUptoRow : OpenClaim := { program := "ytafmiopgajbneaa", sum := "1d9ead73da12856500b963a44bf1f4c30fb1341415aeca5669e800e36ee7e900", func := "loop.example/g03309/laws.FnScenarios", spec := "fnScenarios", unfollowed := true, recurses := true, apart := false, narrowed := true }
def FnScenariosUptoSaid : Prop := fnScenariosUptoRow.holds Try.pinned (OpenSpec.upto fnScenariosSpec)

/-- 'laws.FnReplays', WHERE WHAT IT READS IS OF BULK AT MOST 1048576: true; the input reads as it did. -/
def fnReplaysUptoRow : OpenClaim := { program := "ytafmiopgajbneaa", sum := "1d9ead73da12856500b963a44bf1f4c30fb1341415aeca5669e800e36ee7e900", func := "loop.example/g03309/laws.FnReplays", spec := "fnReplays", unfollowed := true, recurses := true, apart := false, narrowed := true }
def FnReplaysUptoSaid : Prop := fnReplaysUptoRow.holds Try.pinned (OpenSpec.upto fnReplaysSpec)

/-- 'laws.FnTop', WHERE WHAT IT READS IS OF BULK AT MOST 1048576: true; the input reads as it did. -/
def fnTopUptoRow : OpenClaim := { program := "ytafmiopgajbneaa", sum := "1d9ead73da12856500b963a44bf1f4c30fb1341415aeca5669e800e36ee7e900", func := "loop.example/g03309/laws.FnTop", spec := "fnTop", unfollowed := true, recurses := true, apart := false, narrowed := true }
def FnTopUptoSaid : Prop := fnTopUptoRow.holds Try.pinned (OpenSpec.upto fnTopSpec)

end Rows
end Go.Proofs.Ytafmiopgajbneaa
