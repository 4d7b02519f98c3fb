/-
  No cell of these rows narrows 'for every input' (looked for: loops, veiled, ifaces, maps, wideKeys, modest, calm, conditions, laid).
  DERIVED. THE GIVEN ROWS OF THIS SEAT. 5 by the template 'for every input the law returns true; each argument reads behind the call as it read before'; 0 by the template 'total and deterministic' (their statements: YtobecpmneaninaaTotals.lean).
  GIVEN WITH THE SEED: the statements are not yours to turn. If you find one false, say at which input.
  Laid BY PROGRAM, IN A SANDBOX (cutbox-rows.mjs): the forced cells as the released guide's own fill.sh prints them over the translation af5e21a641820570… (all of the seat's roots in one cut). By AI agents, Wed Nov 11 2026. No macro, syntax, notation, axiom, sorry.
-/
import Derived.Test.YtobecpmneaninaaChecked
import GoSem.Claim
import GoSem.ClaimJoined
import GoSem.ClaimMapViews
import Derived.JoinedTies
import Derived.KernelRfl
namespace Go.Proofs.Ytobecpmneaninaa
/- THE CELL 'sum', in the pinned program and in every row, IS THE sha256 OF THE DUMP (.gsa) THAT YtobecpmneaninaaProg.lean LOADS. Nothing in Lean hashes anything: it is a label: what it is worth is what the hold of that sum in a sandbox is worth. -/
noncomputable def Try.pinned : Pinned := { name := "ytobecpmneaninaa", sum := "af5e21a64182057060f9b19a07e642d5c95e49f32a0f4d934d471d5567404e29", checked := Try.checked }
namespace Rows
def none {H : Type} : Left H := { results := [], args := [] }

/-- 'laws.FnExactLivelyShow': WHATEVER THE INPUT: true; the input reads as it did. -/
def fnExactLivelyShowSpec : ChangeSpec := { name := "fnExactLivelyShow", fn := fun _ => fun
  | [d] => { results := [.lit (.bool true)], args := [d] }
  | _ => none }
def fnExactLivelyShowRow : OpenClaim := { program := "ytobecpmneaninaa", sum := "af5e21a64182057060f9b19a07e642d5c95e49f32a0f4d934d471d5567404e29", func := "loop.example/g03309/laws.FnExactLivelyShow", spec := "fnExactLivelyShow", apart := false }
def FnExactLivelyShowSaid : Prop := fnExactLivelyShowRow.holds Try.pinned (OpenSpec.ofChange fnExactLivelyShowSpec)

/-- ITS FALSE NEIGHBOUR: 'it returns false'. Refute it at one input. -/
def fnExactLivelyShowWrong : ChangeSpec := { name := "fnExactLivelyShow", fn := fun _ => fun
  | [d] => { results := [.lit (.bool false)], args := [d] }
  | _ => none }
def FnExactLivelyShowWrongFalsely : Prop := fnExactLivelyShowRow.holds Try.pinned (OpenSpec.ofChange fnExactLivelyShowWrong)

/-- 'laws.FnExactSmoothShow': WHATEVER THE INPUT: true; the input reads as it did. -/
def fnExactSmoothShowSpec : ChangeSpec := { name := "fnExactSmoothShow", fn := fun _ => fun
  | [d] => { results := [.lit (.bool true)], args := [d] }
  | _ => none }
def fnExactSmoothShowRow : OpenClaim := { program := "ytobecpmneaninaa", sum := "af5e21a64182057060f9b19a07e642d5c95e49f32a0f4d934d471d5567404e29", func := "loop.example/g03309/laws.FnExactSmoothShow", spec := "fnExactSmoothShow", unfollowed := true, recurses := true, apart := false }
def FnExactSmoothShowSaid : Prop := fnExactSmoothShowRow.holds Try.pinned (OpenSpec.ofChange fnExactSmoothShowSpec)

/-- ITS FALSE NEIGHBOUR: 'it returns false'. Refute it at one input. -/
def fnExactSmoothShowWrong : ChangeSpec := { name := "fnExactSmoothShow", fn := fun _ => fun
  | [d] => { results := [.lit (.bool false)], args := [d] }
  | _ => none }
def FnExactSmoothShowWrongFalsely : Prop := fnExactSmoothShowRow.holds Try.pinned (OpenSpec.ofChange fnExactSmoothShowWrong)

/-- 'laws.FnShows': WHATEVER THE INPUT: true; the input reads as it did. -/
def fnShowsSpec : ChangeSpec := { name := "fnShows", fn := fun _ => fun
  | [d] => { results := [.lit (.bool true)], args := [d] }
  | _ => none }
def fnShowsRow : OpenClaim := { program := "ytobecpmneaninaa", sum := "af5e21a64182057060f9b19a07e642d5c95e49f32a0f4d934d471d5567404e29", func := "loop.example/g03309/laws.FnShows", spec := "fnShows", unfollowed := true, recurses := true, apart := false }
def FnShowsSaid : Prop := fnShowsRow.holds Try.pinned (OpenSpec.ofChange fnShowsSpec)

/-- ITS FALSE NEIGHBOUR: 'it returns false'. Refute it at one input. -/
def fnShowsWrong : ChangeSpec := { name := "fnShows", fn := fun _ => fun
  | [d] => { results := [.lit (.bool false)], args := [d] }
  | _ => none }
def FnShowsWrongFalsely : Prop := fnShowsRow.holds Try.pinned (OpenSpec.ofChange fnShowsWrong)

/-- 'laws.FnExactFitsEvening': WHATEVER THE INPUT: true; the input reads as it did. -/
def fnExactFitsEveningSpec : ChangeSpec := { name := "fnExactFitsEvening", fn := fun _ => fun
  | [d1, d2, d3] => { results := [.lit (.bool true)], args := [d1, d2, d3] }
  | _ => none }
def fnExactFitsEveningRow : OpenClaim := { program := "ytobecpmneaninaa", sum := "af5e21a64182057060f9b19a07e642d5c95e49f32a0f4d934d471d5567404e29", func := "loop.example/g03309/laws.FnExactFitsEvening", spec := "fnExactFitsEvening", unfollowed := true, recurses := true, apart := false }
def FnExactFitsEveningSaid : Prop := fnExactFitsEveningRow.holds Try.pinned (OpenSpec.ofChange fnExactFitsEveningSpec)

/-- ITS FALSE NEIGHBOUR: 'it returns false'. Refute it at one input. -/
def fnExactFitsEveningWrong : ChangeSpec := { name := "fnExactFitsEvening", fn := fun _ => fun
  | [d1, d2, d3] => { results := [.lit (.bool false)], args := [d1, d2, d3] }
  | _ => none }
def FnExactFitsEveningWrongFalsely : Prop := fnExactFitsEveningRow.holds Try.pinned (OpenSpec.ofChange fnExactFitsEveningWrong)

/-- 'laws.FnExactMelodyOf': WHATEVER THE INPUT: true; the input reads as it did. -/
def fnExactMelodyOfSpec : ChangeSpec := { name := "fnExactMelodyOf", fn := fun _ => fun
  | [d] => { results := [.lit (.bool true)], args := [d] }
  | _ => none }
def fnExactMelodyOfRow : OpenClaim := { program := "ytobecpmneaninaa", sum := "af5e21a64182057060f9b19a07e642d5c95e49f32a0f4d934d471d5567404e29", func := "loop.example/g03309/laws.FnExactMelodyOf", spec := "fnExactMelodyOf", unfollowed := true, recurses := true, apart := false }
def FnExactMelodyOfSaid : Prop := fnExactMelodyOfRow.holds Try.pinned (OpenSpec.ofChange fnExactMelodyOfSpec)

/-- ITS FALSE NEIGHBOUR: 'it returns false'. Refute it at one input. -/
def fnExactMelodyOfWrong : ChangeSpec := { name := "fnExactMelodyOf", fn := fun _ => fun
  | [d] => { results := [.lit (.bool false)], args := [d] }
  | _ => none }
def FnExactMelodyOfWrongFalsely : Prop := fnExactMelodyOfRow.holds Try.pinned (OpenSpec.ofChange fnExactMelodyOfWrong)

/- THE SECOND FORM. 'bulk': how many values and letters a reading holds, each counted each time it is reached (what is shared counts as often as it is met; a slice's spare places count too). A statement '..UptoSaid' is the law's where the arguments, and the package variables that the reading takes, are together of bulk at most 1048576: NARROWER than '..Said'. Prove '..Said' where nothing that the law and all that it calls make is longer than what came in: it says more and counts as full. Else prove '..UptoSaid'. A law counts once. -/
mutual
def uptoBulk {H : Type} : DataW H → Nat
  | .lit (.string bytes) => bytes.length + 1
  | .lit _ => 1
  | .nil => 1
  | .ptr d => uptoBulk d + 1
  | .slice elems spare => uptoBulkAll elems + uptoBulkAll spare + 1
  | .agg parts => uptoBulkAll parts + 1
  | .iface _ d => uptoBulk d + 1
  | .map entries => uptoBulkEntries entries + 1
  | .held _ => 1
def uptoBulkAll {H : Type} : List (DataW H) → Nat
  | [] => 0
  | d :: r => uptoBulk d + uptoBulkAll r
def uptoBulkEntries {H : Type} : List (Lit × DataW H) → Nat
  | [] => 0
  | x :: r => uptoBulkEntry x + uptoBulkEntries r
def uptoBulkEntry {H : Type} : Lit × DataW H → Nat
  | (.string bytes, d) => bytes.length + uptoBulk d + 1
  | (_, d) => uptoBulk d + 1
 end
def uptoSmall : (H : Type) → List (DataW H) → Bool := fun _ ds => decide (uptoBulkAll ds ≤ 1048576)
def OpenSpec.upto (s : _root_.Go.ChangeSpec) : _root_.Go.OpenSpec := { _root_.Go.OpenSpec.ofChange s with cond := some uptoSmall }

/-- 'laws.FnExactLivelyShow', WHERE WHAT IT READS IS OF BULK AT MOST 1048576: true; the input reads as it did. -/
def fnExactLivelyShowUptoRow : OpenClaim := { program := "ytobecpmneaninaa", sum := "af5e21a64182057060f9b19a07e642d5c95e49f32a0f4d934d471d5567404e29", func := "loop.example/g03309/laws.FnExactLivelyShow", spec := "fnExactLivelyShow", apart := false, narrowed := true }
def FnExactLivelyShowUptoSaid : Prop := fnExactLivelyShowUptoRow.holds Try.pinned (OpenSpec.upto fnExactLivelyShowSpec)

/-- 'laws.FnExactSmoothShow', WHERE WHAT IT READS IS OF BULK AT MOST 1048576: true; the input reads as it did. -/
def fnExactSmoothShowUptoRow : OpenClaim := { program := "ytobecpmneaninaa", sum := "af5e21a64182057060f9b19a07e642d5c95e49f32a0f4d934d471d5567404e29", func := "loop.example/g03309/laws.FnExactSmoothShow", spec := "fnExactSmoothShow", unfollowed := true, recurses := true, apart := false, narrowed := true }
def FnExactSmoothShowUptoSaid : Prop := fnExactSmoothShowUptoRow.holds Try.pinned (OpenSpec.upto fnExactSmoothShowSpec)

/-- 'laws.FnShows', WHERE WHAT IT READS IS OF BULK AT MOST 1048576: true; the input reads as it did. -/
def fnShowsUptoRow : OpenClaim := { program := "ytobecpmneaninaa", sum := "af5e21a64182057060f9b19a07e642d5c95e49f32a0f4d934d471d5567404e29", func := "loop.example/g03309/laws.FnShows", spec := "fnShows", unfollowed := true, recurses := true, apart := false, narrowed := true }
def FnShowsUptoSaid : Prop := fnShowsUptoRow.holds Try.pinned (OpenSpec.upto fnShowsSpec)

/-- 'laws.FnExactFitsEvening', WHERE WHAT IT READS IS OF BULK AT MOST 1048576: true; the input reads as it did. -/
def fnExactFitsEveningUptoRow : OpenClaim := { program := "ytobecpmneaninaa", sum := "af5e21a64182057060f9b19a07e642d5c95e49f32a0f4d934d471d5567404e29", func := "loop.example/g03309/laws.FnExactFitsEvening", spec := "fnExactFitsEvening", unfollowed := true, recurses := true, apart := false, narrowed := true }
def FnExactFitsEveningUptoSaid : Prop := fnExactFitsEveningUptoRow.holds Try.pinned (OpenSpec.upto fnExactFitsEveningSpec)

/-- 'laws.FnExactMelodyOf', WHERE WHAT IT READS IS OF BULK AT MOST 1048576: true; the input reads as it did. -/
def fnExactMelodyOfUptoRow : OpenClaim := { program := "ytobecpmneaninaa", sum := "af5e21a64182057060f9b19a07e642d5c95e49f32a0f4d934d471d5567404e29", func := "loop.example/g03309/laws.FnExactMelodyOf", spec := "fnExactMelodyOf", unfollowed := true, recurses := true, apart := false, narrowed := true }
def FnExactMelodyOfUptoSaid : Prop := fnExactMelodyOfUptoRow.holds Try.pinned (OpenSpec.upto fnExactMelodyOfSpec)

end Rows
end Go.Proofs.Ytobecpmneaninaa
