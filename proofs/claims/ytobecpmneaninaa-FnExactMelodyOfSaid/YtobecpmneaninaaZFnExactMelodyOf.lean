/- The law FnExactMelodyOf holds: for every input it returns true and leaves its arguments as they read before. No condition. -/
import Derived.Test.YtobecpmneaninaaS4
namespace Go.Proofs.Ytobecpmneaninaa
open Go.ChangeShapes Go.WideShapes Go.ChangeAt Go.RowKit Go.Mw

set_option maxRecDepth 100000 in
theorem fnExactMelodyOf_lifted (os : Os) (started : os.Started) (H : Type) (enc : TypeId × Value → H) :
    ReturnsInHanded {} Try.checked os 7 .any (Rows.fnExactMelodyOfSpec.pre6 enc Try.prog Try.f7 Rows.fnExactMelodyOfRow.domain false) (Rows.fnExactMelodyOfSpec.post enc Try.prog Try.f7 false true false false) :=
  law_lifted (C := Try.checked) (tb := 4) (l := [(true, [.int .i64, .int .i64, .list true [.int .i64, .int .i64], .list false [.list true [.int .i64, .int .i64]], .list false [.int .i64], .int .i64, .int .i64, .int .i64, .int .i64, .int .i64])]) (F := F_FnExactMelodyOf) Try.own started (by kernel_rfl) Try.func7
    (ChangeSpec.witness6 (enc := enc) (C := Try.checked) false ⟨#[], #[.agg #[.int .i64 0, .int .i64 0, .slice none 0 0, .slice none 0 0, .slice none 0 0, .int .i64 0, .int .i64 0, .int .i64 0, .int .i64 0, .int .i64 0]], []⟩ 8 (by kernel_rfl) (by kernel_rfl) (by kernel_rfl) (by kernel_rfl))
    Try.laidOut (by kernel_rfl) rfl Try.underlying4 rfl
    (fun ds h => by
      match ds, h with
      | [d0], _ => rfl)
    (by kernel_rfl) c_laws_FnExactMelodyOf F_FnExactMelodyOf_law
theorem fnExactMelodyOf_holds : Rows.FnExactMelodyOfSaid :=
  OpenClaim.holds_of_wide 7 Try.f7 rfl rfl rfl rfl rfl rfl rfl ⟨rfl, rfl, rfl, rfl, rfl⟩ rfl rfl rfl rfl rfl (by kernel_rfl) Try.func7 (by kernel_rfl)
    (of_decide_eq_true (by kernel_rfl)) (by unfold Func.isWrapper; first | (rw [if_pos (by decide +kernel)]; kernel_rfl) | (rw [if_neg (by decide +kernel)]; exact ⟨rfl, rfl⟩))
    (fun os started H enc _ => fnExactMelodyOf_lifted os started H enc)

end Go.Proofs.Ytobecpmneaninaa
