/- The law FnExactFitsEvening holds: for every input it returns true and leaves its arguments as they read before. No condition. -/
import Derived.Test.YtobecpmneaninaaS2
namespace Go.Proofs.Ytobecpmneaninaa
open Go.ChangeShapes Go.WideShapes Go.ChangeAt Go.RowKit Go.Mw

set_option maxRecDepth 100000 in
theorem fnExactFitsEvening_lifted (os : Os) (started : os.Started) (H : Type) (enc : TypeId × Value → H) :
    ReturnsInHanded {} Try.checked os 6 .any (Rows.fnExactFitsEveningSpec.pre6 enc Try.prog Try.f6 Rows.fnExactFitsEveningRow.domain false) (Rows.fnExactFitsEveningSpec.post enc Try.prog Try.f6 false true false false) :=
  law_lifted (C := Try.checked) (tb := 4) (l := [(false, [.list true [.int .i64, .int .i64]]), (false, [.int .i64]), (false, [.int .i64])]) (F := F_FnExactFitsEvening) Try.own started (by kernel_rfl) Try.func6
    (ChangeSpec.witness6 (enc := enc) (C := Try.checked) false ⟨#[], #[.slice none 0 0, .int .i64 0, .int .i64 0], []⟩ 8 (by kernel_rfl) (by kernel_rfl) (by kernel_rfl) (by kernel_rfl))
    Try.laidOut (by kernel_rfl) rfl Try.underlying4 rfl
    (fun ds h => by
      match ds, h with
      | [d0, d1, d2], _ => rfl)
    (by kernel_rfl) c_laws_FnExactFitsEvening F_FnExactFitsEvening_law
theorem fnExactFitsEvening_holds : Rows.FnExactFitsEveningSaid :=
  OpenClaim.holds_of_wide 6 Try.f6 rfl rfl rfl rfl rfl rfl rfl ⟨rfl, rfl, rfl, rfl, rfl⟩ rfl rfl rfl rfl rfl (by kernel_rfl) Try.func6 (by kernel_rfl)
    (of_decide_eq_true (by kernel_rfl)) (by unfold Func.isWrapper; first | (rw [if_pos (by decide +kernel)]; kernel_rfl) | (rw [if_neg (by decide +kernel)]; exact ⟨rfl, rfl⟩))
    (fun os started H enc _ => fnExactFitsEvening_lifted os started H enc)

end Go.Proofs.Ytobecpmneaninaa
