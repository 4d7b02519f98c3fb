/- The law FnWorkshops holds: for every input it returns true and leaves its arguments as they read before. No condition. -/
import Derived.Test.YtobecpmneaninaaGreatS1
namespace Go.Proofs.YtobecpmneaninaaGreat
open Go.ChangeShapes Go.WideShapes Go.ChangeAt Go.RowKit Go.Mw

set_option maxRecDepth 100000 in
theorem fnWorkshops_lifted (os : Os) (started : os.Started) (H : Type) (enc : TypeId × Value → H) :
    ReturnsInHanded {} Tryz.checked os 3 .any (Rows.fnWorkshopsSpec.pre6 enc Tryz.prog Tryz.f3 Rows.fnWorkshopsRow.domain false) (Rows.fnWorkshopsSpec.post enc Tryz.prog Tryz.f3 false true false false) :=
  law_lifted (C := Tryz.checked) (tb := 4) (l := [(false, [.list false [.int .u8]])]) (F := F_FnWorkshops) Tryz.own started (by kernel_rfl) Tryz.func3
    (ChangeSpec.witness6 (enc := enc) (C := Tryz.checked) false ⟨#[], #[.slice none 0 0], []⟩ 8 (by kernel_rfl) (by kernel_rfl) (by kernel_rfl) (by kernel_rfl))
    Tryz.laidOut (by kernel_rfl) rfl Tryz.underlying4 rfl
    (fun ds h => by
      match ds, h with
      | [d0], _ => rfl)
    (by kernel_rfl) c_laws_FnWorkshops F_FnWorkshops_law
theorem fnWorkshops_holds : Rows.FnWorkshopsSaid :=
  OpenClaim.holds_of_wide 3 Tryz.f3 rfl rfl rfl rfl rfl rfl rfl ⟨rfl, rfl, rfl, rfl, rfl⟩ rfl rfl rfl rfl rfl (by kernel_rfl) Tryz.func3 (by kernel_rfl)
    (of_decide_eq_true (by kernel_rfl)) (by unfold Func.isWrapper; first | (rw [if_pos (by decide +kernel)]; kernel_rfl) | (rw [if_neg (by decide +kernel)]; exact ⟨rfl, rfl⟩))
    (fun os started H enc _ => fnWorkshops_lifted os started H enc)

end Go.Proofs.YtobecpmneaninaaGreat
