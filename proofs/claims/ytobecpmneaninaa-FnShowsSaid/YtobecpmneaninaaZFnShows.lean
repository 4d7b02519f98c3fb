/- The law FnShows holds: for every input it returns true and leaves its arguments as they read before. No condition. -/
import Derived.Test.YtobecpmneaninaaS3
namespace Go.Proofs.Ytobecpmneaninaa
open Go.ChangeShapes Go.WideShapes Go.ChangeAt Go.RowKit Go.Mw

set_option maxRecDepth 100000 in
theorem fnShows_lifted (os : Os) (started : os.Started) (H : Type) (enc : TypeId × Value → H) :
    ReturnsInHanded {} Try.checked os 5 .any (Rows.fnShowsSpec.pre6 enc Try.prog Try.f5 Rows.fnShowsRow.domain false) (Rows.fnShowsSpec.post enc Try.prog Try.f5 false true false false) :=
  law_lifted (C := Try.checked) (tb := 4) (l := [(false, [.list false [.int .u8]])]) (F := F_FnShows) Try.own started (by kernel_rfl) Try.func5
    (ChangeSpec.witness6 (enc := enc) (C := Try.checked) false ⟨#[], #[.slice none 0 0], []⟩ 8 (by kernel_rfl) (by kernel_rfl) (by kernel_rfl) (by kernel_rfl))
    Try.laidOut (by kernel_rfl) rfl Try.underlying4 rfl
    (fun ds h => by
      match ds, h with
      | [d0], _ => rfl)
    (by kernel_rfl) c_laws_FnShows F_FnShows_law
theorem fnShows_holds : Rows.FnShowsSaid :=
  OpenClaim.holds_of_wide 5 Try.f5 rfl rfl rfl rfl rfl rfl rfl ⟨rfl, rfl, rfl, rfl, rfl⟩ rfl rfl rfl rfl rfl (by kernel_rfl) Try.func5 (by kernel_rfl)
    (of_decide_eq_true (by kernel_rfl)) (by unfold Func.isWrapper; first | (rw [if_pos (by decide +kernel)]; kernel_rfl) | (rw [if_neg (by decide +kernel)]; exact ⟨rfl, rfl⟩))
    (fun os started H enc _ => fnShows_lifted os started H enc)

end Go.Proofs.Ytobecpmneaninaa
