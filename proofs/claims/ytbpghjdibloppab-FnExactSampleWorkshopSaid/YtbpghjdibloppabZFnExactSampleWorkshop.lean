/- The law FnExactSampleWorkshop holds: for every input it returns true and leaves its arguments as they read before. No condition. -/
import Derived.Test.YtbpghjdibloppabS1
namespace Go.Proofs.Ytbpghjdibloppab
open Go.ChangeShapes Go.WideShapes Go.ChangeAt Go.RowKit Go.Mw

set_option maxRecDepth 100000 in
theorem fnExactSampleWorkshop_lifted (os : Os) (started : os.Started) (H : Type) (enc : TypeId × Value → H) :
    ReturnsInHanded {} Try.checked os 8 .any (Rows.fnExactSampleWorkshopSpec.pre6 enc Try.prog Try.f8 Rows.fnExactSampleWorkshopRow.domain false) (Rows.fnExactSampleWorkshopSpec.post enc Try.prog Try.f8 false true false false) :=
  law_lifted (C := Try.checked) (tb := 4) (l := []) (F := F_FnExactSampleWorkshop) Try.own started (by kernel_rfl) Try.func8
    (ChangeSpec.witness6 (enc := enc) (C := Try.checked) false ⟨#[], #[], []⟩ 8 (by kernel_rfl) (by kernel_rfl) (by kernel_rfl) (by kernel_rfl))
    Try.laidOut (by kernel_rfl) rfl Try.underlying4 rfl
    (fun ds h => by
      match ds, h with
      | [], _ => rfl)
    (by kernel_rfl) c_laws_FnExactSampleWorkshop F_FnExactSampleWorkshop_law
theorem fnExactSampleWorkshop_holds : Rows.FnExactSampleWorkshopSaid :=
  OpenClaim.holds_of_wide 8 Try.f8 rfl rfl rfl rfl rfl rfl rfl ⟨rfl, rfl, rfl, rfl, rfl⟩ rfl rfl rfl rfl rfl (by kernel_rfl) Try.func8 (by kernel_rfl)
    (of_decide_eq_true (by kernel_rfl)) (by unfold Func.isWrapper; first | (rw [if_pos (by decide +kernel)]; kernel_rfl) | (rw [if_neg (by decide +kernel)]; exact ⟨rfl, rfl⟩))
    (fun os started H enc _ => fnExactSampleWorkshop_lifted os started H enc)

end Go.Proofs.Ytbpghjdibloppab
