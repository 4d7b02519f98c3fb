/- The law FnReplays holds: for every input it returns true and leaves its arguments as they read before. No condition. -/
import Derived.Test.YtafmiopgajbneaaS1
namespace Go.Proofs.Ytafmiopgajbneaa
open Go.ChangeShapes Go.WideShapes Go.ChangeAt Go.RowKit Go.Mw

set_option maxRecDepth 100000 in
theorem fnReplays_lifted (os : Os) (started : os.Started) (H : Type) (enc : TypeId × Value → H) :
    ReturnsInHanded {} Try.checked os 5 .any (Rows.fnReplaysSpec.pre6 enc Try.prog Try.f5 Rows.fnReplaysRow.domain false) (Rows.fnReplaysSpec.post enc Try.prog Try.f5 false true false false) :=
  law_lifted (C := Try.checked) (tb := 4) (l := [(false, [.list false [.int .u8]])]) (F := F_FnReplays) Try.own started (by kernel_rfl) Try.func5
    (ChangeSpec.witness6 (enc := enc) (C := Try.checked) false ⟨#[], #[.slice none 0 0], []⟩ 8 (by kernel_rfl) (by kernel_rfl) (by kernel_rfl) (by kernel_rfl))
    Try.laidOut (by kernel_rfl) rfl Try.underlying4 rfl
    (fun ds h => by
      match ds, h with
      | [d0], _ => rfl)
    (by kernel_rfl) c_laws_FnReplays F_FnReplays_law
theorem fnReplays_holds : Rows.FnReplaysSaid :=
  OpenClaim.holds_of_wide 5 Try.f5 rfl rfl rfl rfl rfl rfl rfl ⟨rfl, rfl, rfl, rfl, rfl⟩ rfl rfl rfl rfl rfl (by kernel_rfl) Try.func5 (by kernel_rfl)
    (of_decide_eq_true (by kernel_rfl)) (by unfold Func.isWrapper; first | (rw [if_pos (by decide +kernel)]; kernel_rfl) | (rw [if_neg (by decide +kernel)]; exact ⟨rfl, rfl⟩))
    (fun os started H enc _ => fnReplays_lifted os started H enc)

end Go.Proofs.Ytafmiopgajbneaa
