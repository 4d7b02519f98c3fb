/- The law FnExactPiecesOk holds: for every input it returns true and leaves its arguments as they read before. No condition. -/
import Derived.Test.YtehjkomfifejbaaS1
namespace Go.Proofs.Ytehjkomfifejbaa
open Go.ChangeShapes Go.WideShapes Go.ChangeAt Go.RowKit Go.Mw

set_option maxRecDepth 100000 in
theorem fnExactPiecesOk_lifted (os : Os) (started : os.Started) (H : Type) (enc : TypeId × Value → H) :
    ReturnsInHanded {} Try.checked os 8 .any (Rows.fnExactPiecesOkSpec.pre6 enc Try.prog Try.f8 Rows.fnExactPiecesOkRow.domain false) (Rows.fnExactPiecesOkSpec.post enc Try.prog Try.f8 false true false false) :=
  law_lifted (C := Try.checked) (tb := 4) (l := [(false, [.list true [.int .i64, .int .i64]])]) (F := F_FnExactPiecesOk) Try.own started (by kernel_rfl) Try.func8
    (ChangeSpec.witness6 (enc := enc) (C := Try.checked) false ⟨#[], #[.slice none 0 0], []⟩ 8 (by kernel_rfl) (by kernel_rfl) (by kernel_rfl) (by kernel_rfl))
    Try.laidOut (by kernel_rfl) rfl Try.underlying4 rfl
    (fun ds h => by
      match ds, h with
      | [d0], _ => rfl)
    (by kernel_rfl) c_laws_FnExactPiecesOk F_FnExactPiecesOk_law
theorem fnExactPiecesOk_holds : Rows.FnExactPiecesOkSaid :=
  OpenClaim.holds_of_wide 8 Try.f8 rfl rfl rfl rfl rfl rfl rfl ⟨rfl, rfl, rfl, rfl, rfl⟩ rfl rfl rfl rfl rfl (by kernel_rfl) Try.func8 (by kernel_rfl)
    (of_decide_eq_true (by kernel_rfl)) (by unfold Func.isWrapper; first | (rw [if_pos (by decide +kernel)]; kernel_rfl) | (rw [if_neg (by decide +kernel)]; exact ⟨rfl, rfl⟩))
    (fun os started H enc _ => fnExactPiecesOk_lifted os started H enc)

end Go.Proofs.Ytehjkomfifejbaa
