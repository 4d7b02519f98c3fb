/- The law FnExactStopBox holds: for every input it returns true and leaves its arguments as they read before. No condition. -/
import Derived.Test.YtnpollcllmgabaaS1
namespace Go.Proofs.Ytnpollcllmgabaa
open Go.ChangeShapes Go.WideShapes Go.ChangeAt Go.RowKit Go.Mw

set_option maxRecDepth 100000 in
theorem fnExactStopBox_lifted (os : Os) (started : os.Started) (H : Type) (enc : TypeId × Value → H) :
    ReturnsInHanded {} Try.checked os 12 .any (Rows.fnExactStopBoxSpec.pre6 enc Try.prog Try.f12 Rows.fnExactStopBoxRow.domain false) (Rows.fnExactStopBoxSpec.post enc Try.prog Try.f12 false true false false) :=
  law_lifted (C := Try.checked) (tb := 4) (l := [(true, [.int .i64, .int .i64, .list true [.int .i64, .int .i64]]), (true, [.int .i64, .bool, .int .i64])]) (F := F_FnExactStopBox) Try.own started (by kernel_rfl) Try.func12
    (ChangeSpec.witness6 (enc := enc) (C := Try.checked) false ⟨#[], #[.agg #[.int .i64 0, .int .i64 0, .slice none 0 0], .agg #[.int .i64 0, .bool false, .int .i64 0]], []⟩ 8 (by kernel_rfl) (by kernel_rfl) (by kernel_rfl) (by kernel_rfl))
    Try.laidOut (by kernel_rfl) rfl Try.underlying4 rfl
    (fun ds h => by
      match ds, h with
      | [d0, d1], _ => rfl)
    (by kernel_rfl) c_laws_FnExactStopBox F_FnExactStopBox_law
theorem fnExactStopBox_holds : Rows.FnExactStopBoxSaid :=
  OpenClaim.holds_of_wide 12 Try.f12 rfl rfl rfl rfl rfl rfl rfl ⟨rfl, rfl, rfl, rfl, rfl⟩ rfl rfl rfl rfl rfl (by kernel_rfl) Try.func12 (by kernel_rfl)
    (of_decide_eq_true (by kernel_rfl)) (by unfold Func.isWrapper; first | (rw [if_pos (by decide +kernel)]; kernel_rfl) | (rw [if_neg (by decide +kernel)]; exact ⟨rfl, rfl⟩))
    (fun os started H enc _ => fnExactStopBox_lifted os started H enc)

end Go.Proofs.Ytnpollcllmgabaa
