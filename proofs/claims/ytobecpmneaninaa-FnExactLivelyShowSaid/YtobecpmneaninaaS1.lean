/- The contracts of the functions that the laws FnExactLivelyShow reach: each keeps what its pure function says, wherever that function says something. -/
import Derived.Test.YtobecpmneaninaaRows
import Derived.Test.YtobecpmneaninaaPl1
import Derived.ProofKit
namespace Go.Proofs.Ytobecpmneaninaa
open Go.ChangeShapes Go.WideShapes Go.ChangeAt Go.RowKit Go.Mw

theorem Try.own : ownKnob Try.prog.godebug = none := by kernel_rfl
theorem Try.laidOut : laidOutB Try.prog = true := by kernel_rfl
theorem Try.mixed : Try.prog.follows .mixedOrders = true := by kernel_rfl
theorem c_laws_szPieceS : Contract .zero Try.prog 8 laws_szPieceS_S :=
  fn_sh (sg := []) Try.mixed (sgOk_look (show sgOk .zero Try.prog [] from trivial)) Try.func8 (by kernel_rfl : Func.cmp Try.prog [] laws_szPieceS_S Try.f8 laws_szPieceS_hs = some laws_szPieceS_L) laws_szPieceS_ok
theorem c_laws_toPiece : Contract .zero Try.prog 38 laws_toPiece_S :=
  fn_sh (sg := []) Try.mixed (sgOk_look (show sgOk .zero Try.prog [] from trivial)) Try.func38 (by kernel_rfl : Func.cmp Try.prog [] laws_toPiece_S Try.f38 laws_toPiece_hs = some laws_toPiece_L) laws_toPiece_ok
theorem c_laws_toPieceS : Contract .zero Try.prog 10 laws_toPieceS_S :=
  fn_sh (sg := [(38, laws_toPiece_S)]) Try.mixed (sgOk_look (show sgOk .zero Try.prog [(38, laws_toPiece_S)] from ⟨c_laws_toPiece, trivial⟩)) Try.func10 (by kernel_rfl : Func.cmp Try.prog [(38, laws_toPiece_S)] laws_toPieceS_S Try.f10 laws_toPieceS_hs = some laws_toPieceS_L) laws_toPieceS_ok
theorem c_spec_l01In : Contract .zero Try.prog 54 spec_l01In_S :=
  fn_sh (sg := []) Try.mixed (sgOk_look (show sgOk .zero Try.prog [] from trivial)) Try.func54 (by kernel_rfl : Func.cmp Try.prog [] spec_l01In_S Try.f54 spec_l01In_hs = some spec_l01In_L) spec_l01In_ok
theorem c_spec_PiecesOk : Contract .zero Try.prog 37 spec_PiecesOk_S :=
  fn_sh (sg := [(54, spec_l01In_S)]) Try.mixed (sgOk_look (show sgOk .zero Try.prog [(54, spec_l01In_S)] from ⟨c_spec_l01In, trivial⟩)) Try.func37 (by kernel_rfl : Func.cmp Try.prog [(54, spec_l01In_S)] spec_PiecesOk_S Try.f37 spec_PiecesOk_hs = some spec_PiecesOk_L) spec_PiecesOk_ok
theorem c_spec_LivelyShow : Contract .zero Try.prog 9 spec_LivelyShow_S :=
  fn_sh (sg := [(37, spec_PiecesOk_S)]) Try.mixed (sgOk_look (show sgOk .zero Try.prog [(37, spec_PiecesOk_S)] from ⟨c_spec_PiecesOk, trivial⟩)) Try.func9 (by kernel_rfl : Func.cmp Try.prog [(37, spec_PiecesOk_S)] spec_LivelyShow_S Try.f9 spec_LivelyShow_hs = some spec_LivelyShow_L) spec_LivelyShow_ok
theorem c_impl_within : Contract .zero Try.prog 50 impl_within_S :=
  fn_sh (sg := []) Try.mixed (sgOk_look (show sgOk .zero Try.prog [] from trivial)) Try.func50 (by kernel_rfl : Func.cmp Try.prog [] impl_within_S Try.f50 impl_within_hs = some impl_within_L) impl_within_ok
theorem c_impl_PiecesOk : Contract .zero Try.prog 26 impl_PiecesOk_S :=
  fn_sh (sg := [(50, impl_within_S)]) Try.mixed (sgOk_look (show sgOk .zero Try.prog [(50, impl_within_S)] from ⟨c_impl_within, trivial⟩)) Try.func26 (by kernel_rfl : Func.cmp Try.prog [(50, impl_within_S)] impl_PiecesOk_S Try.f26 impl_PiecesOk_hs = some impl_PiecesOk_L) impl_PiecesOk_ok
theorem c_impl_membersOf : Contract .zero Try.prog 39 impl_membersOf_S :=
  fn_sh (sg := []) Try.mixed (sgOk_look (show sgOk .zero Try.prog [] from trivial)) Try.func39 (by kernel_rfl : Func.cmp Try.prog [] impl_membersOf_S Try.f39 impl_membersOf_hs = some impl_membersOf_L) impl_membersOf_ok
theorem c_impl_magnitude : Contract .zero Try.prog 40 impl_magnitude_S :=
  fn_sh (sg := []) Try.mixed (sgOk_look (show sgOk .zero Try.prog [] from trivial)) Try.func40 (by kernel_rfl : Func.cmp Try.prog [] impl_magnitude_S Try.f40 impl_magnitude_hs = some impl_magnitude_L) impl_magnitude_ok
theorem c_impl_LivelyShow : Contract .zero Try.prog 11 impl_LivelyShow_S :=
  fn_sh (sg := [(26, impl_PiecesOk_S), (39, impl_membersOf_S), (40, impl_magnitude_S)]) Try.mixed (sgOk_look (show sgOk .zero Try.prog [(26, impl_PiecesOk_S), (39, impl_membersOf_S), (40, impl_magnitude_S)] from ⟨c_impl_PiecesOk, ⟨c_impl_membersOf, ⟨c_impl_magnitude, trivial⟩⟩⟩)) Try.func11 (by kernel_rfl : Func.cmp Try.prog [(26, impl_PiecesOk_S), (39, impl_membersOf_S), (40, impl_magnitude_S)] impl_LivelyShow_S Try.f11 impl_LivelyShow_hs = some impl_LivelyShow_L) impl_LivelyShow_ok
theorem c_laws_eqPiece : Contract .zero Try.prog 41 laws_eqPiece_S :=
  fn_sh (sg := []) Try.mixed (sgOk_look (show sgOk .zero Try.prog [] from trivial)) Try.func41 (by kernel_rfl : Func.cmp Try.prog [] laws_eqPiece_S Try.f41 laws_eqPiece_hs = some laws_eqPiece_L) laws_eqPiece_ok
theorem c_laws_eqPieceS : Contract .zero Try.prog 12 laws_eqPieceS_S :=
  fn_sh (sg := [(41, laws_eqPiece_S)]) Try.mixed (sgOk_look (show sgOk .zero Try.prog [(41, laws_eqPiece_S)] from ⟨c_laws_eqPiece, trivial⟩)) Try.func12 (by kernel_rfl : Func.cmp Try.prog [(41, laws_eqPiece_S)] laws_eqPieceS_S Try.f12 laws_eqPieceS_hs = some laws_eqPieceS_L) laws_eqPieceS_ok
theorem c_laws_FnExactLivelyShow : Contract .zero Try.prog 3 laws_FnExactLivelyShow_S :=
  fn_sh (sg := [(8, laws_szPieceS_S), (10, laws_toPieceS_S), (9, spec_LivelyShow_S), (11, impl_LivelyShow_S), (12, laws_eqPieceS_S)]) Try.mixed (sgOk_look (show sgOk .zero Try.prog [(8, laws_szPieceS_S), (10, laws_toPieceS_S), (9, spec_LivelyShow_S), (11, impl_LivelyShow_S), (12, laws_eqPieceS_S)] from ⟨c_laws_szPieceS, ⟨c_laws_toPieceS, ⟨c_spec_LivelyShow, ⟨c_impl_LivelyShow, ⟨c_laws_eqPieceS, trivial⟩⟩⟩⟩⟩)) Try.func3 (by kernel_rfl : Func.cmp Try.prog [(8, laws_szPieceS_S), (10, laws_toPieceS_S), (9, spec_LivelyShow_S), (11, impl_LivelyShow_S), (12, laws_eqPieceS_S)] laws_FnExactLivelyShow_S Try.f3 laws_FnExactLivelyShow_hs = some laws_FnExactLivelyShow_L) laws_FnExactLivelyShow_ok

end Go.Proofs.Ytobecpmneaninaa
