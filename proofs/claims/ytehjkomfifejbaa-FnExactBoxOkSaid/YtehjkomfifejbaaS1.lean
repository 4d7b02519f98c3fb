/- The contracts of the functions that the laws FnExactBoxOk, FnExactActOk, FnExactSortedBox, FnExactFitsIn, FnExactLeftOver, FnExactPiecesOk reach: each keeps what its pure function says, wherever that function says something. -/
import Derived.Test.YtehjkomfifejbaaRows
import Derived.Test.YtehjkomfifejbaaPl1
import Derived.ProofKit
namespace Go.Proofs.Ytehjkomfifejbaa
open Go.ChangeShapes Go.WideShapes Go.ChangeAt Go.RowKit Go.Mw

theorem Try.own : ownKnob Try.prog.godebug = none := by kernel_rfl
theorem Try.laidOut : laidOutB Try.prog = true := by kernel_rfl
theorem Try.mixed : Try.prog.follows .mixedOrders = true := by kernel_rfl
theorem c_laws_toBox : Contract Try.prog 10 laws_toBox_S :=
  fn_sh (sg := []) Try.mixed (sgOk_look (show sgOk Try.prog [] from trivial)) Try.func10 (by kernel_rfl : Func.cmp Try.prog [] laws_toBox_S Try.f10 laws_toBox_hs = some laws_toBox_L) laws_toBox_ok
theorem c_spec_l01In : Contract Try.prog 27 spec_l01In_S :=
  fn_sh (sg := []) Try.mixed (sgOk_look (show sgOk Try.prog [] from trivial)) Try.func27 (by kernel_rfl : Func.cmp Try.prog [] spec_l01In_S Try.f27 spec_l01In_hs = some spec_l01In_L) spec_l01In_ok
theorem c_spec_BoxOk : Contract Try.prog 9 spec_BoxOk_S :=
  fn_sh (sg := [(27, spec_l01In_S)]) Try.mixed (sgOk_look (show sgOk Try.prog [(27, spec_l01In_S)] from ⟨c_spec_l01In, trivial⟩)) Try.func9 (by kernel_rfl : Func.cmp Try.prog [(27, spec_l01In_S)] spec_BoxOk_S Try.f9 spec_BoxOk_hs = some spec_BoxOk_L) spec_BoxOk_ok
theorem c_impl_within : Contract Try.prog 28 impl_within_S :=
  fn_sh (sg := []) Try.mixed (sgOk_look (show sgOk Try.prog [] from trivial)) Try.func28 (by kernel_rfl : Func.cmp Try.prog [] impl_within_S Try.f28 impl_within_hs = some impl_within_L) impl_within_ok
theorem c_impl_BoxOk : Contract Try.prog 11 impl_BoxOk_S :=
  fn_sh (sg := [(28, impl_within_S)]) Try.mixed (sgOk_look (show sgOk Try.prog [(28, impl_within_S)] from ⟨c_impl_within, trivial⟩)) Try.func11 (by kernel_rfl : Func.cmp Try.prog [(28, impl_within_S)] impl_BoxOk_S Try.f11 impl_BoxOk_hs = some impl_BoxOk_L) impl_BoxOk_ok
theorem c_laws_FnExactBoxOk : Contract Try.prog 3 laws_FnExactBoxOk_S :=
  fn_sh (sg := [(10, laws_toBox_S), (9, spec_BoxOk_S), (11, impl_BoxOk_S)]) Try.mixed (sgOk_look (show sgOk Try.prog [(10, laws_toBox_S), (9, spec_BoxOk_S), (11, impl_BoxOk_S)] from ⟨c_laws_toBox, ⟨c_spec_BoxOk, ⟨c_impl_BoxOk, trivial⟩⟩⟩)) Try.func3 (by kernel_rfl : Func.cmp Try.prog [(10, laws_toBox_S), (9, spec_BoxOk_S), (11, impl_BoxOk_S)] laws_FnExactBoxOk_S Try.f3 laws_FnExactBoxOk_hs = some laws_FnExactBoxOk_L) laws_FnExactBoxOk_ok
theorem c_laws_toAct : Contract Try.prog 13 laws_toAct_S :=
  fn_sh (sg := []) Try.mixed (sgOk_look (show sgOk Try.prog [] from trivial)) Try.func13 (by kernel_rfl : Func.cmp Try.prog [] laws_toAct_S Try.f13 laws_toAct_hs = some laws_toAct_L) laws_toAct_ok
theorem c_spec_ActOk : Contract Try.prog 12 spec_ActOk_S :=
  fn_sh (sg := [(27, spec_l01In_S)]) Try.mixed (sgOk_look (show sgOk Try.prog [(27, spec_l01In_S)] from ⟨c_spec_l01In, trivial⟩)) Try.func12 (by kernel_rfl : Func.cmp Try.prog [(27, spec_l01In_S)] spec_ActOk_S Try.f12 spec_ActOk_hs = some spec_ActOk_L) spec_ActOk_ok
theorem c_impl_ActOk : Contract Try.prog 14 impl_ActOk_S :=
  fn_sh (sg := [(28, impl_within_S)]) Try.mixed (sgOk_look (show sgOk Try.prog [(28, impl_within_S)] from ⟨c_impl_within, trivial⟩)) Try.func14 (by kernel_rfl : Func.cmp Try.prog [(28, impl_within_S)] impl_ActOk_S Try.f14 impl_ActOk_hs = some impl_ActOk_L) impl_ActOk_ok
theorem c_laws_FnExactActOk : Contract Try.prog 4 laws_FnExactActOk_S :=
  fn_sh (sg := [(13, laws_toAct_S), (12, spec_ActOk_S), (14, impl_ActOk_S)]) Try.mixed (sgOk_look (show sgOk Try.prog [(13, laws_toAct_S), (12, spec_ActOk_S), (14, impl_ActOk_S)] from ⟨c_laws_toAct, ⟨c_spec_ActOk, ⟨c_impl_ActOk, trivial⟩⟩⟩)) Try.func4 (by kernel_rfl : Func.cmp Try.prog [(13, laws_toAct_S), (12, spec_ActOk_S), (14, impl_ActOk_S)] laws_FnExactActOk_S Try.f4 laws_FnExactActOk_hs = some laws_FnExactActOk_L) laws_FnExactActOk_ok
theorem c_spec_SortedBox : Contract Try.prog 15 spec_SortedBox_S :=
  fn_sh (sg := [(9, spec_BoxOk_S)]) Try.mixed (sgOk_look (show sgOk Try.prog [(9, spec_BoxOk_S)] from ⟨c_spec_BoxOk, trivial⟩)) Try.func15 (by kernel_rfl : Func.cmp Try.prog [(9, spec_BoxOk_S)] spec_SortedBox_S Try.f15 spec_SortedBox_hs = some spec_SortedBox_L) spec_SortedBox_ok
theorem c_impl_SortedBox : Contract Try.prog 16 impl_SortedBox_S :=
  fn_sh (sg := [(11, impl_BoxOk_S)]) Try.mixed (sgOk_look (show sgOk Try.prog [(11, impl_BoxOk_S)] from ⟨c_impl_BoxOk, trivial⟩)) Try.func16 (by kernel_rfl : Func.cmp Try.prog [(11, impl_BoxOk_S)] impl_SortedBox_S Try.f16 impl_SortedBox_hs = some impl_SortedBox_L) impl_SortedBox_ok
theorem c_laws_eqBox : Contract Try.prog 17 laws_eqBox_S :=
  fn_sh (sg := []) Try.mixed (sgOk_look (show sgOk Try.prog [] from trivial)) Try.func17 (by kernel_rfl : Func.cmp Try.prog [] laws_eqBox_S Try.f17 laws_eqBox_hs = some laws_eqBox_L) laws_eqBox_ok
theorem c_laws_FnExactSortedBox : Contract Try.prog 5 laws_FnExactSortedBox_S :=
  fn_sh (sg := [(10, laws_toBox_S), (15, spec_SortedBox_S), (16, impl_SortedBox_S), (17, laws_eqBox_S)]) Try.mixed (sgOk_look (show sgOk Try.prog [(10, laws_toBox_S), (15, spec_SortedBox_S), (16, impl_SortedBox_S), (17, laws_eqBox_S)] from ⟨c_laws_toBox, ⟨c_spec_SortedBox, ⟨c_impl_SortedBox, ⟨c_laws_eqBox, trivial⟩⟩⟩⟩)) Try.func5 (by kernel_rfl : Func.cmp Try.prog [(10, laws_toBox_S), (15, spec_SortedBox_S), (16, impl_SortedBox_S), (17, laws_eqBox_S)] laws_FnExactSortedBox_S Try.f5 laws_FnExactSortedBox_hs = some laws_FnExactSortedBox_L) laws_FnExactSortedBox_ok
theorem c_spec_FitsIn : Contract Try.prog 18 spec_FitsIn_S :=
  fn_sh (sg := [(9, spec_BoxOk_S), (15, spec_SortedBox_S)]) Try.mixed (sgOk_look (show sgOk Try.prog [(9, spec_BoxOk_S), (15, spec_SortedBox_S)] from ⟨c_spec_BoxOk, ⟨c_spec_SortedBox, trivial⟩⟩)) Try.func18 (by kernel_rfl : Func.cmp Try.prog [(9, spec_BoxOk_S), (15, spec_SortedBox_S)] spec_FitsIn_S Try.f18 spec_FitsIn_hs = some spec_FitsIn_L) spec_FitsIn_ok
theorem c_impl_FitsIn : Contract Try.prog 19 impl_FitsIn_S :=
  fn_sh (sg := [(11, impl_BoxOk_S), (16, impl_SortedBox_S)]) Try.mixed (sgOk_look (show sgOk Try.prog [(11, impl_BoxOk_S), (16, impl_SortedBox_S)] from ⟨c_impl_BoxOk, ⟨c_impl_SortedBox, trivial⟩⟩)) Try.func19 (by kernel_rfl : Func.cmp Try.prog [(11, impl_BoxOk_S), (16, impl_SortedBox_S)] impl_FitsIn_S Try.f19 impl_FitsIn_hs = some impl_FitsIn_L) impl_FitsIn_ok
theorem c_laws_FnExactFitsIn : Contract Try.prog 6 laws_FnExactFitsIn_S :=
  fn_sh (sg := [(10, laws_toBox_S), (18, spec_FitsIn_S), (19, impl_FitsIn_S)]) Try.mixed (sgOk_look (show sgOk Try.prog [(10, laws_toBox_S), (18, spec_FitsIn_S), (19, impl_FitsIn_S)] from ⟨c_laws_toBox, ⟨c_spec_FitsIn, ⟨c_impl_FitsIn, trivial⟩⟩⟩)) Try.func6 (by kernel_rfl : Func.cmp Try.prog [(10, laws_toBox_S), (18, spec_FitsIn_S), (19, impl_FitsIn_S)] laws_FnExactFitsIn_S Try.f6 laws_FnExactFitsIn_hs = some laws_FnExactFitsIn_L) laws_FnExactFitsIn_ok
theorem c_spec_LeftOver : Contract Try.prog 20 spec_LeftOver_S :=
  fn_sh (sg := [(18, spec_FitsIn_S)]) Try.mixed (sgOk_look (show sgOk Try.prog [(18, spec_FitsIn_S)] from ⟨c_spec_FitsIn, trivial⟩)) Try.func20 (by kernel_rfl : Func.cmp Try.prog [(18, spec_FitsIn_S)] spec_LeftOver_S Try.f20 spec_LeftOver_hs = some spec_LeftOver_L) spec_LeftOver_ok
theorem c_impl_LeftOver : Contract Try.prog 21 impl_LeftOver_S :=
  fn_sh (sg := [(19, impl_FitsIn_S)]) Try.mixed (sgOk_look (show sgOk Try.prog [(19, impl_FitsIn_S)] from ⟨c_impl_FitsIn, trivial⟩)) Try.func21 (by kernel_rfl : Func.cmp Try.prog [(19, impl_FitsIn_S)] impl_LeftOver_S Try.f21 impl_LeftOver_hs = some impl_LeftOver_L) impl_LeftOver_ok
theorem c_laws_FnExactLeftOver : Contract Try.prog 7 laws_FnExactLeftOver_S :=
  fn_sh (sg := [(10, laws_toBox_S), (20, spec_LeftOver_S), (21, impl_LeftOver_S)]) Try.mixed (sgOk_look (show sgOk Try.prog [(10, laws_toBox_S), (20, spec_LeftOver_S), (21, impl_LeftOver_S)] from ⟨c_laws_toBox, ⟨c_spec_LeftOver, ⟨c_impl_LeftOver, trivial⟩⟩⟩)) Try.func7 (by kernel_rfl : Func.cmp Try.prog [(10, laws_toBox_S), (20, spec_LeftOver_S), (21, impl_LeftOver_S)] laws_FnExactLeftOver_S Try.f7 laws_FnExactLeftOver_hs = some laws_FnExactLeftOver_L) laws_FnExactLeftOver_ok
theorem c_laws_szPieceS : Contract Try.prog 22 laws_szPieceS_S :=
  fn_sh (sg := []) Try.mixed (sgOk_look (show sgOk Try.prog [] from trivial)) Try.func22 (by kernel_rfl : Func.cmp Try.prog [] laws_szPieceS_S Try.f22 laws_szPieceS_hs = some laws_szPieceS_L) laws_szPieceS_ok
theorem c_laws_toPiece : Contract Try.prog 29 laws_toPiece_S :=
  fn_sh (sg := []) Try.mixed (sgOk_look (show sgOk Try.prog [] from trivial)) Try.func29 (by kernel_rfl : Func.cmp Try.prog [] laws_toPiece_S Try.f29 laws_toPiece_hs = some laws_toPiece_L) laws_toPiece_ok
theorem c_laws_toPieceS : Contract Try.prog 24 laws_toPieceS_S :=
  fn_sh (sg := [(29, laws_toPiece_S)]) Try.mixed (sgOk_look (show sgOk Try.prog [(29, laws_toPiece_S)] from ⟨c_laws_toPiece, trivial⟩)) Try.func24 (by kernel_rfl : Func.cmp Try.prog [(29, laws_toPiece_S)] laws_toPieceS_S Try.f24 laws_toPieceS_hs = some laws_toPieceS_L) laws_toPieceS_ok
theorem c_spec_PiecesOk : Contract Try.prog 23 spec_PiecesOk_S :=
  fn_sh (sg := [(27, spec_l01In_S)]) Try.mixed (sgOk_look (show sgOk Try.prog [(27, spec_l01In_S)] from ⟨c_spec_l01In, trivial⟩)) Try.func23 (by kernel_rfl : Func.cmp Try.prog [(27, spec_l01In_S)] spec_PiecesOk_S Try.f23 spec_PiecesOk_hs = some spec_PiecesOk_L) spec_PiecesOk_ok
theorem c_impl_PiecesOk : Contract Try.prog 25 impl_PiecesOk_S :=
  fn_sh (sg := [(28, impl_within_S)]) Try.mixed (sgOk_look (show sgOk Try.prog [(28, impl_within_S)] from ⟨c_impl_within, trivial⟩)) Try.func25 (by kernel_rfl : Func.cmp Try.prog [(28, impl_within_S)] impl_PiecesOk_S Try.f25 impl_PiecesOk_hs = some impl_PiecesOk_L) impl_PiecesOk_ok
theorem c_laws_eqPiece : Contract Try.prog 30 laws_eqPiece_S :=
  fn_sh (sg := []) Try.mixed (sgOk_look (show sgOk Try.prog [] from trivial)) Try.func30 (by kernel_rfl : Func.cmp Try.prog [] laws_eqPiece_S Try.f30 laws_eqPiece_hs = some laws_eqPiece_L) laws_eqPiece_ok
theorem c_laws_eqPieceS : Contract Try.prog 26 laws_eqPieceS_S :=
  fn_sh (sg := [(30, laws_eqPiece_S)]) Try.mixed (sgOk_look (show sgOk Try.prog [(30, laws_eqPiece_S)] from ⟨c_laws_eqPiece, trivial⟩)) Try.func26 (by kernel_rfl : Func.cmp Try.prog [(30, laws_eqPiece_S)] laws_eqPieceS_S Try.f26 laws_eqPieceS_hs = some laws_eqPieceS_L) laws_eqPieceS_ok
theorem c_laws_FnExactPiecesOk : Contract Try.prog 8 laws_FnExactPiecesOk_S :=
  fn_sh (sg := [(22, laws_szPieceS_S), (24, laws_toPieceS_S), (23, spec_PiecesOk_S), (25, impl_PiecesOk_S), (26, laws_eqPieceS_S)]) Try.mixed (sgOk_look (show sgOk Try.prog [(22, laws_szPieceS_S), (24, laws_toPieceS_S), (23, spec_PiecesOk_S), (25, impl_PiecesOk_S), (26, laws_eqPieceS_S)] from ⟨c_laws_szPieceS, ⟨c_laws_toPieceS, ⟨c_spec_PiecesOk, ⟨c_impl_PiecesOk, ⟨c_laws_eqPieceS, trivial⟩⟩⟩⟩⟩)) Try.func8 (by kernel_rfl : Func.cmp Try.prog [(22, laws_szPieceS_S), (24, laws_toPieceS_S), (23, spec_PiecesOk_S), (25, impl_PiecesOk_S), (26, laws_eqPieceS_S)] laws_FnExactPiecesOk_S Try.f8 laws_FnExactPiecesOk_hs = some laws_FnExactPiecesOk_L) laws_FnExactPiecesOk_ok

end Go.Proofs.Ytehjkomfifejbaa
