/- The contracts of the functions that the laws FnLids reach: each keeps what its pure function says, wherever that function says something. -/
import Derived.Test.YtbpghjdibloppaaRows
import Derived.Test.YtbpghjdibloppaaPl1
import Derived.ProofKit
namespace Go.Proofs.Ytbpghjdibloppaa
open Go.ChangeShapes Go.WideShapes Go.ChangeAt Go.RowKit Go.Mw

theorem Try.own : ownKnob Try.prog.godebug = none := by kernel_rfl
theorem Try.laidOut : laidOutB Try.prog = true := by kernel_rfl
theorem Try.mixed : Try.prog.follows .mixedOrders = true := by kernel_rfl
theorem c_laws_big : Contract Try.prog 9 laws_big_S :=
  fn_sh (sg := []) Try.mixed (sgOk_look (show sgOk Try.prog [] from trivial)) Try.func9 (by kernel_rfl : Func.cmp Try.prog [] laws_big_S Try.f9 laws_big_hs = some laws_big_L) laws_big_ok
theorem c_spec_l01New : Contract Try.prog 50 spec_l01New_S :=
  fn_sh (sg := []) Try.mixed (sgOk_look (show sgOk Try.prog [] from trivial)) Try.func50 (by kernel_rfl : Func.cmp Try.prog [] spec_l01New_S Try.f50 spec_l01New_hs = some spec_l01New_L) spec_l01New_ok
theorem c_spec_l01Byte : Contract Try.prog 92 spec_l01Byte_S :=
  fn_sh (sg := []) Try.mixed (sgOk_look (show sgOk Try.prog [] from trivial)) Try.func92 (by kernel_rfl : Func.cmp Try.prog [] spec_l01Byte_S Try.f92 spec_l01Byte_hs = some spec_l01Byte_L) spec_l01Byte_ok
theorem c_spec_l01Below : Contract Try.prog 80 spec_l01Below_S :=
  fn_sh (sg := [(92, spec_l01Byte_S)]) Try.mixed (sgOk_look (show sgOk Try.prog [(92, spec_l01Byte_S)] from ⟨c_spec_l01Byte, trivial⟩)) Try.func80 (by kernel_rfl : Func.cmp Try.prog [(92, spec_l01Byte_S)] spec_l01Below_S Try.f80 spec_l01Below_hs = some spec_l01Below_L) spec_l01Below_ok
theorem c_spec_l34Box : Contract Try.prog 81 spec_l34Box_S :=
  fn_sh (sg := [(80, spec_l01Below_S)]) Try.mixed (sgOk_look (show sgOk Try.prog [(80, spec_l01Below_S)] from ⟨c_spec_l01Below, trivial⟩)) Try.func81 (by kernel_rfl : Func.cmp Try.prog [(80, spec_l01Below_S)] spec_l34Box_S Try.f81 spec_l34Box_hs = some spec_l34Box_L) spec_l34Box_ok
theorem c_spec_l34List : Contract Try.prog 49 spec_l34List_S :=
  fn_sh (sg := [(80, spec_l01Below_S), (81, spec_l34Box_S)]) Try.mixed (sgOk_look (show sgOk Try.prog [(80, spec_l01Below_S), (81, spec_l34Box_S)] from ⟨c_spec_l01Below, ⟨c_spec_l34Box, trivial⟩⟩)) Try.func49 (by kernel_rfl : Func.cmp Try.prog [(80, spec_l01Below_S), (81, spec_l34Box_S)] spec_l34List_S Try.f49 spec_l34List_hs = some spec_l34List_L) spec_l34List_ok
theorem c_spec_DrawBoxes : Contract Try.prog 10 spec_DrawBoxes_S :=
  fn_sh (sg := [(50, spec_l01New_S), (49, spec_l34List_S)]) Try.mixed (sgOk_look (show sgOk Try.prog [(50, spec_l01New_S), (49, spec_l34List_S)] from ⟨c_spec_l01New, ⟨c_spec_l34List, trivial⟩⟩)) Try.func10 (by kernel_rfl : Func.cmp Try.prog [(50, spec_l01New_S), (49, spec_l34List_S)] spec_DrawBoxes_S Try.f10 spec_DrawBoxes_hs = some spec_DrawBoxes_L) spec_DrawBoxes_ok
theorem c_impl_within : Contract Try.prog 53 impl_within_S :=
  fn_sh (sg := []) Try.mixed (sgOk_look (show sgOk Try.prog [] from trivial)) Try.func53 (by kernel_rfl : Func.cmp Try.prog [] impl_within_S Try.f53 impl_within_hs = some impl_within_L) impl_within_ok
theorem c_impl_BoxOk : Contract Try.prog 17 impl_BoxOk_S :=
  fn_sh (sg := [(53, impl_within_S)]) Try.mixed (sgOk_look (show sgOk Try.prog [(53, impl_within_S)] from ⟨c_impl_within, trivial⟩)) Try.func17 (by kernel_rfl : Func.cmp Try.prog [(53, impl_within_S)] impl_BoxOk_S Try.f17 impl_BoxOk_hs = some impl_BoxOk_L) impl_BoxOk_ok
theorem c_impl_areBoxes : Contract Try.prog 51 impl_areBoxes_S :=
  fn_sh (sg := [(17, impl_BoxOk_S)]) Try.mixed (sgOk_look (show sgOk Try.prog [(17, impl_BoxOk_S)] from ⟨c_impl_BoxOk, trivial⟩)) Try.func51 (by kernel_rfl : Func.cmp Try.prog [(17, impl_BoxOk_S)] impl_areBoxes_S Try.f51 impl_areBoxes_hs = some impl_areBoxes_L) impl_areBoxes_ok
theorem c_impl_SortedBox : Contract Try.prog 15 impl_SortedBox_S :=
  fn_sh (sg := [(17, impl_BoxOk_S)]) Try.mixed (sgOk_look (show sgOk Try.prog [(17, impl_BoxOk_S)] from ⟨c_impl_BoxOk, trivial⟩)) Try.func15 (by kernel_rfl : Func.cmp Try.prog [(17, impl_BoxOk_S)] impl_SortedBox_S Try.f15 impl_SortedBox_hs = some impl_SortedBox_L) impl_SortedBox_ok
theorem c_impl_isInside : Contract Try.prog 52 impl_isInside_S :=
  fn_sh (sg := [(15, impl_SortedBox_S)]) Try.mixed (sgOk_look (show sgOk Try.prog [(15, impl_SortedBox_S)] from ⟨c_impl_SortedBox, trivial⟩)) Try.func52 (by kernel_rfl : Func.cmp Try.prog [(15, impl_SortedBox_S)] impl_isInside_S Try.f52 impl_isInside_hs = some impl_isInside_L) impl_isInside_ok
theorem c_impl_NestedBoxes : Contract Try.prog 11 impl_NestedBoxes_S :=
  fn_sh (sg := [(51, impl_areBoxes_S), (52, impl_isInside_S)]) Try.mixed (sgOk_look (show sgOk Try.prog [(51, impl_areBoxes_S), (52, impl_isInside_S)] from ⟨c_impl_areBoxes, ⟨c_impl_isInside, trivial⟩⟩)) Try.func11 (by kernel_rfl : Func.cmp Try.prog [(51, impl_areBoxes_S), (52, impl_isInside_S)] impl_NestedBoxes_S Try.f11 impl_NestedBoxes_hs = some impl_NestedBoxes_L) impl_NestedBoxes_ok
theorem c_laws_at : Contract Try.prog 12 laws_at_S :=
  fn_sh (sg := []) Try.mixed (sgOk_look (show sgOk Try.prog [] from trivial)) Try.func12 (by kernel_rfl : Func.cmp Try.prog [] laws_at_S Try.f12 laws_at_hs = some laws_at_L) laws_at_ok
theorem c_impl_FitsIn : Contract Try.prog 16 impl_FitsIn_S :=
  fn_sh (sg := [(17, impl_BoxOk_S), (15, impl_SortedBox_S)]) Try.mixed (sgOk_look (show sgOk Try.prog [(17, impl_BoxOk_S), (15, impl_SortedBox_S)] from ⟨c_impl_BoxOk, ⟨c_impl_SortedBox, trivial⟩⟩)) Try.func16 (by kernel_rfl : Func.cmp Try.prog [(17, impl_BoxOk_S), (15, impl_SortedBox_S)] impl_FitsIn_S Try.f16 impl_FitsIn_hs = some impl_FitsIn_L) impl_FitsIn_ok
theorem c_impl_LeftOver : Contract Try.prog 14 impl_LeftOver_S :=
  fn_sh (sg := [(16, impl_FitsIn_S)]) Try.mixed (sgOk_look (show sgOk Try.prog [(16, impl_FitsIn_S)] from ⟨c_impl_FitsIn, trivial⟩)) Try.func14 (by kernel_rfl : Func.cmp Try.prog [(16, impl_FitsIn_S)] impl_LeftOver_S Try.f14 impl_LeftOver_hs = some impl_LeftOver_L) impl_LeftOver_ok
theorem c_impl_SmallestBox : Contract Try.prog 13 impl_SmallestBox_S :=
  fn_sh (sg := [(51, impl_areBoxes_S), (17, impl_BoxOk_S), (14, impl_LeftOver_S)]) Try.mixed (sgOk_look (show sgOk Try.prog [(51, impl_areBoxes_S), (17, impl_BoxOk_S), (14, impl_LeftOver_S)] from ⟨c_impl_areBoxes, ⟨c_impl_BoxOk, ⟨c_impl_LeftOver, trivial⟩⟩⟩)) Try.func13 (by kernel_rfl : Func.cmp Try.prog [(51, impl_areBoxes_S), (17, impl_BoxOk_S), (14, impl_LeftOver_S)] impl_SmallestBox_S Try.f13 impl_SmallestBox_hs = some impl_SmallestBox_L) impl_SmallestBox_ok
theorem c_laws_FnLids : Contract Try.prog 3 laws_FnLids_S :=
  fn_sh (sg := [(9, laws_big_S), (10, spec_DrawBoxes_S), (11, impl_NestedBoxes_S), (12, laws_at_S), (13, impl_SmallestBox_S), (14, impl_LeftOver_S), (15, impl_SortedBox_S), (16, impl_FitsIn_S), (17, impl_BoxOk_S)]) Try.mixed (sgOk_look (show sgOk Try.prog [(9, laws_big_S), (10, spec_DrawBoxes_S), (11, impl_NestedBoxes_S), (12, laws_at_S), (13, impl_SmallestBox_S), (14, impl_LeftOver_S), (15, impl_SortedBox_S), (16, impl_FitsIn_S), (17, impl_BoxOk_S)] from ⟨c_laws_big, ⟨c_spec_DrawBoxes, ⟨c_impl_NestedBoxes, ⟨c_laws_at, ⟨c_impl_SmallestBox, ⟨c_impl_LeftOver, ⟨c_impl_SortedBox, ⟨c_impl_FitsIn, ⟨c_impl_BoxOk, trivial⟩⟩⟩⟩⟩⟩⟩⟩⟩)) Try.func3 (by kernel_rfl : Func.cmp Try.prog [(9, laws_big_S), (10, spec_DrawBoxes_S), (11, impl_NestedBoxes_S), (12, laws_at_S), (13, impl_SmallestBox_S), (14, impl_LeftOver_S), (15, impl_SortedBox_S), (16, impl_FitsIn_S), (17, impl_BoxOk_S)] laws_FnLids_S Try.f3 laws_FnLids_hs = some laws_FnLids_L) laws_FnLids_ok

end Go.Proofs.Ytbpghjdibloppaa
