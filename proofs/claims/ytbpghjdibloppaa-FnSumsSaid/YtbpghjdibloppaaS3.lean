/- The contracts of the functions that the laws FnSums reach: each keeps what its pure function says, wherever that function says something. -/
import Derived.Test.YtbpghjdibloppaaRows
import Derived.Test.YtbpghjdibloppaaPl1
import Derived.ProofKit
namespace Go.Proofs.Ytbpghjdibloppaa
open Go.ChangeShapes Go.WideShapes Go.ChangeAt Go.RowKit Go.Mw

theorem Try.own : ownKnob Try.prog.godebug = none := by kernel_rfl
theorem Try.laidOut : laidOutB Try.prog = true := by kernel_rfl
theorem Try.mixed : Try.prog.follows .mixedOrders = true := by kernel_rfl
theorem c_laws_big : Contract Try.prog 9 laws_big_S :=
  fn_sh (sg := []) Try.mixed (sgOk_look (show sgOk Try.prog [] from trivial)) Try.func9 (by kernel_rfl : Func.cmp Try.prog [] laws_big_S Try.f9 laws_big_hs = some laws_big_L) laws_big_ok
theorem c_spec_l01New : Contract Try.prog 50 spec_l01New_S :=
  fn_sh (sg := []) Try.mixed (sgOk_look (show sgOk Try.prog [] from trivial)) Try.func50 (by kernel_rfl : Func.cmp Try.prog [] spec_l01New_S Try.f50 spec_l01New_hs = some spec_l01New_L) spec_l01New_ok
theorem c_spec_l01Byte : Contract Try.prog 92 spec_l01Byte_S :=
  fn_sh (sg := []) Try.mixed (sgOk_look (show sgOk Try.prog [] from trivial)) Try.func92 (by kernel_rfl : Func.cmp Try.prog [] spec_l01Byte_S Try.f92 spec_l01Byte_hs = some spec_l01Byte_L) spec_l01Byte_ok
theorem c_spec_l01Below : Contract Try.prog 80 spec_l01Below_S :=
  fn_sh (sg := [(92, spec_l01Byte_S)]) Try.mixed (sgOk_look (show sgOk Try.prog [(92, spec_l01Byte_S)] from ⟨c_spec_l01Byte, trivial⟩)) Try.func80 (by kernel_rfl : Func.cmp Try.prog [(92, spec_l01Byte_S)] spec_l01Below_S Try.f80 spec_l01Below_hs = some spec_l01Below_L) spec_l01Below_ok
theorem c_spec_l33Digits : Contract Try.prog 60 spec_l33Digits_S :=
  fn_sh (sg := [(80, spec_l01Below_S)]) Try.mixed (sgOk_look (show sgOk Try.prog [(80, spec_l01Below_S)] from ⟨c_spec_l01Below, trivial⟩)) Try.func60 (by kernel_rfl : Func.cmp Try.prog [(80, spec_l01Below_S)] spec_l33Digits_S Try.f60 spec_l33Digits_hs = some spec_l33Digits_L) spec_l33Digits_ok
theorem c_spec_DrawDigits : Contract Try.prog 23 spec_DrawDigits_S :=
  fn_sh (sg := [(50, spec_l01New_S), (60, spec_l33Digits_S)]) Try.mixed (sgOk_look (show sgOk Try.prog [(50, spec_l01New_S), (60, spec_l33Digits_S)] from ⟨c_spec_l01New, ⟨c_spec_l33Digits, trivial⟩⟩)) Try.func23 (by kernel_rfl : Func.cmp Try.prog [(50, spec_l01New_S), (60, spec_l33Digits_S)] spec_DrawDigits_S Try.f23 spec_DrawDigits_hs = some spec_DrawDigits_L) spec_DrawDigits_ok
theorem c_impl_within : Contract Try.prog 53 impl_within_S :=
  fn_sh (sg := []) Try.mixed (sgOk_look (show sgOk Try.prog [] from trivial)) Try.func53 (by kernel_rfl : Func.cmp Try.prog [] impl_within_S Try.f53 impl_within_hs = some impl_within_L) impl_within_ok
theorem c_impl_areDigits : Contract Try.prog 61 impl_areDigits_S :=
  fn_sh (sg := [(53, impl_within_S)]) Try.mixed (sgOk_look (show sgOk Try.prog [(53, impl_within_S)] from ⟨c_impl_within, trivial⟩)) Try.func61 (by kernel_rfl : Func.cmp Try.prog [(53, impl_within_S)] impl_areDigits_S Try.f61 impl_areDigits_hs = some impl_areDigits_L) impl_areDigits_ok
theorem c_impl_CheckDigit : Contract Try.prog 24 impl_CheckDigit_S :=
  fn_sh (sg := [(61, impl_areDigits_S)]) Try.mixed (sgOk_look (show sgOk Try.prog [(61, impl_areDigits_S)] from ⟨c_impl_areDigits, trivial⟩)) Try.func24 (by kernel_rfl : Func.cmp Try.prog [(61, impl_areDigits_S)] impl_CheckDigit_S Try.f24 impl_CheckDigit_hs = some impl_CheckDigit_L) impl_CheckDigit_ok
theorem c_impl_copyInts : Contract Try.prog 62 impl_copyInts_S :=
  fn_sh (sg := []) Try.mixed (sgOk_look (show sgOk Try.prog [] from trivial)) Try.func62 (by kernel_rfl : Func.cmp Try.prog [] impl_copyInts_S Try.f62 impl_copyInts_hs = some impl_copyInts_L) impl_copyInts_ok
theorem c_impl_IsChecked : Contract Try.prog 26 impl_IsChecked_S :=
  fn_sh (sg := [(24, impl_CheckDigit_S)]) Try.mixed (sgOk_look (show sgOk Try.prog [(24, impl_CheckDigit_S)] from ⟨c_impl_CheckDigit, trivial⟩)) Try.func26 (by kernel_rfl : Func.cmp Try.prog [(24, impl_CheckDigit_S)] impl_IsChecked_S Try.f26 impl_IsChecked_hs = some impl_IsChecked_L) impl_IsChecked_ok
theorem c_impl_WrongDigits : Contract Try.prog 25 impl_WrongDigits_S :=
  fn_sh (sg := [(61, impl_areDigits_S), (62, impl_copyInts_S), (26, impl_IsChecked_S)]) Try.mixed (sgOk_look (show sgOk Try.prog [(61, impl_areDigits_S), (62, impl_copyInts_S), (26, impl_IsChecked_S)] from ⟨c_impl_areDigits, ⟨c_impl_copyInts, ⟨c_impl_IsChecked, trivial⟩⟩⟩)) Try.func25 (by kernel_rfl : Func.cmp Try.prog [(61, impl_areDigits_S), (62, impl_copyInts_S), (26, impl_IsChecked_S)] impl_WrongDigits_S Try.f25 impl_WrongDigits_hs = some impl_WrongDigits_L) impl_WrongDigits_ok
theorem c_laws_at : Contract Try.prog 12 laws_at_S :=
  fn_sh (sg := []) Try.mixed (sgOk_look (show sgOk Try.prog [] from trivial)) Try.func12 (by kernel_rfl : Func.cmp Try.prog [] laws_at_S Try.f12 laws_at_hs = some laws_at_L) laws_at_ok
theorem c_impl_FindSwap : Contract Try.prog 27 impl_FindSwap_S :=
  fn_sh (sg := [(61, impl_areDigits_S), (62, impl_copyInts_S), (26, impl_IsChecked_S)]) Try.mixed (sgOk_look (show sgOk Try.prog [(61, impl_areDigits_S), (62, impl_copyInts_S), (26, impl_IsChecked_S)] from ⟨c_impl_areDigits, ⟨c_impl_copyInts, ⟨c_impl_IsChecked, trivial⟩⟩⟩)) Try.func27 (by kernel_rfl : Func.cmp Try.prog [(61, impl_areDigits_S), (62, impl_copyInts_S), (26, impl_IsChecked_S)] impl_FindSwap_S Try.f27 impl_FindSwap_hs = some impl_FindSwap_L) impl_FindSwap_ok
theorem c_laws_has : Contract Try.prog 28 laws_has_S :=
  fn_sh (sg := []) Try.mixed (sgOk_look (show sgOk Try.prog [] from trivial)) Try.func28 (by kernel_rfl : Func.cmp Try.prog [] laws_has_S Try.f28 laws_has_hs = some laws_has_L) laws_has_ok
theorem c_spec_l06Less : Contract Try.prog 85 spec_l06Less_S :=
  fn_sh (sg := []) Try.mixed (sgOk_look (show sgOk Try.prog [] from trivial)) Try.func85 (by kernel_rfl : Func.cmp Try.prog [] spec_l06Less_S Try.f85 spec_l06Less_hs = some spec_l06Less_L) spec_l06Less_ok
theorem c_spec_l06Put : Contract Try.prog 82 spec_l06Put_S :=
  fn_sh (sg := [(85, spec_l06Less_S)]) Try.mixed (sgOk_look (show sgOk Try.prog [(85, spec_l06Less_S)] from ⟨c_spec_l06Less, trivial⟩)) Try.func82 (by kernel_rfl : Func.cmp Try.prog [(85, spec_l06Less_S)] spec_l06Put_S Try.f82 spec_l06Put_hs = some spec_l06Put_L) spec_l06Put_ok
theorem c_spec_l06Cylinder : Contract Try.prog 63 spec_l06Cylinder_S :=
  fn_sh (sg := [(80, spec_l01Below_S), (82, spec_l06Put_S)]) Try.mixed (sgOk_look (show sgOk Try.prog [(80, spec_l01Below_S), (82, spec_l06Put_S)] from ⟨c_spec_l01Below, ⟨c_spec_l06Put, trivial⟩⟩)) Try.func63 (by kernel_rfl : Func.cmp Try.prog [(80, spec_l01Below_S), (82, spec_l06Put_S)] spec_l06Cylinder_S Try.f63 spec_l06Cylinder_hs = some spec_l06Cylinder_L) spec_l06Cylinder_ok
theorem c_spec_DrawCylinder : Contract Try.prog 29 spec_DrawCylinder_S :=
  fn_sh (sg := [(50, spec_l01New_S), (63, spec_l06Cylinder_S)]) Try.mixed (sgOk_look (show sgOk Try.prog [(50, spec_l01New_S), (63, spec_l06Cylinder_S)] from ⟨c_spec_l01New, ⟨c_spec_l06Cylinder, trivial⟩⟩)) Try.func29 (by kernel_rfl : Func.cmp Try.prog [(50, spec_l01New_S), (63, spec_l06Cylinder_S)] spec_DrawCylinder_S Try.f29 spec_DrawCylinder_hs = some spec_DrawCylinder_L) spec_DrawCylinder_ok
theorem c_impl_comparePins : Contract Try.prog 83 impl_comparePins_S :=
  fn_sh (sg := []) Try.mixed (sgOk_look (show sgOk Try.prog [] from trivial)) Try.func83 (by kernel_rfl : Func.cmp Try.prog [] impl_comparePins_S Try.f83 impl_comparePins_hs = some impl_comparePins_L) impl_comparePins_ok
theorem c_impl_CylinderOk : Contract Try.prog 64 impl_CylinderOk_S :=
  fn_sh (sg := [(53, impl_within_S), (83, impl_comparePins_S)]) Try.mixed (sgOk_look (show sgOk Try.prog [(53, impl_within_S), (83, impl_comparePins_S)] from ⟨c_impl_within, ⟨c_impl_comparePins, trivial⟩⟩)) Try.func64 (by kernel_rfl : Func.cmp Try.prog [(53, impl_within_S), (83, impl_comparePins_S)] impl_CylinderOk_S Try.f64 impl_CylinderOk_hs = some impl_CylinderOk_L) impl_CylinderOk_ok
theorem c_impl_PinSum : Contract Try.prog 30 impl_PinSum_S :=
  fn_sh (sg := [(64, impl_CylinderOk_S)]) Try.mixed (sgOk_look (show sgOk Try.prog [(64, impl_CylinderOk_S)] from ⟨c_impl_CylinderOk, trivial⟩)) Try.func30 (by kernel_rfl : Func.cmp Try.prog [(64, impl_CylinderOk_S)] impl_PinSum_S Try.f30 impl_PinSum_hs = some impl_PinSum_L) impl_PinSum_ok
theorem c_laws_FnSums : Contract Try.prog 5 laws_FnSums_S :=
  fn_sh (sg := [(9, laws_big_S), (23, spec_DrawDigits_S), (24, impl_CheckDigit_S), (25, impl_WrongDigits_S), (26, impl_IsChecked_S), (12, laws_at_S), (27, impl_FindSwap_S), (28, laws_has_S), (29, spec_DrawCylinder_S), (30, impl_PinSum_S)]) Try.mixed (sgOk_look (show sgOk Try.prog [(9, laws_big_S), (23, spec_DrawDigits_S), (24, impl_CheckDigit_S), (25, impl_WrongDigits_S), (26, impl_IsChecked_S), (12, laws_at_S), (27, impl_FindSwap_S), (28, laws_has_S), (29, spec_DrawCylinder_S), (30, impl_PinSum_S)] from ⟨c_laws_big, ⟨c_spec_DrawDigits, ⟨c_impl_CheckDigit, ⟨c_impl_WrongDigits, ⟨c_impl_IsChecked, ⟨c_laws_at, ⟨c_impl_FindSwap, ⟨c_laws_has, ⟨c_spec_DrawCylinder, ⟨c_impl_PinSum, trivial⟩⟩⟩⟩⟩⟩⟩⟩⟩⟩)) Try.func5 (by kernel_rfl : Func.cmp Try.prog [(9, laws_big_S), (23, spec_DrawDigits_S), (24, impl_CheckDigit_S), (25, impl_WrongDigits_S), (26, impl_IsChecked_S), (12, laws_at_S), (27, impl_FindSwap_S), (28, laws_has_S), (29, spec_DrawCylinder_S), (30, impl_PinSum_S)] laws_FnSums_S Try.f5 laws_FnSums_hs = some laws_FnSums_L) laws_FnSums_ok

end Go.Proofs.Ytbpghjdibloppaa
