/- The contracts of the functions that the laws FnStops reach: each keeps what its pure function says, wherever that function says something. -/
import Derived.Test.YtbpghjdibloppaaRows
import Derived.Test.YtbpghjdibloppaaPl1
import Derived.ProofKit
namespace Go.Proofs.Ytbpghjdibloppaa
open Go.ChangeShapes Go.WideShapes Go.ChangeAt Go.RowKit Go.Mw

theorem Try.own : ownKnob Try.prog.godebug = none := by kernel_rfl
theorem Try.laidOut : laidOutB Try.prog = true := by kernel_rfl
theorem Try.mixed : Try.prog.follows .mixedOrders = true := by kernel_rfl
theorem c_laws_big : Contract Try.prog 9 laws_big_S :=
  fn_sh (sg := []) Try.mixed (sgOk_look (show sgOk Try.prog [] from trivial)) Try.func9 (by kernel_rfl : Func.cmp Try.prog [] laws_big_S Try.f9 laws_big_hs = some laws_big_L) laws_big_ok
theorem c_spec_l01New : Contract Try.prog 50 spec_l01New_S :=
  fn_sh (sg := []) Try.mixed (sgOk_look (show sgOk Try.prog [] from trivial)) Try.func50 (by kernel_rfl : Func.cmp Try.prog [] spec_l01New_S Try.f50 spec_l01New_hs = some spec_l01New_L) spec_l01New_ok
theorem c_spec_l01Byte : Contract Try.prog 92 spec_l01Byte_S :=
  fn_sh (sg := []) Try.mixed (sgOk_look (show sgOk Try.prog [] from trivial)) Try.func92 (by kernel_rfl : Func.cmp Try.prog [] spec_l01Byte_S Try.f92 spec_l01Byte_hs = some spec_l01Byte_L) spec_l01Byte_ok
theorem c_spec_l01Below : Contract Try.prog 80 spec_l01Below_S :=
  fn_sh (sg := [(92, spec_l01Byte_S)]) Try.mixed (sgOk_look (show sgOk Try.prog [(92, spec_l01Byte_S)] from ⟨c_spec_l01Byte, trivial⟩)) Try.func80 (by kernel_rfl : Func.cmp Try.prog [(92, spec_l01Byte_S)] spec_l01Below_S Try.f80 spec_l01Below_hs = some spec_l01Below_L) spec_l01Below_ok
theorem c_spec_l06Less : Contract Try.prog 85 spec_l06Less_S :=
  fn_sh (sg := []) Try.mixed (sgOk_look (show sgOk Try.prog [] from trivial)) Try.func85 (by kernel_rfl : Func.cmp Try.prog [] spec_l06Less_S Try.f85 spec_l06Less_hs = some spec_l06Less_L) spec_l06Less_ok
theorem c_spec_l06Put : Contract Try.prog 82 spec_l06Put_S :=
  fn_sh (sg := [(85, spec_l06Less_S)]) Try.mixed (sgOk_look (show sgOk Try.prog [(85, spec_l06Less_S)] from ⟨c_spec_l06Less, trivial⟩)) Try.func82 (by kernel_rfl : Func.cmp Try.prog [(85, spec_l06Less_S)] spec_l06Put_S Try.f82 spec_l06Put_hs = some spec_l06Put_L) spec_l06Put_ok
theorem c_spec_l06Cylinder : Contract Try.prog 63 spec_l06Cylinder_S :=
  fn_sh (sg := [(80, spec_l01Below_S), (82, spec_l06Put_S)]) Try.mixed (sgOk_look (show sgOk Try.prog [(80, spec_l01Below_S), (82, spec_l06Put_S)] from ⟨c_spec_l01Below, ⟨c_spec_l06Put, trivial⟩⟩)) Try.func63 (by kernel_rfl : Func.cmp Try.prog [(80, spec_l01Below_S), (82, spec_l06Put_S)] spec_l06Cylinder_S Try.f63 spec_l06Cylinder_hs = some spec_l06Cylinder_L) spec_l06Cylinder_ok
theorem c_spec_l01PickInt : Contract Try.prog 90 spec_l01PickInt_S :=
  fn_sh (sg := [(80, spec_l01Below_S)]) Try.mixed (sgOk_look (show sgOk Try.prog [(80, spec_l01Below_S)] from ⟨c_spec_l01Below, trivial⟩)) Try.func90 (by kernel_rfl : Func.cmp Try.prog [(80, spec_l01Below_S)] spec_l01PickInt_S Try.f90 spec_l01PickInt_hs = some spec_l01PickInt_L) spec_l01PickInt_ok
theorem c_spec_l36State : Contract Try.prog 76 spec_l36State_S :=
  fn_sh (sg := [(80, spec_l01Below_S), (90, spec_l01PickInt_S)]) Try.mixed (sgOk_look (show sgOk Try.prog [(80, spec_l01Below_S), (90, spec_l01PickInt_S)] from ⟨c_spec_l01Below, ⟨c_spec_l01PickInt, trivial⟩⟩)) Try.func76 (by kernel_rfl : Func.cmp Try.prog [(80, spec_l01Below_S), (90, spec_l01PickInt_S)] spec_l36State_S Try.f76 spec_l36State_hs = some spec_l36State_L) spec_l36State_ok
theorem c_spec_DrawState : Contract Try.prog 40 spec_DrawState_S :=
  fn_sh (sg := [(50, spec_l01New_S), (63, spec_l06Cylinder_S), (76, spec_l36State_S)]) Try.mixed (sgOk_look (show sgOk Try.prog [(50, spec_l01New_S), (63, spec_l06Cylinder_S), (76, spec_l36State_S)] from ⟨c_spec_l01New, ⟨c_spec_l06Cylinder, ⟨c_spec_l36State, trivial⟩⟩⟩)) Try.func40 (by kernel_rfl : Func.cmp Try.prog [(50, spec_l01New_S), (63, spec_l06Cylinder_S), (76, spec_l36State_S)] spec_DrawState_S Try.f40 spec_DrawState_hs = some spec_DrawState_L) spec_DrawState_ok
theorem c_impl_within : Contract Try.prog 53 impl_within_S :=
  fn_sh (sg := []) Try.mixed (sgOk_look (show sgOk Try.prog [] from trivial)) Try.func53 (by kernel_rfl : Func.cmp Try.prog [] impl_within_S Try.f53 impl_within_hs = some impl_within_L) impl_within_ok
theorem c_impl_comparePins : Contract Try.prog 83 impl_comparePins_S :=
  fn_sh (sg := []) Try.mixed (sgOk_look (show sgOk Try.prog [] from trivial)) Try.func83 (by kernel_rfl : Func.cmp Try.prog [] impl_comparePins_S Try.f83 impl_comparePins_hs = some impl_comparePins_L) impl_comparePins_ok
theorem c_impl_CylinderOk : Contract Try.prog 64 impl_CylinderOk_S :=
  fn_sh (sg := [(53, impl_within_S), (83, impl_comparePins_S)]) Try.mixed (sgOk_look (show sgOk Try.prog [(53, impl_within_S), (83, impl_comparePins_S)] from ⟨c_impl_within, ⟨c_impl_comparePins, trivial⟩⟩)) Try.func64 (by kernel_rfl : Func.cmp Try.prog [(53, impl_within_S), (83, impl_comparePins_S)] impl_CylinderOk_S Try.f64 impl_CylinderOk_hs = some impl_CylinderOk_L) impl_CylinderOk_ok
theorem c_impl_StateOk : Contract Try.prog 43 impl_StateOk_S :=
  fn_sh (sg := [(64, impl_CylinderOk_S), (53, impl_within_S)]) Try.mixed (sgOk_look (show sgOk Try.prog [(64, impl_CylinderOk_S), (53, impl_within_S)] from ⟨c_impl_CylinderOk, ⟨c_impl_within, trivial⟩⟩)) Try.func43 (by kernel_rfl : Func.cmp Try.prog [(64, impl_CylinderOk_S), (53, impl_within_S)] impl_StateOk_S Try.f43 impl_StateOk_hs = some impl_StateOk_L) impl_StateOk_ok
theorem c_impl_StepsLeft : Contract Try.prog 41 impl_StepsLeft_S :=
  fn_sh (sg := [(43, impl_StateOk_S)]) Try.mixed (sgOk_look (show sgOk Try.prog [(43, impl_StateOk_S)] from ⟨c_impl_StateOk, trivial⟩)) Try.func41 (by kernel_rfl : Func.cmp Try.prog [(43, impl_StateOk_S)] impl_StepsLeft_S Try.f41 impl_StepsLeft_hs = some impl_StepsLeft_L) impl_StepsLeft_ok
theorem c_impl_around : Contract Try.prog 95 impl_around_S :=
  fn_sh (sg := []) Try.mixed (sgOk_look (show sgOk Try.prog [] from trivial)) Try.func95 (by kernel_rfl : Func.cmp Try.prog [] impl_around_S Try.f95 impl_around_hs = some impl_around_L) impl_around_ok
theorem c_impl_PinsAt : Contract Try.prog 91 impl_PinsAt_S :=
  fn_sh (sg := [(64, impl_CylinderOk_S), (53, impl_within_S), (95, impl_around_S)]) Try.mixed (sgOk_look (show sgOk Try.prog [(64, impl_CylinderOk_S), (53, impl_within_S), (95, impl_around_S)] from ⟨c_impl_CylinderOk, ⟨c_impl_within, ⟨c_impl_around, trivial⟩⟩⟩)) Try.func91 (by kernel_rfl : Func.cmp Try.prog [(64, impl_CylinderOk_S), (53, impl_within_S), (95, impl_around_S)] impl_PinsAt_S Try.f91 impl_PinsAt_hs = some impl_PinsAt_L) impl_PinsAt_ok
theorem c_impl_stepBox : Contract Try.prog 77 impl_stepBox_S :=
  fn_sh (sg := [(43, impl_StateOk_S), (91, impl_PinsAt_S)]) Try.mixed (sgOk_look (show sgOk Try.prog [(43, impl_StateOk_S), (91, impl_PinsAt_S)] from ⟨c_impl_StateOk, ⟨c_impl_PinsAt, trivial⟩⟩)) Try.func77 (by kernel_rfl : Func.cmp Try.prog [(43, impl_StateOk_S), (91, impl_PinsAt_S)] impl_stepBox_S Try.f77 impl_stepBox_hs = some impl_stepBox_L) impl_stepBox_ok
theorem c_impl_RunBox : Contract Try.prog 42 impl_RunBox_S :=
  fn_sh (sg := [(43, impl_StateOk_S), (77, impl_stepBox_S)]) Try.mixed (sgOk_look (show sgOk Try.prog [(43, impl_StateOk_S), (77, impl_stepBox_S)] from ⟨c_impl_StateOk, ⟨c_impl_stepBox, trivial⟩⟩)) Try.func42 (by kernel_rfl : Func.cmp Try.prog [(43, impl_StateOk_S), (77, impl_stepBox_S)] impl_RunBox_S Try.f42 impl_RunBox_hs = some impl_RunBox_L) impl_RunBox_ok
theorem c_impl_StepBox : Contract Try.prog 44 impl_StepBox_S :=
  fn_sh (sg := [(77, impl_stepBox_S)]) Try.mixed (sgOk_look (show sgOk Try.prog [(77, impl_stepBox_S)] from ⟨c_impl_stepBox, trivial⟩)) Try.func44 (by kernel_rfl : Func.cmp Try.prog [(77, impl_stepBox_S)] impl_StepBox_S Try.f44 impl_StepBox_hs = some impl_StepBox_L) impl_StepBox_ok
theorem c_spec_l01In : Contract Try.prog 78 spec_l01In_S :=
  fn_sh (sg := []) Try.mixed (sgOk_look (show sgOk Try.prog [] from trivial)) Try.func78 (by kernel_rfl : Func.cmp Try.prog [] spec_l01In_S Try.f78 spec_l01In_hs = some spec_l01In_L) spec_l01In_ok
theorem c_spec_CylinderOk : Contract Try.prog 67 spec_CylinderOk_S :=
  fn_sh (sg := [(78, spec_l01In_S), (85, spec_l06Less_S)]) Try.mixed (sgOk_look (show sgOk Try.prog [(78, spec_l01In_S), (85, spec_l06Less_S)] from ⟨c_spec_l01In, ⟨c_spec_l06Less, trivial⟩⟩)) Try.func67 (by kernel_rfl : Func.cmp Try.prog [(78, spec_l01In_S), (85, spec_l06Less_S)] spec_CylinderOk_S Try.f67 spec_CylinderOk_hs = some spec_CylinderOk_L) spec_CylinderOk_ok
theorem c_spec_l06Mod : Contract Try.prog 79 spec_l06Mod_S :=
  fn_sh (sg := []) Try.mixed (sgOk_look (show sgOk Try.prog [] from trivial)) Try.func79 (by kernel_rfl : Func.cmp Try.prog [] spec_l06Mod_S Try.f79 spec_l06Mod_hs = some spec_l06Mod_L) spec_l06Mod_ok
theorem c_spec_PinsAt : Contract Try.prog 46 spec_PinsAt_S :=
  fn_sh (sg := [(67, spec_CylinderOk_S), (78, spec_l01In_S), (79, spec_l06Mod_S)]) Try.mixed (sgOk_look (show sgOk Try.prog [(67, spec_CylinderOk_S), (78, spec_l01In_S), (79, spec_l06Mod_S)] from ⟨c_spec_CylinderOk, ⟨c_spec_l01In, ⟨c_spec_l06Mod, trivial⟩⟩⟩)) Try.func46 (by kernel_rfl : Func.cmp Try.prog [(67, spec_CylinderOk_S), (78, spec_l01In_S), (79, spec_l06Mod_S)] spec_PinsAt_S Try.f46 spec_PinsAt_hs = some spec_PinsAt_L) spec_PinsAt_ok
theorem c_laws_sameInts : Contract Try.prog 45 laws_sameInts_S :=
  fn_sh (sg := []) Try.mixed (sgOk_look (show sgOk Try.prog [] from trivial)) Try.func45 (by kernel_rfl : Func.cmp Try.prog [] laws_sameInts_S Try.f45 laws_sameInts_hs = some laws_sameInts_L) laws_sameInts_ok
theorem c_impl_StartBox : Contract Try.prog 47 impl_StartBox_S :=
  fn_sh (sg := [(43, impl_StateOk_S)]) Try.mixed (sgOk_look (show sgOk Try.prog [(43, impl_StateOk_S)] from ⟨c_impl_StateOk, trivial⟩)) Try.func47 (by kernel_rfl : Func.cmp Try.prog [(43, impl_StateOk_S)] impl_StartBox_S Try.f47 impl_StartBox_hs = some impl_StartBox_L) impl_StartBox_ok
theorem c_impl_StopBox : Contract Try.prog 48 impl_StopBox_S :=
  fn_sh (sg := [(43, impl_StateOk_S)]) Try.mixed (sgOk_look (show sgOk Try.prog [(43, impl_StateOk_S)] from ⟨c_impl_StateOk, trivial⟩)) Try.func48 (by kernel_rfl : Func.cmp Try.prog [(43, impl_StateOk_S)] impl_StopBox_S Try.f48 impl_StopBox_hs = some impl_StopBox_L) impl_StopBox_ok
theorem c_laws_FnStops : Contract Try.prog 8 laws_FnStops_S :=
  fn_sh (sg := [(9, laws_big_S), (40, spec_DrawState_S), (41, impl_StepsLeft_S), (42, impl_RunBox_S), (43, impl_StateOk_S), (44, impl_StepBox_S), (46, spec_PinsAt_S), (45, laws_sameInts_S), (47, impl_StartBox_S), (48, impl_StopBox_S)]) Try.mixed (sgOk_look (show sgOk Try.prog [(9, laws_big_S), (40, spec_DrawState_S), (41, impl_StepsLeft_S), (42, impl_RunBox_S), (43, impl_StateOk_S), (44, impl_StepBox_S), (46, spec_PinsAt_S), (45, laws_sameInts_S), (47, impl_StartBox_S), (48, impl_StopBox_S)] from ⟨c_laws_big, ⟨c_spec_DrawState, ⟨c_impl_StepsLeft, ⟨c_impl_RunBox, ⟨c_impl_StateOk, ⟨c_impl_StepBox, ⟨c_spec_PinsAt, ⟨c_laws_sameInts, ⟨c_impl_StartBox, ⟨c_impl_StopBox, trivial⟩⟩⟩⟩⟩⟩⟩⟩⟩⟩)) Try.func8 (by kernel_rfl : Func.cmp Try.prog [(9, laws_big_S), (40, spec_DrawState_S), (41, impl_StepsLeft_S), (42, impl_RunBox_S), (43, impl_StateOk_S), (44, impl_StepBox_S), (46, spec_PinsAt_S), (45, laws_sameInts_S), (47, impl_StartBox_S), (48, impl_StopBox_S)] laws_FnStops_S Try.f8 laws_FnStops_hs = some laws_FnStops_L) laws_FnStops_ok

end Go.Proofs.Ytbpghjdibloppaa
