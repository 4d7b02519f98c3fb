/- The contracts of the functions that the laws FnWorkshops reach: each keeps what its pure function says, wherever that function says something. -/
import Derived.Test.YtobecpmneaninaaGreatRows
import Derived.Test.YtobecpmneaninaaGreatPl3
import Derived.Test.YtobecpmneaninaaGreatLys
import Derived.ProofKit
namespace Go.Proofs.YtobecpmneaninaaGreat
open Go.ChangeShapes Go.WideShapes Go.ChangeAt Go.RowKit Go.Mw

theorem Tryz.own : ownKnob Tryz.prog.godebug = none := by kernel_rfl
theorem Tryz.laidOut : laidOutB Tryz.prog = true := by kernel_rfl
theorem Tryz.mixed : Tryz.prog.follows .mixedOrders = true := by kernel_rfl
theorem c_laws_big : Contract .zero Tryz.prog 4 laws_big_S :=
  fn_sh (sg := []) Tryz.mixed (sgOk_look (show sgOk .zero Tryz.prog [] from trivial)) Tryz.func4 (by kernel_rfl : Func.cmp Tryz.prog [] laws_big_S Tryz.f4 laws_big_hs = some laws_big_L) laws_big_ok
theorem c_spec_l01New : Contract .zero Tryz.prog 19 spec_l01New_S :=
  fn_sh (sg := []) Tryz.mixed (sgOk_look (show sgOk .zero Tryz.prog [] from trivial)) Tryz.func19 (by kernel_rfl : Func.cmp Tryz.prog [] spec_l01New_S Tryz.f19 spec_l01New_hs = some spec_l01New_L) spec_l01New_ok
theorem c_spec_l01Byte : Contract .zero Tryz.prog 66 spec_l01Byte_S :=
  fn_sh (sg := []) Tryz.mixed (sgOk_look (show sgOk .zero Tryz.prog [] from trivial)) Tryz.func66 (by kernel_rfl : Func.cmp Tryz.prog [] spec_l01Byte_S Tryz.f66 spec_l01Byte_hs = some spec_l01Byte_L) spec_l01Byte_ok
theorem c_spec_l01Below : Contract .zero Tryz.prog 51 spec_l01Below_S :=
  fn_sh (sg := [(66, spec_l01Byte_S)]) Tryz.mixed (sgOk_look (show sgOk .zero Tryz.prog [(66, spec_l01Byte_S)] from ⟨c_spec_l01Byte, trivial⟩)) Tryz.func51 (by kernel_rfl : Func.cmp Tryz.prog [(66, spec_l01Byte_S)] spec_l01Below_S Tryz.f51 spec_l01Below_hs = some spec_l01Below_L) spec_l01Below_ok
theorem c_spec_l06Less : Contract .zero Tryz.prog 43 spec_l06Less_S :=
  fn_sh (sg := []) Tryz.mixed (sgOk_look (show sgOk .zero Tryz.prog [] from trivial)) Tryz.func43 (by kernel_rfl : Func.cmp Tryz.prog [] spec_l06Less_S Tryz.f43 spec_l06Less_hs = some spec_l06Less_L) spec_l06Less_ok
theorem c_spec_l06Put : Contract .zero Tryz.prog 65 spec_l06Put_S :=
  fn_sh (sg := [(43, spec_l06Less_S)]) Tryz.mixed (sgOk_look (show sgOk .zero Tryz.prog [(43, spec_l06Less_S)] from ⟨c_spec_l06Less, trivial⟩)) Tryz.func65 (by kernel_rfl : Func.cmp Tryz.prog [(43, spec_l06Less_S)] spec_l06Put_S Tryz.f65 spec_l06Put_hs = some spec_l06Put_L) spec_l06Put_ok
theorem c_spec_l06Cylinder : Contract .zero Tryz.prog 50 spec_l06Cylinder_S :=
  fn_sh (sg := [(51, spec_l01Below_S), (65, spec_l06Put_S)]) Tryz.mixed (sgOk_look (show sgOk .zero Tryz.prog [(51, spec_l01Below_S), (65, spec_l06Put_S)] from ⟨c_spec_l01Below, ⟨c_spec_l06Put, trivial⟩⟩)) Tryz.func50 (by kernel_rfl : Func.cmp Tryz.prog [(51, spec_l01Below_S), (65, spec_l06Put_S)] spec_l06Cylinder_S Tryz.f50 spec_l06Cylinder_hs = some spec_l06Cylinder_L) spec_l06Cylinder_ok
theorem c_spec_l01Once : Contract .zero Tryz.prog 52 spec_l01Once_S :=
  fn_sh (sg := [(51, spec_l01Below_S)]) Tryz.mixed (sgOk_look (show sgOk .zero Tryz.prog [(51, spec_l01Below_S)] from ⟨c_spec_l01Below, trivial⟩)) Tryz.func52 (by kernel_rfl : Func.cmp Tryz.prog [(51, spec_l01Below_S)] spec_l01Once_S Tryz.f52 spec_l01Once_hs = some spec_l01Once_L) spec_l01Once_ok
theorem c_spec_l06Copy : Contract .zero Tryz.prog 75 spec_l06Copy_S :=
  fn_sh (sg := []) Tryz.mixed (sgOk_look (show sgOk .zero Tryz.prog [] from trivial)) Tryz.func75 (by kernel_rfl : Func.cmp Tryz.prog [] spec_l06Copy_S Tryz.f75 spec_l06Copy_hs = some spec_l06Copy_L) spec_l06Copy_ok
theorem c_spec_l01In : Contract .zero Tryz.prog 23 spec_l01In_S :=
  fn_sh (sg := []) Tryz.mixed (sgOk_look (show sgOk .zero Tryz.prog [] from trivial)) Tryz.func23 (by kernel_rfl : Func.cmp Tryz.prog [] spec_l01In_S Tryz.f23 spec_l01In_hs = some spec_l01In_L) spec_l01In_ok
theorem c_spec_CylinderOk : Contract .zero Tryz.prog 22 spec_CylinderOk_S :=
  fn_sh (sg := [(23, spec_l01In_S), (43, spec_l06Less_S)]) Tryz.mixed (sgOk_look (show sgOk .zero Tryz.prog [(23, spec_l01In_S), (43, spec_l06Less_S)] from ⟨c_spec_l01In, ⟨c_spec_l06Less, trivial⟩⟩)) Tryz.func22 (by kernel_rfl : Func.cmp Tryz.prog [(23, spec_l01In_S), (43, spec_l06Less_S)] spec_CylinderOk_S Tryz.f22 spec_CylinderOk_hs = some spec_CylinderOk_L) spec_CylinderOk_ok
theorem c_spec_PullPin : Contract .zero Tryz.prog 67 spec_PullPin_S :=
  fn_sh (sg := [(75, spec_l06Copy_S), (22, spec_CylinderOk_S), (23, spec_l01In_S)]) Tryz.mixed (sgOk_look (show sgOk .zero Tryz.prog [(75, spec_l06Copy_S), (22, spec_CylinderOk_S), (23, spec_l01In_S)] from ⟨c_spec_l06Copy, ⟨c_spec_CylinderOk, ⟨c_spec_l01In, trivial⟩⟩⟩)) Tryz.func67 (by kernel_rfl : Func.cmp Tryz.prog [(75, spec_l06Copy_S), (22, spec_CylinderOk_S), (23, spec_l01In_S)] spec_PullPin_S Tryz.f67 spec_PullPin_hs = some spec_PullPin_L) spec_PullPin_ok
theorem c_spec_l37Copy : Contract .zero Tryz.prog 68 spec_l37Copy_S :=
  fn_sh (sg := [(75, spec_l06Copy_S)]) Tryz.mixed (sgOk_look (show sgOk .zero Tryz.prog [(75, spec_l06Copy_S)] from ⟨c_spec_l06Copy, trivial⟩)) Tryz.func68 (by kernel_rfl : Func.cmp Tryz.prog [(75, spec_l06Copy_S)] spec_l37Copy_S Tryz.f68 spec_l37Copy_hs = some spec_l37Copy_L) spec_l37Copy_ok
theorem c_spec_BenchOk : Contract .zero Tryz.prog 76 spec_BenchOk_S :=
  fn_sh (sg := [(22, spec_CylinderOk_S)]) Tryz.mixed (sgOk_look (show sgOk .zero Tryz.prog [(22, spec_CylinderOk_S)] from ⟨c_spec_CylinderOk, trivial⟩)) Tryz.func76 (by kernel_rfl : Func.cmp Tryz.prog [(22, spec_CylinderOk_S)] spec_BenchOk_S Tryz.f76 spec_BenchOk_hs = some spec_BenchOk_L) spec_BenchOk_ok
theorem c_spec_l37Step : Contract .zero Tryz.prog 69 spec_l37Step_S :=
  fn_sh (sg := [(68, spec_l37Copy_S), (76, spec_BenchOk_S)]) Tryz.mixed (sgOk_look (show sgOk .zero Tryz.prog [(68, spec_l37Copy_S), (76, spec_BenchOk_S)] from ⟨c_spec_l37Copy, ⟨c_spec_BenchOk, trivial⟩⟩)) Tryz.func69 (by kernel_rfl : Func.cmp Tryz.prog [(68, spec_l37Copy_S), (76, spec_BenchOk_S)] spec_l37Step_S Tryz.f69 spec_l37Step_hs = some spec_l37Step_L) spec_l37Step_ok
theorem c_spec_TakePin : Contract .zero Tryz.prog 53 spec_TakePin_S :=
  fn_sh (sg := [(67, spec_PullPin_S), (68, spec_l37Copy_S), (69, spec_l37Step_S)]) Tryz.mixed (sgOk_look (show sgOk .zero Tryz.prog [(67, spec_PullPin_S), (68, spec_l37Copy_S), (69, spec_l37Step_S)] from ⟨c_spec_PullPin, ⟨c_spec_l37Copy, ⟨c_spec_l37Step, trivial⟩⟩⟩)) Tryz.func53 (by kernel_rfl : Func.cmp Tryz.prog [(67, spec_PullPin_S), (68, spec_l37Copy_S), (69, spec_l37Step_S)] spec_TakePin_S Tryz.f53 spec_TakePin_hs = some spec_TakePin_L) spec_TakePin_ok
theorem c_spec_AddPin : Contract .zero Tryz.prog 70 spec_AddPin_S :=
  fn_sh (sg := [(75, spec_l06Copy_S), (22, spec_CylinderOk_S), (65, spec_l06Put_S)]) Tryz.mixed (sgOk_look (show sgOk .zero Tryz.prog [(75, spec_l06Copy_S), (22, spec_CylinderOk_S), (65, spec_l06Put_S)] from ⟨c_spec_l06Copy, ⟨c_spec_CylinderOk, ⟨c_spec_l06Put, trivial⟩⟩⟩)) Tryz.func70 (by kernel_rfl : Func.cmp Tryz.prog [(75, spec_l06Copy_S), (22, spec_CylinderOk_S), (65, spec_l06Put_S)] spec_AddPin_S Tryz.f70 spec_AddPin_hs = some spec_AddPin_L) spec_AddPin_ok
theorem c_spec_SetPin : Contract .zero Tryz.prog 54 spec_SetPin_S :=
  fn_sh (sg := [(70, spec_AddPin_S), (68, spec_l37Copy_S), (69, spec_l37Step_S)]) Tryz.mixed (sgOk_look (show sgOk .zero Tryz.prog [(70, spec_AddPin_S), (68, spec_l37Copy_S), (69, spec_l37Step_S)] from ⟨c_spec_AddPin, ⟨c_spec_l37Copy, ⟨c_spec_l37Step, trivial⟩⟩⟩)) Tryz.func54 (by kernel_rfl : Func.cmp Tryz.prog [(70, spec_AddPin_S), (68, spec_l37Copy_S), (69, spec_l37Step_S)] spec_SetPin_S Tryz.f54 spec_SetPin_hs = some spec_SetPin_L) spec_SetPin_ok
theorem c_spec_l37Bench : Contract .zero Tryz.prog 38 spec_l37Bench_S :=
  fn_sh (sg := [(50, spec_l06Cylinder_S), (51, spec_l01Below_S), (52, spec_l01Once_S), (53, spec_TakePin_S), (54, spec_SetPin_S)]) Tryz.mixed (sgOk_look (show sgOk .zero Tryz.prog [(50, spec_l06Cylinder_S), (51, spec_l01Below_S), (52, spec_l01Once_S), (53, spec_TakePin_S), (54, spec_SetPin_S)] from ⟨c_spec_l06Cylinder, ⟨c_spec_l01Below, ⟨c_spec_l01Once, ⟨c_spec_TakePin, ⟨c_spec_SetPin, trivial⟩⟩⟩⟩⟩)) Tryz.func38 (by kernel_rfl : Func.cmp Tryz.prog [(50, spec_l06Cylinder_S), (51, spec_l01Below_S), (52, spec_l01Once_S), (53, spec_TakePin_S), (54, spec_SetPin_S)] spec_l37Bench_S Tryz.f38 spec_l37Bench_hs = some spec_l37Bench_L) spec_l37Bench_ok
theorem c_spec_l12Spring : Contract .zero Tryz.prog 39 spec_l12Spring_S :=
  fn_sh (sg := [(51, spec_l01Below_S)]) Tryz.mixed (sgOk_look (show sgOk .zero Tryz.prog [(51, spec_l01Below_S)] from ⟨c_spec_l01Below, trivial⟩)) Tryz.func39 (by kernel_rfl : Func.cmp Tryz.prog [(51, spec_l01Below_S)] spec_l12Spring_S Tryz.f39 spec_l12Spring_hs = some spec_l12Spring_L) spec_l12Spring_ok
theorem c_spec_l01PickInt : Contract .zero Tryz.prog 40 spec_l01PickInt_S :=
  fn_sh (sg := [(51, spec_l01Below_S)]) Tryz.mixed (sgOk_look (show sgOk .zero Tryz.prog [(51, spec_l01Below_S)] from ⟨c_spec_l01Below, trivial⟩)) Tryz.func40 (by kernel_rfl : Func.cmp Tryz.prog [(51, spec_l01Below_S)] spec_l01PickInt_S Tryz.f40 spec_l01PickInt_hs = some spec_l01PickInt_L) spec_l01PickInt_ok
theorem c_spec_l38Workshop : Contract .zero Tryz.prog 18 spec_l38Workshop_S :=
  fn_sh (sg := [(38, spec_l37Bench_S), (39, spec_l12Spring_S), (40, spec_l01PickInt_S)]) Tryz.mixed (sgOk_look (show sgOk .zero Tryz.prog [(38, spec_l37Bench_S), (39, spec_l12Spring_S), (40, spec_l01PickInt_S)] from ⟨c_spec_l37Bench, ⟨c_spec_l12Spring, ⟨c_spec_l01PickInt, trivial⟩⟩⟩)) Tryz.func18 (by kernel_rfl : Func.cmp Tryz.prog [(38, spec_l37Bench_S), (39, spec_l12Spring_S), (40, spec_l01PickInt_S)] spec_l38Workshop_S Tryz.f18 spec_l38Workshop_hs = some spec_l38Workshop_L) spec_l38Workshop_ok
theorem c_spec_DrawWorkshop : Contract .zero Tryz.prog 5 spec_DrawWorkshop_S :=
  fn_sh (sg := [(19, spec_l01New_S), (18, spec_l38Workshop_S)]) Tryz.mixed (sgOk_look (show sgOk .zero Tryz.prog [(19, spec_l01New_S), (18, spec_l38Workshop_S)] from ⟨c_spec_l01New, ⟨c_spec_l38Workshop, trivial⟩⟩)) Tryz.func5 (by kernel_rfl : Func.cmp Tryz.prog [(19, spec_l01New_S), (18, spec_l38Workshop_S)] spec_DrawWorkshop_S Tryz.f5 spec_DrawWorkshop_hs = some spec_DrawWorkshop_L) spec_DrawWorkshop_ok
theorem c_laws_at : Contract .zero Tryz.prog 6 laws_at_S :=
  fn_sh (sg := []) Tryz.mixed (sgOk_look (show sgOk .zero Tryz.prog [] from trivial)) Tryz.func6 (by kernel_rfl : Func.cmp Tryz.prog [] laws_at_S Tryz.f6 laws_at_hs = some laws_at_L) laws_at_ok
theorem c_impl_within : Contract .zero Tryz.prog 28 impl_within_S :=
  fn_sh (sg := []) Tryz.mixed (sgOk_look (show sgOk .zero Tryz.prog [] from trivial)) Tryz.func28 (by kernel_rfl : Func.cmp Tryz.prog [] impl_within_S Tryz.f28 impl_within_hs = some impl_within_L) impl_within_ok
theorem c_impl_comparePins : Contract .zero Tryz.prog 59 impl_comparePins_S :=
  fn_sh (sg := []) Tryz.mixed (sgOk_look (show sgOk .zero Tryz.prog [] from trivial)) Tryz.func59 (by kernel_rfl : Func.cmp Tryz.prog [] impl_comparePins_S Tryz.f59 impl_comparePins_hs = some impl_comparePins_L) impl_comparePins_ok
theorem c_impl_CylinderOk : Contract .zero Tryz.prog 44 impl_CylinderOk_S :=
  fn_sh (sg := [(28, impl_within_S), (59, impl_comparePins_S)]) Tryz.mixed (sgOk_look (show sgOk .zero Tryz.prog [(28, impl_within_S), (59, impl_comparePins_S)] from ⟨c_impl_within, ⟨c_impl_comparePins, trivial⟩⟩)) Tryz.func44 (by kernel_rfl : Func.cmp Tryz.prog [(28, impl_within_S), (59, impl_comparePins_S)] impl_CylinderOk_S Tryz.f44 impl_CylinderOk_hs = some impl_CylinderOk_L) impl_CylinderOk_ok
theorem c_impl_hasPin : Contract .zero Tryz.prog 55 impl_hasPin_S :=
  fn_sh (sg := []) Tryz.mixed (sgOk_look (show sgOk .zero Tryz.prog [] from trivial)) Tryz.func55 (by kernel_rfl : Func.cmp Tryz.prog [] impl_hasPin_S Tryz.f55 impl_hasPin_hs = some impl_hasPin_L) impl_hasPin_ok
theorem c_impl_copyPins : Contract .zero Tryz.prog 58 impl_copyPins_S :=
  fn_sh (sg := []) Tryz.mixed (sgOk_look (show sgOk .zero Tryz.prog [] from trivial)) Tryz.func58 (by kernel_rfl : Func.cmp Tryz.prog [] impl_copyPins_S Tryz.f58 impl_copyPins_hs = some impl_copyPins_L) impl_copyPins_ok
theorem c_impl_copyCylinder : Contract .zero Tryz.prog 56 impl_copyCylinder_S :=
  fn_sh (sg := [(58, impl_copyPins_S)]) Tryz.mixed (sgOk_look (show sgOk .zero Tryz.prog [(58, impl_copyPins_S)] from ⟨c_impl_copyPins, trivial⟩)) Tryz.func56 (by kernel_rfl : Func.cmp Tryz.prog [(58, impl_copyPins_S)] impl_copyCylinder_S Tryz.f56 impl_copyCylinder_hs = some impl_copyCylinder_L) impl_copyCylinder_ok
noncomputable def slices_SortFunc_Limpl_Pin_impl_Pin_S : Sig := ⟨[.io false [.sl [.sc, .sc]], .cst 59], [], F_slices_SortFunc_Limpl_Pin_impl_Pin⟩
theorem c_slices_SortFunc_Limpl_Pin_impl_Pin : Contract .zero Tryz.prog 71 slices_SortFunc_Limpl_Pin_impl_Pin_S := by
  unfold slices_SortFunc_Limpl_Pin_impl_Pin_S
  rw [← slices_SortFunc_Limpl_Pin_impl_Pin_eq]
  exact sort_contract Tryz.sort71 Tryz.isAgg51 Tryz.sizeOf51 (enters_of Tryz.func59 (by kernel_rfl) rfl) c_impl_comparePins impl_comparePins_F impl_comparePins_swo impl_comparePins_tot
theorem c_impl_sortedPins : Contract .zero Tryz.prog 57 impl_sortedPins_S :=
  fn_sh (sg := [(58, impl_copyPins_S), (71, slices_SortFunc_Limpl_Pin_impl_Pin_S)]) Tryz.mixed (sgOk_look (show sgOk .zero Tryz.prog [(58, impl_copyPins_S), (71, slices_SortFunc_Limpl_Pin_impl_Pin_S)] from ⟨c_impl_copyPins, ⟨c_slices_SortFunc_Limpl_Pin_impl_Pin, trivial⟩⟩)) Tryz.func57 (by kernel_rfl : Func.cmp Tryz.prog [(58, impl_copyPins_S), (71, slices_SortFunc_Limpl_Pin_impl_Pin_S)] impl_sortedPins_S Tryz.f57 impl_sortedPins_hs = some impl_sortedPins_L) impl_sortedPins_ok
theorem c_impl_AddPin : Contract .zero Tryz.prog 41 impl_AddPin_S :=
  fn_sh (sg := [(44, impl_CylinderOk_S), (55, impl_hasPin_S), (56, impl_copyCylinder_S), (57, impl_sortedPins_S)]) Tryz.mixed (sgOk_look (show sgOk .zero Tryz.prog [(44, impl_CylinderOk_S), (55, impl_hasPin_S), (56, impl_copyCylinder_S), (57, impl_sortedPins_S)] from ⟨c_impl_CylinderOk, ⟨c_impl_hasPin, ⟨c_impl_copyCylinder, ⟨c_impl_sortedPins, trivial⟩⟩⟩⟩)) Tryz.func41 (by kernel_rfl : Func.cmp Tryz.prog [(44, impl_CylinderOk_S), (55, impl_hasPin_S), (56, impl_copyCylinder_S), (57, impl_sortedPins_S)] impl_AddPin_S Tryz.f41 impl_AddPin_hs = some impl_AddPin_L) impl_AddPin_ok
theorem c_impl_copyBench : Contract .zero Tryz.prog 45 impl_copyBench_S :=
  fn_sh (sg := [(56, impl_copyCylinder_S), (58, impl_copyPins_S)]) Tryz.mixed (sgOk_look (show sgOk .zero Tryz.prog [(56, impl_copyCylinder_S), (58, impl_copyPins_S)] from ⟨c_impl_copyCylinder, ⟨c_impl_copyPins, trivial⟩⟩)) Tryz.func45 (by kernel_rfl : Func.cmp Tryz.prog [(56, impl_copyCylinder_S), (58, impl_copyPins_S)] impl_copyBench_S Tryz.f45 impl_copyBench_hs = some impl_copyBench_L) impl_copyBench_ok
theorem c_impl_BenchOk : Contract .zero Tryz.prog 25 impl_BenchOk_S :=
  fn_sh (sg := [(44, impl_CylinderOk_S)]) Tryz.mixed (sgOk_look (show sgOk .zero Tryz.prog [(44, impl_CylinderOk_S)] from ⟨c_impl_CylinderOk, trivial⟩)) Tryz.func25 (by kernel_rfl : Func.cmp Tryz.prog [(44, impl_CylinderOk_S)] impl_BenchOk_S Tryz.f25 impl_BenchOk_hs = some impl_BenchOk_L) impl_BenchOk_ok
theorem c_impl_replaced : Contract .zero Tryz.prog 42 impl_replaced_S :=
  fn_sh (sg := [(45, impl_copyBench_S), (58, impl_copyPins_S), (25, impl_BenchOk_S)]) Tryz.mixed (sgOk_look (show sgOk .zero Tryz.prog [(45, impl_copyBench_S), (58, impl_copyPins_S), (25, impl_BenchOk_S)] from ⟨c_impl_copyBench, ⟨c_impl_copyPins, ⟨c_impl_BenchOk, trivial⟩⟩⟩)) Tryz.func42 (by kernel_rfl : Func.cmp Tryz.prog [(45, impl_copyBench_S), (58, impl_copyPins_S), (25, impl_BenchOk_S)] impl_replaced_S Tryz.f42 impl_replaced_hs = some impl_replaced_L) impl_replaced_ok
theorem c_impl_SetPin : Contract .zero Tryz.prog 20 impl_SetPin_S :=
  fn_sh (sg := [(41, impl_AddPin_S), (42, impl_replaced_S)]) Tryz.mixed (sgOk_look (show sgOk .zero Tryz.prog [(41, impl_AddPin_S), (42, impl_replaced_S)] from ⟨c_impl_AddPin, ⟨c_impl_replaced, trivial⟩⟩)) Tryz.func20 (by kernel_rfl : Func.cmp Tryz.prog [(41, impl_AddPin_S), (42, impl_replaced_S)] impl_SetPin_S Tryz.f20 impl_SetPin_hs = some impl_SetPin_L) impl_SetPin_ok
theorem c_impl_copyInts : Contract .zero Tryz.prog 37 impl_copyInts_S :=
  fn_sh (sg := []) Tryz.mixed (sgOk_look (show sgOk .zero Tryz.prog [] from trivial)) Tryz.func37 (by kernel_rfl : Func.cmp Tryz.prog [] impl_copyInts_S Tryz.f37 impl_copyInts_hs = some impl_copyInts_L) impl_copyInts_ok
theorem c_impl_copyWorkshop : Contract .zero Tryz.prog 29 impl_copyWorkshop_S :=
  fn_sh (sg := [(45, impl_copyBench_S), (37, impl_copyInts_S)]) Tryz.mixed (sgOk_look (show sgOk .zero Tryz.prog [(45, impl_copyBench_S), (37, impl_copyInts_S)] from ⟨c_impl_copyBench, ⟨c_impl_copyInts, trivial⟩⟩)) Tryz.func29 (by kernel_rfl : Func.cmp Tryz.prog [(45, impl_copyBench_S), (37, impl_copyInts_S)] impl_copyWorkshop_S Tryz.f29 impl_copyWorkshop_hs = some impl_copyWorkshop_L) impl_copyWorkshop_ok
theorem c_impl_CombOk : Contract .zero Tryz.prog 26 impl_CombOk_S :=
  fn_sh (sg := [(28, impl_within_S)]) Tryz.mixed (sgOk_look (show sgOk .zero Tryz.prog [(28, impl_within_S)] from ⟨c_impl_within, trivial⟩)) Tryz.func26 (by kernel_rfl : Func.cmp Tryz.prog [(28, impl_within_S)] impl_CombOk_S Tryz.f26 impl_CombOk_hs = some impl_CombOk_L) impl_CombOk_ok
theorem c_impl_SpringOk : Contract .zero Tryz.prog 27 impl_SpringOk_S :=
  fn_sh (sg := [(28, impl_within_S)]) Tryz.mixed (sgOk_look (show sgOk .zero Tryz.prog [(28, impl_within_S)] from ⟨c_impl_within, trivial⟩)) Tryz.func27 (by kernel_rfl : Func.cmp Tryz.prog [(28, impl_within_S)] impl_SpringOk_S Tryz.f27 impl_SpringOk_hs = some impl_SpringOk_L) impl_SpringOk_ok
theorem c_impl_WorkshopOk : Contract .zero Tryz.prog 10 impl_WorkshopOk_S :=
  fn_sh (sg := [(25, impl_BenchOk_S), (26, impl_CombOk_S), (27, impl_SpringOk_S), (28, impl_within_S)]) Tryz.mixed (sgOk_look (show sgOk .zero Tryz.prog [(25, impl_BenchOk_S), (26, impl_CombOk_S), (27, impl_SpringOk_S), (28, impl_within_S)] from ⟨c_impl_BenchOk, ⟨c_impl_CombOk, ⟨c_impl_SpringOk, ⟨c_impl_within, trivial⟩⟩⟩⟩)) Tryz.func10 (by kernel_rfl : Func.cmp Tryz.prog [(25, impl_BenchOk_S), (26, impl_CombOk_S), (27, impl_SpringOk_S), (28, impl_within_S)] impl_WorkshopOk_S Tryz.f10 impl_WorkshopOk_hs = some impl_WorkshopOk_L) impl_WorkshopOk_ok
theorem c_impl_withBench : Contract .zero Tryz.prog 21 impl_withBench_S :=
  fn_sh (sg := [(29, impl_copyWorkshop_S), (10, impl_WorkshopOk_S)]) Tryz.mixed (sgOk_look (show sgOk .zero Tryz.prog [(29, impl_copyWorkshop_S), (10, impl_WorkshopOk_S)] from ⟨c_impl_copyWorkshop, ⟨c_impl_WorkshopOk, trivial⟩⟩)) Tryz.func21 (by kernel_rfl : Func.cmp Tryz.prog [(29, impl_copyWorkshop_S), (10, impl_WorkshopOk_S)] impl_withBench_S Tryz.f21 impl_withBench_hs = some impl_withBench_L) impl_withBench_ok
theorem c_impl_PutPin : Contract .zero Tryz.prog 7 impl_PutPin_S :=
  fn_sh (sg := [(20, impl_SetPin_S), (21, impl_withBench_S)]) Tryz.mixed (sgOk_look (show sgOk .zero Tryz.prog [(20, impl_SetPin_S), (21, impl_withBench_S)] from ⟨c_impl_SetPin, ⟨c_impl_withBench, trivial⟩⟩)) Tryz.func7 (by kernel_rfl : Func.cmp Tryz.prog [(20, impl_SetPin_S), (21, impl_withBench_S)] impl_PutPin_S Tryz.f7 impl_PutPin_hs = some impl_PutPin_L) impl_PutPin_ok
theorem c_spec_l06Mod : Contract .zero Tryz.prog 24 spec_l06Mod_S :=
  fn_sh (sg := []) Tryz.mixed (sgOk_look (show sgOk .zero Tryz.prog [] from trivial)) Tryz.func24 (by kernel_rfl : Func.cmp Tryz.prog [] spec_l06Mod_S Tryz.f24 spec_l06Mod_hs = some spec_l06Mod_L) spec_l06Mod_ok
theorem c_spec_PinsAt : Contract .zero Tryz.prog 9 spec_PinsAt_S :=
  fn_sh (sg := [(22, spec_CylinderOk_S), (23, spec_l01In_S), (24, spec_l06Mod_S)]) Tryz.mixed (sgOk_look (show sgOk .zero Tryz.prog [(22, spec_CylinderOk_S), (23, spec_l01In_S), (24, spec_l06Mod_S)] from ⟨c_spec_CylinderOk, ⟨c_spec_l01In, ⟨c_spec_l06Mod, trivial⟩⟩⟩)) Tryz.func9 (by kernel_rfl : Func.cmp Tryz.prog [(22, spec_CylinderOk_S), (23, spec_l01In_S), (24, spec_l06Mod_S)] spec_PinsAt_S Tryz.f9 spec_PinsAt_hs = some spec_PinsAt_L) spec_PinsAt_ok
theorem c_laws_has : Contract .zero Tryz.prog 8 laws_has_S :=
  fn_sh (sg := []) Tryz.mixed (sgOk_look (show sgOk .zero Tryz.prog [] from trivial)) Tryz.func8 (by kernel_rfl : Func.cmp Tryz.prog [] laws_has_S Tryz.f8 laws_has_hs = some laws_has_L) laws_has_ok
theorem c_impl_magnitude : Contract .zero Tryz.prog 72 impl_magnitude_S :=
  fn_sh (sg := []) Tryz.mixed (sgOk_look (show sgOk .zero Tryz.prog [] from trivial)) Tryz.func72 (by kernel_rfl : Func.cmp Tryz.prog [] impl_magnitude_S Tryz.f72 impl_magnitude_hs = some impl_magnitude_L) impl_magnitude_ok
theorem c_impl_GapAround : Contract .zero Tryz.prog 60 impl_GapAround_S :=
  fn_sh (sg := [(28, impl_within_S), (72, impl_magnitude_S)]) Tryz.mixed (sgOk_look (show sgOk .zero Tryz.prog [(28, impl_within_S), (72, impl_magnitude_S)] from ⟨c_impl_within, ⟨c_impl_magnitude, trivial⟩⟩)) Tryz.func60 (by kernel_rfl : Func.cmp Tryz.prog [(28, impl_within_S), (72, impl_magnitude_S)] impl_GapAround_S Tryz.f60 impl_GapAround_hs = some impl_GapAround_L) impl_GapAround_ok
theorem c_impl_TooClose : Contract .zero Tryz.prog 46 impl_TooClose_S :=
  fn_sh (sg := [(44, impl_CylinderOk_S), (28, impl_within_S), (60, impl_GapAround_S)]) Tryz.mixed (sgOk_look (show sgOk .zero Tryz.prog [(44, impl_CylinderOk_S), (28, impl_within_S), (60, impl_GapAround_S)] from ⟨c_impl_CylinderOk, ⟨c_impl_within, ⟨c_impl_GapAround, trivial⟩⟩⟩)) Tryz.func46 (by kernel_rfl : Func.cmp Tryz.prog [(44, impl_CylinderOk_S), (28, impl_within_S), (60, impl_GapAround_S)] impl_TooClose_S Tryz.f46 impl_TooClose_hs = some impl_TooClose_L) impl_TooClose_ok
theorem c_impl_IsPlayable : Contract .zero Tryz.prog 30 impl_IsPlayable_S :=
  fn_sh (sg := [(44, impl_CylinderOk_S), (28, impl_within_S), (46, impl_TooClose_S)]) Tryz.mixed (sgOk_look (show sgOk .zero Tryz.prog [(44, impl_CylinderOk_S), (28, impl_within_S), (46, impl_TooClose_S)] from ⟨c_impl_CylinderOk, ⟨c_impl_within, ⟨c_impl_TooClose, trivial⟩⟩⟩)) Tryz.func30 (by kernel_rfl : Func.cmp Tryz.prog [(44, impl_CylinderOk_S), (28, impl_within_S), (46, impl_TooClose_S)] impl_IsPlayable_S Tryz.f30 impl_IsPlayable_hs = some impl_IsPlayable_L) impl_IsPlayable_ok
theorem c_impl_PlayOnce : Contract .zero Tryz.prog 11 impl_PlayOnce_S :=
  fn_sh (sg := [(29, impl_copyWorkshop_S), (10, impl_WorkshopOk_S), (30, impl_IsPlayable_S)]) Tryz.mixed (sgOk_look (show sgOk .zero Tryz.prog [(29, impl_copyWorkshop_S), (10, impl_WorkshopOk_S), (30, impl_IsPlayable_S)] from ⟨c_impl_copyWorkshop, ⟨c_impl_WorkshopOk, ⟨c_impl_IsPlayable, trivial⟩⟩⟩)) Tryz.func11 (by kernel_rfl : Func.cmp Tryz.prog [(29, impl_copyWorkshop_S), (10, impl_WorkshopOk_S), (30, impl_IsPlayable_S)] impl_PlayOnce_S Tryz.f11 impl_PlayOnce_hs = some impl_PlayOnce_L) impl_PlayOnce_ok
theorem c_spec_GapAround : Contract .zero Tryz.prog 47 spec_GapAround_S :=
  fn_sh (sg := [(23, spec_l01In_S)]) Tryz.mixed (sgOk_look (show sgOk .zero Tryz.prog [(23, spec_l01In_S)] from ⟨c_spec_l01In, trivial⟩)) Tryz.func47 (by kernel_rfl : Func.cmp Tryz.prog [(23, spec_l01In_S)] spec_GapAround_S Tryz.f47 spec_GapAround_hs = some spec_GapAround_L) spec_GapAround_ok
theorem c_spec_TooClose : Contract .zero Tryz.prog 31 spec_TooClose_S :=
  fn_sh (sg := [(22, spec_CylinderOk_S), (23, spec_l01In_S), (47, spec_GapAround_S)]) Tryz.mixed (sgOk_look (show sgOk .zero Tryz.prog [(22, spec_CylinderOk_S), (23, spec_l01In_S), (47, spec_GapAround_S)] from ⟨c_spec_CylinderOk, ⟨c_spec_l01In, ⟨c_spec_GapAround, trivial⟩⟩⟩)) Tryz.func31 (by kernel_rfl : Func.cmp Tryz.prog [(22, spec_CylinderOk_S), (23, spec_l01In_S), (47, spec_GapAround_S)] spec_TooClose_S Tryz.f31 spec_TooClose_hs = some spec_TooClose_L) spec_TooClose_ok
theorem c_spec_IsPlayable : Contract .zero Tryz.prog 12 spec_IsPlayable_S :=
  fn_sh (sg := [(22, spec_CylinderOk_S), (23, spec_l01In_S), (31, spec_TooClose_S)]) Tryz.mixed (sgOk_look (show sgOk .zero Tryz.prog [(22, spec_CylinderOk_S), (23, spec_l01In_S), (31, spec_TooClose_S)] from ⟨c_spec_CylinderOk, ⟨c_spec_l01In, ⟨c_spec_TooClose, trivial⟩⟩⟩)) Tryz.func12 (by kernel_rfl : Func.cmp Tryz.prog [(22, spec_CylinderOk_S), (23, spec_l01In_S), (31, spec_TooClose_S)] spec_IsPlayable_S Tryz.f12 spec_IsPlayable_hs = some spec_IsPlayable_L) spec_IsPlayable_ok
theorem c_impl_Wind : Contract .zero Tryz.prog 32 impl_Wind_S :=
  fn_sh (sg := [(27, impl_SpringOk_S), (28, impl_within_S)]) Tryz.mixed (sgOk_look (show sgOk .zero Tryz.prog [(27, impl_SpringOk_S), (28, impl_within_S)] from ⟨c_impl_SpringOk, ⟨c_impl_within, trivial⟩⟩)) Tryz.func32 (by kernel_rfl : Func.cmp Tryz.prog [(27, impl_SpringOk_S), (28, impl_within_S)] impl_Wind_S Tryz.f32 impl_Wind_hs = some impl_Wind_L) impl_Wind_ok
theorem c_impl_Crank : Contract .zero Tryz.prog 13 impl_Crank_S :=
  fn_sh (sg := [(29, impl_copyWorkshop_S), (32, impl_Wind_S), (10, impl_WorkshopOk_S)]) Tryz.mixed (sgOk_look (show sgOk .zero Tryz.prog [(29, impl_copyWorkshop_S), (32, impl_Wind_S), (10, impl_WorkshopOk_S)] from ⟨c_impl_copyWorkshop, ⟨c_impl_Wind, ⟨c_impl_WorkshopOk, trivial⟩⟩⟩)) Tryz.func13 (by kernel_rfl : Func.cmp Tryz.prog [(29, impl_copyWorkshop_S), (32, impl_Wind_S), (10, impl_WorkshopOk_S)] impl_Crank_S Tryz.f13 impl_Crank_hs = some impl_Crank_L) impl_Crank_ok
theorem c_impl_PullPin : Contract .zero Tryz.prog 48 impl_PullPin_S :=
  fn_sh (sg := [(56, impl_copyCylinder_S), (44, impl_CylinderOk_S), (58, impl_copyPins_S)]) Tryz.mixed (sgOk_look (show sgOk .zero Tryz.prog [(56, impl_copyCylinder_S), (44, impl_CylinderOk_S), (58, impl_copyPins_S)] from ⟨c_impl_copyCylinder, ⟨c_impl_CylinderOk, ⟨c_impl_copyPins, trivial⟩⟩⟩)) Tryz.func48 (by kernel_rfl : Func.cmp Tryz.prog [(56, impl_copyCylinder_S), (44, impl_CylinderOk_S), (58, impl_copyPins_S)] impl_PullPin_S Tryz.f48 impl_PullPin_hs = some impl_PullPin_L) impl_PullPin_ok
theorem c_impl_TakePin : Contract .zero Tryz.prog 33 impl_TakePin_S :=
  fn_sh (sg := [(48, impl_PullPin_S), (42, impl_replaced_S)]) Tryz.mixed (sgOk_look (show sgOk .zero Tryz.prog [(48, impl_PullPin_S), (42, impl_replaced_S)] from ⟨c_impl_PullPin, ⟨c_impl_replaced, trivial⟩⟩)) Tryz.func33 (by kernel_rfl : Func.cmp Tryz.prog [(48, impl_PullPin_S), (42, impl_replaced_S)] impl_TakePin_S Tryz.f33 impl_TakePin_hs = some impl_TakePin_L) impl_TakePin_ok
theorem c_impl_RemovePin : Contract .zero Tryz.prog 14 impl_RemovePin_S :=
  fn_sh (sg := [(33, impl_TakePin_S), (21, impl_withBench_S)]) Tryz.mixed (sgOk_look (show sgOk .zero Tryz.prog [(33, impl_TakePin_S), (21, impl_withBench_S)] from ⟨c_impl_TakePin, ⟨c_impl_withBench, trivial⟩⟩)) Tryz.func14 (by kernel_rfl : Func.cmp Tryz.prog [(33, impl_TakePin_S), (21, impl_withBench_S)] impl_RemovePin_S Tryz.f14 impl_RemovePin_hs = some impl_RemovePin_L) impl_RemovePin_ok
theorem c_impl_copyNotes : Contract .zero Tryz.prog 61 impl_copyNotes_S :=
  fn_sh (sg := []) Tryz.mixed (sgOk_look (show sgOk .zero Tryz.prog [] from trivial)) Tryz.func61 (by kernel_rfl : Func.cmp Tryz.prog [] impl_copyNotes_S Tryz.f61 impl_copyNotes_hs = some impl_copyNotes_L) impl_copyNotes_ok
theorem c_impl_compareNotes : Contract .zero Tryz.prog 63 impl_compareNotes_S :=
  fn_sh (sg := []) Tryz.mixed (sgOk_look (show sgOk .zero Tryz.prog [] from trivial)) Tryz.func63 (by kernel_rfl : Func.cmp Tryz.prog [] impl_compareNotes_S Tryz.f63 impl_compareNotes_hs = some impl_compareNotes_L) impl_compareNotes_ok
noncomputable def slices_SortFunc_Limpl_Note_impl_Note_S : Sig := ⟨[.io false [.sl [.sc, .sc]], .cst 63], [], F_slices_SortFunc_Limpl_Note_impl_Note⟩
theorem c_slices_SortFunc_Limpl_Note_impl_Note : Contract .zero Tryz.prog 62 slices_SortFunc_Limpl_Note_impl_Note_S := by
  unfold slices_SortFunc_Limpl_Note_impl_Note_S
  rw [← slices_SortFunc_Limpl_Note_impl_Note_eq]
  exact sort_contract Tryz.sort62 Tryz.isAgg53 Tryz.sizeOf53 (enters_of Tryz.func63 (by kernel_rfl) rfl) c_impl_compareNotes impl_compareNotes_F impl_compareNotes_swo impl_compareNotes_tot
def Tryz.comp64_ren : Go.Shelf.Ren := ⟨fun | 43 => 64 | n => n, fun | 0 => 0 | 3 => 3 | 4 => 4 | 22 => 47 | 23 => 53 | n => n, fun n => n⟩
theorem Tryz.comp64 : CompLay Tryz.prog Tryz.comp64_ren where
  mixed := Tryz.mixed
  f43 := ⟨Tryz.f64.name, by decide, Tryz.func64.trans (congrArg some (by kernel_rfl))⟩
  t0 := Tryz.underlying0
  a0 := Tryz.isAgg0
  z0 := Tryz.sizeOf0
  v0 := Tryz.zeroValue0
  t3 := Tryz.underlying3
  a3 := Tryz.isAgg3
  z3 := Tryz.sizeOf3
  v3 := Tryz.zeroValue3
  t4 := Tryz.underlying4
  a4 := Tryz.isAgg4
  z4 := Tryz.sizeOf4
  v4 := Tryz.zeroValue4
  t22 := Tryz.underlying47
  a22 := Tryz.isAgg47
  z22 := Tryz.sizeOf47
  v22 := Tryz.zeroValue47
noncomputable def slices_Compact_Limpl_Note_impl_Note_S : Sig := ⟨[.tk false [.sl [.sc, .sc]]], [(false, [.sl [.sc, .sc]])], F_slices_Compact_Limpl_Note_impl_Note⟩
theorem c_slices_Compact_Limpl_Note_impl_Note : Contract .zero Tryz.prog 64 slices_Compact_Limpl_Note_impl_Note_S := by
  unfold slices_Compact_Limpl_Note_impl_Note_S
  rw [← slices_Compact_Limpl_Note_impl_Note_eq]
  exact compact_at Tryz.comp64 rfl Tryz.isAgg53 Tryz.sizeOf53 Tryz.zeroValue53 (by kernel_rfl) Tryz.underlying53 (by decide) (by decide) rfl rfl rfl rfl (by kernel_rfl) Tryz.underlying3 Tryz.isAgg3 Tryz.sizeOf3
theorem c_impl_sorted : Contract .zero Tryz.prog 49 impl_sorted_S :=
  fn_sh (sg := [(61, impl_copyNotes_S), (62, slices_SortFunc_Limpl_Note_impl_Note_S), (64, slices_Compact_Limpl_Note_impl_Note_S)]) Tryz.mixed (sgOk_look (show sgOk .zero Tryz.prog [(61, impl_copyNotes_S), (62, slices_SortFunc_Limpl_Note_impl_Note_S), (64, slices_Compact_Limpl_Note_impl_Note_S)] from ⟨c_impl_copyNotes, ⟨c_slices_SortFunc_Limpl_Note_impl_Note, ⟨c_slices_Compact_Limpl_Note_impl_Note, trivial⟩⟩⟩)) Tryz.func49 (by kernel_rfl : Func.cmp Tryz.prog [(61, impl_copyNotes_S), (62, slices_SortFunc_Limpl_Note_impl_Note_S), (64, slices_Compact_Limpl_Note_impl_Note_S)] impl_sorted_S Tryz.f49 impl_sorted_hs = some impl_sorted_L) impl_sorted_ok
theorem c_impl_SortNotes : Contract .zero Tryz.prog 34 impl_SortNotes_S :=
  fn_sh (sg := [(49, impl_sorted_S)]) Tryz.mixed (sgOk_look (show sgOk .zero Tryz.prog [(49, impl_sorted_S)] from ⟨c_impl_sorted, trivial⟩)) Tryz.func34 (by kernel_rfl : Func.cmp Tryz.prog [(49, impl_sorted_S)] impl_SortNotes_S Tryz.f34 impl_SortNotes_hs = some impl_SortNotes_L) impl_SortNotes_ok
theorem c_impl_MelodyOf : Contract .zero Tryz.prog 15 impl_MelodyOf_S :=
  fn_sh (sg := [(10, impl_WorkshopOk_S), (34, impl_SortNotes_S)]) Tryz.mixed (sgOk_look (show sgOk .zero Tryz.prog [(10, impl_WorkshopOk_S), (34, impl_SortNotes_S)] from ⟨c_impl_WorkshopOk, ⟨c_impl_SortNotes, trivial⟩⟩)) Tryz.func15 (by kernel_rfl : Func.cmp Tryz.prog [(10, impl_WorkshopOk_S), (34, impl_SortNotes_S)] impl_MelodyOf_S Tryz.f15 impl_MelodyOf_hs = some impl_MelodyOf_L) impl_MelodyOf_ok
theorem c_spec_l02Less : Contract .zero Tryz.prog 35 spec_l02Less_S :=
  fn_sh (sg := []) Tryz.mixed (sgOk_look (show sgOk .zero Tryz.prog [] from trivial)) Tryz.func35 (by kernel_rfl : Func.cmp Tryz.prog [] spec_l02Less_S Tryz.f35 spec_l02Less_hs = some spec_l02Less_L) spec_l02Less_ok
theorem c_spec_TuneOk : Contract .zero Tryz.prog 16 spec_TuneOk_S :=
  fn_sh (sg := [(23, spec_l01In_S), (35, spec_l02Less_S)]) Tryz.mixed (sgOk_look (show sgOk .zero Tryz.prog [(23, spec_l01In_S), (35, spec_l02Less_S)] from ⟨c_spec_l01In, ⟨c_spec_l02Less, trivial⟩⟩)) Tryz.func16 (by kernel_rfl : Func.cmp Tryz.prog [(23, spec_l01In_S), (35, spec_l02Less_S)] spec_TuneOk_S Tryz.f16 spec_TuneOk_hs = some spec_TuneOk_L) spec_TuneOk_ok
theorem c_impl_NewBench : Contract .zero Tryz.prog 36 impl_NewBench_S :=
  fn_sh (sg := [(25, impl_BenchOk_S)]) Tryz.mixed (sgOk_look (show sgOk .zero Tryz.prog [(25, impl_BenchOk_S)] from ⟨c_impl_BenchOk, trivial⟩)) Tryz.func36 (by kernel_rfl : Func.cmp Tryz.prog [(25, impl_BenchOk_S)] impl_NewBench_S Tryz.f36 impl_NewBench_hs = some impl_NewBench_L) impl_NewBench_ok
theorem c_impl_OpenWorkshop : Contract .zero Tryz.prog 17 impl_OpenWorkshop_S :=
  fn_sh (sg := [(36, impl_NewBench_S), (37, impl_copyInts_S), (10, impl_WorkshopOk_S)]) Tryz.mixed (sgOk_look (show sgOk .zero Tryz.prog [(36, impl_NewBench_S), (37, impl_copyInts_S), (10, impl_WorkshopOk_S)] from ⟨c_impl_NewBench, ⟨c_impl_copyInts, ⟨c_impl_WorkshopOk, trivial⟩⟩⟩)) Tryz.func17 (by kernel_rfl : Func.cmp Tryz.prog [(36, impl_NewBench_S), (37, impl_copyInts_S), (10, impl_WorkshopOk_S)] impl_OpenWorkshop_S Tryz.f17 impl_OpenWorkshop_hs = some impl_OpenWorkshop_L) impl_OpenWorkshop_ok
theorem c_laws_FnWorkshops : Contract .zero Tryz.prog 3 laws_FnWorkshops_S :=
  fn_sh (sg := [(4, laws_big_S), (5, spec_DrawWorkshop_S), (6, laws_at_S), (7, impl_PutPin_S), (9, spec_PinsAt_S), (8, laws_has_S), (10, impl_WorkshopOk_S), (11, impl_PlayOnce_S), (12, spec_IsPlayable_S), (13, impl_Crank_S), (14, impl_RemovePin_S), (15, impl_MelodyOf_S), (16, spec_TuneOk_S), (17, impl_OpenWorkshop_S)]) Tryz.mixed (sgOk_look (show sgOk .zero Tryz.prog [(4, laws_big_S), (5, spec_DrawWorkshop_S), (6, laws_at_S), (7, impl_PutPin_S), (9, spec_PinsAt_S), (8, laws_has_S), (10, impl_WorkshopOk_S), (11, impl_PlayOnce_S), (12, spec_IsPlayable_S), (13, impl_Crank_S), (14, impl_RemovePin_S), (15, impl_MelodyOf_S), (16, spec_TuneOk_S), (17, impl_OpenWorkshop_S)] from ⟨c_laws_big, ⟨c_spec_DrawWorkshop, ⟨c_laws_at, ⟨c_impl_PutPin, ⟨c_spec_PinsAt, ⟨c_laws_has, ⟨c_impl_WorkshopOk, ⟨c_impl_PlayOnce, ⟨c_spec_IsPlayable, ⟨c_impl_Crank, ⟨c_impl_RemovePin, ⟨c_impl_MelodyOf, ⟨c_spec_TuneOk, ⟨c_impl_OpenWorkshop, trivial⟩⟩⟩⟩⟩⟩⟩⟩⟩⟩⟩⟩⟩⟩)) Tryz.func3 (by kernel_rfl : Func.cmp Tryz.prog [(4, laws_big_S), (5, spec_DrawWorkshop_S), (6, laws_at_S), (7, impl_PutPin_S), (9, spec_PinsAt_S), (8, laws_has_S), (10, impl_WorkshopOk_S), (11, impl_PlayOnce_S), (12, spec_IsPlayable_S), (13, impl_Crank_S), (14, impl_RemovePin_S), (15, impl_MelodyOf_S), (16, spec_TuneOk_S), (17, impl_OpenWorkshop_S)] laws_FnWorkshops_S Tryz.f3 laws_FnWorkshops_hs = some laws_FnWorkshops_L) laws_FnWorkshops_ok

end Go.Proofs.YtobecpmneaninaaGreat
