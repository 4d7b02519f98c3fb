/- The contracts of the functions that the laws FnExactSetPin reach: each keeps what its pure function says, wherever that function says something. -/
import Derived.Test.YtgnfdkcaaloijaaRows
import Derived.Test.YtgnfdkcaaloijaaPl2
import Derived.Test.YtgnfdkcaaloijaaLay
import Derived.ProofKit
namespace Go.Proofs.Ytgnfdkcaaloijaa
open Go.ChangeShapes Go.WideShapes Go.ChangeAt Go.RowKit Go.Mw

theorem Try.own : ownKnob Try.prog.godebug = none := by kernel_rfl
theorem Try.laidOut : laidOutB Try.prog = true := by kernel_rfl
theorem Try.mixed : Try.prog.follows .mixedOrders = true := by kernel_rfl
theorem c_laws_szPinS : Contract Try.prog 99 laws_szPinS_S :=
  fn_sh (sg := []) Try.mixed (sgOk_look (show sgOk Try.prog [] from trivial)) Try.func99 (by kernel_rfl : Func.cmp Try.prog [] laws_szPinS_S Try.f99 laws_szPinS_hs = some laws_szPinS_L) laws_szPinS_ok
theorem c_laws_szCylinder : Contract Try.prog 62 laws_szCylinder_S :=
  fn_sh (sg := [(99, laws_szPinS_S)]) Try.mixed (sgOk_look (show sgOk Try.prog [(99, laws_szPinS_S)] from ⟨c_laws_szPinS, trivial⟩)) Try.func62 (by kernel_rfl : Func.cmp Try.prog [(99, laws_szPinS_S)] laws_szCylinder_S Try.f62 laws_szCylinder_hs = some laws_szCylinder_L) laws_szCylinder_ok
theorem c_laws_szPinSS : Contract Try.prog 63 laws_szPinSS_S :=
  fn_sh (sg := [(99, laws_szPinS_S)]) Try.mixed (sgOk_look (show sgOk Try.prog [(99, laws_szPinS_S)] from ⟨c_laws_szPinS, trivial⟩)) Try.func63 (by kernel_rfl : Func.cmp Try.prog [(99, laws_szPinS_S)] laws_szPinSS_S Try.f63 laws_szPinSS_hs = some laws_szPinSS_L) laws_szPinSS_ok
theorem c_laws_szBench : Contract Try.prog 25 laws_szBench_S :=
  fn_sh (sg := [(62, laws_szCylinder_S), (63, laws_szPinSS_S)]) Try.mixed (sgOk_look (show sgOk Try.prog [(62, laws_szCylinder_S), (63, laws_szPinSS_S)] from ⟨c_laws_szCylinder, ⟨c_laws_szPinSS, trivial⟩⟩)) Try.func25 (by kernel_rfl : Func.cmp Try.prog [(62, laws_szCylinder_S), (63, laws_szPinSS_S)] laws_szBench_S Try.f25 laws_szBench_hs = some laws_szBench_L) laws_szBench_ok
theorem c_laws_toPin : Contract Try.prog 28 laws_toPin_S :=
  fn_sh (sg := []) Try.mixed (sgOk_look (show sgOk Try.prog [] from trivial)) Try.func28 (by kernel_rfl : Func.cmp Try.prog [] laws_toPin_S Try.f28 laws_toPin_hs = some laws_toPin_L) laws_toPin_ok
theorem c_laws_toPinS : Contract Try.prog 102 laws_toPinS_S :=
  fn_sh (sg := [(28, laws_toPin_S)]) Try.mixed (sgOk_look (show sgOk Try.prog [(28, laws_toPin_S)] from ⟨c_laws_toPin, trivial⟩)) Try.func102 (by kernel_rfl : Func.cmp Try.prog [(28, laws_toPin_S)] laws_toPinS_S Try.f102 laws_toPinS_hs = some laws_toPinS_L) laws_toPinS_ok
theorem c_laws_toCylinder : Contract Try.prog 67 laws_toCylinder_S :=
  fn_sh (sg := [(102, laws_toPinS_S)]) Try.mixed (sgOk_look (show sgOk Try.prog [(102, laws_toPinS_S)] from ⟨c_laws_toPinS, trivial⟩)) Try.func67 (by kernel_rfl : Func.cmp Try.prog [(102, laws_toPinS_S)] laws_toCylinder_S Try.f67 laws_toCylinder_hs = some laws_toCylinder_L) laws_toCylinder_ok
theorem c_laws_toPinSS : Contract Try.prog 68 laws_toPinSS_S :=
  fn_sh (sg := [(102, laws_toPinS_S)]) Try.mixed (sgOk_look (show sgOk Try.prog [(102, laws_toPinS_S)] from ⟨c_laws_toPinS, trivial⟩)) Try.func68 (by kernel_rfl : Func.cmp Try.prog [(102, laws_toPinS_S)] laws_toPinSS_S Try.f68 laws_toPinSS_hs = some laws_toPinSS_L) laws_toPinSS_ok
theorem c_laws_toBench : Contract Try.prog 27 laws_toBench_S :=
  fn_sh (sg := [(67, laws_toCylinder_S), (68, laws_toPinSS_S)]) Try.mixed (sgOk_look (show sgOk Try.prog [(67, laws_toCylinder_S), (68, laws_toPinSS_S)] from ⟨c_laws_toCylinder, ⟨c_laws_toPinSS, trivial⟩⟩)) Try.func27 (by kernel_rfl : Func.cmp Try.prog [(67, laws_toCylinder_S), (68, laws_toPinSS_S)] laws_toBench_S Try.f27 laws_toBench_hs = some laws_toBench_L) laws_toBench_ok
theorem c_spec_l06Copy : Contract Try.prog 100 spec_l06Copy_S :=
  fn_sh (sg := []) Try.mixed (sgOk_look (show sgOk Try.prog [] from trivial)) Try.func100 (by kernel_rfl : Func.cmp Try.prog [] spec_l06Copy_S Try.f100 spec_l06Copy_hs = some spec_l06Copy_L) spec_l06Copy_ok
theorem c_spec_l01In : Contract Try.prog 80 spec_l01In_S :=
  fn_sh (sg := []) Try.mixed (sgOk_look (show sgOk Try.prog [] from trivial)) Try.func80 (by kernel_rfl : Func.cmp Try.prog [] spec_l01In_S Try.f80 spec_l01In_hs = some spec_l01In_L) spec_l01In_ok
theorem c_spec_l06Less : Contract Try.prog 112 spec_l06Less_S :=
  fn_sh (sg := []) Try.mixed (sgOk_look (show sgOk Try.prog [] from trivial)) Try.func112 (by kernel_rfl : Func.cmp Try.prog [] spec_l06Less_S Try.f112 spec_l06Less_hs = some spec_l06Less_L) spec_l06Less_ok
theorem c_spec_CylinderOk : Contract Try.prog 95 spec_CylinderOk_S :=
  fn_sh (sg := [(80, spec_l01In_S), (112, spec_l06Less_S)]) Try.mixed (sgOk_look (show sgOk Try.prog [(80, spec_l01In_S), (112, spec_l06Less_S)] from ⟨c_spec_l01In, ⟨c_spec_l06Less, trivial⟩⟩)) Try.func95 (by kernel_rfl : Func.cmp Try.prog [(80, spec_l01In_S), (112, spec_l06Less_S)] spec_CylinderOk_S Try.f95 spec_CylinderOk_hs = some spec_CylinderOk_L) spec_CylinderOk_ok
theorem c_spec_l06Put : Contract Try.prog 101 spec_l06Put_S :=
  fn_sh (sg := [(112, spec_l06Less_S)]) Try.mixed (sgOk_look (show sgOk Try.prog [(112, spec_l06Less_S)] from ⟨c_spec_l06Less, trivial⟩)) Try.func101 (by kernel_rfl : Func.cmp Try.prog [(112, spec_l06Less_S)] spec_l06Put_S Try.f101 spec_l06Put_hs = some spec_l06Put_L) spec_l06Put_ok
theorem c_spec_AddPin : Contract Try.prog 64 spec_AddPin_S :=
  fn_sh (sg := [(100, spec_l06Copy_S), (95, spec_CylinderOk_S), (101, spec_l06Put_S)]) Try.mixed (sgOk_look (show sgOk Try.prog [(100, spec_l06Copy_S), (95, spec_CylinderOk_S), (101, spec_l06Put_S)] from ⟨c_spec_l06Copy, ⟨c_spec_CylinderOk, ⟨c_spec_l06Put, trivial⟩⟩⟩)) Try.func64 (by kernel_rfl : Func.cmp Try.prog [(100, spec_l06Copy_S), (95, spec_CylinderOk_S), (101, spec_l06Put_S)] spec_AddPin_S Try.f64 spec_AddPin_hs = some spec_AddPin_L) spec_AddPin_ok
theorem c_spec_l37Copy : Contract Try.prog 65 spec_l37Copy_S :=
  fn_sh (sg := [(100, spec_l06Copy_S)]) Try.mixed (sgOk_look (show sgOk Try.prog [(100, spec_l06Copy_S)] from ⟨c_spec_l06Copy, trivial⟩)) Try.func65 (by kernel_rfl : Func.cmp Try.prog [(100, spec_l06Copy_S)] spec_l37Copy_S Try.f65 spec_l37Copy_hs = some spec_l37Copy_L) spec_l37Copy_ok
theorem c_spec_BenchOk : Contract Try.prog 84 spec_BenchOk_S :=
  fn_sh (sg := [(95, spec_CylinderOk_S)]) Try.mixed (sgOk_look (show sgOk Try.prog [(95, spec_CylinderOk_S)] from ⟨c_spec_CylinderOk, trivial⟩)) Try.func84 (by kernel_rfl : Func.cmp Try.prog [(95, spec_CylinderOk_S)] spec_BenchOk_S Try.f84 spec_BenchOk_hs = some spec_BenchOk_L) spec_BenchOk_ok
theorem c_spec_l37Step : Contract Try.prog 66 spec_l37Step_S :=
  fn_sh (sg := [(65, spec_l37Copy_S), (84, spec_BenchOk_S)]) Try.mixed (sgOk_look (show sgOk Try.prog [(65, spec_l37Copy_S), (84, spec_BenchOk_S)] from ⟨c_spec_l37Copy, ⟨c_spec_BenchOk, trivial⟩⟩)) Try.func66 (by kernel_rfl : Func.cmp Try.prog [(65, spec_l37Copy_S), (84, spec_BenchOk_S)] spec_l37Step_S Try.f66 spec_l37Step_hs = some spec_l37Step_L) spec_l37Step_ok
theorem c_spec_SetPin : Contract Try.prog 26 spec_SetPin_S :=
  fn_sh (sg := [(64, spec_AddPin_S), (65, spec_l37Copy_S), (66, spec_l37Step_S)]) Try.mixed (sgOk_look (show sgOk Try.prog [(64, spec_AddPin_S), (65, spec_l37Copy_S), (66, spec_l37Step_S)] from ⟨c_spec_AddPin, ⟨c_spec_l37Copy, ⟨c_spec_l37Step, trivial⟩⟩⟩)) Try.func26 (by kernel_rfl : Func.cmp Try.prog [(64, spec_AddPin_S), (65, spec_l37Copy_S), (66, spec_l37Step_S)] spec_SetPin_S Try.f26 spec_SetPin_hs = some spec_SetPin_L) spec_SetPin_ok
theorem c_impl_within : Contract Try.prog 90 impl_within_S :=
  fn_sh (sg := []) Try.mixed (sgOk_look (show sgOk Try.prog [] from trivial)) Try.func90 (by kernel_rfl : Func.cmp Try.prog [] impl_within_S Try.f90 impl_within_hs = some impl_within_L) impl_within_ok
theorem c_impl_comparePins : Contract Try.prog 114 impl_comparePins_S :=
  fn_sh (sg := []) Try.mixed (sgOk_look (show sgOk Try.prog [] from trivial)) Try.func114 (by kernel_rfl : Func.cmp Try.prog [] impl_comparePins_S Try.f114 impl_comparePins_hs = some impl_comparePins_L) impl_comparePins_ok
theorem c_impl_CylinderOk : Contract Try.prog 97 impl_CylinderOk_S :=
  fn_sh (sg := [(90, impl_within_S), (114, impl_comparePins_S)]) Try.mixed (sgOk_look (show sgOk Try.prog [(90, impl_within_S), (114, impl_comparePins_S)] from ⟨c_impl_within, ⟨c_impl_comparePins, trivial⟩⟩)) Try.func97 (by kernel_rfl : Func.cmp Try.prog [(90, impl_within_S), (114, impl_comparePins_S)] impl_CylinderOk_S Try.f97 impl_CylinderOk_hs = some impl_CylinderOk_L) impl_CylinderOk_ok
theorem c_impl_hasPin : Contract Try.prog 103 impl_hasPin_S :=
  fn_sh (sg := []) Try.mixed (sgOk_look (show sgOk Try.prog [] from trivial)) Try.func103 (by kernel_rfl : Func.cmp Try.prog [] impl_hasPin_S Try.f103 impl_hasPin_hs = some impl_hasPin_L) impl_hasPin_ok
theorem c_impl_copyPins : Contract Try.prog 106 impl_copyPins_S :=
  fn_sh (sg := []) Try.mixed (sgOk_look (show sgOk Try.prog [] from trivial)) Try.func106 (by kernel_rfl : Func.cmp Try.prog [] impl_copyPins_S Try.f106 impl_copyPins_hs = some impl_copyPins_L) impl_copyPins_ok
theorem c_impl_copyCylinder : Contract Try.prog 104 impl_copyCylinder_S :=
  fn_sh (sg := [(106, impl_copyPins_S)]) Try.mixed (sgOk_look (show sgOk Try.prog [(106, impl_copyPins_S)] from ⟨c_impl_copyPins, trivial⟩)) Try.func104 (by kernel_rfl : Func.cmp Try.prog [(106, impl_copyPins_S)] impl_copyCylinder_S Try.f104 impl_copyCylinder_hs = some impl_copyCylinder_L) impl_copyCylinder_ok
noncomputable def slices_SortFunc_Limpl_Pin_impl_Pin_S : Sig := ⟨[.io false [.sl [.sc, .sc]], .cst 114], [], F_slices_SortFunc_Limpl_Pin_impl_Pin⟩
theorem c_slices_SortFunc_Limpl_Pin_impl_Pin : Contract Try.prog 116 slices_SortFunc_Limpl_Pin_impl_Pin_S := by
  unfold slices_SortFunc_Limpl_Pin_impl_Pin_S
  rw [← slices_SortFunc_Limpl_Pin_impl_Pin_eq]
  exact sort_contract Try.sort116 Try.isAgg66 Try.sizeOf66 (enters_of Try.func114 (by kernel_rfl) rfl) c_impl_comparePins impl_comparePins_F impl_comparePins_swo impl_comparePins_tot
theorem c_impl_sortedPins : Contract Try.prog 105 impl_sortedPins_S :=
  fn_sh (sg := [(106, impl_copyPins_S), (116, slices_SortFunc_Limpl_Pin_impl_Pin_S)]) Try.mixed (sgOk_look (show sgOk Try.prog [(106, impl_copyPins_S), (116, slices_SortFunc_Limpl_Pin_impl_Pin_S)] from ⟨c_impl_copyPins, ⟨c_slices_SortFunc_Limpl_Pin_impl_Pin, trivial⟩⟩)) Try.func105 (by kernel_rfl : Func.cmp Try.prog [(106, impl_copyPins_S), (116, slices_SortFunc_Limpl_Pin_impl_Pin_S)] impl_sortedPins_S Try.f105 impl_sortedPins_hs = some impl_sortedPins_L) impl_sortedPins_ok
theorem c_impl_AddPin : Contract Try.prog 69 impl_AddPin_S :=
  fn_sh (sg := [(97, impl_CylinderOk_S), (103, impl_hasPin_S), (104, impl_copyCylinder_S), (105, impl_sortedPins_S)]) Try.mixed (sgOk_look (show sgOk Try.prog [(97, impl_CylinderOk_S), (103, impl_hasPin_S), (104, impl_copyCylinder_S), (105, impl_sortedPins_S)] from ⟨c_impl_CylinderOk, ⟨c_impl_hasPin, ⟨c_impl_copyCylinder, ⟨c_impl_sortedPins, trivial⟩⟩⟩⟩)) Try.func69 (by kernel_rfl : Func.cmp Try.prog [(97, impl_CylinderOk_S), (103, impl_hasPin_S), (104, impl_copyCylinder_S), (105, impl_sortedPins_S)] impl_AddPin_S Try.f69 impl_AddPin_hs = some impl_AddPin_L) impl_AddPin_ok
theorem c_impl_copyBench : Contract Try.prog 87 impl_copyBench_S :=
  fn_sh (sg := [(104, impl_copyCylinder_S), (106, impl_copyPins_S)]) Try.mixed (sgOk_look (show sgOk Try.prog [(104, impl_copyCylinder_S), (106, impl_copyPins_S)] from ⟨c_impl_copyCylinder, ⟨c_impl_copyPins, trivial⟩⟩)) Try.func87 (by kernel_rfl : Func.cmp Try.prog [(104, impl_copyCylinder_S), (106, impl_copyPins_S)] impl_copyBench_S Try.f87 impl_copyBench_hs = some impl_copyBench_L) impl_copyBench_ok
theorem c_impl_BenchOk : Contract Try.prog 91 impl_BenchOk_S :=
  fn_sh (sg := [(97, impl_CylinderOk_S)]) Try.mixed (sgOk_look (show sgOk Try.prog [(97, impl_CylinderOk_S)] from ⟨c_impl_CylinderOk, trivial⟩)) Try.func91 (by kernel_rfl : Func.cmp Try.prog [(97, impl_CylinderOk_S)] impl_BenchOk_S Try.f91 impl_BenchOk_hs = some impl_BenchOk_L) impl_BenchOk_ok
theorem c_impl_replaced : Contract Try.prog 70 impl_replaced_S :=
  fn_sh (sg := [(87, impl_copyBench_S), (106, impl_copyPins_S), (91, impl_BenchOk_S)]) Try.mixed (sgOk_look (show sgOk Try.prog [(87, impl_copyBench_S), (106, impl_copyPins_S), (91, impl_BenchOk_S)] from ⟨c_impl_copyBench, ⟨c_impl_copyPins, ⟨c_impl_BenchOk, trivial⟩⟩⟩)) Try.func70 (by kernel_rfl : Func.cmp Try.prog [(87, impl_copyBench_S), (106, impl_copyPins_S), (91, impl_BenchOk_S)] impl_replaced_S Try.f70 impl_replaced_hs = some impl_replaced_L) impl_replaced_ok
theorem c_impl_SetPin : Contract Try.prog 29 impl_SetPin_S :=
  fn_sh (sg := [(69, impl_AddPin_S), (70, impl_replaced_S)]) Try.mixed (sgOk_look (show sgOk Try.prog [(69, impl_AddPin_S), (70, impl_replaced_S)] from ⟨c_impl_AddPin, ⟨c_impl_replaced, trivial⟩⟩)) Try.func29 (by kernel_rfl : Func.cmp Try.prog [(69, impl_AddPin_S), (70, impl_replaced_S)] impl_SetPin_S Try.f29 impl_SetPin_hs = some impl_SetPin_L) impl_SetPin_ok
theorem c_laws_eqPin : Contract Try.prog 117 laws_eqPin_S :=
  fn_sh (sg := []) Try.mixed (sgOk_look (show sgOk Try.prog [] from trivial)) Try.func117 (by kernel_rfl : Func.cmp Try.prog [] laws_eqPin_S Try.f117 laws_eqPin_hs = some laws_eqPin_L) laws_eqPin_ok
theorem c_laws_eqPinS : Contract Try.prog 107 laws_eqPinS_S :=
  fn_sh (sg := [(117, laws_eqPin_S)]) Try.mixed (sgOk_look (show sgOk Try.prog [(117, laws_eqPin_S)] from ⟨c_laws_eqPin, trivial⟩)) Try.func107 (by kernel_rfl : Func.cmp Try.prog [(117, laws_eqPin_S)] laws_eqPinS_S Try.f107 laws_eqPinS_hs = some laws_eqPinS_L) laws_eqPinS_ok
theorem c_laws_eqCylinder : Contract Try.prog 71 laws_eqCylinder_S :=
  fn_sh (sg := [(107, laws_eqPinS_S)]) Try.mixed (sgOk_look (show sgOk Try.prog [(107, laws_eqPinS_S)] from ⟨c_laws_eqPinS, trivial⟩)) Try.func71 (by kernel_rfl : Func.cmp Try.prog [(107, laws_eqPinS_S)] laws_eqCylinder_S Try.f71 laws_eqCylinder_hs = some laws_eqCylinder_L) laws_eqCylinder_ok
theorem c_laws_eqPinSS : Contract Try.prog 72 laws_eqPinSS_S :=
  fn_sh (sg := [(107, laws_eqPinS_S)]) Try.mixed (sgOk_look (show sgOk Try.prog [(107, laws_eqPinS_S)] from ⟨c_laws_eqPinS, trivial⟩)) Try.func72 (by kernel_rfl : Func.cmp Try.prog [(107, laws_eqPinS_S)] laws_eqPinSS_S Try.f72 laws_eqPinSS_hs = some laws_eqPinSS_L) laws_eqPinSS_ok
theorem c_laws_eqBench : Contract Try.prog 30 laws_eqBench_S :=
  fn_sh (sg := [(71, laws_eqCylinder_S), (72, laws_eqPinSS_S)]) Try.mixed (sgOk_look (show sgOk Try.prog [(71, laws_eqCylinder_S), (72, laws_eqPinSS_S)] from ⟨c_laws_eqCylinder, ⟨c_laws_eqPinSS, trivial⟩⟩)) Try.func30 (by kernel_rfl : Func.cmp Try.prog [(71, laws_eqCylinder_S), (72, laws_eqPinSS_S)] laws_eqBench_S Try.f30 laws_eqBench_hs = some laws_eqBench_L) laws_eqBench_ok
theorem c_laws_markPinS : Contract Try.prog 108 laws_markPinS_S :=
  fn_sh (sg := []) Try.mixed (sgOk_look (show sgOk Try.prog [] from trivial)) Try.func108 (by kernel_rfl : Func.cmp Try.prog [] laws_markPinS_S Try.f108 laws_markPinS_hs = some laws_markPinS_L) laws_markPinS_ok
theorem c_laws_markCylinder : Contract Try.prog 73 laws_markCylinder_S :=
  fn_sh (sg := [(108, laws_markPinS_S)]) Try.mixed (sgOk_look (show sgOk Try.prog [(108, laws_markPinS_S)] from ⟨c_laws_markPinS, trivial⟩)) Try.func73 (by kernel_rfl : Func.cmp Try.prog [(108, laws_markPinS_S)] laws_markCylinder_S Try.f73 laws_markCylinder_hs = some laws_markCylinder_L) laws_markCylinder_ok
theorem c_laws_markPinSS : Contract Try.prog 74 laws_markPinSS_S :=
  fn_sh (sg := [(108, laws_markPinS_S)]) Try.mixed (sgOk_look (show sgOk Try.prog [(108, laws_markPinS_S)] from ⟨c_laws_markPinS, trivial⟩)) Try.func74 (by kernel_rfl : Func.cmp Try.prog [(108, laws_markPinS_S)] laws_markPinSS_S Try.f74 laws_markPinSS_hs = some laws_markPinSS_L) laws_markPinSS_ok
theorem c_laws_markBench : Contract Try.prog 31 laws_markBench_S :=
  fn_sh (sg := [(73, laws_markCylinder_S), (74, laws_markPinSS_S)]) Try.mixed (sgOk_look (show sgOk Try.prog [(73, laws_markCylinder_S), (74, laws_markPinSS_S)] from ⟨c_laws_markCylinder, ⟨c_laws_markPinSS, trivial⟩⟩)) Try.func31 (by kernel_rfl : Func.cmp Try.prog [(73, laws_markCylinder_S), (74, laws_markPinSS_S)] laws_markBench_S Try.f31 laws_markBench_hs = some laws_markBench_L) laws_markBench_ok
theorem c_laws_heldPinS : Contract Try.prog 109 laws_heldPinS_S :=
  fn_sh (sg := []) Try.mixed (sgOk_look (show sgOk Try.prog [] from trivial)) Try.func109 (by kernel_rfl : Func.cmp Try.prog [] laws_heldPinS_S Try.f109 laws_heldPinS_hs = some laws_heldPinS_L) laws_heldPinS_ok
theorem c_laws_heldCylinder : Contract Try.prog 75 laws_heldCylinder_S :=
  fn_sh (sg := [(109, laws_heldPinS_S)]) Try.mixed (sgOk_look (show sgOk Try.prog [(109, laws_heldPinS_S)] from ⟨c_laws_heldPinS, trivial⟩)) Try.func75 (by kernel_rfl : Func.cmp Try.prog [(109, laws_heldPinS_S)] laws_heldCylinder_S Try.f75 laws_heldCylinder_hs = some laws_heldCylinder_L) laws_heldCylinder_ok
theorem c_laws_heldPinSS : Contract Try.prog 76 laws_heldPinSS_S :=
  fn_sh (sg := [(109, laws_heldPinS_S)]) Try.mixed (sgOk_look (show sgOk Try.prog [(109, laws_heldPinS_S)] from ⟨c_laws_heldPinS, trivial⟩)) Try.func76 (by kernel_rfl : Func.cmp Try.prog [(109, laws_heldPinS_S)] laws_heldPinSS_S Try.f76 laws_heldPinSS_hs = some laws_heldPinSS_L) laws_heldPinSS_ok
theorem c_laws_heldBench : Contract Try.prog 32 laws_heldBench_S :=
  fn_sh (sg := [(75, laws_heldCylinder_S), (76, laws_heldPinSS_S)]) Try.mixed (sgOk_look (show sgOk Try.prog [(75, laws_heldCylinder_S), (76, laws_heldPinSS_S)] from ⟨c_laws_heldCylinder, ⟨c_laws_heldPinSS, trivial⟩⟩)) Try.func32 (by kernel_rfl : Func.cmp Try.prog [(75, laws_heldCylinder_S), (76, laws_heldPinSS_S)] laws_heldBench_S Try.f32 laws_heldBench_hs = some laws_heldBench_L) laws_heldBench_ok
theorem c_laws_FnExactSetPin : Contract Try.prog 7 laws_FnExactSetPin_S :=
  fn_sh (sg := [(25, laws_szBench_S), (27, laws_toBench_S), (28, laws_toPin_S), (26, spec_SetPin_S), (29, impl_SetPin_S), (30, laws_eqBench_S), (31, laws_markBench_S), (32, laws_heldBench_S)]) Try.mixed (sgOk_look (show sgOk Try.prog [(25, laws_szBench_S), (27, laws_toBench_S), (28, laws_toPin_S), (26, spec_SetPin_S), (29, impl_SetPin_S), (30, laws_eqBench_S), (31, laws_markBench_S), (32, laws_heldBench_S)] from ⟨c_laws_szBench, ⟨c_laws_toBench, ⟨c_laws_toPin, ⟨c_spec_SetPin, ⟨c_impl_SetPin, ⟨c_laws_eqBench, ⟨c_laws_markBench, ⟨c_laws_heldBench, trivial⟩⟩⟩⟩⟩⟩⟩⟩)) Try.func7 (by kernel_rfl : Func.cmp Try.prog [(25, laws_szBench_S), (27, laws_toBench_S), (28, laws_toPin_S), (26, spec_SetPin_S), (29, impl_SetPin_S), (30, laws_eqBench_S), (31, laws_markBench_S), (32, laws_heldBench_S)] laws_FnExactSetPin_S Try.f7 laws_FnExactSetPin_hs = some laws_FnExactSetPin_L) laws_FnExactSetPin_ok

end Go.Proofs.Ytgnfdkcaaloijaa
