/- The contracts of the functions that the laws FnExactPutPin reach: each keeps what its pure function says, wherever that function says something. -/
import Derived.Test.YtfefmdhhbidfbaaRows
import Derived.Test.YtfefmdhhbidfbaaPl3
import Derived.Test.YtfefmdhhbidfbaaLay
import Derived.ProofKit
namespace Go.Proofs.Ytfefmdhhbidfbaa
open Go.ChangeShapes Go.WideShapes Go.ChangeAt Go.RowKit Go.Mw

theorem Try.own : ownKnob Try.prog.godebug = none := by kernel_rfl
theorem Try.laidOut : laidOutB Try.prog = true := by kernel_rfl
theorem Try.mixed : Try.prog.follows .mixedOrders = true := by kernel_rfl
theorem c_laws_szPinS : Contract Try.prog 82 laws_szPinS_S :=
  fn_sh (sg := []) Try.mixed (sgOk_look (show sgOk Try.prog [] from trivial)) Try.func82 (by kernel_rfl : Func.cmp Try.prog [] laws_szPinS_S Try.f82 laws_szPinS_hs = some laws_szPinS_L) laws_szPinS_ok
theorem c_laws_szCylinder : Contract Try.prog 60 laws_szCylinder_S :=
  fn_sh (sg := [(82, laws_szPinS_S)]) Try.mixed (sgOk_look (show sgOk Try.prog [(82, laws_szPinS_S)] from ⟨c_laws_szPinS, trivial⟩)) Try.func60 (by kernel_rfl : Func.cmp Try.prog [(82, laws_szPinS_S)] laws_szCylinder_S Try.f60 laws_szCylinder_hs = some laws_szCylinder_L) laws_szCylinder_ok
theorem c_laws_szPinSS : Contract Try.prog 61 laws_szPinSS_S :=
  fn_sh (sg := [(82, laws_szPinS_S)]) Try.mixed (sgOk_look (show sgOk Try.prog [(82, laws_szPinS_S)] from ⟨c_laws_szPinS, trivial⟩)) Try.func61 (by kernel_rfl : Func.cmp Try.prog [(82, laws_szPinS_S)] laws_szPinSS_S Try.f61 laws_szPinSS_hs = some laws_szPinSS_L) laws_szPinSS_ok
theorem c_laws_szBench : Contract Try.prog 34 laws_szBench_S :=
  fn_sh (sg := [(60, laws_szCylinder_S), (61, laws_szPinSS_S)]) Try.mixed (sgOk_look (show sgOk Try.prog [(60, laws_szCylinder_S), (61, laws_szPinSS_S)] from ⟨c_laws_szCylinder, ⟨c_laws_szPinSS, trivial⟩⟩)) Try.func34 (by kernel_rfl : Func.cmp Try.prog [(60, laws_szCylinder_S), (61, laws_szPinSS_S)] laws_szBench_S Try.f34 laws_szBench_hs = some laws_szBench_L) laws_szBench_ok
theorem c_laws_szIntS : Contract Try.prog 35 laws_szIntS_S :=
  fn_sh (sg := []) Try.mixed (sgOk_look (show sgOk Try.prog [] from trivial)) Try.func35 (by kernel_rfl : Func.cmp Try.prog [] laws_szIntS_S Try.f35 laws_szIntS_hs = some laws_szIntS_L) laws_szIntS_ok
theorem c_laws_szWorkshop : Contract Try.prog 16 laws_szWorkshop_S :=
  fn_sh (sg := [(34, laws_szBench_S), (35, laws_szIntS_S)]) Try.mixed (sgOk_look (show sgOk Try.prog [(34, laws_szBench_S), (35, laws_szIntS_S)] from ⟨c_laws_szBench, ⟨c_laws_szIntS, trivial⟩⟩)) Try.func16 (by kernel_rfl : Func.cmp Try.prog [(34, laws_szBench_S), (35, laws_szIntS_S)] laws_szWorkshop_S Try.f16 laws_szWorkshop_hs = some laws_szWorkshop_L) laws_szWorkshop_ok
theorem c_laws_toPin : Contract Try.prog 93 laws_toPin_S :=
  fn_sh (sg := []) Try.mixed (sgOk_look (show sgOk Try.prog [] from trivial)) Try.func93 (by kernel_rfl : Func.cmp Try.prog [] laws_toPin_S Try.f93 laws_toPin_hs = some laws_toPin_L) laws_toPin_ok
theorem c_laws_toPinS : Contract Try.prog 84 laws_toPinS_S :=
  fn_sh (sg := [(93, laws_toPin_S)]) Try.mixed (sgOk_look (show sgOk Try.prog [(93, laws_toPin_S)] from ⟨c_laws_toPin, trivial⟩)) Try.func84 (by kernel_rfl : Func.cmp Try.prog [(93, laws_toPin_S)] laws_toPinS_S Try.f84 laws_toPinS_hs = some laws_toPinS_L) laws_toPinS_ok
theorem c_laws_toCylinder : Contract Try.prog 68 laws_toCylinder_S :=
  fn_sh (sg := [(84, laws_toPinS_S)]) Try.mixed (sgOk_look (show sgOk Try.prog [(84, laws_toPinS_S)] from ⟨c_laws_toPinS, trivial⟩)) Try.func68 (by kernel_rfl : Func.cmp Try.prog [(84, laws_toPinS_S)] laws_toCylinder_S Try.f68 laws_toCylinder_hs = some laws_toCylinder_L) laws_toCylinder_ok
theorem c_laws_toPinSS : Contract Try.prog 69 laws_toPinSS_S :=
  fn_sh (sg := [(84, laws_toPinS_S)]) Try.mixed (sgOk_look (show sgOk Try.prog [(84, laws_toPinS_S)] from ⟨c_laws_toPinS, trivial⟩)) Try.func69 (by kernel_rfl : Func.cmp Try.prog [(84, laws_toPinS_S)] laws_toPinSS_S Try.f69 laws_toPinSS_hs = some laws_toPinSS_L) laws_toPinSS_ok
theorem c_laws_toBench : Contract Try.prog 39 laws_toBench_S :=
  fn_sh (sg := [(68, laws_toCylinder_S), (69, laws_toPinSS_S)]) Try.mixed (sgOk_look (show sgOk Try.prog [(68, laws_toCylinder_S), (69, laws_toPinSS_S)] from ⟨c_laws_toCylinder, ⟨c_laws_toPinSS, trivial⟩⟩)) Try.func39 (by kernel_rfl : Func.cmp Try.prog [(68, laws_toCylinder_S), (69, laws_toPinSS_S)] laws_toBench_S Try.f39 laws_toBench_hs = some laws_toBench_L) laws_toBench_ok
theorem c_laws_toIntS : Contract Try.prog 40 laws_toIntS_S :=
  fn_sh (sg := []) Try.mixed (sgOk_look (show sgOk Try.prog [] from trivial)) Try.func40 (by kernel_rfl : Func.cmp Try.prog [] laws_toIntS_S Try.f40 laws_toIntS_hs = some laws_toIntS_L) laws_toIntS_ok
theorem c_laws_toSpring : Contract Try.prog 41 laws_toSpring_S :=
  fn_sh (sg := []) Try.mixed (sgOk_look (show sgOk Try.prog [] from trivial)) Try.func41 (by kernel_rfl : Func.cmp Try.prog [] laws_toSpring_S Try.f41 laws_toSpring_hs = some laws_toSpring_L) laws_toSpring_ok
theorem c_laws_toWorkshop : Contract Try.prog 18 laws_toWorkshop_S :=
  fn_sh (sg := [(39, laws_toBench_S), (40, laws_toIntS_S), (41, laws_toSpring_S)]) Try.mixed (sgOk_look (show sgOk Try.prog [(39, laws_toBench_S), (40, laws_toIntS_S), (41, laws_toSpring_S)] from ⟨c_laws_toBench, ⟨c_laws_toIntS, ⟨c_laws_toSpring, trivial⟩⟩⟩)) Try.func18 (by kernel_rfl : Func.cmp Try.prog [(39, laws_toBench_S), (40, laws_toIntS_S), (41, laws_toSpring_S)] laws_toWorkshop_S Try.f18 laws_toWorkshop_hs = some laws_toWorkshop_L) laws_toWorkshop_ok
theorem c_spec_l06Copy : Contract Try.prog 83 spec_l06Copy_S :=
  fn_sh (sg := []) Try.mixed (sgOk_look (show sgOk Try.prog [] from trivial)) Try.func83 (by kernel_rfl : Func.cmp Try.prog [] spec_l06Copy_S Try.f83 spec_l06Copy_hs = some spec_l06Copy_L) spec_l06Copy_ok
theorem c_spec_l37Copy : Contract Try.prog 62 spec_l37Copy_S :=
  fn_sh (sg := [(83, spec_l06Copy_S)]) Try.mixed (sgOk_look (show sgOk Try.prog [(83, spec_l06Copy_S)] from ⟨c_spec_l06Copy, trivial⟩)) Try.func62 (by kernel_rfl : Func.cmp Try.prog [(83, spec_l06Copy_S)] spec_l37Copy_S Try.f62 spec_l37Copy_hs = some spec_l37Copy_L) spec_l37Copy_ok
theorem c_spec_l38Copy : Contract Try.prog 36 spec_l38Copy_S :=
  fn_sh (sg := [(62, spec_l37Copy_S)]) Try.mixed (sgOk_look (show sgOk Try.prog [(62, spec_l37Copy_S)] from ⟨c_spec_l37Copy, trivial⟩)) Try.func36 (by kernel_rfl : Func.cmp Try.prog [(62, spec_l37Copy_S)] spec_l38Copy_S Try.f36 spec_l38Copy_hs = some spec_l38Copy_L) spec_l38Copy_ok
theorem c_spec_l01In : Contract Try.prog 26 spec_l01In_S :=
  fn_sh (sg := []) Try.mixed (sgOk_look (show sgOk Try.prog [] from trivial)) Try.func26 (by kernel_rfl : Func.cmp Try.prog [] spec_l01In_S Try.f26 spec_l01In_hs = some spec_l01In_L) spec_l01In_ok
theorem c_spec_l06Less : Contract Try.prog 54 spec_l06Less_S :=
  fn_sh (sg := []) Try.mixed (sgOk_look (show sgOk Try.prog [] from trivial)) Try.func54 (by kernel_rfl : Func.cmp Try.prog [] spec_l06Less_S Try.f54 spec_l06Less_hs = some spec_l06Less_L) spec_l06Less_ok
theorem c_spec_CylinderOk : Contract Try.prog 25 spec_CylinderOk_S :=
  fn_sh (sg := [(26, spec_l01In_S), (54, spec_l06Less_S)]) Try.mixed (sgOk_look (show sgOk Try.prog [(26, spec_l01In_S), (54, spec_l06Less_S)] from ⟨c_spec_l01In, ⟨c_spec_l06Less, trivial⟩⟩)) Try.func25 (by kernel_rfl : Func.cmp Try.prog [(26, spec_l01In_S), (54, spec_l06Less_S)] spec_CylinderOk_S Try.f25 spec_CylinderOk_hs = some spec_CylinderOk_L) spec_CylinderOk_ok
theorem c_spec_l06Put : Contract Try.prog 78 spec_l06Put_S :=
  fn_sh (sg := [(54, spec_l06Less_S)]) Try.mixed (sgOk_look (show sgOk Try.prog [(54, spec_l06Less_S)] from ⟨c_spec_l06Less, trivial⟩)) Try.func78 (by kernel_rfl : Func.cmp Try.prog [(54, spec_l06Less_S)] spec_l06Put_S Try.f78 spec_l06Put_hs = some spec_l06Put_L) spec_l06Put_ok
theorem c_spec_AddPin : Contract Try.prog 63 spec_AddPin_S :=
  fn_sh (sg := [(83, spec_l06Copy_S), (25, spec_CylinderOk_S), (78, spec_l06Put_S)]) Try.mixed (sgOk_look (show sgOk Try.prog [(83, spec_l06Copy_S), (25, spec_CylinderOk_S), (78, spec_l06Put_S)] from ⟨c_spec_l06Copy, ⟨c_spec_CylinderOk, ⟨c_spec_l06Put, trivial⟩⟩⟩)) Try.func63 (by kernel_rfl : Func.cmp Try.prog [(83, spec_l06Copy_S), (25, spec_CylinderOk_S), (78, spec_l06Put_S)] spec_AddPin_S Try.f63 spec_AddPin_hs = some spec_AddPin_L) spec_AddPin_ok
theorem c_spec_BenchOk : Contract Try.prog 65 spec_BenchOk_S :=
  fn_sh (sg := [(25, spec_CylinderOk_S)]) Try.mixed (sgOk_look (show sgOk Try.prog [(25, spec_CylinderOk_S)] from ⟨c_spec_CylinderOk, trivial⟩)) Try.func65 (by kernel_rfl : Func.cmp Try.prog [(25, spec_CylinderOk_S)] spec_BenchOk_S Try.f65 spec_BenchOk_hs = some spec_BenchOk_L) spec_BenchOk_ok
theorem c_spec_l37Step : Contract Try.prog 64 spec_l37Step_S :=
  fn_sh (sg := [(62, spec_l37Copy_S), (65, spec_BenchOk_S)]) Try.mixed (sgOk_look (show sgOk Try.prog [(62, spec_l37Copy_S), (65, spec_BenchOk_S)] from ⟨c_spec_l37Copy, ⟨c_spec_BenchOk, trivial⟩⟩)) Try.func64 (by kernel_rfl : Func.cmp Try.prog [(62, spec_l37Copy_S), (65, spec_BenchOk_S)] spec_l37Step_S Try.f64 spec_l37Step_hs = some spec_l37Step_L) spec_l37Step_ok
theorem c_spec_SetPin : Contract Try.prog 37 spec_SetPin_S :=
  fn_sh (sg := [(63, spec_AddPin_S), (62, spec_l37Copy_S), (64, spec_l37Step_S)]) Try.mixed (sgOk_look (show sgOk Try.prog [(63, spec_AddPin_S), (62, spec_l37Copy_S), (64, spec_l37Step_S)] from ⟨c_spec_AddPin, ⟨c_spec_l37Copy, ⟨c_spec_l37Step, trivial⟩⟩⟩)) Try.func37 (by kernel_rfl : Func.cmp Try.prog [(63, spec_AddPin_S), (62, spec_l37Copy_S), (64, spec_l37Step_S)] spec_SetPin_S Try.f37 spec_SetPin_hs = some spec_SetPin_L) spec_SetPin_ok
theorem c_spec_CombOk : Contract Try.prog 66 spec_CombOk_S :=
  fn_sh (sg := [(26, spec_l01In_S)]) Try.mixed (sgOk_look (show sgOk Try.prog [(26, spec_l01In_S)] from ⟨c_spec_l01In, trivial⟩)) Try.func66 (by kernel_rfl : Func.cmp Try.prog [(26, spec_l01In_S)] spec_CombOk_S Try.f66 spec_CombOk_hs = some spec_CombOk_L) spec_CombOk_ok
theorem c_spec_SpringOk : Contract Try.prog 67 spec_SpringOk_S :=
  fn_sh (sg := [(26, spec_l01In_S)]) Try.mixed (sgOk_look (show sgOk Try.prog [(26, spec_l01In_S)] from ⟨c_spec_l01In, trivial⟩)) Try.func67 (by kernel_rfl : Func.cmp Try.prog [(26, spec_l01In_S)] spec_SpringOk_S Try.f67 spec_SpringOk_hs = some spec_SpringOk_L) spec_SpringOk_ok
theorem c_spec_WorkshopOk : Contract Try.prog 38 spec_WorkshopOk_S :=
  fn_sh (sg := [(65, spec_BenchOk_S), (66, spec_CombOk_S), (67, spec_SpringOk_S), (26, spec_l01In_S)]) Try.mixed (sgOk_look (show sgOk Try.prog [(65, spec_BenchOk_S), (66, spec_CombOk_S), (67, spec_SpringOk_S), (26, spec_l01In_S)] from ⟨c_spec_BenchOk, ⟨c_spec_CombOk, ⟨c_spec_SpringOk, ⟨c_spec_l01In, trivial⟩⟩⟩⟩)) Try.func38 (by kernel_rfl : Func.cmp Try.prog [(65, spec_BenchOk_S), (66, spec_CombOk_S), (67, spec_SpringOk_S), (26, spec_l01In_S)] spec_WorkshopOk_S Try.f38 spec_WorkshopOk_hs = some spec_WorkshopOk_L) spec_WorkshopOk_ok
theorem c_spec_PutPin : Contract Try.prog 17 spec_PutPin_S :=
  fn_sh (sg := [(36, spec_l38Copy_S), (37, spec_SetPin_S), (38, spec_WorkshopOk_S)]) Try.mixed (sgOk_look (show sgOk Try.prog [(36, spec_l38Copy_S), (37, spec_SetPin_S), (38, spec_WorkshopOk_S)] from ⟨c_spec_l38Copy, ⟨c_spec_SetPin, ⟨c_spec_WorkshopOk, trivial⟩⟩⟩)) Try.func17 (by kernel_rfl : Func.cmp Try.prog [(36, spec_l38Copy_S), (37, spec_SetPin_S), (38, spec_WorkshopOk_S)] spec_PutPin_S Try.f17 spec_PutPin_hs = some spec_PutPin_L) spec_PutPin_ok
theorem c_impl_within : Contract Try.prog 58 impl_within_S :=
  fn_sh (sg := []) Try.mixed (sgOk_look (show sgOk Try.prog [] from trivial)) Try.func58 (by kernel_rfl : Func.cmp Try.prog [] impl_within_S Try.f58 impl_within_hs = some impl_within_L) impl_within_ok
theorem c_impl_comparePins : Contract Try.prog 59 impl_comparePins_S :=
  fn_sh (sg := []) Try.mixed (sgOk_look (show sgOk Try.prog [] from trivial)) Try.func59 (by kernel_rfl : Func.cmp Try.prog [] impl_comparePins_S Try.f59 impl_comparePins_hs = some impl_comparePins_L) impl_comparePins_ok
theorem c_impl_CylinderOk : Contract Try.prog 31 impl_CylinderOk_S :=
  fn_sh (sg := [(58, impl_within_S), (59, impl_comparePins_S)]) Try.mixed (sgOk_look (show sgOk Try.prog [(58, impl_within_S), (59, impl_comparePins_S)] from ⟨c_impl_within, ⟨c_impl_comparePins, trivial⟩⟩)) Try.func31 (by kernel_rfl : Func.cmp Try.prog [(58, impl_within_S), (59, impl_comparePins_S)] impl_CylinderOk_S Try.f31 impl_CylinderOk_hs = some impl_CylinderOk_L) impl_CylinderOk_ok
theorem c_impl_hasPin : Contract Try.prog 33 impl_hasPin_S :=
  fn_sh (sg := []) Try.mixed (sgOk_look (show sgOk Try.prog [] from trivial)) Try.func33 (by kernel_rfl : Func.cmp Try.prog [] impl_hasPin_S Try.f33 impl_hasPin_hs = some impl_hasPin_L) impl_hasPin_ok
theorem c_impl_copyPins : Contract Try.prog 57 impl_copyPins_S :=
  fn_sh (sg := []) Try.mixed (sgOk_look (show sgOk Try.prog [] from trivial)) Try.func57 (by kernel_rfl : Func.cmp Try.prog [] impl_copyPins_S Try.f57 impl_copyPins_hs = some impl_copyPins_L) impl_copyPins_ok
theorem c_impl_copyCylinder : Contract Try.prog 55 impl_copyCylinder_S :=
  fn_sh (sg := [(57, impl_copyPins_S)]) Try.mixed (sgOk_look (show sgOk Try.prog [(57, impl_copyPins_S)] from ⟨c_impl_copyPins, trivial⟩)) Try.func55 (by kernel_rfl : Func.cmp Try.prog [(57, impl_copyPins_S)] impl_copyCylinder_S Try.f55 impl_copyCylinder_hs = some impl_copyCylinder_L) impl_copyCylinder_ok
noncomputable def slices_SortFunc_Limpl_Pin_impl_Pin_S : Sig := ⟨[.io false [.sl [.sc, .sc]], .cst 59], [], F_slices_SortFunc_Limpl_Pin_impl_Pin⟩
theorem c_slices_SortFunc_Limpl_Pin_impl_Pin : Contract Try.prog 81 slices_SortFunc_Limpl_Pin_impl_Pin_S := by
  unfold slices_SortFunc_Limpl_Pin_impl_Pin_S
  rw [← slices_SortFunc_Limpl_Pin_impl_Pin_eq]
  exact sort_contract Try.sort81 Try.isAgg33 Try.sizeOf33 (enters_of Try.func59 (by kernel_rfl) rfl) c_impl_comparePins impl_comparePins_F impl_comparePins_swo impl_comparePins_tot
theorem c_impl_sortedPins : Contract Try.prog 56 impl_sortedPins_S :=
  fn_sh (sg := [(57, impl_copyPins_S), (81, slices_SortFunc_Limpl_Pin_impl_Pin_S)]) Try.mixed (sgOk_look (show sgOk Try.prog [(57, impl_copyPins_S), (81, slices_SortFunc_Limpl_Pin_impl_Pin_S)] from ⟨c_impl_copyPins, ⟨c_slices_SortFunc_Limpl_Pin_impl_Pin, trivial⟩⟩)) Try.func56 (by kernel_rfl : Func.cmp Try.prog [(57, impl_copyPins_S), (81, slices_SortFunc_Limpl_Pin_impl_Pin_S)] impl_sortedPins_S Try.f56 impl_sortedPins_hs = some impl_sortedPins_L) impl_sortedPins_ok
theorem c_impl_AddPin : Contract Try.prog 28 impl_AddPin_S :=
  fn_sh (sg := [(31, impl_CylinderOk_S), (33, impl_hasPin_S), (55, impl_copyCylinder_S), (56, impl_sortedPins_S)]) Try.mixed (sgOk_look (show sgOk Try.prog [(31, impl_CylinderOk_S), (33, impl_hasPin_S), (55, impl_copyCylinder_S), (56, impl_sortedPins_S)] from ⟨c_impl_CylinderOk, ⟨c_impl_hasPin, ⟨c_impl_copyCylinder, ⟨c_impl_sortedPins, trivial⟩⟩⟩⟩)) Try.func28 (by kernel_rfl : Func.cmp Try.prog [(31, impl_CylinderOk_S), (33, impl_hasPin_S), (55, impl_copyCylinder_S), (56, impl_sortedPins_S)] impl_AddPin_S Try.f28 impl_AddPin_hs = some impl_AddPin_L) impl_AddPin_ok
theorem c_impl_copyBench : Contract Try.prog 30 impl_copyBench_S :=
  fn_sh (sg := [(55, impl_copyCylinder_S), (57, impl_copyPins_S)]) Try.mixed (sgOk_look (show sgOk Try.prog [(55, impl_copyCylinder_S), (57, impl_copyPins_S)] from ⟨c_impl_copyCylinder, ⟨c_impl_copyPins, trivial⟩⟩)) Try.func30 (by kernel_rfl : Func.cmp Try.prog [(55, impl_copyCylinder_S), (57, impl_copyPins_S)] impl_copyBench_S Try.f30 impl_copyBench_hs = some impl_copyBench_L) impl_copyBench_ok
theorem c_impl_BenchOk : Contract Try.prog 12 impl_BenchOk_S :=
  fn_sh (sg := [(31, impl_CylinderOk_S)]) Try.mixed (sgOk_look (show sgOk Try.prog [(31, impl_CylinderOk_S)] from ⟨c_impl_CylinderOk, trivial⟩)) Try.func12 (by kernel_rfl : Func.cmp Try.prog [(31, impl_CylinderOk_S)] impl_BenchOk_S Try.f12 impl_BenchOk_hs = some impl_BenchOk_L) impl_BenchOk_ok
theorem c_impl_replaced : Contract Try.prog 29 impl_replaced_S :=
  fn_sh (sg := [(30, impl_copyBench_S), (57, impl_copyPins_S), (12, impl_BenchOk_S)]) Try.mixed (sgOk_look (show sgOk Try.prog [(30, impl_copyBench_S), (57, impl_copyPins_S), (12, impl_BenchOk_S)] from ⟨c_impl_copyBench, ⟨c_impl_copyPins, ⟨c_impl_BenchOk, trivial⟩⟩⟩)) Try.func29 (by kernel_rfl : Func.cmp Try.prog [(30, impl_copyBench_S), (57, impl_copyPins_S), (12, impl_BenchOk_S)] impl_replaced_S Try.f29 impl_replaced_hs = some impl_replaced_L) impl_replaced_ok
theorem c_impl_SetPin : Contract Try.prog 10 impl_SetPin_S :=
  fn_sh (sg := [(28, impl_AddPin_S), (29, impl_replaced_S)]) Try.mixed (sgOk_look (show sgOk Try.prog [(28, impl_AddPin_S), (29, impl_replaced_S)] from ⟨c_impl_AddPin, ⟨c_impl_replaced, trivial⟩⟩)) Try.func10 (by kernel_rfl : Func.cmp Try.prog [(28, impl_AddPin_S), (29, impl_replaced_S)] impl_SetPin_S Try.f10 impl_SetPin_hs = some impl_SetPin_L) impl_SetPin_ok
theorem c_impl_copyInts : Contract Try.prog 85 impl_copyInts_S :=
  fn_sh (sg := []) Try.mixed (sgOk_look (show sgOk Try.prog [] from trivial)) Try.func85 (by kernel_rfl : Func.cmp Try.prog [] impl_copyInts_S Try.f85 impl_copyInts_hs = some impl_copyInts_L) impl_copyInts_ok
theorem c_impl_copyWorkshop : Contract Try.prog 70 impl_copyWorkshop_S :=
  fn_sh (sg := [(30, impl_copyBench_S), (85, impl_copyInts_S)]) Try.mixed (sgOk_look (show sgOk Try.prog [(30, impl_copyBench_S), (85, impl_copyInts_S)] from ⟨c_impl_copyBench, ⟨c_impl_copyInts, trivial⟩⟩)) Try.func70 (by kernel_rfl : Func.cmp Try.prog [(30, impl_copyBench_S), (85, impl_copyInts_S)] impl_copyWorkshop_S Try.f70 impl_copyWorkshop_hs = some impl_copyWorkshop_L) impl_copyWorkshop_ok
theorem c_impl_CombOk : Contract Try.prog 86 impl_CombOk_S :=
  fn_sh (sg := [(58, impl_within_S)]) Try.mixed (sgOk_look (show sgOk Try.prog [(58, impl_within_S)] from ⟨c_impl_within, trivial⟩)) Try.func86 (by kernel_rfl : Func.cmp Try.prog [(58, impl_within_S)] impl_CombOk_S Try.f86 impl_CombOk_hs = some impl_CombOk_L) impl_CombOk_ok
theorem c_impl_SpringOk : Contract Try.prog 87 impl_SpringOk_S :=
  fn_sh (sg := [(58, impl_within_S)]) Try.mixed (sgOk_look (show sgOk Try.prog [(58, impl_within_S)] from ⟨c_impl_within, trivial⟩)) Try.func87 (by kernel_rfl : Func.cmp Try.prog [(58, impl_within_S)] impl_SpringOk_S Try.f87 impl_SpringOk_hs = some impl_SpringOk_L) impl_SpringOk_ok
theorem c_impl_WorkshopOk : Contract Try.prog 71 impl_WorkshopOk_S :=
  fn_sh (sg := [(12, impl_BenchOk_S), (86, impl_CombOk_S), (87, impl_SpringOk_S), (58, impl_within_S)]) Try.mixed (sgOk_look (show sgOk Try.prog [(12, impl_BenchOk_S), (86, impl_CombOk_S), (87, impl_SpringOk_S), (58, impl_within_S)] from ⟨c_impl_BenchOk, ⟨c_impl_CombOk, ⟨c_impl_SpringOk, ⟨c_impl_within, trivial⟩⟩⟩⟩)) Try.func71 (by kernel_rfl : Func.cmp Try.prog [(12, impl_BenchOk_S), (86, impl_CombOk_S), (87, impl_SpringOk_S), (58, impl_within_S)] impl_WorkshopOk_S Try.f71 impl_WorkshopOk_hs = some impl_WorkshopOk_L) impl_WorkshopOk_ok
theorem c_impl_withBench : Contract Try.prog 42 impl_withBench_S :=
  fn_sh (sg := [(70, impl_copyWorkshop_S), (71, impl_WorkshopOk_S)]) Try.mixed (sgOk_look (show sgOk Try.prog [(70, impl_copyWorkshop_S), (71, impl_WorkshopOk_S)] from ⟨c_impl_copyWorkshop, ⟨c_impl_WorkshopOk, trivial⟩⟩)) Try.func42 (by kernel_rfl : Func.cmp Try.prog [(70, impl_copyWorkshop_S), (71, impl_WorkshopOk_S)] impl_withBench_S Try.f42 impl_withBench_hs = some impl_withBench_L) impl_withBench_ok
theorem c_impl_PutPin : Contract Try.prog 19 impl_PutPin_S :=
  fn_sh (sg := [(10, impl_SetPin_S), (42, impl_withBench_S)]) Try.mixed (sgOk_look (show sgOk Try.prog [(10, impl_SetPin_S), (42, impl_withBench_S)] from ⟨c_impl_SetPin, ⟨c_impl_withBench, trivial⟩⟩)) Try.func19 (by kernel_rfl : Func.cmp Try.prog [(10, impl_SetPin_S), (42, impl_withBench_S)] impl_PutPin_S Try.f19 impl_PutPin_hs = some impl_PutPin_L) impl_PutPin_ok
theorem c_laws_eqPin : Contract Try.prog 94 laws_eqPin_S :=
  fn_sh (sg := []) Try.mixed (sgOk_look (show sgOk Try.prog [] from trivial)) Try.func94 (by kernel_rfl : Func.cmp Try.prog [] laws_eqPin_S Try.f94 laws_eqPin_hs = some laws_eqPin_L) laws_eqPin_ok
theorem c_laws_eqPinS : Contract Try.prog 88 laws_eqPinS_S :=
  fn_sh (sg := [(94, laws_eqPin_S)]) Try.mixed (sgOk_look (show sgOk Try.prog [(94, laws_eqPin_S)] from ⟨c_laws_eqPin, trivial⟩)) Try.func88 (by kernel_rfl : Func.cmp Try.prog [(94, laws_eqPin_S)] laws_eqPinS_S Try.f88 laws_eqPinS_hs = some laws_eqPinS_L) laws_eqPinS_ok
theorem c_laws_eqCylinder : Contract Try.prog 72 laws_eqCylinder_S :=
  fn_sh (sg := [(88, laws_eqPinS_S)]) Try.mixed (sgOk_look (show sgOk Try.prog [(88, laws_eqPinS_S)] from ⟨c_laws_eqPinS, trivial⟩)) Try.func72 (by kernel_rfl : Func.cmp Try.prog [(88, laws_eqPinS_S)] laws_eqCylinder_S Try.f72 laws_eqCylinder_hs = some laws_eqCylinder_L) laws_eqCylinder_ok
theorem c_laws_eqPinSS : Contract Try.prog 73 laws_eqPinSS_S :=
  fn_sh (sg := [(88, laws_eqPinS_S)]) Try.mixed (sgOk_look (show sgOk Try.prog [(88, laws_eqPinS_S)] from ⟨c_laws_eqPinS, trivial⟩)) Try.func73 (by kernel_rfl : Func.cmp Try.prog [(88, laws_eqPinS_S)] laws_eqPinSS_S Try.f73 laws_eqPinSS_hs = some laws_eqPinSS_L) laws_eqPinSS_ok
theorem c_laws_eqBench : Contract Try.prog 43 laws_eqBench_S :=
  fn_sh (sg := [(72, laws_eqCylinder_S), (73, laws_eqPinSS_S)]) Try.mixed (sgOk_look (show sgOk Try.prog [(72, laws_eqCylinder_S), (73, laws_eqPinSS_S)] from ⟨c_laws_eqCylinder, ⟨c_laws_eqPinSS, trivial⟩⟩)) Try.func43 (by kernel_rfl : Func.cmp Try.prog [(72, laws_eqCylinder_S), (73, laws_eqPinSS_S)] laws_eqBench_S Try.f43 laws_eqBench_hs = some laws_eqBench_L) laws_eqBench_ok
theorem c_laws_eqIntS : Contract Try.prog 44 laws_eqIntS_S :=
  fn_sh (sg := []) Try.mixed (sgOk_look (show sgOk Try.prog [] from trivial)) Try.func44 (by kernel_rfl : Func.cmp Try.prog [] laws_eqIntS_S Try.f44 laws_eqIntS_hs = some laws_eqIntS_L) laws_eqIntS_ok
theorem c_laws_eqSpring : Contract Try.prog 45 laws_eqSpring_S :=
  fn_sh (sg := []) Try.mixed (sgOk_look (show sgOk Try.prog [] from trivial)) Try.func45 (by kernel_rfl : Func.cmp Try.prog [] laws_eqSpring_S Try.f45 laws_eqSpring_hs = some laws_eqSpring_L) laws_eqSpring_ok
theorem c_laws_eqWorkshop : Contract Try.prog 20 laws_eqWorkshop_S :=
  fn_sh (sg := [(43, laws_eqBench_S), (44, laws_eqIntS_S), (45, laws_eqSpring_S)]) Try.mixed (sgOk_look (show sgOk Try.prog [(43, laws_eqBench_S), (44, laws_eqIntS_S), (45, laws_eqSpring_S)] from ⟨c_laws_eqBench, ⟨c_laws_eqIntS, ⟨c_laws_eqSpring, trivial⟩⟩⟩)) Try.func20 (by kernel_rfl : Func.cmp Try.prog [(43, laws_eqBench_S), (44, laws_eqIntS_S), (45, laws_eqSpring_S)] laws_eqWorkshop_S Try.f20 laws_eqWorkshop_hs = some laws_eqWorkshop_L) laws_eqWorkshop_ok
theorem c_laws_markPinS : Contract Try.prog 89 laws_markPinS_S :=
  fn_sh (sg := []) Try.mixed (sgOk_look (show sgOk Try.prog [] from trivial)) Try.func89 (by kernel_rfl : Func.cmp Try.prog [] laws_markPinS_S Try.f89 laws_markPinS_hs = some laws_markPinS_L) laws_markPinS_ok
theorem c_laws_markCylinder : Contract Try.prog 74 laws_markCylinder_S :=
  fn_sh (sg := [(89, laws_markPinS_S)]) Try.mixed (sgOk_look (show sgOk Try.prog [(89, laws_markPinS_S)] from ⟨c_laws_markPinS, trivial⟩)) Try.func74 (by kernel_rfl : Func.cmp Try.prog [(89, laws_markPinS_S)] laws_markCylinder_S Try.f74 laws_markCylinder_hs = some laws_markCylinder_L) laws_markCylinder_ok
theorem c_laws_markPinSS : Contract Try.prog 75 laws_markPinSS_S :=
  fn_sh (sg := [(89, laws_markPinS_S)]) Try.mixed (sgOk_look (show sgOk Try.prog [(89, laws_markPinS_S)] from ⟨c_laws_markPinS, trivial⟩)) Try.func75 (by kernel_rfl : Func.cmp Try.prog [(89, laws_markPinS_S)] laws_markPinSS_S Try.f75 laws_markPinSS_hs = some laws_markPinSS_L) laws_markPinSS_ok
theorem c_laws_markBench : Contract Try.prog 46 laws_markBench_S :=
  fn_sh (sg := [(74, laws_markCylinder_S), (75, laws_markPinSS_S)]) Try.mixed (sgOk_look (show sgOk Try.prog [(74, laws_markCylinder_S), (75, laws_markPinSS_S)] from ⟨c_laws_markCylinder, ⟨c_laws_markPinSS, trivial⟩⟩)) Try.func46 (by kernel_rfl : Func.cmp Try.prog [(74, laws_markCylinder_S), (75, laws_markPinSS_S)] laws_markBench_S Try.f46 laws_markBench_hs = some laws_markBench_L) laws_markBench_ok
theorem c_laws_markIntS : Contract Try.prog 47 laws_markIntS_S :=
  fn_sh (sg := []) Try.mixed (sgOk_look (show sgOk Try.prog [] from trivial)) Try.func47 (by kernel_rfl : Func.cmp Try.prog [] laws_markIntS_S Try.f47 laws_markIntS_hs = some laws_markIntS_L) laws_markIntS_ok
theorem c_laws_markWorkshop : Contract Try.prog 21 laws_markWorkshop_S :=
  fn_sh (sg := [(46, laws_markBench_S), (47, laws_markIntS_S)]) Try.mixed (sgOk_look (show sgOk Try.prog [(46, laws_markBench_S), (47, laws_markIntS_S)] from ⟨c_laws_markBench, ⟨c_laws_markIntS, trivial⟩⟩)) Try.func21 (by kernel_rfl : Func.cmp Try.prog [(46, laws_markBench_S), (47, laws_markIntS_S)] laws_markWorkshop_S Try.f21 laws_markWorkshop_hs = some laws_markWorkshop_L) laws_markWorkshop_ok
theorem c_laws_heldPinS : Contract Try.prog 90 laws_heldPinS_S :=
  fn_sh (sg := []) Try.mixed (sgOk_look (show sgOk Try.prog [] from trivial)) Try.func90 (by kernel_rfl : Func.cmp Try.prog [] laws_heldPinS_S Try.f90 laws_heldPinS_hs = some laws_heldPinS_L) laws_heldPinS_ok
theorem c_laws_heldCylinder : Contract Try.prog 76 laws_heldCylinder_S :=
  fn_sh (sg := [(90, laws_heldPinS_S)]) Try.mixed (sgOk_look (show sgOk Try.prog [(90, laws_heldPinS_S)] from ⟨c_laws_heldPinS, trivial⟩)) Try.func76 (by kernel_rfl : Func.cmp Try.prog [(90, laws_heldPinS_S)] laws_heldCylinder_S Try.f76 laws_heldCylinder_hs = some laws_heldCylinder_L) laws_heldCylinder_ok
theorem c_laws_heldPinSS : Contract Try.prog 77 laws_heldPinSS_S :=
  fn_sh (sg := [(90, laws_heldPinS_S)]) Try.mixed (sgOk_look (show sgOk Try.prog [(90, laws_heldPinS_S)] from ⟨c_laws_heldPinS, trivial⟩)) Try.func77 (by kernel_rfl : Func.cmp Try.prog [(90, laws_heldPinS_S)] laws_heldPinSS_S Try.f77 laws_heldPinSS_hs = some laws_heldPinSS_L) laws_heldPinSS_ok
theorem c_laws_heldBench : Contract Try.prog 48 laws_heldBench_S :=
  fn_sh (sg := [(76, laws_heldCylinder_S), (77, laws_heldPinSS_S)]) Try.mixed (sgOk_look (show sgOk Try.prog [(76, laws_heldCylinder_S), (77, laws_heldPinSS_S)] from ⟨c_laws_heldCylinder, ⟨c_laws_heldPinSS, trivial⟩⟩)) Try.func48 (by kernel_rfl : Func.cmp Try.prog [(76, laws_heldCylinder_S), (77, laws_heldPinSS_S)] laws_heldBench_S Try.f48 laws_heldBench_hs = some laws_heldBench_L) laws_heldBench_ok
theorem c_laws_heldIntS : Contract Try.prog 49 laws_heldIntS_S :=
  fn_sh (sg := []) Try.mixed (sgOk_look (show sgOk Try.prog [] from trivial)) Try.func49 (by kernel_rfl : Func.cmp Try.prog [] laws_heldIntS_S Try.f49 laws_heldIntS_hs = some laws_heldIntS_L) laws_heldIntS_ok
theorem c_laws_heldWorkshop : Contract Try.prog 22 laws_heldWorkshop_S :=
  fn_sh (sg := [(48, laws_heldBench_S), (49, laws_heldIntS_S)]) Try.mixed (sgOk_look (show sgOk Try.prog [(48, laws_heldBench_S), (49, laws_heldIntS_S)] from ⟨c_laws_heldBench, ⟨c_laws_heldIntS, trivial⟩⟩)) Try.func22 (by kernel_rfl : Func.cmp Try.prog [(48, laws_heldBench_S), (49, laws_heldIntS_S)] laws_heldWorkshop_S Try.f22 laws_heldWorkshop_hs = some laws_heldWorkshop_L) laws_heldWorkshop_ok
theorem c_laws_FnExactPutPin : Contract Try.prog 4 laws_FnExactPutPin_S :=
  fn_sh (sg := [(16, laws_szWorkshop_S), (18, laws_toWorkshop_S), (17, spec_PutPin_S), (19, impl_PutPin_S), (20, laws_eqWorkshop_S), (21, laws_markWorkshop_S), (22, laws_heldWorkshop_S)]) Try.mixed (sgOk_look (show sgOk Try.prog [(16, laws_szWorkshop_S), (18, laws_toWorkshop_S), (17, spec_PutPin_S), (19, impl_PutPin_S), (20, laws_eqWorkshop_S), (21, laws_markWorkshop_S), (22, laws_heldWorkshop_S)] from ⟨c_laws_szWorkshop, ⟨c_laws_toWorkshop, ⟨c_spec_PutPin, ⟨c_impl_PutPin, ⟨c_laws_eqWorkshop, ⟨c_laws_markWorkshop, ⟨c_laws_heldWorkshop, trivial⟩⟩⟩⟩⟩⟩⟩)) Try.func4 (by kernel_rfl : Func.cmp Try.prog [(16, laws_szWorkshop_S), (18, laws_toWorkshop_S), (17, spec_PutPin_S), (19, impl_PutPin_S), (20, laws_eqWorkshop_S), (21, laws_markWorkshop_S), (22, laws_heldWorkshop_S)] laws_FnExactPutPin_S Try.f4 laws_FnExactPutPin_hs = some laws_FnExactPutPin_L) laws_FnExactPutPin_ok

end Go.Proofs.Ytfefmdhhbidfbaa
