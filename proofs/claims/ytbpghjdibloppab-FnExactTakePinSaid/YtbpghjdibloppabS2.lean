/- The contracts of the functions that the laws FnExactTakeBack, FnExactTakePin reach: each keeps what its pure function says, wherever that function says something. -/
import Derived.Test.YtbpghjdibloppabRows
import Derived.Test.YtbpghjdibloppabPl1
import Derived.ProofKit
namespace Go.Proofs.Ytbpghjdibloppab
open Go.ChangeShapes Go.WideShapes Go.ChangeAt Go.RowKit Go.Mw

theorem Try.own : ownKnob Try.prog.godebug = none := by kernel_rfl
theorem Try.laidOut : laidOutB Try.prog = true := by kernel_rfl
theorem Try.mixed : Try.prog.follows .mixedOrders = true := by kernel_rfl
theorem c_laws_szPinS : Contract Try.prog 67 laws_szPinS_S :=
  fn_sh (sg := []) Try.mixed (sgOk_look (show sgOk Try.prog [] from trivial)) Try.func67 (by kernel_rfl : Func.cmp Try.prog [] laws_szPinS_S Try.f67 laws_szPinS_hs = some laws_szPinS_L) laws_szPinS_ok
theorem c_laws_szCylinder : Contract Try.prog 34 laws_szCylinder_S :=
  fn_sh (sg := [(67, laws_szPinS_S)]) Try.mixed (sgOk_look (show sgOk Try.prog [(67, laws_szPinS_S)] from ⟨c_laws_szPinS, trivial⟩)) Try.func34 (by kernel_rfl : Func.cmp Try.prog [(67, laws_szPinS_S)] laws_szCylinder_S Try.f34 laws_szCylinder_hs = some laws_szCylinder_L) laws_szCylinder_ok
theorem c_laws_szPinSS : Contract Try.prog 35 laws_szPinSS_S :=
  fn_sh (sg := [(67, laws_szPinS_S)]) Try.mixed (sgOk_look (show sgOk Try.prog [(67, laws_szPinS_S)] from ⟨c_laws_szPinS, trivial⟩)) Try.func35 (by kernel_rfl : Func.cmp Try.prog [(67, laws_szPinS_S)] laws_szPinSS_S Try.f35 laws_szPinSS_hs = some laws_szPinSS_L) laws_szPinSS_ok
theorem c_laws_szBench : Contract Try.prog 9 laws_szBench_S :=
  fn_sh (sg := [(34, laws_szCylinder_S), (35, laws_szPinSS_S)]) Try.mixed (sgOk_look (show sgOk Try.prog [(34, laws_szCylinder_S), (35, laws_szPinSS_S)] from ⟨c_laws_szCylinder, ⟨c_laws_szPinSS, trivial⟩⟩)) Try.func9 (by kernel_rfl : Func.cmp Try.prog [(34, laws_szCylinder_S), (35, laws_szPinSS_S)] laws_szBench_S Try.f9 laws_szBench_hs = some laws_szBench_L) laws_szBench_ok
theorem c_laws_toPin : Contract Try.prog 78 laws_toPin_S :=
  fn_sh (sg := []) Try.mixed (sgOk_look (show sgOk Try.prog [] from trivial)) Try.func78 (by kernel_rfl : Func.cmp Try.prog [] laws_toPin_S Try.f78 laws_toPin_hs = some laws_toPin_L) laws_toPin_ok
theorem c_laws_toPinS : Contract Try.prog 69 laws_toPinS_S :=
  fn_sh (sg := [(78, laws_toPin_S)]) Try.mixed (sgOk_look (show sgOk Try.prog [(78, laws_toPin_S)] from ⟨c_laws_toPin, trivial⟩)) Try.func69 (by kernel_rfl : Func.cmp Try.prog [(78, laws_toPin_S)] laws_toPinS_S Try.f69 laws_toPinS_hs = some laws_toPinS_L) laws_toPinS_ok
theorem c_laws_toCylinder : Contract Try.prog 38 laws_toCylinder_S :=
  fn_sh (sg := [(69, laws_toPinS_S)]) Try.mixed (sgOk_look (show sgOk Try.prog [(69, laws_toPinS_S)] from ⟨c_laws_toPinS, trivial⟩)) Try.func38 (by kernel_rfl : Func.cmp Try.prog [(69, laws_toPinS_S)] laws_toCylinder_S Try.f38 laws_toCylinder_hs = some laws_toCylinder_L) laws_toCylinder_ok
theorem c_laws_toPinSS : Contract Try.prog 39 laws_toPinSS_S :=
  fn_sh (sg := [(69, laws_toPinS_S)]) Try.mixed (sgOk_look (show sgOk Try.prog [(69, laws_toPinS_S)] from ⟨c_laws_toPinS, trivial⟩)) Try.func39 (by kernel_rfl : Func.cmp Try.prog [(69, laws_toPinS_S)] laws_toPinSS_S Try.f39 laws_toPinSS_hs = some laws_toPinSS_L) laws_toPinSS_ok
theorem c_laws_toBench : Contract Try.prog 11 laws_toBench_S :=
  fn_sh (sg := [(38, laws_toCylinder_S), (39, laws_toPinSS_S)]) Try.mixed (sgOk_look (show sgOk Try.prog [(38, laws_toCylinder_S), (39, laws_toPinSS_S)] from ⟨c_laws_toCylinder, ⟨c_laws_toPinSS, trivial⟩⟩)) Try.func11 (by kernel_rfl : Func.cmp Try.prog [(38, laws_toCylinder_S), (39, laws_toPinSS_S)] laws_toBench_S Try.f11 laws_toBench_hs = some laws_toBench_L) laws_toBench_ok
theorem c_spec_l06Copy : Contract Try.prog 72 spec_l06Copy_S :=
  fn_sh (sg := []) Try.mixed (sgOk_look (show sgOk Try.prog [] from trivial)) Try.func72 (by kernel_rfl : Func.cmp Try.prog [] spec_l06Copy_S Try.f72 spec_l06Copy_hs = some spec_l06Copy_L) spec_l06Copy_ok
theorem c_spec_l37Copy : Contract Try.prog 44 spec_l37Copy_S :=
  fn_sh (sg := [(72, spec_l06Copy_S)]) Try.mixed (sgOk_look (show sgOk Try.prog [(72, spec_l06Copy_S)] from ⟨c_spec_l06Copy, trivial⟩)) Try.func44 (by kernel_rfl : Func.cmp Try.prog [(72, spec_l06Copy_S)] spec_l37Copy_S Try.f44 spec_l37Copy_hs = some spec_l37Copy_L) spec_l37Copy_ok
theorem c_spec_l01In : Contract Try.prog 53 spec_l01In_S :=
  fn_sh (sg := []) Try.mixed (sgOk_look (show sgOk Try.prog [] from trivial)) Try.func53 (by kernel_rfl : Func.cmp Try.prog [] spec_l01In_S Try.f53 spec_l01In_hs = some spec_l01In_L) spec_l01In_ok
theorem c_spec_l06Less : Contract Try.prog 77 spec_l06Less_S :=
  fn_sh (sg := []) Try.mixed (sgOk_look (show sgOk Try.prog [] from trivial)) Try.func77 (by kernel_rfl : Func.cmp Try.prog [] spec_l06Less_S Try.f77 spec_l06Less_hs = some spec_l06Less_L) spec_l06Less_ok
theorem c_spec_CylinderOk : Contract Try.prog 68 spec_CylinderOk_S :=
  fn_sh (sg := [(53, spec_l01In_S), (77, spec_l06Less_S)]) Try.mixed (sgOk_look (show sgOk Try.prog [(53, spec_l01In_S), (77, spec_l06Less_S)] from ⟨c_spec_l01In, ⟨c_spec_l06Less, trivial⟩⟩)) Try.func68 (by kernel_rfl : Func.cmp Try.prog [(53, spec_l01In_S), (77, spec_l06Less_S)] spec_CylinderOk_S Try.f68 spec_CylinderOk_hs = some spec_CylinderOk_L) spec_CylinderOk_ok
theorem c_spec_BenchOk : Contract Try.prog 36 spec_BenchOk_S :=
  fn_sh (sg := [(68, spec_CylinderOk_S)]) Try.mixed (sgOk_look (show sgOk Try.prog [(68, spec_CylinderOk_S)] from ⟨c_spec_CylinderOk, trivial⟩)) Try.func36 (by kernel_rfl : Func.cmp Try.prog [(68, spec_CylinderOk_S)] spec_BenchOk_S Try.f36 spec_BenchOk_hs = some spec_BenchOk_L) spec_BenchOk_ok
theorem c_spec_TakeBack : Contract Try.prog 14 spec_TakeBack_S :=
  fn_sh (sg := [(44, spec_l37Copy_S), (36, spec_BenchOk_S)]) Try.mixed (sgOk_look (show sgOk Try.prog [(44, spec_l37Copy_S), (36, spec_BenchOk_S)] from ⟨c_spec_l37Copy, ⟨c_spec_BenchOk, trivial⟩⟩)) Try.func14 (by kernel_rfl : Func.cmp Try.prog [(44, spec_l37Copy_S), (36, spec_BenchOk_S)] spec_TakeBack_S Try.f14 spec_TakeBack_hs = some spec_TakeBack_L) spec_TakeBack_ok
theorem c_impl_copyPins : Contract Try.prog 74 impl_copyPins_S :=
  fn_sh (sg := []) Try.mixed (sgOk_look (show sgOk Try.prog [] from trivial)) Try.func74 (by kernel_rfl : Func.cmp Try.prog [] impl_copyPins_S Try.f74 impl_copyPins_hs = some impl_copyPins_L) impl_copyPins_ok
theorem c_impl_copyCylinder : Contract Try.prog 73 impl_copyCylinder_S :=
  fn_sh (sg := [(74, impl_copyPins_S)]) Try.mixed (sgOk_look (show sgOk Try.prog [(74, impl_copyPins_S)] from ⟨c_impl_copyPins, trivial⟩)) Try.func73 (by kernel_rfl : Func.cmp Try.prog [(74, impl_copyPins_S)] impl_copyCylinder_S Try.f73 impl_copyCylinder_hs = some impl_copyCylinder_L) impl_copyCylinder_ok
theorem c_impl_copyBench : Contract Try.prog 45 impl_copyBench_S :=
  fn_sh (sg := [(73, impl_copyCylinder_S), (74, impl_copyPins_S)]) Try.mixed (sgOk_look (show sgOk Try.prog [(73, impl_copyCylinder_S), (74, impl_copyPins_S)] from ⟨c_impl_copyCylinder, ⟨c_impl_copyPins, trivial⟩⟩)) Try.func45 (by kernel_rfl : Func.cmp Try.prog [(73, impl_copyCylinder_S), (74, impl_copyPins_S)] impl_copyBench_S Try.f45 impl_copyBench_hs = some impl_copyBench_L) impl_copyBench_ok
theorem c_impl_within : Contract Try.prog 57 impl_within_S :=
  fn_sh (sg := []) Try.mixed (sgOk_look (show sgOk Try.prog [] from trivial)) Try.func57 (by kernel_rfl : Func.cmp Try.prog [] impl_within_S Try.f57 impl_within_hs = some impl_within_L) impl_within_ok
theorem c_impl_comparePins : Contract Try.prog 79 impl_comparePins_S :=
  fn_sh (sg := []) Try.mixed (sgOk_look (show sgOk Try.prog [] from trivial)) Try.func79 (by kernel_rfl : Func.cmp Try.prog [] impl_comparePins_S Try.f79 impl_comparePins_hs = some impl_comparePins_L) impl_comparePins_ok
theorem c_impl_CylinderOk : Contract Try.prog 70 impl_CylinderOk_S :=
  fn_sh (sg := [(57, impl_within_S), (79, impl_comparePins_S)]) Try.mixed (sgOk_look (show sgOk Try.prog [(57, impl_within_S), (79, impl_comparePins_S)] from ⟨c_impl_within, ⟨c_impl_comparePins, trivial⟩⟩)) Try.func70 (by kernel_rfl : Func.cmp Try.prog [(57, impl_within_S), (79, impl_comparePins_S)] impl_CylinderOk_S Try.f70 impl_CylinderOk_hs = some impl_CylinderOk_L) impl_CylinderOk_ok
theorem c_impl_BenchOk : Contract Try.prog 40 impl_BenchOk_S :=
  fn_sh (sg := [(70, impl_CylinderOk_S)]) Try.mixed (sgOk_look (show sgOk Try.prog [(70, impl_CylinderOk_S)] from ⟨c_impl_CylinderOk, trivial⟩)) Try.func40 (by kernel_rfl : Func.cmp Try.prog [(70, impl_CylinderOk_S)] impl_BenchOk_S Try.f40 impl_BenchOk_hs = some impl_BenchOk_L) impl_BenchOk_ok
theorem c_impl_TakeBack : Contract Try.prog 15 impl_TakeBack_S :=
  fn_sh (sg := [(45, impl_copyBench_S), (40, impl_BenchOk_S)]) Try.mixed (sgOk_look (show sgOk Try.prog [(45, impl_copyBench_S), (40, impl_BenchOk_S)] from ⟨c_impl_copyBench, ⟨c_impl_BenchOk, trivial⟩⟩)) Try.func15 (by kernel_rfl : Func.cmp Try.prog [(45, impl_copyBench_S), (40, impl_BenchOk_S)] impl_TakeBack_S Try.f15 impl_TakeBack_hs = some impl_TakeBack_L) impl_TakeBack_ok
theorem c_laws_eqPin : Contract Try.prog 80 laws_eqPin_S :=
  fn_sh (sg := []) Try.mixed (sgOk_look (show sgOk Try.prog [] from trivial)) Try.func80 (by kernel_rfl : Func.cmp Try.prog [] laws_eqPin_S Try.f80 laws_eqPin_hs = some laws_eqPin_L) laws_eqPin_ok
theorem c_laws_eqPinS : Contract Try.prog 71 laws_eqPinS_S :=
  fn_sh (sg := [(80, laws_eqPin_S)]) Try.mixed (sgOk_look (show sgOk Try.prog [(80, laws_eqPin_S)] from ⟨c_laws_eqPin, trivial⟩)) Try.func71 (by kernel_rfl : Func.cmp Try.prog [(80, laws_eqPin_S)] laws_eqPinS_S Try.f71 laws_eqPinS_hs = some laws_eqPinS_L) laws_eqPinS_ok
theorem c_laws_eqCylinder : Contract Try.prog 42 laws_eqCylinder_S :=
  fn_sh (sg := [(71, laws_eqPinS_S)]) Try.mixed (sgOk_look (show sgOk Try.prog [(71, laws_eqPinS_S)] from ⟨c_laws_eqPinS, trivial⟩)) Try.func42 (by kernel_rfl : Func.cmp Try.prog [(71, laws_eqPinS_S)] laws_eqCylinder_S Try.f42 laws_eqCylinder_hs = some laws_eqCylinder_L) laws_eqCylinder_ok
theorem c_laws_eqPinSS : Contract Try.prog 43 laws_eqPinSS_S :=
  fn_sh (sg := [(71, laws_eqPinS_S)]) Try.mixed (sgOk_look (show sgOk Try.prog [(71, laws_eqPinS_S)] from ⟨c_laws_eqPinS, trivial⟩)) Try.func43 (by kernel_rfl : Func.cmp Try.prog [(71, laws_eqPinS_S)] laws_eqPinSS_S Try.f43 laws_eqPinSS_hs = some laws_eqPinSS_L) laws_eqPinSS_ok
theorem c_laws_eqBench : Contract Try.prog 13 laws_eqBench_S :=
  fn_sh (sg := [(42, laws_eqCylinder_S), (43, laws_eqPinSS_S)]) Try.mixed (sgOk_look (show sgOk Try.prog [(42, laws_eqCylinder_S), (43, laws_eqPinSS_S)] from ⟨c_laws_eqCylinder, ⟨c_laws_eqPinSS, trivial⟩⟩)) Try.func13 (by kernel_rfl : Func.cmp Try.prog [(42, laws_eqCylinder_S), (43, laws_eqPinSS_S)] laws_eqBench_S Try.f13 laws_eqBench_hs = some laws_eqBench_L) laws_eqBench_ok
theorem c_laws_markPinS : Contract Try.prog 75 laws_markPinS_S :=
  fn_sh (sg := []) Try.mixed (sgOk_look (show sgOk Try.prog [] from trivial)) Try.func75 (by kernel_rfl : Func.cmp Try.prog [] laws_markPinS_S Try.f75 laws_markPinS_hs = some laws_markPinS_L) laws_markPinS_ok
theorem c_laws_markCylinder : Contract Try.prog 46 laws_markCylinder_S :=
  fn_sh (sg := [(75, laws_markPinS_S)]) Try.mixed (sgOk_look (show sgOk Try.prog [(75, laws_markPinS_S)] from ⟨c_laws_markPinS, trivial⟩)) Try.func46 (by kernel_rfl : Func.cmp Try.prog [(75, laws_markPinS_S)] laws_markCylinder_S Try.f46 laws_markCylinder_hs = some laws_markCylinder_L) laws_markCylinder_ok
theorem c_laws_markPinSS : Contract Try.prog 47 laws_markPinSS_S :=
  fn_sh (sg := [(75, laws_markPinS_S)]) Try.mixed (sgOk_look (show sgOk Try.prog [(75, laws_markPinS_S)] from ⟨c_laws_markPinS, trivial⟩)) Try.func47 (by kernel_rfl : Func.cmp Try.prog [(75, laws_markPinS_S)] laws_markPinSS_S Try.f47 laws_markPinSS_hs = some laws_markPinSS_L) laws_markPinSS_ok
theorem c_laws_markBench : Contract Try.prog 16 laws_markBench_S :=
  fn_sh (sg := [(46, laws_markCylinder_S), (47, laws_markPinSS_S)]) Try.mixed (sgOk_look (show sgOk Try.prog [(46, laws_markCylinder_S), (47, laws_markPinSS_S)] from ⟨c_laws_markCylinder, ⟨c_laws_markPinSS, trivial⟩⟩)) Try.func16 (by kernel_rfl : Func.cmp Try.prog [(46, laws_markCylinder_S), (47, laws_markPinSS_S)] laws_markBench_S Try.f16 laws_markBench_hs = some laws_markBench_L) laws_markBench_ok
theorem c_laws_heldPinS : Contract Try.prog 76 laws_heldPinS_S :=
  fn_sh (sg := []) Try.mixed (sgOk_look (show sgOk Try.prog [] from trivial)) Try.func76 (by kernel_rfl : Func.cmp Try.prog [] laws_heldPinS_S Try.f76 laws_heldPinS_hs = some laws_heldPinS_L) laws_heldPinS_ok
theorem c_laws_heldCylinder : Contract Try.prog 48 laws_heldCylinder_S :=
  fn_sh (sg := [(76, laws_heldPinS_S)]) Try.mixed (sgOk_look (show sgOk Try.prog [(76, laws_heldPinS_S)] from ⟨c_laws_heldPinS, trivial⟩)) Try.func48 (by kernel_rfl : Func.cmp Try.prog [(76, laws_heldPinS_S)] laws_heldCylinder_S Try.f48 laws_heldCylinder_hs = some laws_heldCylinder_L) laws_heldCylinder_ok
theorem c_laws_heldPinSS : Contract Try.prog 49 laws_heldPinSS_S :=
  fn_sh (sg := [(76, laws_heldPinS_S)]) Try.mixed (sgOk_look (show sgOk Try.prog [(76, laws_heldPinS_S)] from ⟨c_laws_heldPinS, trivial⟩)) Try.func49 (by kernel_rfl : Func.cmp Try.prog [(76, laws_heldPinS_S)] laws_heldPinSS_S Try.f49 laws_heldPinSS_hs = some laws_heldPinSS_L) laws_heldPinSS_ok
theorem c_laws_heldBench : Contract Try.prog 17 laws_heldBench_S :=
  fn_sh (sg := [(48, laws_heldCylinder_S), (49, laws_heldPinSS_S)]) Try.mixed (sgOk_look (show sgOk Try.prog [(48, laws_heldCylinder_S), (49, laws_heldPinSS_S)] from ⟨c_laws_heldCylinder, ⟨c_laws_heldPinSS, trivial⟩⟩)) Try.func17 (by kernel_rfl : Func.cmp Try.prog [(48, laws_heldCylinder_S), (49, laws_heldPinSS_S)] laws_heldBench_S Try.f17 laws_heldBench_hs = some laws_heldBench_L) laws_heldBench_ok
theorem c_laws_FnExactTakeBack : Contract Try.prog 4 laws_FnExactTakeBack_S :=
  fn_sh (sg := [(9, laws_szBench_S), (11, laws_toBench_S), (14, spec_TakeBack_S), (15, impl_TakeBack_S), (13, laws_eqBench_S), (16, laws_markBench_S), (17, laws_heldBench_S)]) Try.mixed (sgOk_look (show sgOk Try.prog [(9, laws_szBench_S), (11, laws_toBench_S), (14, spec_TakeBack_S), (15, impl_TakeBack_S), (13, laws_eqBench_S), (16, laws_markBench_S), (17, laws_heldBench_S)] from ⟨c_laws_szBench, ⟨c_laws_toBench, ⟨c_spec_TakeBack, ⟨c_impl_TakeBack, ⟨c_laws_eqBench, ⟨c_laws_markBench, ⟨c_laws_heldBench, trivial⟩⟩⟩⟩⟩⟩⟩)) Try.func4 (by kernel_rfl : Func.cmp Try.prog [(9, laws_szBench_S), (11, laws_toBench_S), (14, spec_TakeBack_S), (15, impl_TakeBack_S), (13, laws_eqBench_S), (16, laws_markBench_S), (17, laws_heldBench_S)] laws_FnExactTakeBack_S Try.f4 laws_FnExactTakeBack_hs = some laws_FnExactTakeBack_L) laws_FnExactTakeBack_ok
theorem c_spec_PullPin : Contract Try.prog 59 spec_PullPin_S :=
  fn_sh (sg := [(72, spec_l06Copy_S), (68, spec_CylinderOk_S), (53, spec_l01In_S)]) Try.mixed (sgOk_look (show sgOk Try.prog [(72, spec_l06Copy_S), (68, spec_CylinderOk_S), (53, spec_l01In_S)] from ⟨c_spec_l06Copy, ⟨c_spec_CylinderOk, ⟨c_spec_l01In, trivial⟩⟩⟩)) Try.func59 (by kernel_rfl : Func.cmp Try.prog [(72, spec_l06Copy_S), (68, spec_CylinderOk_S), (53, spec_l01In_S)] spec_PullPin_S Try.f59 spec_PullPin_hs = some spec_PullPin_L) spec_PullPin_ok
theorem c_spec_l37Step : Contract Try.prog 60 spec_l37Step_S :=
  fn_sh (sg := [(44, spec_l37Copy_S), (36, spec_BenchOk_S)]) Try.mixed (sgOk_look (show sgOk Try.prog [(44, spec_l37Copy_S), (36, spec_BenchOk_S)] from ⟨c_spec_l37Copy, ⟨c_spec_BenchOk, trivial⟩⟩)) Try.func60 (by kernel_rfl : Func.cmp Try.prog [(44, spec_l37Copy_S), (36, spec_BenchOk_S)] spec_l37Step_S Try.f60 spec_l37Step_hs = some spec_l37Step_L) spec_l37Step_ok
theorem c_spec_TakePin : Contract Try.prog 23 spec_TakePin_S :=
  fn_sh (sg := [(59, spec_PullPin_S), (44, spec_l37Copy_S), (60, spec_l37Step_S)]) Try.mixed (sgOk_look (show sgOk Try.prog [(59, spec_PullPin_S), (44, spec_l37Copy_S), (60, spec_l37Step_S)] from ⟨c_spec_PullPin, ⟨c_spec_l37Copy, ⟨c_spec_l37Step, trivial⟩⟩⟩)) Try.func23 (by kernel_rfl : Func.cmp Try.prog [(59, spec_PullPin_S), (44, spec_l37Copy_S), (60, spec_l37Step_S)] spec_TakePin_S Try.f23 spec_TakePin_hs = some spec_TakePin_L) spec_TakePin_ok
theorem c_impl_PullPin : Contract Try.prog 61 impl_PullPin_S :=
  fn_sh (sg := [(73, impl_copyCylinder_S), (70, impl_CylinderOk_S), (74, impl_copyPins_S)]) Try.mixed (sgOk_look (show sgOk Try.prog [(73, impl_copyCylinder_S), (70, impl_CylinderOk_S), (74, impl_copyPins_S)] from ⟨c_impl_copyCylinder, ⟨c_impl_CylinderOk, ⟨c_impl_copyPins, trivial⟩⟩⟩)) Try.func61 (by kernel_rfl : Func.cmp Try.prog [(73, impl_copyCylinder_S), (70, impl_CylinderOk_S), (74, impl_copyPins_S)] impl_PullPin_S Try.f61 impl_PullPin_hs = some impl_PullPin_L) impl_PullPin_ok
theorem c_impl_replaced : Contract Try.prog 62 impl_replaced_S :=
  fn_sh (sg := [(45, impl_copyBench_S), (74, impl_copyPins_S), (40, impl_BenchOk_S)]) Try.mixed (sgOk_look (show sgOk Try.prog [(45, impl_copyBench_S), (74, impl_copyPins_S), (40, impl_BenchOk_S)] from ⟨c_impl_copyBench, ⟨c_impl_copyPins, ⟨c_impl_BenchOk, trivial⟩⟩⟩)) Try.func62 (by kernel_rfl : Func.cmp Try.prog [(45, impl_copyBench_S), (74, impl_copyPins_S), (40, impl_BenchOk_S)] impl_replaced_S Try.f62 impl_replaced_hs = some impl_replaced_L) impl_replaced_ok
theorem c_impl_TakePin : Contract Try.prog 24 impl_TakePin_S :=
  fn_sh (sg := [(61, impl_PullPin_S), (62, impl_replaced_S)]) Try.mixed (sgOk_look (show sgOk Try.prog [(61, impl_PullPin_S), (62, impl_replaced_S)] from ⟨c_impl_PullPin, ⟨c_impl_replaced, trivial⟩⟩)) Try.func24 (by kernel_rfl : Func.cmp Try.prog [(61, impl_PullPin_S), (62, impl_replaced_S)] impl_TakePin_S Try.f24 impl_TakePin_hs = some impl_TakePin_L) impl_TakePin_ok
theorem c_laws_FnExactTakePin : Contract Try.prog 6 laws_FnExactTakePin_S :=
  fn_sh (sg := [(9, laws_szBench_S), (11, laws_toBench_S), (23, spec_TakePin_S), (24, impl_TakePin_S), (13, laws_eqBench_S), (16, laws_markBench_S), (17, laws_heldBench_S)]) Try.mixed (sgOk_look (show sgOk Try.prog [(9, laws_szBench_S), (11, laws_toBench_S), (23, spec_TakePin_S), (24, impl_TakePin_S), (13, laws_eqBench_S), (16, laws_markBench_S), (17, laws_heldBench_S)] from ⟨c_laws_szBench, ⟨c_laws_toBench, ⟨c_spec_TakePin, ⟨c_impl_TakePin, ⟨c_laws_eqBench, ⟨c_laws_markBench, ⟨c_laws_heldBench, trivial⟩⟩⟩⟩⟩⟩⟩)) Try.func6 (by kernel_rfl : Func.cmp Try.prog [(9, laws_szBench_S), (11, laws_toBench_S), (23, spec_TakePin_S), (24, impl_TakePin_S), (13, laws_eqBench_S), (16, laws_markBench_S), (17, laws_heldBench_S)] laws_FnExactTakePin_S Try.f6 laws_FnExactTakePin_hs = some laws_FnExactTakePin_L) laws_FnExactTakePin_ok

end Go.Proofs.Ytbpghjdibloppab
