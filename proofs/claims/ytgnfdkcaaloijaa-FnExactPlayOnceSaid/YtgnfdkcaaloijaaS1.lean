/- The contracts of the functions that the laws FnExactCrank, FnExactRemovePin, FnExactPlayOnce reach: each keeps what its pure function says, wherever that function says something. -/
import Derived.Test.YtgnfdkcaaloijaaRows
import Derived.Test.YtgnfdkcaaloijaaPl2
import Derived.ProofKit
namespace Go.Proofs.Ytgnfdkcaaloijaa
open Go.ChangeShapes Go.WideShapes Go.ChangeAt Go.RowKit Go.Mw

theorem Try.own : ownKnob Try.prog.godebug = none := by kernel_rfl
theorem Try.laidOut : laidOutB Try.prog = true := by kernel_rfl
theorem Try.mixed : Try.prog.follows .mixedOrders = true := by kernel_rfl
theorem c_laws_szPinS : Contract Try.prog 99 laws_szPinS_S :=
  fn_sh (sg := []) Try.mixed (sgOk_look (show sgOk Try.prog [] from trivial)) Try.func99 (by kernel_rfl : Func.cmp Try.prog [] laws_szPinS_S Try.f99 laws_szPinS_hs = some laws_szPinS_L) laws_szPinS_ok
theorem c_laws_szCylinder : Contract Try.prog 62 laws_szCylinder_S :=
  fn_sh (sg := [(99, laws_szPinS_S)]) Try.mixed (sgOk_look (show sgOk Try.prog [(99, laws_szPinS_S)] from ⟨c_laws_szPinS, trivial⟩)) Try.func62 (by kernel_rfl : Func.cmp Try.prog [(99, laws_szPinS_S)] laws_szCylinder_S Try.f62 laws_szCylinder_hs = some laws_szCylinder_L) laws_szCylinder_ok
theorem c_laws_szPinSS : Contract Try.prog 63 laws_szPinSS_S :=
  fn_sh (sg := [(99, laws_szPinS_S)]) Try.mixed (sgOk_look (show sgOk Try.prog [(99, laws_szPinS_S)] from ⟨c_laws_szPinS, trivial⟩)) Try.func63 (by kernel_rfl : Func.cmp Try.prog [(99, laws_szPinS_S)] laws_szPinSS_S Try.f63 laws_szPinSS_hs = some laws_szPinSS_L) laws_szPinSS_ok
theorem c_laws_szBench : Contract Try.prog 25 laws_szBench_S :=
  fn_sh (sg := [(62, laws_szCylinder_S), (63, laws_szPinSS_S)]) Try.mixed (sgOk_look (show sgOk Try.prog [(62, laws_szCylinder_S), (63, laws_szPinSS_S)] from ⟨c_laws_szCylinder, ⟨c_laws_szPinSS, trivial⟩⟩)) Try.func25 (by kernel_rfl : Func.cmp Try.prog [(62, laws_szCylinder_S), (63, laws_szPinSS_S)] laws_szBench_S Try.f25 laws_szBench_hs = some laws_szBench_L) laws_szBench_ok
theorem c_laws_szIntS : Contract Try.prog 44 laws_szIntS_S :=
  fn_sh (sg := []) Try.mixed (sgOk_look (show sgOk Try.prog [] from trivial)) Try.func44 (by kernel_rfl : Func.cmp Try.prog [] laws_szIntS_S Try.f44 laws_szIntS_hs = some laws_szIntS_L) laws_szIntS_ok
theorem c_laws_szWorkshop : Contract Try.prog 14 laws_szWorkshop_S :=
  fn_sh (sg := [(25, laws_szBench_S), (44, laws_szIntS_S)]) Try.mixed (sgOk_look (show sgOk Try.prog [(25, laws_szBench_S), (44, laws_szIntS_S)] from ⟨c_laws_szBench, ⟨c_laws_szIntS, trivial⟩⟩)) Try.func14 (by kernel_rfl : Func.cmp Try.prog [(25, laws_szBench_S), (44, laws_szIntS_S)] laws_szWorkshop_S Try.f14 laws_szWorkshop_hs = some laws_szWorkshop_L) laws_szWorkshop_ok
theorem c_laws_toPin : Contract Try.prog 28 laws_toPin_S :=
  fn_sh (sg := []) Try.mixed (sgOk_look (show sgOk Try.prog [] from trivial)) Try.func28 (by kernel_rfl : Func.cmp Try.prog [] laws_toPin_S Try.f28 laws_toPin_hs = some laws_toPin_L) laws_toPin_ok
theorem c_laws_toPinS : Contract Try.prog 102 laws_toPinS_S :=
  fn_sh (sg := [(28, laws_toPin_S)]) Try.mixed (sgOk_look (show sgOk Try.prog [(28, laws_toPin_S)] from ⟨c_laws_toPin, trivial⟩)) Try.func102 (by kernel_rfl : Func.cmp Try.prog [(28, laws_toPin_S)] laws_toPinS_S Try.f102 laws_toPinS_hs = some laws_toPinS_L) laws_toPinS_ok
theorem c_laws_toCylinder : Contract Try.prog 67 laws_toCylinder_S :=
  fn_sh (sg := [(102, laws_toPinS_S)]) Try.mixed (sgOk_look (show sgOk Try.prog [(102, laws_toPinS_S)] from ⟨c_laws_toPinS, trivial⟩)) Try.func67 (by kernel_rfl : Func.cmp Try.prog [(102, laws_toPinS_S)] laws_toCylinder_S Try.f67 laws_toCylinder_hs = some laws_toCylinder_L) laws_toCylinder_ok
theorem c_laws_toPinSS : Contract Try.prog 68 laws_toPinSS_S :=
  fn_sh (sg := [(102, laws_toPinS_S)]) Try.mixed (sgOk_look (show sgOk Try.prog [(102, laws_toPinS_S)] from ⟨c_laws_toPinS, trivial⟩)) Try.func68 (by kernel_rfl : Func.cmp Try.prog [(102, laws_toPinS_S)] laws_toPinSS_S Try.f68 laws_toPinSS_hs = some laws_toPinSS_L) laws_toPinSS_ok
theorem c_laws_toBench : Contract Try.prog 27 laws_toBench_S :=
  fn_sh (sg := [(67, laws_toCylinder_S), (68, laws_toPinSS_S)]) Try.mixed (sgOk_look (show sgOk Try.prog [(67, laws_toCylinder_S), (68, laws_toPinSS_S)] from ⟨c_laws_toCylinder, ⟨c_laws_toPinSS, trivial⟩⟩)) Try.func27 (by kernel_rfl : Func.cmp Try.prog [(67, laws_toCylinder_S), (68, laws_toPinSS_S)] laws_toBench_S Try.f27 laws_toBench_hs = some laws_toBench_L) laws_toBench_ok
theorem c_laws_toIntS : Contract Try.prog 48 laws_toIntS_S :=
  fn_sh (sg := []) Try.mixed (sgOk_look (show sgOk Try.prog [] from trivial)) Try.func48 (by kernel_rfl : Func.cmp Try.prog [] laws_toIntS_S Try.f48 laws_toIntS_hs = some laws_toIntS_L) laws_toIntS_ok
theorem c_laws_toSpring : Contract Try.prog 49 laws_toSpring_S :=
  fn_sh (sg := []) Try.mixed (sgOk_look (show sgOk Try.prog [] from trivial)) Try.func49 (by kernel_rfl : Func.cmp Try.prog [] laws_toSpring_S Try.f49 laws_toSpring_hs = some laws_toSpring_L) laws_toSpring_ok
theorem c_laws_toWorkshop : Contract Try.prog 16 laws_toWorkshop_S :=
  fn_sh (sg := [(27, laws_toBench_S), (48, laws_toIntS_S), (49, laws_toSpring_S)]) Try.mixed (sgOk_look (show sgOk Try.prog [(27, laws_toBench_S), (48, laws_toIntS_S), (49, laws_toSpring_S)] from ⟨c_laws_toBench, ⟨c_laws_toIntS, ⟨c_laws_toSpring, trivial⟩⟩⟩)) Try.func16 (by kernel_rfl : Func.cmp Try.prog [(27, laws_toBench_S), (48, laws_toIntS_S), (49, laws_toSpring_S)] laws_toWorkshop_S Try.f16 laws_toWorkshop_hs = some laws_toWorkshop_L) laws_toWorkshop_ok
theorem c_spec_l06Copy : Contract Try.prog 100 spec_l06Copy_S :=
  fn_sh (sg := []) Try.mixed (sgOk_look (show sgOk Try.prog [] from trivial)) Try.func100 (by kernel_rfl : Func.cmp Try.prog [] spec_l06Copy_S Try.f100 spec_l06Copy_hs = some spec_l06Copy_L) spec_l06Copy_ok
theorem c_spec_l37Copy : Contract Try.prog 65 spec_l37Copy_S :=
  fn_sh (sg := [(100, spec_l06Copy_S)]) Try.mixed (sgOk_look (show sgOk Try.prog [(100, spec_l06Copy_S)] from ⟨c_spec_l06Copy, trivial⟩)) Try.func65 (by kernel_rfl : Func.cmp Try.prog [(100, spec_l06Copy_S)] spec_l37Copy_S Try.f65 spec_l37Copy_hs = some spec_l37Copy_L) spec_l37Copy_ok
theorem c_spec_l38Copy : Contract Try.prog 45 spec_l38Copy_S :=
  fn_sh (sg := [(65, spec_l37Copy_S)]) Try.mixed (sgOk_look (show sgOk Try.prog [(65, spec_l37Copy_S)] from ⟨c_spec_l37Copy, trivial⟩)) Try.func45 (by kernel_rfl : Func.cmp Try.prog [(65, spec_l37Copy_S)] spec_l38Copy_S Try.f45 spec_l38Copy_hs = some spec_l38Copy_L) spec_l38Copy_ok
theorem c_spec_l01In : Contract Try.prog 80 spec_l01In_S :=
  fn_sh (sg := []) Try.mixed (sgOk_look (show sgOk Try.prog [] from trivial)) Try.func80 (by kernel_rfl : Func.cmp Try.prog [] spec_l01In_S Try.f80 spec_l01In_hs = some spec_l01In_L) spec_l01In_ok
theorem c_spec_l06Less : Contract Try.prog 112 spec_l06Less_S :=
  fn_sh (sg := []) Try.mixed (sgOk_look (show sgOk Try.prog [] from trivial)) Try.func112 (by kernel_rfl : Func.cmp Try.prog [] spec_l06Less_S Try.f112 spec_l06Less_hs = some spec_l06Less_L) spec_l06Less_ok
theorem c_spec_CylinderOk : Contract Try.prog 95 spec_CylinderOk_S :=
  fn_sh (sg := [(80, spec_l01In_S), (112, spec_l06Less_S)]) Try.mixed (sgOk_look (show sgOk Try.prog [(80, spec_l01In_S), (112, spec_l06Less_S)] from ⟨c_spec_l01In, ⟨c_spec_l06Less, trivial⟩⟩)) Try.func95 (by kernel_rfl : Func.cmp Try.prog [(80, spec_l01In_S), (112, spec_l06Less_S)] spec_CylinderOk_S Try.f95 spec_CylinderOk_hs = some spec_CylinderOk_L) spec_CylinderOk_ok
theorem c_spec_BenchOk : Contract Try.prog 84 spec_BenchOk_S :=
  fn_sh (sg := [(95, spec_CylinderOk_S)]) Try.mixed (sgOk_look (show sgOk Try.prog [(95, spec_CylinderOk_S)] from ⟨c_spec_CylinderOk, trivial⟩)) Try.func84 (by kernel_rfl : Func.cmp Try.prog [(95, spec_CylinderOk_S)] spec_BenchOk_S Try.f84 spec_BenchOk_hs = some spec_BenchOk_L) spec_BenchOk_ok
theorem c_spec_CombOk : Contract Try.prog 85 spec_CombOk_S :=
  fn_sh (sg := [(80, spec_l01In_S)]) Try.mixed (sgOk_look (show sgOk Try.prog [(80, spec_l01In_S)] from ⟨c_spec_l01In, trivial⟩)) Try.func85 (by kernel_rfl : Func.cmp Try.prog [(80, spec_l01In_S)] spec_CombOk_S Try.f85 spec_CombOk_hs = some spec_CombOk_L) spec_CombOk_ok
theorem c_spec_SpringOk : Contract Try.prog 86 spec_SpringOk_S :=
  fn_sh (sg := [(80, spec_l01In_S)]) Try.mixed (sgOk_look (show sgOk Try.prog [(80, spec_l01In_S)] from ⟨c_spec_l01In, trivial⟩)) Try.func86 (by kernel_rfl : Func.cmp Try.prog [(80, spec_l01In_S)] spec_SpringOk_S Try.f86 spec_SpringOk_hs = some spec_SpringOk_L) spec_SpringOk_ok
theorem c_spec_WorkshopOk : Contract Try.prog 46 spec_WorkshopOk_S :=
  fn_sh (sg := [(84, spec_BenchOk_S), (85, spec_CombOk_S), (86, spec_SpringOk_S), (80, spec_l01In_S)]) Try.mixed (sgOk_look (show sgOk Try.prog [(84, spec_BenchOk_S), (85, spec_CombOk_S), (86, spec_SpringOk_S), (80, spec_l01In_S)] from ⟨c_spec_BenchOk, ⟨c_spec_CombOk, ⟨c_spec_SpringOk, ⟨c_spec_l01In, trivial⟩⟩⟩⟩)) Try.func46 (by kernel_rfl : Func.cmp Try.prog [(84, spec_BenchOk_S), (85, spec_CombOk_S), (86, spec_SpringOk_S), (80, spec_l01In_S)] spec_WorkshopOk_S Try.f46 spec_WorkshopOk_hs = some spec_WorkshopOk_L) spec_WorkshopOk_ok
theorem c_spec_Wind : Contract Try.prog 47 spec_Wind_S :=
  fn_sh (sg := [(86, spec_SpringOk_S), (80, spec_l01In_S)]) Try.mixed (sgOk_look (show sgOk Try.prog [(86, spec_SpringOk_S), (80, spec_l01In_S)] from ⟨c_spec_SpringOk, ⟨c_spec_l01In, trivial⟩⟩)) Try.func47 (by kernel_rfl : Func.cmp Try.prog [(86, spec_SpringOk_S), (80, spec_l01In_S)] spec_Wind_S Try.f47 spec_Wind_hs = some spec_Wind_L) spec_Wind_ok
theorem c_spec_Crank : Contract Try.prog 15 spec_Crank_S :=
  fn_sh (sg := [(45, spec_l38Copy_S), (46, spec_WorkshopOk_S), (47, spec_Wind_S)]) Try.mixed (sgOk_look (show sgOk Try.prog [(45, spec_l38Copy_S), (46, spec_WorkshopOk_S), (47, spec_Wind_S)] from ⟨c_spec_l38Copy, ⟨c_spec_WorkshopOk, ⟨c_spec_Wind, trivial⟩⟩⟩)) Try.func15 (by kernel_rfl : Func.cmp Try.prog [(45, spec_l38Copy_S), (46, spec_WorkshopOk_S), (47, spec_Wind_S)] spec_Crank_S Try.f15 spec_Crank_hs = some spec_Crank_L) spec_Crank_ok
theorem c_impl_copyPins : Contract Try.prog 106 impl_copyPins_S :=
  fn_sh (sg := []) Try.mixed (sgOk_look (show sgOk Try.prog [] from trivial)) Try.func106 (by kernel_rfl : Func.cmp Try.prog [] impl_copyPins_S Try.f106 impl_copyPins_hs = some impl_copyPins_L) impl_copyPins_ok
theorem c_impl_copyCylinder : Contract Try.prog 104 impl_copyCylinder_S :=
  fn_sh (sg := [(106, impl_copyPins_S)]) Try.mixed (sgOk_look (show sgOk Try.prog [(106, impl_copyPins_S)] from ⟨c_impl_copyPins, trivial⟩)) Try.func104 (by kernel_rfl : Func.cmp Try.prog [(106, impl_copyPins_S)] impl_copyCylinder_S Try.f104 impl_copyCylinder_hs = some impl_copyCylinder_L) impl_copyCylinder_ok
theorem c_impl_copyBench : Contract Try.prog 87 impl_copyBench_S :=
  fn_sh (sg := [(104, impl_copyCylinder_S), (106, impl_copyPins_S)]) Try.mixed (sgOk_look (show sgOk Try.prog [(104, impl_copyCylinder_S), (106, impl_copyPins_S)] from ⟨c_impl_copyCylinder, ⟨c_impl_copyPins, trivial⟩⟩)) Try.func87 (by kernel_rfl : Func.cmp Try.prog [(104, impl_copyCylinder_S), (106, impl_copyPins_S)] impl_copyBench_S Try.f87 impl_copyBench_hs = some impl_copyBench_L) impl_copyBench_ok
theorem c_impl_copyInts : Contract Try.prog 88 impl_copyInts_S :=
  fn_sh (sg := []) Try.mixed (sgOk_look (show sgOk Try.prog [] from trivial)) Try.func88 (by kernel_rfl : Func.cmp Try.prog [] impl_copyInts_S Try.f88 impl_copyInts_hs = some impl_copyInts_L) impl_copyInts_ok
theorem c_impl_copyWorkshop : Contract Try.prog 50 impl_copyWorkshop_S :=
  fn_sh (sg := [(87, impl_copyBench_S), (88, impl_copyInts_S)]) Try.mixed (sgOk_look (show sgOk Try.prog [(87, impl_copyBench_S), (88, impl_copyInts_S)] from ⟨c_impl_copyBench, ⟨c_impl_copyInts, trivial⟩⟩)) Try.func50 (by kernel_rfl : Func.cmp Try.prog [(87, impl_copyBench_S), (88, impl_copyInts_S)] impl_copyWorkshop_S Try.f50 impl_copyWorkshop_hs = some impl_copyWorkshop_L) impl_copyWorkshop_ok
theorem c_impl_within : Contract Try.prog 90 impl_within_S :=
  fn_sh (sg := []) Try.mixed (sgOk_look (show sgOk Try.prog [] from trivial)) Try.func90 (by kernel_rfl : Func.cmp Try.prog [] impl_within_S Try.f90 impl_within_hs = some impl_within_L) impl_within_ok
theorem c_impl_SpringOk : Contract Try.prog 89 impl_SpringOk_S :=
  fn_sh (sg := [(90, impl_within_S)]) Try.mixed (sgOk_look (show sgOk Try.prog [(90, impl_within_S)] from ⟨c_impl_within, trivial⟩)) Try.func89 (by kernel_rfl : Func.cmp Try.prog [(90, impl_within_S)] impl_SpringOk_S Try.f89 impl_SpringOk_hs = some impl_SpringOk_L) impl_SpringOk_ok
theorem c_impl_Wind : Contract Try.prog 51 impl_Wind_S :=
  fn_sh (sg := [(89, impl_SpringOk_S), (90, impl_within_S)]) Try.mixed (sgOk_look (show sgOk Try.prog [(89, impl_SpringOk_S), (90, impl_within_S)] from ⟨c_impl_SpringOk, ⟨c_impl_within, trivial⟩⟩)) Try.func51 (by kernel_rfl : Func.cmp Try.prog [(89, impl_SpringOk_S), (90, impl_within_S)] impl_Wind_S Try.f51 impl_Wind_hs = some impl_Wind_L) impl_Wind_ok
theorem c_impl_comparePins : Contract Try.prog 114 impl_comparePins_S :=
  fn_sh (sg := []) Try.mixed (sgOk_look (show sgOk Try.prog [] from trivial)) Try.func114 (by kernel_rfl : Func.cmp Try.prog [] impl_comparePins_S Try.f114 impl_comparePins_hs = some impl_comparePins_L) impl_comparePins_ok
theorem c_impl_CylinderOk : Contract Try.prog 97 impl_CylinderOk_S :=
  fn_sh (sg := [(90, impl_within_S), (114, impl_comparePins_S)]) Try.mixed (sgOk_look (show sgOk Try.prog [(90, impl_within_S), (114, impl_comparePins_S)] from ⟨c_impl_within, ⟨c_impl_comparePins, trivial⟩⟩)) Try.func97 (by kernel_rfl : Func.cmp Try.prog [(90, impl_within_S), (114, impl_comparePins_S)] impl_CylinderOk_S Try.f97 impl_CylinderOk_hs = some impl_CylinderOk_L) impl_CylinderOk_ok
theorem c_impl_BenchOk : Contract Try.prog 91 impl_BenchOk_S :=
  fn_sh (sg := [(97, impl_CylinderOk_S)]) Try.mixed (sgOk_look (show sgOk Try.prog [(97, impl_CylinderOk_S)] from ⟨c_impl_CylinderOk, trivial⟩)) Try.func91 (by kernel_rfl : Func.cmp Try.prog [(97, impl_CylinderOk_S)] impl_BenchOk_S Try.f91 impl_BenchOk_hs = some impl_BenchOk_L) impl_BenchOk_ok
theorem c_impl_CombOk : Contract Try.prog 92 impl_CombOk_S :=
  fn_sh (sg := [(90, impl_within_S)]) Try.mixed (sgOk_look (show sgOk Try.prog [(90, impl_within_S)] from ⟨c_impl_within, trivial⟩)) Try.func92 (by kernel_rfl : Func.cmp Try.prog [(90, impl_within_S)] impl_CombOk_S Try.f92 impl_CombOk_hs = some impl_CombOk_L) impl_CombOk_ok
theorem c_impl_WorkshopOk : Contract Try.prog 52 impl_WorkshopOk_S :=
  fn_sh (sg := [(91, impl_BenchOk_S), (92, impl_CombOk_S), (89, impl_SpringOk_S), (90, impl_within_S)]) Try.mixed (sgOk_look (show sgOk Try.prog [(91, impl_BenchOk_S), (92, impl_CombOk_S), (89, impl_SpringOk_S), (90, impl_within_S)] from ⟨c_impl_BenchOk, ⟨c_impl_CombOk, ⟨c_impl_SpringOk, ⟨c_impl_within, trivial⟩⟩⟩⟩)) Try.func52 (by kernel_rfl : Func.cmp Try.prog [(91, impl_BenchOk_S), (92, impl_CombOk_S), (89, impl_SpringOk_S), (90, impl_within_S)] impl_WorkshopOk_S Try.f52 impl_WorkshopOk_hs = some impl_WorkshopOk_L) impl_WorkshopOk_ok
theorem c_impl_Crank : Contract Try.prog 17 impl_Crank_S :=
  fn_sh (sg := [(50, impl_copyWorkshop_S), (51, impl_Wind_S), (52, impl_WorkshopOk_S)]) Try.mixed (sgOk_look (show sgOk Try.prog [(50, impl_copyWorkshop_S), (51, impl_Wind_S), (52, impl_WorkshopOk_S)] from ⟨c_impl_copyWorkshop, ⟨c_impl_Wind, ⟨c_impl_WorkshopOk, trivial⟩⟩⟩)) Try.func17 (by kernel_rfl : Func.cmp Try.prog [(50, impl_copyWorkshop_S), (51, impl_Wind_S), (52, impl_WorkshopOk_S)] impl_Crank_S Try.f17 impl_Crank_hs = some impl_Crank_L) impl_Crank_ok
theorem c_laws_eqPin : Contract Try.prog 117 laws_eqPin_S :=
  fn_sh (sg := []) Try.mixed (sgOk_look (show sgOk Try.prog [] from trivial)) Try.func117 (by kernel_rfl : Func.cmp Try.prog [] laws_eqPin_S Try.f117 laws_eqPin_hs = some laws_eqPin_L) laws_eqPin_ok
theorem c_laws_eqPinS : Contract Try.prog 107 laws_eqPinS_S :=
  fn_sh (sg := [(117, laws_eqPin_S)]) Try.mixed (sgOk_look (show sgOk Try.prog [(117, laws_eqPin_S)] from ⟨c_laws_eqPin, trivial⟩)) Try.func107 (by kernel_rfl : Func.cmp Try.prog [(117, laws_eqPin_S)] laws_eqPinS_S Try.f107 laws_eqPinS_hs = some laws_eqPinS_L) laws_eqPinS_ok
theorem c_laws_eqCylinder : Contract Try.prog 71 laws_eqCylinder_S :=
  fn_sh (sg := [(107, laws_eqPinS_S)]) Try.mixed (sgOk_look (show sgOk Try.prog [(107, laws_eqPinS_S)] from ⟨c_laws_eqPinS, trivial⟩)) Try.func71 (by kernel_rfl : Func.cmp Try.prog [(107, laws_eqPinS_S)] laws_eqCylinder_S Try.f71 laws_eqCylinder_hs = some laws_eqCylinder_L) laws_eqCylinder_ok
theorem c_laws_eqPinSS : Contract Try.prog 72 laws_eqPinSS_S :=
  fn_sh (sg := [(107, laws_eqPinS_S)]) Try.mixed (sgOk_look (show sgOk Try.prog [(107, laws_eqPinS_S)] from ⟨c_laws_eqPinS, trivial⟩)) Try.func72 (by kernel_rfl : Func.cmp Try.prog [(107, laws_eqPinS_S)] laws_eqPinSS_S Try.f72 laws_eqPinSS_hs = some laws_eqPinSS_L) laws_eqPinSS_ok
theorem c_laws_eqBench : Contract Try.prog 30 laws_eqBench_S :=
  fn_sh (sg := [(71, laws_eqCylinder_S), (72, laws_eqPinSS_S)]) Try.mixed (sgOk_look (show sgOk Try.prog [(71, laws_eqCylinder_S), (72, laws_eqPinSS_S)] from ⟨c_laws_eqCylinder, ⟨c_laws_eqPinSS, trivial⟩⟩)) Try.func30 (by kernel_rfl : Func.cmp Try.prog [(71, laws_eqCylinder_S), (72, laws_eqPinSS_S)] laws_eqBench_S Try.f30 laws_eqBench_hs = some laws_eqBench_L) laws_eqBench_ok
theorem c_laws_eqIntS : Contract Try.prog 53 laws_eqIntS_S :=
  fn_sh (sg := []) Try.mixed (sgOk_look (show sgOk Try.prog [] from trivial)) Try.func53 (by kernel_rfl : Func.cmp Try.prog [] laws_eqIntS_S Try.f53 laws_eqIntS_hs = some laws_eqIntS_L) laws_eqIntS_ok
theorem c_laws_eqSpring : Contract Try.prog 54 laws_eqSpring_S :=
  fn_sh (sg := []) Try.mixed (sgOk_look (show sgOk Try.prog [] from trivial)) Try.func54 (by kernel_rfl : Func.cmp Try.prog [] laws_eqSpring_S Try.f54 laws_eqSpring_hs = some laws_eqSpring_L) laws_eqSpring_ok
theorem c_laws_eqWorkshop : Contract Try.prog 18 laws_eqWorkshop_S :=
  fn_sh (sg := [(30, laws_eqBench_S), (53, laws_eqIntS_S), (54, laws_eqSpring_S)]) Try.mixed (sgOk_look (show sgOk Try.prog [(30, laws_eqBench_S), (53, laws_eqIntS_S), (54, laws_eqSpring_S)] from ⟨c_laws_eqBench, ⟨c_laws_eqIntS, ⟨c_laws_eqSpring, trivial⟩⟩⟩)) Try.func18 (by kernel_rfl : Func.cmp Try.prog [(30, laws_eqBench_S), (53, laws_eqIntS_S), (54, laws_eqSpring_S)] laws_eqWorkshop_S Try.f18 laws_eqWorkshop_hs = some laws_eqWorkshop_L) laws_eqWorkshop_ok
theorem c_laws_markPinS : Contract Try.prog 108 laws_markPinS_S :=
  fn_sh (sg := []) Try.mixed (sgOk_look (show sgOk Try.prog [] from trivial)) Try.func108 (by kernel_rfl : Func.cmp Try.prog [] laws_markPinS_S Try.f108 laws_markPinS_hs = some laws_markPinS_L) laws_markPinS_ok
theorem c_laws_markCylinder : Contract Try.prog 73 laws_markCylinder_S :=
  fn_sh (sg := [(108, laws_markPinS_S)]) Try.mixed (sgOk_look (show sgOk Try.prog [(108, laws_markPinS_S)] from ⟨c_laws_markPinS, trivial⟩)) Try.func73 (by kernel_rfl : Func.cmp Try.prog [(108, laws_markPinS_S)] laws_markCylinder_S Try.f73 laws_markCylinder_hs = some laws_markCylinder_L) laws_markCylinder_ok
theorem c_laws_markPinSS : Contract Try.prog 74 laws_markPinSS_S :=
  fn_sh (sg := [(108, laws_markPinS_S)]) Try.mixed (sgOk_look (show sgOk Try.prog [(108, laws_markPinS_S)] from ⟨c_laws_markPinS, trivial⟩)) Try.func74 (by kernel_rfl : Func.cmp Try.prog [(108, laws_markPinS_S)] laws_markPinSS_S Try.f74 laws_markPinSS_hs = some laws_markPinSS_L) laws_markPinSS_ok
theorem c_laws_markBench : Contract Try.prog 31 laws_markBench_S :=
  fn_sh (sg := [(73, laws_markCylinder_S), (74, laws_markPinSS_S)]) Try.mixed (sgOk_look (show sgOk Try.prog [(73, laws_markCylinder_S), (74, laws_markPinSS_S)] from ⟨c_laws_markCylinder, ⟨c_laws_markPinSS, trivial⟩⟩)) Try.func31 (by kernel_rfl : Func.cmp Try.prog [(73, laws_markCylinder_S), (74, laws_markPinSS_S)] laws_markBench_S Try.f31 laws_markBench_hs = some laws_markBench_L) laws_markBench_ok
theorem c_laws_markIntS : Contract Try.prog 55 laws_markIntS_S :=
  fn_sh (sg := []) Try.mixed (sgOk_look (show sgOk Try.prog [] from trivial)) Try.func55 (by kernel_rfl : Func.cmp Try.prog [] laws_markIntS_S Try.f55 laws_markIntS_hs = some laws_markIntS_L) laws_markIntS_ok
theorem c_laws_markWorkshop : Contract Try.prog 19 laws_markWorkshop_S :=
  fn_sh (sg := [(31, laws_markBench_S), (55, laws_markIntS_S)]) Try.mixed (sgOk_look (show sgOk Try.prog [(31, laws_markBench_S), (55, laws_markIntS_S)] from ⟨c_laws_markBench, ⟨c_laws_markIntS, trivial⟩⟩)) Try.func19 (by kernel_rfl : Func.cmp Try.prog [(31, laws_markBench_S), (55, laws_markIntS_S)] laws_markWorkshop_S Try.f19 laws_markWorkshop_hs = some laws_markWorkshop_L) laws_markWorkshop_ok
theorem c_laws_heldPinS : Contract Try.prog 109 laws_heldPinS_S :=
  fn_sh (sg := []) Try.mixed (sgOk_look (show sgOk Try.prog [] from trivial)) Try.func109 (by kernel_rfl : Func.cmp Try.prog [] laws_heldPinS_S Try.f109 laws_heldPinS_hs = some laws_heldPinS_L) laws_heldPinS_ok
theorem c_laws_heldCylinder : Contract Try.prog 75 laws_heldCylinder_S :=
  fn_sh (sg := [(109, laws_heldPinS_S)]) Try.mixed (sgOk_look (show sgOk Try.prog [(109, laws_heldPinS_S)] from ⟨c_laws_heldPinS, trivial⟩)) Try.func75 (by kernel_rfl : Func.cmp Try.prog [(109, laws_heldPinS_S)] laws_heldCylinder_S Try.f75 laws_heldCylinder_hs = some laws_heldCylinder_L) laws_heldCylinder_ok
theorem c_laws_heldPinSS : Contract Try.prog 76 laws_heldPinSS_S :=
  fn_sh (sg := [(109, laws_heldPinS_S)]) Try.mixed (sgOk_look (show sgOk Try.prog [(109, laws_heldPinS_S)] from ⟨c_laws_heldPinS, trivial⟩)) Try.func76 (by kernel_rfl : Func.cmp Try.prog [(109, laws_heldPinS_S)] laws_heldPinSS_S Try.f76 laws_heldPinSS_hs = some laws_heldPinSS_L) laws_heldPinSS_ok
theorem c_laws_heldBench : Contract Try.prog 32 laws_heldBench_S :=
  fn_sh (sg := [(75, laws_heldCylinder_S), (76, laws_heldPinSS_S)]) Try.mixed (sgOk_look (show sgOk Try.prog [(75, laws_heldCylinder_S), (76, laws_heldPinSS_S)] from ⟨c_laws_heldCylinder, ⟨c_laws_heldPinSS, trivial⟩⟩)) Try.func32 (by kernel_rfl : Func.cmp Try.prog [(75, laws_heldCylinder_S), (76, laws_heldPinSS_S)] laws_heldBench_S Try.f32 laws_heldBench_hs = some laws_heldBench_L) laws_heldBench_ok
theorem c_laws_heldIntS : Contract Try.prog 56 laws_heldIntS_S :=
  fn_sh (sg := []) Try.mixed (sgOk_look (show sgOk Try.prog [] from trivial)) Try.func56 (by kernel_rfl : Func.cmp Try.prog [] laws_heldIntS_S Try.f56 laws_heldIntS_hs = some laws_heldIntS_L) laws_heldIntS_ok
theorem c_laws_heldWorkshop : Contract Try.prog 20 laws_heldWorkshop_S :=
  fn_sh (sg := [(32, laws_heldBench_S), (56, laws_heldIntS_S)]) Try.mixed (sgOk_look (show sgOk Try.prog [(32, laws_heldBench_S), (56, laws_heldIntS_S)] from ⟨c_laws_heldBench, ⟨c_laws_heldIntS, trivial⟩⟩)) Try.func20 (by kernel_rfl : Func.cmp Try.prog [(32, laws_heldBench_S), (56, laws_heldIntS_S)] laws_heldWorkshop_S Try.f20 laws_heldWorkshop_hs = some laws_heldWorkshop_L) laws_heldWorkshop_ok
theorem c_laws_FnExactCrank : Contract Try.prog 4 laws_FnExactCrank_S :=
  fn_sh (sg := [(14, laws_szWorkshop_S), (16, laws_toWorkshop_S), (15, spec_Crank_S), (17, impl_Crank_S), (18, laws_eqWorkshop_S), (19, laws_markWorkshop_S), (20, laws_heldWorkshop_S)]) Try.mixed (sgOk_look (show sgOk Try.prog [(14, laws_szWorkshop_S), (16, laws_toWorkshop_S), (15, spec_Crank_S), (17, impl_Crank_S), (18, laws_eqWorkshop_S), (19, laws_markWorkshop_S), (20, laws_heldWorkshop_S)] from ⟨c_laws_szWorkshop, ⟨c_laws_toWorkshop, ⟨c_spec_Crank, ⟨c_impl_Crank, ⟨c_laws_eqWorkshop, ⟨c_laws_markWorkshop, ⟨c_laws_heldWorkshop, trivial⟩⟩⟩⟩⟩⟩⟩)) Try.func4 (by kernel_rfl : Func.cmp Try.prog [(14, laws_szWorkshop_S), (16, laws_toWorkshop_S), (15, spec_Crank_S), (17, impl_Crank_S), (18, laws_eqWorkshop_S), (19, laws_markWorkshop_S), (20, laws_heldWorkshop_S)] laws_FnExactCrank_S Try.f4 laws_FnExactCrank_hs = some laws_FnExactCrank_L) laws_FnExactCrank_ok
theorem c_spec_PullPin : Contract Try.prog 93 spec_PullPin_S :=
  fn_sh (sg := [(100, spec_l06Copy_S), (95, spec_CylinderOk_S), (80, spec_l01In_S)]) Try.mixed (sgOk_look (show sgOk Try.prog [(100, spec_l06Copy_S), (95, spec_CylinderOk_S), (80, spec_l01In_S)] from ⟨c_spec_l06Copy, ⟨c_spec_CylinderOk, ⟨c_spec_l01In, trivial⟩⟩⟩)) Try.func93 (by kernel_rfl : Func.cmp Try.prog [(100, spec_l06Copy_S), (95, spec_CylinderOk_S), (80, spec_l01In_S)] spec_PullPin_S Try.f93 spec_PullPin_hs = some spec_PullPin_L) spec_PullPin_ok
theorem c_spec_l37Step : Contract Try.prog 66 spec_l37Step_S :=
  fn_sh (sg := [(65, spec_l37Copy_S), (84, spec_BenchOk_S)]) Try.mixed (sgOk_look (show sgOk Try.prog [(65, spec_l37Copy_S), (84, spec_BenchOk_S)] from ⟨c_spec_l37Copy, ⟨c_spec_BenchOk, trivial⟩⟩)) Try.func66 (by kernel_rfl : Func.cmp Try.prog [(65, spec_l37Copy_S), (84, spec_BenchOk_S)] spec_l37Step_S Try.f66 spec_l37Step_hs = some spec_l37Step_L) spec_l37Step_ok
theorem c_spec_TakePin : Contract Try.prog 57 spec_TakePin_S :=
  fn_sh (sg := [(93, spec_PullPin_S), (65, spec_l37Copy_S), (66, spec_l37Step_S)]) Try.mixed (sgOk_look (show sgOk Try.prog [(93, spec_PullPin_S), (65, spec_l37Copy_S), (66, spec_l37Step_S)] from ⟨c_spec_PullPin, ⟨c_spec_l37Copy, ⟨c_spec_l37Step, trivial⟩⟩⟩)) Try.func57 (by kernel_rfl : Func.cmp Try.prog [(93, spec_PullPin_S), (65, spec_l37Copy_S), (66, spec_l37Step_S)] spec_TakePin_S Try.f57 spec_TakePin_hs = some spec_TakePin_L) spec_TakePin_ok
theorem c_spec_RemovePin : Contract Try.prog 21 spec_RemovePin_S :=
  fn_sh (sg := [(45, spec_l38Copy_S), (57, spec_TakePin_S), (46, spec_WorkshopOk_S)]) Try.mixed (sgOk_look (show sgOk Try.prog [(45, spec_l38Copy_S), (57, spec_TakePin_S), (46, spec_WorkshopOk_S)] from ⟨c_spec_l38Copy, ⟨c_spec_TakePin, ⟨c_spec_WorkshopOk, trivial⟩⟩⟩)) Try.func21 (by kernel_rfl : Func.cmp Try.prog [(45, spec_l38Copy_S), (57, spec_TakePin_S), (46, spec_WorkshopOk_S)] spec_RemovePin_S Try.f21 spec_RemovePin_hs = some spec_RemovePin_L) spec_RemovePin_ok
theorem c_impl_PullPin : Contract Try.prog 94 impl_PullPin_S :=
  fn_sh (sg := [(104, impl_copyCylinder_S), (97, impl_CylinderOk_S), (106, impl_copyPins_S)]) Try.mixed (sgOk_look (show sgOk Try.prog [(104, impl_copyCylinder_S), (97, impl_CylinderOk_S), (106, impl_copyPins_S)] from ⟨c_impl_copyCylinder, ⟨c_impl_CylinderOk, ⟨c_impl_copyPins, trivial⟩⟩⟩)) Try.func94 (by kernel_rfl : Func.cmp Try.prog [(104, impl_copyCylinder_S), (97, impl_CylinderOk_S), (106, impl_copyPins_S)] impl_PullPin_S Try.f94 impl_PullPin_hs = some impl_PullPin_L) impl_PullPin_ok
theorem c_impl_replaced : Contract Try.prog 70 impl_replaced_S :=
  fn_sh (sg := [(87, impl_copyBench_S), (106, impl_copyPins_S), (91, impl_BenchOk_S)]) Try.mixed (sgOk_look (show sgOk Try.prog [(87, impl_copyBench_S), (106, impl_copyPins_S), (91, impl_BenchOk_S)] from ⟨c_impl_copyBench, ⟨c_impl_copyPins, ⟨c_impl_BenchOk, trivial⟩⟩⟩)) Try.func70 (by kernel_rfl : Func.cmp Try.prog [(87, impl_copyBench_S), (106, impl_copyPins_S), (91, impl_BenchOk_S)] impl_replaced_S Try.f70 impl_replaced_hs = some impl_replaced_L) impl_replaced_ok
theorem c_impl_TakePin : Contract Try.prog 58 impl_TakePin_S :=
  fn_sh (sg := [(94, impl_PullPin_S), (70, impl_replaced_S)]) Try.mixed (sgOk_look (show sgOk Try.prog [(94, impl_PullPin_S), (70, impl_replaced_S)] from ⟨c_impl_PullPin, ⟨c_impl_replaced, trivial⟩⟩)) Try.func58 (by kernel_rfl : Func.cmp Try.prog [(94, impl_PullPin_S), (70, impl_replaced_S)] impl_TakePin_S Try.f58 impl_TakePin_hs = some impl_TakePin_L) impl_TakePin_ok
theorem c_impl_withBench : Contract Try.prog 59 impl_withBench_S :=
  fn_sh (sg := [(50, impl_copyWorkshop_S), (52, impl_WorkshopOk_S)]) Try.mixed (sgOk_look (show sgOk Try.prog [(50, impl_copyWorkshop_S), (52, impl_WorkshopOk_S)] from ⟨c_impl_copyWorkshop, ⟨c_impl_WorkshopOk, trivial⟩⟩)) Try.func59 (by kernel_rfl : Func.cmp Try.prog [(50, impl_copyWorkshop_S), (52, impl_WorkshopOk_S)] impl_withBench_S Try.f59 impl_withBench_hs = some impl_withBench_L) impl_withBench_ok
theorem c_impl_RemovePin : Contract Try.prog 22 impl_RemovePin_S :=
  fn_sh (sg := [(58, impl_TakePin_S), (59, impl_withBench_S)]) Try.mixed (sgOk_look (show sgOk Try.prog [(58, impl_TakePin_S), (59, impl_withBench_S)] from ⟨c_impl_TakePin, ⟨c_impl_withBench, trivial⟩⟩)) Try.func22 (by kernel_rfl : Func.cmp Try.prog [(58, impl_TakePin_S), (59, impl_withBench_S)] impl_RemovePin_S Try.f22 impl_RemovePin_hs = some impl_RemovePin_L) impl_RemovePin_ok
theorem c_laws_FnExactRemovePin : Contract Try.prog 5 laws_FnExactRemovePin_S :=
  fn_sh (sg := [(14, laws_szWorkshop_S), (16, laws_toWorkshop_S), (21, spec_RemovePin_S), (22, impl_RemovePin_S), (18, laws_eqWorkshop_S), (19, laws_markWorkshop_S), (20, laws_heldWorkshop_S)]) Try.mixed (sgOk_look (show sgOk Try.prog [(14, laws_szWorkshop_S), (16, laws_toWorkshop_S), (21, spec_RemovePin_S), (22, impl_RemovePin_S), (18, laws_eqWorkshop_S), (19, laws_markWorkshop_S), (20, laws_heldWorkshop_S)] from ⟨c_laws_szWorkshop, ⟨c_laws_toWorkshop, ⟨c_spec_RemovePin, ⟨c_impl_RemovePin, ⟨c_laws_eqWorkshop, ⟨c_laws_markWorkshop, ⟨c_laws_heldWorkshop, trivial⟩⟩⟩⟩⟩⟩⟩)) Try.func5 (by kernel_rfl : Func.cmp Try.prog [(14, laws_szWorkshop_S), (16, laws_toWorkshop_S), (21, spec_RemovePin_S), (22, impl_RemovePin_S), (18, laws_eqWorkshop_S), (19, laws_markWorkshop_S), (20, laws_heldWorkshop_S)] laws_FnExactRemovePin_S Try.f5 laws_FnExactRemovePin_hs = some laws_FnExactRemovePin_L) laws_FnExactRemovePin_ok
theorem c_spec_GapAround : Contract Try.prog 113 spec_GapAround_S :=
  fn_sh (sg := [(80, spec_l01In_S)]) Try.mixed (sgOk_look (show sgOk Try.prog [(80, spec_l01In_S)] from ⟨c_spec_l01In, trivial⟩)) Try.func113 (by kernel_rfl : Func.cmp Try.prog [(80, spec_l01In_S)] spec_GapAround_S Try.f113 spec_GapAround_hs = some spec_GapAround_L) spec_GapAround_ok
theorem c_spec_TooClose : Contract Try.prog 96 spec_TooClose_S :=
  fn_sh (sg := [(95, spec_CylinderOk_S), (80, spec_l01In_S), (113, spec_GapAround_S)]) Try.mixed (sgOk_look (show sgOk Try.prog [(95, spec_CylinderOk_S), (80, spec_l01In_S), (113, spec_GapAround_S)] from ⟨c_spec_CylinderOk, ⟨c_spec_l01In, ⟨c_spec_GapAround, trivial⟩⟩⟩)) Try.func96 (by kernel_rfl : Func.cmp Try.prog [(95, spec_CylinderOk_S), (80, spec_l01In_S), (113, spec_GapAround_S)] spec_TooClose_S Try.f96 spec_TooClose_hs = some spec_TooClose_L) spec_TooClose_ok
theorem c_spec_IsPlayable : Contract Try.prog 60 spec_IsPlayable_S :=
  fn_sh (sg := [(95, spec_CylinderOk_S), (80, spec_l01In_S), (96, spec_TooClose_S)]) Try.mixed (sgOk_look (show sgOk Try.prog [(95, spec_CylinderOk_S), (80, spec_l01In_S), (96, spec_TooClose_S)] from ⟨c_spec_CylinderOk, ⟨c_spec_l01In, ⟨c_spec_TooClose, trivial⟩⟩⟩)) Try.func60 (by kernel_rfl : Func.cmp Try.prog [(95, spec_CylinderOk_S), (80, spec_l01In_S), (96, spec_TooClose_S)] spec_IsPlayable_S Try.f60 spec_IsPlayable_hs = some spec_IsPlayable_L) spec_IsPlayable_ok
theorem c_spec_PlayOnce : Contract Try.prog 23 spec_PlayOnce_S :=
  fn_sh (sg := [(45, spec_l38Copy_S), (46, spec_WorkshopOk_S), (60, spec_IsPlayable_S)]) Try.mixed (sgOk_look (show sgOk Try.prog [(45, spec_l38Copy_S), (46, spec_WorkshopOk_S), (60, spec_IsPlayable_S)] from ⟨c_spec_l38Copy, ⟨c_spec_WorkshopOk, ⟨c_spec_IsPlayable, trivial⟩⟩⟩)) Try.func23 (by kernel_rfl : Func.cmp Try.prog [(45, spec_l38Copy_S), (46, spec_WorkshopOk_S), (60, spec_IsPlayable_S)] spec_PlayOnce_S Try.f23 spec_PlayOnce_hs = some spec_PlayOnce_L) spec_PlayOnce_ok
theorem c_impl_magnitude : Contract Try.prog 122 impl_magnitude_S :=
  fn_sh (sg := []) Try.mixed (sgOk_look (show sgOk Try.prog [] from trivial)) Try.func122 (by kernel_rfl : Func.cmp Try.prog [] impl_magnitude_S Try.f122 impl_magnitude_hs = some impl_magnitude_L) impl_magnitude_ok
theorem c_impl_GapAround : Contract Try.prog 115 impl_GapAround_S :=
  fn_sh (sg := [(90, impl_within_S), (122, impl_magnitude_S)]) Try.mixed (sgOk_look (show sgOk Try.prog [(90, impl_within_S), (122, impl_magnitude_S)] from ⟨c_impl_within, ⟨c_impl_magnitude, trivial⟩⟩)) Try.func115 (by kernel_rfl : Func.cmp Try.prog [(90, impl_within_S), (122, impl_magnitude_S)] impl_GapAround_S Try.f115 impl_GapAround_hs = some impl_GapAround_L) impl_GapAround_ok
theorem c_impl_TooClose : Contract Try.prog 98 impl_TooClose_S :=
  fn_sh (sg := [(97, impl_CylinderOk_S), (90, impl_within_S), (115, impl_GapAround_S)]) Try.mixed (sgOk_look (show sgOk Try.prog [(97, impl_CylinderOk_S), (90, impl_within_S), (115, impl_GapAround_S)] from ⟨c_impl_CylinderOk, ⟨c_impl_within, ⟨c_impl_GapAround, trivial⟩⟩⟩)) Try.func98 (by kernel_rfl : Func.cmp Try.prog [(97, impl_CylinderOk_S), (90, impl_within_S), (115, impl_GapAround_S)] impl_TooClose_S Try.f98 impl_TooClose_hs = some impl_TooClose_L) impl_TooClose_ok
theorem c_impl_IsPlayable : Contract Try.prog 61 impl_IsPlayable_S :=
  fn_sh (sg := [(97, impl_CylinderOk_S), (90, impl_within_S), (98, impl_TooClose_S)]) Try.mixed (sgOk_look (show sgOk Try.prog [(97, impl_CylinderOk_S), (90, impl_within_S), (98, impl_TooClose_S)] from ⟨c_impl_CylinderOk, ⟨c_impl_within, ⟨c_impl_TooClose, trivial⟩⟩⟩)) Try.func61 (by kernel_rfl : Func.cmp Try.prog [(97, impl_CylinderOk_S), (90, impl_within_S), (98, impl_TooClose_S)] impl_IsPlayable_S Try.f61 impl_IsPlayable_hs = some impl_IsPlayable_L) impl_IsPlayable_ok
theorem c_impl_PlayOnce : Contract Try.prog 24 impl_PlayOnce_S :=
  fn_sh (sg := [(50, impl_copyWorkshop_S), (52, impl_WorkshopOk_S), (61, impl_IsPlayable_S)]) Try.mixed (sgOk_look (show sgOk Try.prog [(50, impl_copyWorkshop_S), (52, impl_WorkshopOk_S), (61, impl_IsPlayable_S)] from ⟨c_impl_copyWorkshop, ⟨c_impl_WorkshopOk, ⟨c_impl_IsPlayable, trivial⟩⟩⟩)) Try.func24 (by kernel_rfl : Func.cmp Try.prog [(50, impl_copyWorkshop_S), (52, impl_WorkshopOk_S), (61, impl_IsPlayable_S)] impl_PlayOnce_S Try.f24 impl_PlayOnce_hs = some impl_PlayOnce_L) impl_PlayOnce_ok
theorem c_laws_FnExactPlayOnce : Contract Try.prog 6 laws_FnExactPlayOnce_S :=
  fn_sh (sg := [(14, laws_szWorkshop_S), (16, laws_toWorkshop_S), (23, spec_PlayOnce_S), (24, impl_PlayOnce_S), (18, laws_eqWorkshop_S), (19, laws_markWorkshop_S), (20, laws_heldWorkshop_S)]) Try.mixed (sgOk_look (show sgOk Try.prog [(14, laws_szWorkshop_S), (16, laws_toWorkshop_S), (23, spec_PlayOnce_S), (24, impl_PlayOnce_S), (18, laws_eqWorkshop_S), (19, laws_markWorkshop_S), (20, laws_heldWorkshop_S)] from ⟨c_laws_szWorkshop, ⟨c_laws_toWorkshop, ⟨c_spec_PlayOnce, ⟨c_impl_PlayOnce, ⟨c_laws_eqWorkshop, ⟨c_laws_markWorkshop, ⟨c_laws_heldWorkshop, trivial⟩⟩⟩⟩⟩⟩⟩)) Try.func6 (by kernel_rfl : Func.cmp Try.prog [(14, laws_szWorkshop_S), (16, laws_toWorkshop_S), (23, spec_PlayOnce_S), (24, impl_PlayOnce_S), (18, laws_eqWorkshop_S), (19, laws_markWorkshop_S), (20, laws_heldWorkshop_S)] laws_FnExactPlayOnce_S Try.f6 laws_FnExactPlayOnce_hs = some laws_FnExactPlayOnce_L) laws_FnExactPlayOnce_ok

end Go.Proofs.Ytgnfdkcaaloijaa
