/- The contracts of the functions that the laws FnExactChangedPins, FnExactWorkshopOk, FnExactOpenWorkshop, FnExactSampleWorkshop reach: each keeps what its pure function says, wherever that function says something. -/
import Derived.Test.YtbpghjdibloppabRows
import Derived.Test.YtbpghjdibloppabPl5
import Derived.ProofKit
namespace Go.Proofs.Ytbpghjdibloppab
open Go.ChangeShapes Go.WideShapes Go.ChangeAt Go.RowKit Go.Mw

theorem Try.own : ownKnob Try.prog.godebug = none := by kernel_rfl
theorem Try.laidOut : laidOutB Try.prog = true := by kernel_rfl
theorem Try.mixed : Try.prog.follows .mixedOrders = true := by kernel_rfl
theorem c_laws_szPinS : Contract Try.prog 67 laws_szPinS_S :=
  fn_sh (sg := []) Try.mixed (sgOk_look (show sgOk Try.prog [] from trivial)) Try.func67 (by kernel_rfl : Func.cmp Try.prog [] laws_szPinS_S Try.f67 laws_szPinS_hs = some laws_szPinS_L) laws_szPinS_ok
theorem c_laws_szCylinder : Contract Try.prog 34 laws_szCylinder_S :=
  fn_sh (sg := [(67, laws_szPinS_S)]) Try.mixed (sgOk_look (show sgOk Try.prog [(67, laws_szPinS_S)] from ⟨c_laws_szPinS, trivial⟩)) Try.func34 (by kernel_rfl : Func.cmp Try.prog [(67, laws_szPinS_S)] laws_szCylinder_S Try.f34 laws_szCylinder_hs = some laws_szCylinder_L) laws_szCylinder_ok
theorem c_laws_szPinSS : Contract Try.prog 35 laws_szPinSS_S :=
  fn_sh (sg := [(67, laws_szPinS_S)]) Try.mixed (sgOk_look (show sgOk Try.prog [(67, laws_szPinS_S)] from ⟨c_laws_szPinS, trivial⟩)) Try.func35 (by kernel_rfl : Func.cmp Try.prog [(67, laws_szPinS_S)] laws_szPinSS_S Try.f35 laws_szPinSS_hs = some laws_szPinSS_L) laws_szPinSS_ok
theorem c_laws_szBench : Contract Try.prog 9 laws_szBench_S :=
  fn_sh (sg := [(34, laws_szCylinder_S), (35, laws_szPinSS_S)]) Try.mixed (sgOk_look (show sgOk Try.prog [(34, laws_szCylinder_S), (35, laws_szPinSS_S)] from ⟨c_laws_szCylinder, ⟨c_laws_szPinSS, trivial⟩⟩)) Try.func9 (by kernel_rfl : Func.cmp Try.prog [(34, laws_szCylinder_S), (35, laws_szPinSS_S)] laws_szBench_S Try.f9 laws_szBench_hs = some laws_szBench_L) laws_szBench_ok
theorem c_laws_toPin : Contract Try.prog 78 laws_toPin_S :=
  fn_sh (sg := []) Try.mixed (sgOk_look (show sgOk Try.prog [] from trivial)) Try.func78 (by kernel_rfl : Func.cmp Try.prog [] laws_toPin_S Try.f78 laws_toPin_hs = some laws_toPin_L) laws_toPin_ok
theorem c_laws_toPinS : Contract Try.prog 69 laws_toPinS_S :=
  fn_sh (sg := [(78, laws_toPin_S)]) Try.mixed (sgOk_look (show sgOk Try.prog [(78, laws_toPin_S)] from ⟨c_laws_toPin, trivial⟩)) Try.func69 (by kernel_rfl : Func.cmp Try.prog [(78, laws_toPin_S)] laws_toPinS_S Try.f69 laws_toPinS_hs = some laws_toPinS_L) laws_toPinS_ok
theorem c_laws_toCylinder : Contract Try.prog 38 laws_toCylinder_S :=
  fn_sh (sg := [(69, laws_toPinS_S)]) Try.mixed (sgOk_look (show sgOk Try.prog [(69, laws_toPinS_S)] from ⟨c_laws_toPinS, trivial⟩)) Try.func38 (by kernel_rfl : Func.cmp Try.prog [(69, laws_toPinS_S)] laws_toCylinder_S Try.f38 laws_toCylinder_hs = some laws_toCylinder_L) laws_toCylinder_ok
theorem c_laws_toPinSS : Contract Try.prog 39 laws_toPinSS_S :=
  fn_sh (sg := [(69, laws_toPinS_S)]) Try.mixed (sgOk_look (show sgOk Try.prog [(69, laws_toPinS_S)] from ⟨c_laws_toPinS, trivial⟩)) Try.func39 (by kernel_rfl : Func.cmp Try.prog [(69, laws_toPinS_S)] laws_toPinSS_S Try.f39 laws_toPinSS_hs = some laws_toPinSS_L) laws_toPinSS_ok
theorem c_laws_toBench : Contract Try.prog 11 laws_toBench_S :=
  fn_sh (sg := [(38, laws_toCylinder_S), (39, laws_toPinSS_S)]) Try.mixed (sgOk_look (show sgOk Try.prog [(38, laws_toCylinder_S), (39, laws_toPinSS_S)] from ⟨c_laws_toCylinder, ⟨c_laws_toPinSS, trivial⟩⟩)) Try.func11 (by kernel_rfl : Func.cmp Try.prog [(38, laws_toCylinder_S), (39, laws_toPinSS_S)] laws_toBench_S Try.f11 laws_toBench_hs = some laws_toBench_L) laws_toBench_ok
theorem c_spec_l01In : Contract Try.prog 53 spec_l01In_S :=
  fn_sh (sg := []) Try.mixed (sgOk_look (show sgOk Try.prog [] from trivial)) Try.func53 (by kernel_rfl : Func.cmp Try.prog [] spec_l01In_S Try.f53 spec_l01In_hs = some spec_l01In_L) spec_l01In_ok
theorem c_spec_l06Less : Contract Try.prog 77 spec_l06Less_S :=
  fn_sh (sg := []) Try.mixed (sgOk_look (show sgOk Try.prog [] from trivial)) Try.func77 (by kernel_rfl : Func.cmp Try.prog [] spec_l06Less_S Try.f77 spec_l06Less_hs = some spec_l06Less_L) spec_l06Less_ok
theorem c_spec_CylinderOk : Contract Try.prog 68 spec_CylinderOk_S :=
  fn_sh (sg := [(53, spec_l01In_S), (77, spec_l06Less_S)]) Try.mixed (sgOk_look (show sgOk Try.prog [(53, spec_l01In_S), (77, spec_l06Less_S)] from ⟨c_spec_l01In, ⟨c_spec_l06Less, trivial⟩⟩)) Try.func68 (by kernel_rfl : Func.cmp Try.prog [(53, spec_l01In_S), (77, spec_l06Less_S)] spec_CylinderOk_S Try.f68 spec_CylinderOk_hs = some spec_CylinderOk_L) spec_CylinderOk_ok
theorem c_spec_BenchOk : Contract Try.prog 36 spec_BenchOk_S :=
  fn_sh (sg := [(68, spec_CylinderOk_S)]) Try.mixed (sgOk_look (show sgOk Try.prog [(68, spec_CylinderOk_S)] from ⟨c_spec_CylinderOk, trivial⟩)) Try.func36 (by kernel_rfl : Func.cmp Try.prog [(68, spec_CylinderOk_S)] spec_BenchOk_S Try.f36 spec_BenchOk_hs = some spec_BenchOk_L) spec_BenchOk_ok
theorem c_spec_l37Missing : Contract Try.prog 37 spec_l37Missing_S :=
  fn_sh (sg := []) Try.mixed (sgOk_look (show sgOk Try.prog [] from trivial)) Try.func37 (by kernel_rfl : Func.cmp Try.prog [] spec_l37Missing_S Try.f37 spec_l37Missing_hs = some spec_l37Missing_L) spec_l37Missing_ok
theorem c_spec_ChangedPins : Contract Try.prog 10 spec_ChangedPins_S :=
  fn_sh (sg := [(36, spec_BenchOk_S), (37, spec_l37Missing_S)]) Try.mixed (sgOk_look (show sgOk Try.prog [(36, spec_BenchOk_S), (37, spec_l37Missing_S)] from ⟨c_spec_BenchOk, ⟨c_spec_l37Missing, trivial⟩⟩)) Try.func10 (by kernel_rfl : Func.cmp Try.prog [(36, spec_BenchOk_S), (37, spec_l37Missing_S)] spec_ChangedPins_S Try.f10 spec_ChangedPins_hs = some spec_ChangedPins_L) spec_ChangedPins_ok
theorem c_impl_within : Contract Try.prog 57 impl_within_S :=
  fn_sh (sg := []) Try.mixed (sgOk_look (show sgOk Try.prog [] from trivial)) Try.func57 (by kernel_rfl : Func.cmp Try.prog [] impl_within_S Try.f57 impl_within_hs = some impl_within_L) impl_within_ok
theorem c_impl_comparePins : Contract Try.prog 79 impl_comparePins_S :=
  fn_sh (sg := []) Try.mixed (sgOk_look (show sgOk Try.prog [] from trivial)) Try.func79 (by kernel_rfl : Func.cmp Try.prog [] impl_comparePins_S Try.f79 impl_comparePins_hs = some impl_comparePins_L) impl_comparePins_ok
theorem c_impl_CylinderOk : Contract Try.prog 70 impl_CylinderOk_S :=
  fn_sh (sg := [(57, impl_within_S), (79, impl_comparePins_S)]) Try.mixed (sgOk_look (show sgOk Try.prog [(57, impl_within_S), (79, impl_comparePins_S)] from ⟨c_impl_within, ⟨c_impl_comparePins, trivial⟩⟩)) Try.func70 (by kernel_rfl : Func.cmp Try.prog [(57, impl_within_S), (79, impl_comparePins_S)] impl_CylinderOk_S Try.f70 impl_CylinderOk_hs = some impl_CylinderOk_L) impl_CylinderOk_ok
theorem c_impl_BenchOk : Contract Try.prog 40 impl_BenchOk_S :=
  fn_sh (sg := [(70, impl_CylinderOk_S)]) Try.mixed (sgOk_look (show sgOk Try.prog [(70, impl_CylinderOk_S)] from ⟨c_impl_CylinderOk, trivial⟩)) Try.func40 (by kernel_rfl : Func.cmp Try.prog [(70, impl_CylinderOk_S)] impl_BenchOk_S Try.f40 impl_BenchOk_hs = some impl_BenchOk_L) impl_BenchOk_ok
theorem c_impl_hasPin : Contract Try.prog 41 impl_hasPin_S :=
  fn_sh (sg := []) Try.mixed (sgOk_look (show sgOk Try.prog [] from trivial)) Try.func41 (by kernel_rfl : Func.cmp Try.prog [] impl_hasPin_S Try.f41 impl_hasPin_hs = some impl_hasPin_L) impl_hasPin_ok
theorem c_impl_ChangedPins : Contract Try.prog 12 impl_ChangedPins_S :=
  fn_sh (sg := [(40, impl_BenchOk_S), (41, impl_hasPin_S)]) Try.mixed (sgOk_look (show sgOk Try.prog [(40, impl_BenchOk_S), (41, impl_hasPin_S)] from ⟨c_impl_BenchOk, ⟨c_impl_hasPin, trivial⟩⟩)) Try.func12 (by kernel_rfl : Func.cmp Try.prog [(40, impl_BenchOk_S), (41, impl_hasPin_S)] impl_ChangedPins_S Try.f12 impl_ChangedPins_hs = some impl_ChangedPins_L) impl_ChangedPins_ok
theorem c_laws_eqPin : Contract Try.prog 80 laws_eqPin_S :=
  fn_sh (sg := []) Try.mixed (sgOk_look (show sgOk Try.prog [] from trivial)) Try.func80 (by kernel_rfl : Func.cmp Try.prog [] laws_eqPin_S Try.f80 laws_eqPin_hs = some laws_eqPin_L) laws_eqPin_ok
theorem c_laws_eqPinS : Contract Try.prog 71 laws_eqPinS_S :=
  fn_sh (sg := [(80, laws_eqPin_S)]) Try.mixed (sgOk_look (show sgOk Try.prog [(80, laws_eqPin_S)] from ⟨c_laws_eqPin, trivial⟩)) Try.func71 (by kernel_rfl : Func.cmp Try.prog [(80, laws_eqPin_S)] laws_eqPinS_S Try.f71 laws_eqPinS_hs = some laws_eqPinS_L) laws_eqPinS_ok
theorem c_laws_eqCylinder : Contract Try.prog 42 laws_eqCylinder_S :=
  fn_sh (sg := [(71, laws_eqPinS_S)]) Try.mixed (sgOk_look (show sgOk Try.prog [(71, laws_eqPinS_S)] from ⟨c_laws_eqPinS, trivial⟩)) Try.func42 (by kernel_rfl : Func.cmp Try.prog [(71, laws_eqPinS_S)] laws_eqCylinder_S Try.f42 laws_eqCylinder_hs = some laws_eqCylinder_L) laws_eqCylinder_ok
theorem c_laws_eqPinSS : Contract Try.prog 43 laws_eqPinSS_S :=
  fn_sh (sg := [(71, laws_eqPinS_S)]) Try.mixed (sgOk_look (show sgOk Try.prog [(71, laws_eqPinS_S)] from ⟨c_laws_eqPinS, trivial⟩)) Try.func43 (by kernel_rfl : Func.cmp Try.prog [(71, laws_eqPinS_S)] laws_eqPinSS_S Try.f43 laws_eqPinSS_hs = some laws_eqPinSS_L) laws_eqPinSS_ok
theorem c_laws_eqBench : Contract Try.prog 13 laws_eqBench_S :=
  fn_sh (sg := [(42, laws_eqCylinder_S), (43, laws_eqPinSS_S)]) Try.mixed (sgOk_look (show sgOk Try.prog [(42, laws_eqCylinder_S), (43, laws_eqPinSS_S)] from ⟨c_laws_eqCylinder, ⟨c_laws_eqPinSS, trivial⟩⟩)) Try.func13 (by kernel_rfl : Func.cmp Try.prog [(42, laws_eqCylinder_S), (43, laws_eqPinSS_S)] laws_eqBench_S Try.f13 laws_eqBench_hs = some laws_eqBench_L) laws_eqBench_ok
theorem c_laws_FnExactChangedPins : Contract Try.prog 3 laws_FnExactChangedPins_S :=
  fn_sh (sg := [(9, laws_szBench_S), (11, laws_toBench_S), (10, spec_ChangedPins_S), (12, impl_ChangedPins_S), (13, laws_eqBench_S)]) Try.mixed (sgOk_look (show sgOk Try.prog [(9, laws_szBench_S), (11, laws_toBench_S), (10, spec_ChangedPins_S), (12, impl_ChangedPins_S), (13, laws_eqBench_S)] from ⟨c_laws_szBench, ⟨c_laws_toBench, ⟨c_spec_ChangedPins, ⟨c_impl_ChangedPins, ⟨c_laws_eqBench, trivial⟩⟩⟩⟩⟩)) Try.func3 (by kernel_rfl : Func.cmp Try.prog [(9, laws_szBench_S), (11, laws_toBench_S), (10, spec_ChangedPins_S), (12, impl_ChangedPins_S), (13, laws_eqBench_S)] laws_FnExactChangedPins_S Try.f3 laws_FnExactChangedPins_hs = some laws_FnExactChangedPins_L) laws_FnExactChangedPins_ok
theorem c_laws_szIntS : Contract Try.prog 50 laws_szIntS_S :=
  fn_sh (sg := []) Try.mixed (sgOk_look (show sgOk Try.prog [] from trivial)) Try.func50 (by kernel_rfl : Func.cmp Try.prog [] laws_szIntS_S Try.f50 laws_szIntS_hs = some laws_szIntS_L) laws_szIntS_ok
theorem c_laws_szWorkshop : Contract Try.prog 18 laws_szWorkshop_S :=
  fn_sh (sg := [(9, laws_szBench_S), (50, laws_szIntS_S)]) Try.mixed (sgOk_look (show sgOk Try.prog [(9, laws_szBench_S), (50, laws_szIntS_S)] from ⟨c_laws_szBench, ⟨c_laws_szIntS, trivial⟩⟩)) Try.func18 (by kernel_rfl : Func.cmp Try.prog [(9, laws_szBench_S), (50, laws_szIntS_S)] laws_szWorkshop_S Try.f18 laws_szWorkshop_hs = some laws_szWorkshop_L) laws_szWorkshop_ok
theorem c_laws_toIntS : Contract Try.prog 26 laws_toIntS_S :=
  fn_sh (sg := []) Try.mixed (sgOk_look (show sgOk Try.prog [] from trivial)) Try.func26 (by kernel_rfl : Func.cmp Try.prog [] laws_toIntS_S Try.f26 laws_toIntS_hs = some laws_toIntS_L) laws_toIntS_ok
theorem c_laws_toSpring : Contract Try.prog 54 laws_toSpring_S :=
  fn_sh (sg := []) Try.mixed (sgOk_look (show sgOk Try.prog [] from trivial)) Try.func54 (by kernel_rfl : Func.cmp Try.prog [] laws_toSpring_S Try.f54 laws_toSpring_hs = some laws_toSpring_L) laws_toSpring_ok
theorem c_laws_toWorkshop : Contract Try.prog 20 laws_toWorkshop_S :=
  fn_sh (sg := [(11, laws_toBench_S), (26, laws_toIntS_S), (54, laws_toSpring_S)]) Try.mixed (sgOk_look (show sgOk Try.prog [(11, laws_toBench_S), (26, laws_toIntS_S), (54, laws_toSpring_S)] from ⟨c_laws_toBench, ⟨c_laws_toIntS, ⟨c_laws_toSpring, trivial⟩⟩⟩)) Try.func20 (by kernel_rfl : Func.cmp Try.prog [(11, laws_toBench_S), (26, laws_toIntS_S), (54, laws_toSpring_S)] laws_toWorkshop_S Try.f20 laws_toWorkshop_hs = some laws_toWorkshop_L) laws_toWorkshop_ok
theorem c_spec_CombOk : Contract Try.prog 51 spec_CombOk_S :=
  fn_sh (sg := [(53, spec_l01In_S)]) Try.mixed (sgOk_look (show sgOk Try.prog [(53, spec_l01In_S)] from ⟨c_spec_l01In, trivial⟩)) Try.func51 (by kernel_rfl : Func.cmp Try.prog [(53, spec_l01In_S)] spec_CombOk_S Try.f51 spec_CombOk_hs = some spec_CombOk_L) spec_CombOk_ok
theorem c_spec_SpringOk : Contract Try.prog 52 spec_SpringOk_S :=
  fn_sh (sg := [(53, spec_l01In_S)]) Try.mixed (sgOk_look (show sgOk Try.prog [(53, spec_l01In_S)] from ⟨c_spec_l01In, trivial⟩)) Try.func52 (by kernel_rfl : Func.cmp Try.prog [(53, spec_l01In_S)] spec_SpringOk_S Try.f52 spec_SpringOk_hs = some spec_SpringOk_L) spec_SpringOk_ok
theorem c_spec_WorkshopOk : Contract Try.prog 19 spec_WorkshopOk_S :=
  fn_sh (sg := [(36, spec_BenchOk_S), (51, spec_CombOk_S), (52, spec_SpringOk_S), (53, spec_l01In_S)]) Try.mixed (sgOk_look (show sgOk Try.prog [(36, spec_BenchOk_S), (51, spec_CombOk_S), (52, spec_SpringOk_S), (53, spec_l01In_S)] from ⟨c_spec_BenchOk, ⟨c_spec_CombOk, ⟨c_spec_SpringOk, ⟨c_spec_l01In, trivial⟩⟩⟩⟩)) Try.func19 (by kernel_rfl : Func.cmp Try.prog [(36, spec_BenchOk_S), (51, spec_CombOk_S), (52, spec_SpringOk_S), (53, spec_l01In_S)] spec_WorkshopOk_S Try.f19 spec_WorkshopOk_hs = some spec_WorkshopOk_L) spec_WorkshopOk_ok
theorem c_impl_CombOk : Contract Try.prog 55 impl_CombOk_S :=
  fn_sh (sg := [(57, impl_within_S)]) Try.mixed (sgOk_look (show sgOk Try.prog [(57, impl_within_S)] from ⟨c_impl_within, trivial⟩)) Try.func55 (by kernel_rfl : Func.cmp Try.prog [(57, impl_within_S)] impl_CombOk_S Try.f55 impl_CombOk_hs = some impl_CombOk_L) impl_CombOk_ok
theorem c_impl_SpringOk : Contract Try.prog 56 impl_SpringOk_S :=
  fn_sh (sg := [(57, impl_within_S)]) Try.mixed (sgOk_look (show sgOk Try.prog [(57, impl_within_S)] from ⟨c_impl_within, trivial⟩)) Try.func56 (by kernel_rfl : Func.cmp Try.prog [(57, impl_within_S)] impl_SpringOk_S Try.f56 impl_SpringOk_hs = some impl_SpringOk_L) impl_SpringOk_ok
theorem c_impl_WorkshopOk : Contract Try.prog 21 impl_WorkshopOk_S :=
  fn_sh (sg := [(40, impl_BenchOk_S), (55, impl_CombOk_S), (56, impl_SpringOk_S), (57, impl_within_S)]) Try.mixed (sgOk_look (show sgOk Try.prog [(40, impl_BenchOk_S), (55, impl_CombOk_S), (56, impl_SpringOk_S), (57, impl_within_S)] from ⟨c_impl_BenchOk, ⟨c_impl_CombOk, ⟨c_impl_SpringOk, ⟨c_impl_within, trivial⟩⟩⟩⟩)) Try.func21 (by kernel_rfl : Func.cmp Try.prog [(40, impl_BenchOk_S), (55, impl_CombOk_S), (56, impl_SpringOk_S), (57, impl_within_S)] impl_WorkshopOk_S Try.f21 impl_WorkshopOk_hs = some impl_WorkshopOk_L) impl_WorkshopOk_ok
theorem c_laws_eqIntS : Contract Try.prog 28 laws_eqIntS_S :=
  fn_sh (sg := []) Try.mixed (sgOk_look (show sgOk Try.prog [] from trivial)) Try.func28 (by kernel_rfl : Func.cmp Try.prog [] laws_eqIntS_S Try.f28 laws_eqIntS_hs = some laws_eqIntS_L) laws_eqIntS_ok
theorem c_laws_eqSpring : Contract Try.prog 58 laws_eqSpring_S :=
  fn_sh (sg := []) Try.mixed (sgOk_look (show sgOk Try.prog [] from trivial)) Try.func58 (by kernel_rfl : Func.cmp Try.prog [] laws_eqSpring_S Try.f58 laws_eqSpring_hs = some laws_eqSpring_L) laws_eqSpring_ok
theorem c_laws_eqWorkshop : Contract Try.prog 22 laws_eqWorkshop_S :=
  fn_sh (sg := [(13, laws_eqBench_S), (28, laws_eqIntS_S), (58, laws_eqSpring_S)]) Try.mixed (sgOk_look (show sgOk Try.prog [(13, laws_eqBench_S), (28, laws_eqIntS_S), (58, laws_eqSpring_S)] from ⟨c_laws_eqBench, ⟨c_laws_eqIntS, ⟨c_laws_eqSpring, trivial⟩⟩⟩)) Try.func22 (by kernel_rfl : Func.cmp Try.prog [(13, laws_eqBench_S), (28, laws_eqIntS_S), (58, laws_eqSpring_S)] laws_eqWorkshop_S Try.f22 laws_eqWorkshop_hs = some laws_eqWorkshop_L) laws_eqWorkshop_ok
theorem c_laws_FnExactWorkshopOk : Contract Try.prog 5 laws_FnExactWorkshopOk_S :=
  fn_sh (sg := [(18, laws_szWorkshop_S), (20, laws_toWorkshop_S), (19, spec_WorkshopOk_S), (21, impl_WorkshopOk_S), (22, laws_eqWorkshop_S)]) Try.mixed (sgOk_look (show sgOk Try.prog [(18, laws_szWorkshop_S), (20, laws_toWorkshop_S), (19, spec_WorkshopOk_S), (21, impl_WorkshopOk_S), (22, laws_eqWorkshop_S)] from ⟨c_laws_szWorkshop, ⟨c_laws_toWorkshop, ⟨c_spec_WorkshopOk, ⟨c_impl_WorkshopOk, ⟨c_laws_eqWorkshop, trivial⟩⟩⟩⟩⟩)) Try.func5 (by kernel_rfl : Func.cmp Try.prog [(18, laws_szWorkshop_S), (20, laws_toWorkshop_S), (19, spec_WorkshopOk_S), (21, impl_WorkshopOk_S), (22, laws_eqWorkshop_S)] laws_FnExactWorkshopOk_S Try.f5 laws_FnExactWorkshopOk_hs = some laws_FnExactWorkshopOk_L) laws_FnExactWorkshopOk_ok
theorem c_spec_NewBench : Contract Try.prog 63 spec_NewBench_S :=
  fn_sh (sg := [(36, spec_BenchOk_S)]) Try.mixed (sgOk_look (show sgOk Try.prog [(36, spec_BenchOk_S)] from ⟨c_spec_BenchOk, trivial⟩)) Try.func63 (by kernel_rfl : Func.cmp Try.prog [(36, spec_BenchOk_S)] spec_NewBench_S Try.f63 spec_NewBench_hs = some spec_NewBench_L) spec_NewBench_ok
theorem c_spec_OpenWorkshop : Contract Try.prog 25 spec_OpenWorkshop_S :=
  fn_sh (sg := [(63, spec_NewBench_S), (19, spec_WorkshopOk_S)]) Try.mixed (sgOk_look (show sgOk Try.prog [(63, spec_NewBench_S), (19, spec_WorkshopOk_S)] from ⟨c_spec_NewBench, ⟨c_spec_WorkshopOk, trivial⟩⟩)) Try.func25 (by kernel_rfl : Func.cmp Try.prog [(63, spec_NewBench_S), (19, spec_WorkshopOk_S)] spec_OpenWorkshop_S Try.f25 spec_OpenWorkshop_hs = some spec_OpenWorkshop_L) spec_OpenWorkshop_ok
theorem c_impl_NewBench : Contract Try.prog 64 impl_NewBench_S :=
  fn_sh (sg := [(40, impl_BenchOk_S)]) Try.mixed (sgOk_look (show sgOk Try.prog [(40, impl_BenchOk_S)] from ⟨c_impl_BenchOk, trivial⟩)) Try.func64 (by kernel_rfl : Func.cmp Try.prog [(40, impl_BenchOk_S)] impl_NewBench_S Try.f64 impl_NewBench_hs = some impl_NewBench_L) impl_NewBench_ok
theorem c_impl_copyInts : Contract Try.prog 65 impl_copyInts_S :=
  fn_sh (sg := []) Try.mixed (sgOk_look (show sgOk Try.prog [] from trivial)) Try.func65 (by kernel_rfl : Func.cmp Try.prog [] impl_copyInts_S Try.f65 impl_copyInts_hs = some impl_copyInts_L) impl_copyInts_ok
theorem c_impl_OpenWorkshop : Contract Try.prog 27 impl_OpenWorkshop_S :=
  fn_sh (sg := [(64, impl_NewBench_S), (65, impl_copyInts_S), (21, impl_WorkshopOk_S)]) Try.mixed (sgOk_look (show sgOk Try.prog [(64, impl_NewBench_S), (65, impl_copyInts_S), (21, impl_WorkshopOk_S)] from ⟨c_impl_NewBench, ⟨c_impl_copyInts, ⟨c_impl_WorkshopOk, trivial⟩⟩⟩)) Try.func27 (by kernel_rfl : Func.cmp Try.prog [(64, impl_NewBench_S), (65, impl_copyInts_S), (21, impl_WorkshopOk_S)] impl_OpenWorkshop_S Try.f27 impl_OpenWorkshop_hs = some impl_OpenWorkshop_L) impl_OpenWorkshop_ok
theorem c_laws_markIntS : Contract Try.prog 29 laws_markIntS_S :=
  fn_sh (sg := []) Try.mixed (sgOk_look (show sgOk Try.prog [] from trivial)) Try.func29 (by kernel_rfl : Func.cmp Try.prog [] laws_markIntS_S Try.f29 laws_markIntS_hs = some laws_markIntS_L) laws_markIntS_ok
theorem c_laws_markPinS : Contract Try.prog 75 laws_markPinS_S :=
  fn_sh (sg := []) Try.mixed (sgOk_look (show sgOk Try.prog [] from trivial)) Try.func75 (by kernel_rfl : Func.cmp Try.prog [] laws_markPinS_S Try.f75 laws_markPinS_hs = some laws_markPinS_L) laws_markPinS_ok
theorem c_laws_markCylinder : Contract Try.prog 46 laws_markCylinder_S :=
  fn_sh (sg := [(75, laws_markPinS_S)]) Try.mixed (sgOk_look (show sgOk Try.prog [(75, laws_markPinS_S)] from ⟨c_laws_markPinS, trivial⟩)) Try.func46 (by kernel_rfl : Func.cmp Try.prog [(75, laws_markPinS_S)] laws_markCylinder_S Try.f46 laws_markCylinder_hs = some laws_markCylinder_L) laws_markCylinder_ok
theorem c_laws_markPinSS : Contract Try.prog 47 laws_markPinSS_S :=
  fn_sh (sg := [(75, laws_markPinS_S)]) Try.mixed (sgOk_look (show sgOk Try.prog [(75, laws_markPinS_S)] from ⟨c_laws_markPinS, trivial⟩)) Try.func47 (by kernel_rfl : Func.cmp Try.prog [(75, laws_markPinS_S)] laws_markPinSS_S Try.f47 laws_markPinSS_hs = some laws_markPinSS_L) laws_markPinSS_ok
theorem c_laws_markBench : Contract Try.prog 16 laws_markBench_S :=
  fn_sh (sg := [(46, laws_markCylinder_S), (47, laws_markPinSS_S)]) Try.mixed (sgOk_look (show sgOk Try.prog [(46, laws_markCylinder_S), (47, laws_markPinSS_S)] from ⟨c_laws_markCylinder, ⟨c_laws_markPinSS, trivial⟩⟩)) Try.func16 (by kernel_rfl : Func.cmp Try.prog [(46, laws_markCylinder_S), (47, laws_markPinSS_S)] laws_markBench_S Try.f16 laws_markBench_hs = some laws_markBench_L) laws_markBench_ok
theorem c_laws_markWorkshop : Contract Try.prog 30 laws_markWorkshop_S :=
  fn_sh (sg := [(16, laws_markBench_S), (29, laws_markIntS_S)]) Try.mixed (sgOk_look (show sgOk Try.prog [(16, laws_markBench_S), (29, laws_markIntS_S)] from ⟨c_laws_markBench, ⟨c_laws_markIntS, trivial⟩⟩)) Try.func30 (by kernel_rfl : Func.cmp Try.prog [(16, laws_markBench_S), (29, laws_markIntS_S)] laws_markWorkshop_S Try.f30 laws_markWorkshop_hs = some laws_markWorkshop_L) laws_markWorkshop_ok
theorem c_laws_heldPinS : Contract Try.prog 76 laws_heldPinS_S :=
  fn_sh (sg := []) Try.mixed (sgOk_look (show sgOk Try.prog [] from trivial)) Try.func76 (by kernel_rfl : Func.cmp Try.prog [] laws_heldPinS_S Try.f76 laws_heldPinS_hs = some laws_heldPinS_L) laws_heldPinS_ok
theorem c_laws_heldCylinder : Contract Try.prog 48 laws_heldCylinder_S :=
  fn_sh (sg := [(76, laws_heldPinS_S)]) Try.mixed (sgOk_look (show sgOk Try.prog [(76, laws_heldPinS_S)] from ⟨c_laws_heldPinS, trivial⟩)) Try.func48 (by kernel_rfl : Func.cmp Try.prog [(76, laws_heldPinS_S)] laws_heldCylinder_S Try.f48 laws_heldCylinder_hs = some laws_heldCylinder_L) laws_heldCylinder_ok
theorem c_laws_heldPinSS : Contract Try.prog 49 laws_heldPinSS_S :=
  fn_sh (sg := [(76, laws_heldPinS_S)]) Try.mixed (sgOk_look (show sgOk Try.prog [(76, laws_heldPinS_S)] from ⟨c_laws_heldPinS, trivial⟩)) Try.func49 (by kernel_rfl : Func.cmp Try.prog [(76, laws_heldPinS_S)] laws_heldPinSS_S Try.f49 laws_heldPinSS_hs = some laws_heldPinSS_L) laws_heldPinSS_ok
theorem c_laws_heldBench : Contract Try.prog 17 laws_heldBench_S :=
  fn_sh (sg := [(48, laws_heldCylinder_S), (49, laws_heldPinSS_S)]) Try.mixed (sgOk_look (show sgOk Try.prog [(48, laws_heldCylinder_S), (49, laws_heldPinSS_S)] from ⟨c_laws_heldCylinder, ⟨c_laws_heldPinSS, trivial⟩⟩)) Try.func17 (by kernel_rfl : Func.cmp Try.prog [(48, laws_heldCylinder_S), (49, laws_heldPinSS_S)] laws_heldBench_S Try.f17 laws_heldBench_hs = some laws_heldBench_L) laws_heldBench_ok
theorem c_laws_heldIntS : Contract Try.prog 66 laws_heldIntS_S :=
  fn_sh (sg := []) Try.mixed (sgOk_look (show sgOk Try.prog [] from trivial)) Try.func66 (by kernel_rfl : Func.cmp Try.prog [] laws_heldIntS_S Try.f66 laws_heldIntS_hs = some laws_heldIntS_L) laws_heldIntS_ok
theorem c_laws_heldWorkshop : Contract Try.prog 31 laws_heldWorkshop_S :=
  fn_sh (sg := [(17, laws_heldBench_S), (66, laws_heldIntS_S)]) Try.mixed (sgOk_look (show sgOk Try.prog [(17, laws_heldBench_S), (66, laws_heldIntS_S)] from ⟨c_laws_heldBench, ⟨c_laws_heldIntS, trivial⟩⟩)) Try.func31 (by kernel_rfl : Func.cmp Try.prog [(17, laws_heldBench_S), (66, laws_heldIntS_S)] laws_heldWorkshop_S Try.f31 laws_heldWorkshop_hs = some laws_heldWorkshop_L) laws_heldWorkshop_ok
theorem c_laws_FnExactOpenWorkshop : Contract Try.prog 7 laws_FnExactOpenWorkshop_S :=
  fn_sh (sg := [(26, laws_toIntS_S), (25, spec_OpenWorkshop_S), (27, impl_OpenWorkshop_S), (22, laws_eqWorkshop_S), (28, laws_eqIntS_S), (29, laws_markIntS_S), (30, laws_markWorkshop_S), (31, laws_heldWorkshop_S)]) Try.mixed (sgOk_look (show sgOk Try.prog [(26, laws_toIntS_S), (25, spec_OpenWorkshop_S), (27, impl_OpenWorkshop_S), (22, laws_eqWorkshop_S), (28, laws_eqIntS_S), (29, laws_markIntS_S), (30, laws_markWorkshop_S), (31, laws_heldWorkshop_S)] from ⟨c_laws_toIntS, ⟨c_spec_OpenWorkshop, ⟨c_impl_OpenWorkshop, ⟨c_laws_eqWorkshop, ⟨c_laws_eqIntS, ⟨c_laws_markIntS, ⟨c_laws_markWorkshop, ⟨c_laws_heldWorkshop, trivial⟩⟩⟩⟩⟩⟩⟩⟩)) Try.func7 (by kernel_rfl : Func.cmp Try.prog [(26, laws_toIntS_S), (25, spec_OpenWorkshop_S), (27, impl_OpenWorkshop_S), (22, laws_eqWorkshop_S), (28, laws_eqIntS_S), (29, laws_markIntS_S), (30, laws_markWorkshop_S), (31, laws_heldWorkshop_S)] laws_FnExactOpenWorkshop_S Try.f7 laws_FnExactOpenWorkshop_hs = some laws_FnExactOpenWorkshop_L) laws_FnExactOpenWorkshop_ok
theorem c_spec_SampleWorkshop : Contract Try.prog 32 spec_SampleWorkshop_S :=
  fn_sh (sg := [(25, spec_OpenWorkshop_S)]) Try.mixed (sgOk_look (show sgOk Try.prog [(25, spec_OpenWorkshop_S)] from ⟨c_spec_OpenWorkshop, trivial⟩)) Try.func32 (by kernel_rfl : Func.cmp Try.prog [(25, spec_OpenWorkshop_S)] spec_SampleWorkshop_S Try.f32 spec_SampleWorkshop_hs = some spec_SampleWorkshop_L) spec_SampleWorkshop_ok
theorem c_impl_SampleWorkshop : Contract Try.prog 33 impl_SampleWorkshop_S :=
  fn_sh (sg := [(27, impl_OpenWorkshop_S)]) Try.mixed (sgOk_look (show sgOk Try.prog [(27, impl_OpenWorkshop_S)] from ⟨c_impl_OpenWorkshop, trivial⟩)) Try.func33 (by kernel_rfl : Func.cmp Try.prog [(27, impl_OpenWorkshop_S)] impl_SampleWorkshop_S Try.f33 impl_SampleWorkshop_hs = some impl_SampleWorkshop_L) impl_SampleWorkshop_ok
theorem c_laws_FnExactSampleWorkshop : Contract Try.prog 8 laws_FnExactSampleWorkshop_S :=
  fn_sh (sg := [(32, spec_SampleWorkshop_S), (33, impl_SampleWorkshop_S), (22, laws_eqWorkshop_S), (30, laws_markWorkshop_S), (31, laws_heldWorkshop_S)]) Try.mixed (sgOk_look (show sgOk Try.prog [(32, spec_SampleWorkshop_S), (33, impl_SampleWorkshop_S), (22, laws_eqWorkshop_S), (30, laws_markWorkshop_S), (31, laws_heldWorkshop_S)] from ⟨c_spec_SampleWorkshop, ⟨c_impl_SampleWorkshop, ⟨c_laws_eqWorkshop, ⟨c_laws_markWorkshop, ⟨c_laws_heldWorkshop, trivial⟩⟩⟩⟩⟩)) Try.func8 (by kernel_rfl : Func.cmp Try.prog [(32, spec_SampleWorkshop_S), (33, impl_SampleWorkshop_S), (22, laws_eqWorkshop_S), (30, laws_markWorkshop_S), (31, laws_heldWorkshop_S)] laws_FnExactSampleWorkshop_S Try.f8 laws_FnExactSampleWorkshop_hs = some laws_FnExactSampleWorkshop_L) laws_FnExactSampleWorkshop_ok

end Go.Proofs.Ytbpghjdibloppab
