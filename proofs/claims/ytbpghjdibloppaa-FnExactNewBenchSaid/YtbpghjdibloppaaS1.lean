/- The contracts of the functions that the laws FnExactBenchOk, FnExactNewBench reach: each keeps what its pure function says, wherever that function says something. -/
import Derived.Test.YtbpghjdibloppaaRows
import Derived.Test.YtbpghjdibloppaaPl5
import Derived.ProofKit
namespace Go.Proofs.Ytbpghjdibloppaa
open Go.ChangeShapes Go.WideShapes Go.ChangeAt Go.RowKit Go.Mw

theorem Try.own : ownKnob Try.prog.godebug = none := by kernel_rfl
theorem Try.laidOut : laidOutB Try.prog = true := by kernel_rfl
theorem Try.mixed : Try.prog.follows .mixedOrders = true := by kernel_rfl
theorem c_laws_szPinS : Contract Try.prog 84 laws_szPinS_S :=
  fn_sh (sg := []) Try.mixed (sgOk_look (show sgOk Try.prog [] from trivial)) Try.func84 (by kernel_rfl : Func.cmp Try.prog [] laws_szPinS_S Try.f84 laws_szPinS_hs = some laws_szPinS_L) laws_szPinS_ok
theorem c_laws_szCylinder : Contract Try.prog 65 laws_szCylinder_S :=
  fn_sh (sg := [(84, laws_szPinS_S)]) Try.mixed (sgOk_look (show sgOk Try.prog [(84, laws_szPinS_S)] from ⟨c_laws_szPinS, trivial⟩)) Try.func65 (by kernel_rfl : Func.cmp Try.prog [(84, laws_szPinS_S)] laws_szCylinder_S Try.f65 laws_szCylinder_hs = some laws_szCylinder_L) laws_szCylinder_ok
theorem c_laws_szPinSS : Contract Try.prog 66 laws_szPinSS_S :=
  fn_sh (sg := [(84, laws_szPinS_S)]) Try.mixed (sgOk_look (show sgOk Try.prog [(84, laws_szPinS_S)] from ⟨c_laws_szPinS, trivial⟩)) Try.func66 (by kernel_rfl : Func.cmp Try.prog [(84, laws_szPinS_S)] laws_szPinSS_S Try.f66 laws_szPinSS_hs = some laws_szPinSS_L) laws_szPinSS_ok
theorem c_laws_szBench : Contract Try.prog 31 laws_szBench_S :=
  fn_sh (sg := [(65, laws_szCylinder_S), (66, laws_szPinSS_S)]) Try.mixed (sgOk_look (show sgOk Try.prog [(65, laws_szCylinder_S), (66, laws_szPinSS_S)] from ⟨c_laws_szCylinder, ⟨c_laws_szPinSS, trivial⟩⟩)) Try.func31 (by kernel_rfl : Func.cmp Try.prog [(65, laws_szCylinder_S), (66, laws_szPinSS_S)] laws_szBench_S Try.f31 laws_szBench_hs = some laws_szBench_L) laws_szBench_ok
theorem c_laws_toPin : Contract Try.prog 93 laws_toPin_S :=
  fn_sh (sg := []) Try.mixed (sgOk_look (show sgOk Try.prog [] from trivial)) Try.func93 (by kernel_rfl : Func.cmp Try.prog [] laws_toPin_S Try.f93 laws_toPin_hs = some laws_toPin_L) laws_toPin_ok
theorem c_laws_toPinS : Contract Try.prog 86 laws_toPinS_S :=
  fn_sh (sg := [(93, laws_toPin_S)]) Try.mixed (sgOk_look (show sgOk Try.prog [(93, laws_toPin_S)] from ⟨c_laws_toPin, trivial⟩)) Try.func86 (by kernel_rfl : Func.cmp Try.prog [(93, laws_toPin_S)] laws_toPinS_S Try.f86 laws_toPinS_hs = some laws_toPinS_L) laws_toPinS_ok
theorem c_laws_toCylinder : Contract Try.prog 68 laws_toCylinder_S :=
  fn_sh (sg := [(86, laws_toPinS_S)]) Try.mixed (sgOk_look (show sgOk Try.prog [(86, laws_toPinS_S)] from ⟨c_laws_toPinS, trivial⟩)) Try.func68 (by kernel_rfl : Func.cmp Try.prog [(86, laws_toPinS_S)] laws_toCylinder_S Try.f68 laws_toCylinder_hs = some laws_toCylinder_L) laws_toCylinder_ok
theorem c_laws_toPinSS : Contract Try.prog 69 laws_toPinSS_S :=
  fn_sh (sg := [(86, laws_toPinS_S)]) Try.mixed (sgOk_look (show sgOk Try.prog [(86, laws_toPinS_S)] from ⟨c_laws_toPinS, trivial⟩)) Try.func69 (by kernel_rfl : Func.cmp Try.prog [(86, laws_toPinS_S)] laws_toPinSS_S Try.f69 laws_toPinSS_hs = some laws_toPinSS_L) laws_toPinSS_ok
theorem c_laws_toBench : Contract Try.prog 33 laws_toBench_S :=
  fn_sh (sg := [(68, laws_toCylinder_S), (69, laws_toPinSS_S)]) Try.mixed (sgOk_look (show sgOk Try.prog [(68, laws_toCylinder_S), (69, laws_toPinSS_S)] from ⟨c_laws_toCylinder, ⟨c_laws_toPinSS, trivial⟩⟩)) Try.func33 (by kernel_rfl : Func.cmp Try.prog [(68, laws_toCylinder_S), (69, laws_toPinSS_S)] laws_toBench_S Try.f33 laws_toBench_hs = some laws_toBench_L) laws_toBench_ok
theorem c_spec_l01In : Contract Try.prog 78 spec_l01In_S :=
  fn_sh (sg := []) Try.mixed (sgOk_look (show sgOk Try.prog [] from trivial)) Try.func78 (by kernel_rfl : Func.cmp Try.prog [] spec_l01In_S Try.f78 spec_l01In_hs = some spec_l01In_L) spec_l01In_ok
theorem c_spec_l06Less : Contract Try.prog 85 spec_l06Less_S :=
  fn_sh (sg := []) Try.mixed (sgOk_look (show sgOk Try.prog [] from trivial)) Try.func85 (by kernel_rfl : Func.cmp Try.prog [] spec_l06Less_S Try.f85 spec_l06Less_hs = some spec_l06Less_L) spec_l06Less_ok
theorem c_spec_CylinderOk : Contract Try.prog 67 spec_CylinderOk_S :=
  fn_sh (sg := [(78, spec_l01In_S), (85, spec_l06Less_S)]) Try.mixed (sgOk_look (show sgOk Try.prog [(78, spec_l01In_S), (85, spec_l06Less_S)] from ⟨c_spec_l01In, ⟨c_spec_l06Less, trivial⟩⟩)) Try.func67 (by kernel_rfl : Func.cmp Try.prog [(78, spec_l01In_S), (85, spec_l06Less_S)] spec_CylinderOk_S Try.f67 spec_CylinderOk_hs = some spec_CylinderOk_L) spec_CylinderOk_ok
theorem c_spec_BenchOk : Contract Try.prog 32 spec_BenchOk_S :=
  fn_sh (sg := [(67, spec_CylinderOk_S)]) Try.mixed (sgOk_look (show sgOk Try.prog [(67, spec_CylinderOk_S)] from ⟨c_spec_CylinderOk, trivial⟩)) Try.func32 (by kernel_rfl : Func.cmp Try.prog [(67, spec_CylinderOk_S)] spec_BenchOk_S Try.f32 spec_BenchOk_hs = some spec_BenchOk_L) spec_BenchOk_ok
theorem c_impl_within : Contract Try.prog 53 impl_within_S :=
  fn_sh (sg := []) Try.mixed (sgOk_look (show sgOk Try.prog [] from trivial)) Try.func53 (by kernel_rfl : Func.cmp Try.prog [] impl_within_S Try.f53 impl_within_hs = some impl_within_L) impl_within_ok
theorem c_impl_comparePins : Contract Try.prog 83 impl_comparePins_S :=
  fn_sh (sg := []) Try.mixed (sgOk_look (show sgOk Try.prog [] from trivial)) Try.func83 (by kernel_rfl : Func.cmp Try.prog [] impl_comparePins_S Try.f83 impl_comparePins_hs = some impl_comparePins_L) impl_comparePins_ok
theorem c_impl_CylinderOk : Contract Try.prog 64 impl_CylinderOk_S :=
  fn_sh (sg := [(53, impl_within_S), (83, impl_comparePins_S)]) Try.mixed (sgOk_look (show sgOk Try.prog [(53, impl_within_S), (83, impl_comparePins_S)] from ⟨c_impl_within, ⟨c_impl_comparePins, trivial⟩⟩)) Try.func64 (by kernel_rfl : Func.cmp Try.prog [(53, impl_within_S), (83, impl_comparePins_S)] impl_CylinderOk_S Try.f64 impl_CylinderOk_hs = some impl_CylinderOk_L) impl_CylinderOk_ok
theorem c_impl_BenchOk : Contract Try.prog 34 impl_BenchOk_S :=
  fn_sh (sg := [(64, impl_CylinderOk_S)]) Try.mixed (sgOk_look (show sgOk Try.prog [(64, impl_CylinderOk_S)] from ⟨c_impl_CylinderOk, trivial⟩)) Try.func34 (by kernel_rfl : Func.cmp Try.prog [(64, impl_CylinderOk_S)] impl_BenchOk_S Try.f34 impl_BenchOk_hs = some impl_BenchOk_L) impl_BenchOk_ok
theorem c_laws_eqPin : Contract Try.prog 94 laws_eqPin_S :=
  fn_sh (sg := []) Try.mixed (sgOk_look (show sgOk Try.prog [] from trivial)) Try.func94 (by kernel_rfl : Func.cmp Try.prog [] laws_eqPin_S Try.f94 laws_eqPin_hs = some laws_eqPin_L) laws_eqPin_ok
theorem c_laws_eqPinS : Contract Try.prog 87 laws_eqPinS_S :=
  fn_sh (sg := [(94, laws_eqPin_S)]) Try.mixed (sgOk_look (show sgOk Try.prog [(94, laws_eqPin_S)] from ⟨c_laws_eqPin, trivial⟩)) Try.func87 (by kernel_rfl : Func.cmp Try.prog [(94, laws_eqPin_S)] laws_eqPinS_S Try.f87 laws_eqPinS_hs = some laws_eqPinS_L) laws_eqPinS_ok
theorem c_laws_eqCylinder : Contract Try.prog 70 laws_eqCylinder_S :=
  fn_sh (sg := [(87, laws_eqPinS_S)]) Try.mixed (sgOk_look (show sgOk Try.prog [(87, laws_eqPinS_S)] from ⟨c_laws_eqPinS, trivial⟩)) Try.func70 (by kernel_rfl : Func.cmp Try.prog [(87, laws_eqPinS_S)] laws_eqCylinder_S Try.f70 laws_eqCylinder_hs = some laws_eqCylinder_L) laws_eqCylinder_ok
theorem c_laws_eqPinSS : Contract Try.prog 71 laws_eqPinSS_S :=
  fn_sh (sg := [(87, laws_eqPinS_S)]) Try.mixed (sgOk_look (show sgOk Try.prog [(87, laws_eqPinS_S)] from ⟨c_laws_eqPinS, trivial⟩)) Try.func71 (by kernel_rfl : Func.cmp Try.prog [(87, laws_eqPinS_S)] laws_eqPinSS_S Try.f71 laws_eqPinSS_hs = some laws_eqPinSS_L) laws_eqPinSS_ok
theorem c_laws_eqBench : Contract Try.prog 35 laws_eqBench_S :=
  fn_sh (sg := [(70, laws_eqCylinder_S), (71, laws_eqPinSS_S)]) Try.mixed (sgOk_look (show sgOk Try.prog [(70, laws_eqCylinder_S), (71, laws_eqPinSS_S)] from ⟨c_laws_eqCylinder, ⟨c_laws_eqPinSS, trivial⟩⟩)) Try.func35 (by kernel_rfl : Func.cmp Try.prog [(70, laws_eqCylinder_S), (71, laws_eqPinSS_S)] laws_eqBench_S Try.f35 laws_eqBench_hs = some laws_eqBench_L) laws_eqBench_ok
theorem c_laws_FnExactBenchOk : Contract Try.prog 6 laws_FnExactBenchOk_S :=
  fn_sh (sg := [(31, laws_szBench_S), (33, laws_toBench_S), (32, spec_BenchOk_S), (34, impl_BenchOk_S), (35, laws_eqBench_S)]) Try.mixed (sgOk_look (show sgOk Try.prog [(31, laws_szBench_S), (33, laws_toBench_S), (32, spec_BenchOk_S), (34, impl_BenchOk_S), (35, laws_eqBench_S)] from ⟨c_laws_szBench, ⟨c_laws_toBench, ⟨c_spec_BenchOk, ⟨c_impl_BenchOk, ⟨c_laws_eqBench, trivial⟩⟩⟩⟩⟩)) Try.func6 (by kernel_rfl : Func.cmp Try.prog [(31, laws_szBench_S), (33, laws_toBench_S), (32, spec_BenchOk_S), (34, impl_BenchOk_S), (35, laws_eqBench_S)] laws_FnExactBenchOk_S Try.f6 laws_FnExactBenchOk_hs = some laws_FnExactBenchOk_L) laws_FnExactBenchOk_ok
theorem c_spec_NewBench : Contract Try.prog 36 spec_NewBench_S :=
  fn_sh (sg := [(32, spec_BenchOk_S)]) Try.mixed (sgOk_look (show sgOk Try.prog [(32, spec_BenchOk_S)] from ⟨c_spec_BenchOk, trivial⟩)) Try.func36 (by kernel_rfl : Func.cmp Try.prog [(32, spec_BenchOk_S)] spec_NewBench_S Try.f36 spec_NewBench_hs = some spec_NewBench_L) spec_NewBench_ok
theorem c_impl_NewBench : Contract Try.prog 37 impl_NewBench_S :=
  fn_sh (sg := [(34, impl_BenchOk_S)]) Try.mixed (sgOk_look (show sgOk Try.prog [(34, impl_BenchOk_S)] from ⟨c_impl_BenchOk, trivial⟩)) Try.func37 (by kernel_rfl : Func.cmp Try.prog [(34, impl_BenchOk_S)] impl_NewBench_S Try.f37 impl_NewBench_hs = some impl_NewBench_L) impl_NewBench_ok
theorem c_laws_markPinS : Contract Try.prog 88 laws_markPinS_S :=
  fn_sh (sg := []) Try.mixed (sgOk_look (show sgOk Try.prog [] from trivial)) Try.func88 (by kernel_rfl : Func.cmp Try.prog [] laws_markPinS_S Try.f88 laws_markPinS_hs = some laws_markPinS_L) laws_markPinS_ok
theorem c_laws_markCylinder : Contract Try.prog 72 laws_markCylinder_S :=
  fn_sh (sg := [(88, laws_markPinS_S)]) Try.mixed (sgOk_look (show sgOk Try.prog [(88, laws_markPinS_S)] from ⟨c_laws_markPinS, trivial⟩)) Try.func72 (by kernel_rfl : Func.cmp Try.prog [(88, laws_markPinS_S)] laws_markCylinder_S Try.f72 laws_markCylinder_hs = some laws_markCylinder_L) laws_markCylinder_ok
theorem c_laws_markPinSS : Contract Try.prog 73 laws_markPinSS_S :=
  fn_sh (sg := [(88, laws_markPinS_S)]) Try.mixed (sgOk_look (show sgOk Try.prog [(88, laws_markPinS_S)] from ⟨c_laws_markPinS, trivial⟩)) Try.func73 (by kernel_rfl : Func.cmp Try.prog [(88, laws_markPinS_S)] laws_markPinSS_S Try.f73 laws_markPinSS_hs = some laws_markPinSS_L) laws_markPinSS_ok
theorem c_laws_markBench : Contract Try.prog 38 laws_markBench_S :=
  fn_sh (sg := [(72, laws_markCylinder_S), (73, laws_markPinSS_S)]) Try.mixed (sgOk_look (show sgOk Try.prog [(72, laws_markCylinder_S), (73, laws_markPinSS_S)] from ⟨c_laws_markCylinder, ⟨c_laws_markPinSS, trivial⟩⟩)) Try.func38 (by kernel_rfl : Func.cmp Try.prog [(72, laws_markCylinder_S), (73, laws_markPinSS_S)] laws_markBench_S Try.f38 laws_markBench_hs = some laws_markBench_L) laws_markBench_ok
theorem c_laws_heldPinS : Contract Try.prog 89 laws_heldPinS_S :=
  fn_sh (sg := []) Try.mixed (sgOk_look (show sgOk Try.prog [] from trivial)) Try.func89 (by kernel_rfl : Func.cmp Try.prog [] laws_heldPinS_S Try.f89 laws_heldPinS_hs = some laws_heldPinS_L) laws_heldPinS_ok
theorem c_laws_heldCylinder : Contract Try.prog 74 laws_heldCylinder_S :=
  fn_sh (sg := [(89, laws_heldPinS_S)]) Try.mixed (sgOk_look (show sgOk Try.prog [(89, laws_heldPinS_S)] from ⟨c_laws_heldPinS, trivial⟩)) Try.func74 (by kernel_rfl : Func.cmp Try.prog [(89, laws_heldPinS_S)] laws_heldCylinder_S Try.f74 laws_heldCylinder_hs = some laws_heldCylinder_L) laws_heldCylinder_ok
theorem c_laws_heldPinSS : Contract Try.prog 75 laws_heldPinSS_S :=
  fn_sh (sg := [(89, laws_heldPinS_S)]) Try.mixed (sgOk_look (show sgOk Try.prog [(89, laws_heldPinS_S)] from ⟨c_laws_heldPinS, trivial⟩)) Try.func75 (by kernel_rfl : Func.cmp Try.prog [(89, laws_heldPinS_S)] laws_heldPinSS_S Try.f75 laws_heldPinSS_hs = some laws_heldPinSS_L) laws_heldPinSS_ok
theorem c_laws_heldBench : Contract Try.prog 39 laws_heldBench_S :=
  fn_sh (sg := [(74, laws_heldCylinder_S), (75, laws_heldPinSS_S)]) Try.mixed (sgOk_look (show sgOk Try.prog [(74, laws_heldCylinder_S), (75, laws_heldPinSS_S)] from ⟨c_laws_heldCylinder, ⟨c_laws_heldPinSS, trivial⟩⟩)) Try.func39 (by kernel_rfl : Func.cmp Try.prog [(74, laws_heldCylinder_S), (75, laws_heldPinSS_S)] laws_heldBench_S Try.f39 laws_heldBench_hs = some laws_heldBench_L) laws_heldBench_ok
theorem c_laws_FnExactNewBench : Contract Try.prog 7 laws_FnExactNewBench_S :=
  fn_sh (sg := [(36, spec_NewBench_S), (37, impl_NewBench_S), (35, laws_eqBench_S), (38, laws_markBench_S), (39, laws_heldBench_S)]) Try.mixed (sgOk_look (show sgOk Try.prog [(36, spec_NewBench_S), (37, impl_NewBench_S), (35, laws_eqBench_S), (38, laws_markBench_S), (39, laws_heldBench_S)] from ⟨c_spec_NewBench, ⟨c_impl_NewBench, ⟨c_laws_eqBench, ⟨c_laws_markBench, ⟨c_laws_heldBench, trivial⟩⟩⟩⟩⟩)) Try.func7 (by kernel_rfl : Func.cmp Try.prog [(36, spec_NewBench_S), (37, impl_NewBench_S), (35, laws_eqBench_S), (38, laws_markBench_S), (39, laws_heldBench_S)] laws_FnExactNewBench_S Try.f7 laws_FnExactNewBench_hs = some laws_FnExactNewBench_L) laws_FnExactNewBench_ok

end Go.Proofs.Ytbpghjdibloppaa
