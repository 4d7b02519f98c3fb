/- The contracts of the functions that the laws FnExactNestedBoxes reach: each keeps what its pure function says, wherever that function says something. -/
import Derived.Test.YtgnfdkcaaloijaaRows
import Derived.Test.YtgnfdkcaaloijaaPl1
import Derived.ProofKit
namespace Go.Proofs.Ytgnfdkcaaloijaa
open Go.ChangeShapes Go.WideShapes Go.ChangeAt Go.RowKit Go.Mw

theorem Try.own : ownKnob Try.prog.godebug = none := by kernel_rfl
theorem Try.laidOut : laidOutB Try.prog = true := by kernel_rfl
theorem Try.mixed : Try.prog.follows .mixedOrders = true := by kernel_rfl
theorem c_laws_szBoxS : Contract Try.prog 9 laws_szBoxS_S :=
  fn_sh (sg := []) Try.mixed (sgOk_look (show sgOk Try.prog [] from trivial)) Try.func9 (by kernel_rfl : Func.cmp Try.prog [] laws_szBoxS_S Try.f9 laws_szBoxS_hs = some laws_szBoxS_L) laws_szBoxS_ok
theorem c_laws_toBox : Contract Try.prog 40 laws_toBox_S :=
  fn_sh (sg := []) Try.mixed (sgOk_look (show sgOk Try.prog [] from trivial)) Try.func40 (by kernel_rfl : Func.cmp Try.prog [] laws_toBox_S Try.f40 laws_toBox_hs = some laws_toBox_L) laws_toBox_ok
theorem c_laws_toBoxS : Contract Try.prog 11 laws_toBoxS_S :=
  fn_sh (sg := [(40, laws_toBox_S)]) Try.mixed (sgOk_look (show sgOk Try.prog [(40, laws_toBox_S)] from ⟨c_laws_toBox, trivial⟩)) Try.func11 (by kernel_rfl : Func.cmp Try.prog [(40, laws_toBox_S)] laws_toBoxS_S Try.f11 laws_toBoxS_hs = some laws_toBoxS_L) laws_toBoxS_ok
theorem c_spec_l01In : Contract Try.prog 80 spec_l01In_S :=
  fn_sh (sg := []) Try.mixed (sgOk_look (show sgOk Try.prog [] from trivial)) Try.func80 (by kernel_rfl : Func.cmp Try.prog [] spec_l01In_S Try.f80 spec_l01In_hs = some spec_l01In_L) spec_l01In_ok
theorem c_spec_BoxOk : Contract Try.prog 38 spec_BoxOk_S :=
  fn_sh (sg := [(80, spec_l01In_S)]) Try.mixed (sgOk_look (show sgOk Try.prog [(80, spec_l01In_S)] from ⟨c_spec_l01In, trivial⟩)) Try.func38 (by kernel_rfl : Func.cmp Try.prog [(80, spec_l01In_S)] spec_BoxOk_S Try.f38 spec_BoxOk_hs = some spec_BoxOk_L) spec_BoxOk_ok
theorem c_spec_SortedBox : Contract Try.prog 81 spec_SortedBox_S :=
  fn_sh (sg := [(38, spec_BoxOk_S)]) Try.mixed (sgOk_look (show sgOk Try.prog [(38, spec_BoxOk_S)] from ⟨c_spec_BoxOk, trivial⟩)) Try.func81 (by kernel_rfl : Func.cmp Try.prog [(38, spec_BoxOk_S)] spec_SortedBox_S Try.f81 spec_SortedBox_hs = some spec_SortedBox_L) spec_SortedBox_ok
theorem c_spec_l34Depth : Contract Try.prog 39 spec_l34Depth_SF :=
  contract_fuel l34DepthN_zero l34Depth_some fun n ih => fn_sh (sg := [(81, spec_SortedBox_S), (39, spec_l34Depth_S n)]) Try.mixed (sgOk_look (show sgOk Try.prog [(81, spec_SortedBox_S), (39, spec_l34Depth_S n)] from ⟨c_spec_SortedBox, ⟨ih, trivial⟩⟩)) Try.func39 (by kernel_rfl : Func.cmp Try.prog [(81, spec_SortedBox_S), (39, spec_l34Depth_S n)] (spec_l34Depth_S (n + 1)) Try.f39 spec_l34Depth_hs = some (spec_l34Depth_L n)) (spec_l34Depth_ok n)
theorem c_spec_NestedBoxes : Contract Try.prog 10 spec_NestedBoxes_S :=
  fn_sh (sg := [(38, spec_BoxOk_S), (39, spec_l34Depth_SF)]) Try.mixed (sgOk_look (show sgOk Try.prog [(38, spec_BoxOk_S), (39, spec_l34Depth_SF)] from ⟨c_spec_BoxOk, ⟨c_spec_l34Depth, trivial⟩⟩)) Try.func10 (by kernel_rfl : Func.cmp Try.prog [(38, spec_BoxOk_S), (39, spec_l34Depth_SF)] spec_NestedBoxes_S Try.f10 spec_NestedBoxes_hs = some spec_NestedBoxes_L) spec_NestedBoxes_ok
theorem c_impl_within : Contract Try.prog 90 impl_within_S :=
  fn_sh (sg := []) Try.mixed (sgOk_look (show sgOk Try.prog [] from trivial)) Try.func90 (by kernel_rfl : Func.cmp Try.prog [] impl_within_S Try.f90 impl_within_hs = some impl_within_L) impl_within_ok
theorem c_impl_BoxOk : Contract Try.prog 82 impl_BoxOk_S :=
  fn_sh (sg := [(90, impl_within_S)]) Try.mixed (sgOk_look (show sgOk Try.prog [(90, impl_within_S)] from ⟨c_impl_within, trivial⟩)) Try.func82 (by kernel_rfl : Func.cmp Try.prog [(90, impl_within_S)] impl_BoxOk_S Try.f82 impl_BoxOk_hs = some impl_BoxOk_L) impl_BoxOk_ok
theorem c_impl_areBoxes : Contract Try.prog 41 impl_areBoxes_S :=
  fn_sh (sg := [(82, impl_BoxOk_S)]) Try.mixed (sgOk_look (show sgOk Try.prog [(82, impl_BoxOk_S)] from ⟨c_impl_BoxOk, trivial⟩)) Try.func41 (by kernel_rfl : Func.cmp Try.prog [(82, impl_BoxOk_S)] impl_areBoxes_S Try.f41 impl_areBoxes_hs = some impl_areBoxes_L) impl_areBoxes_ok
theorem c_impl_SortedBox : Contract Try.prog 83 impl_SortedBox_S :=
  fn_sh (sg := [(82, impl_BoxOk_S)]) Try.mixed (sgOk_look (show sgOk Try.prog [(82, impl_BoxOk_S)] from ⟨c_impl_BoxOk, trivial⟩)) Try.func83 (by kernel_rfl : Func.cmp Try.prog [(82, impl_BoxOk_S)] impl_SortedBox_S Try.f83 impl_SortedBox_hs = some impl_SortedBox_L) impl_SortedBox_ok
theorem c_impl_isInside : Contract Try.prog 42 impl_isInside_S :=
  fn_sh (sg := [(83, impl_SortedBox_S)]) Try.mixed (sgOk_look (show sgOk Try.prog [(83, impl_SortedBox_S)] from ⟨c_impl_SortedBox, trivial⟩)) Try.func42 (by kernel_rfl : Func.cmp Try.prog [(83, impl_SortedBox_S)] impl_isInside_S Try.f42 impl_isInside_hs = some impl_isInside_L) impl_isInside_ok
theorem c_impl_NestedBoxes : Contract Try.prog 12 impl_NestedBoxes_S :=
  fn_sh (sg := [(41, impl_areBoxes_S), (42, impl_isInside_S)]) Try.mixed (sgOk_look (show sgOk Try.prog [(41, impl_areBoxes_S), (42, impl_isInside_S)] from ⟨c_impl_areBoxes, ⟨c_impl_isInside, trivial⟩⟩)) Try.func12 (by kernel_rfl : Func.cmp Try.prog [(41, impl_areBoxes_S), (42, impl_isInside_S)] impl_NestedBoxes_S Try.f12 impl_NestedBoxes_hs = some impl_NestedBoxes_L) impl_NestedBoxes_ok
theorem c_laws_eqBox : Contract Try.prog 43 laws_eqBox_S :=
  fn_sh (sg := []) Try.mixed (sgOk_look (show sgOk Try.prog [] from trivial)) Try.func43 (by kernel_rfl : Func.cmp Try.prog [] laws_eqBox_S Try.f43 laws_eqBox_hs = some laws_eqBox_L) laws_eqBox_ok
theorem c_laws_eqBoxS : Contract Try.prog 13 laws_eqBoxS_S :=
  fn_sh (sg := [(43, laws_eqBox_S)]) Try.mixed (sgOk_look (show sgOk Try.prog [(43, laws_eqBox_S)] from ⟨c_laws_eqBox, trivial⟩)) Try.func13 (by kernel_rfl : Func.cmp Try.prog [(43, laws_eqBox_S)] laws_eqBoxS_S Try.f13 laws_eqBoxS_hs = some laws_eqBoxS_L) laws_eqBoxS_ok
theorem c_laws_FnExactNestedBoxes : Contract Try.prog 3 laws_FnExactNestedBoxes_S :=
  fn_sh (sg := [(9, laws_szBoxS_S), (11, laws_toBoxS_S), (10, spec_NestedBoxes_S), (12, impl_NestedBoxes_S), (13, laws_eqBoxS_S)]) Try.mixed (sgOk_look (show sgOk Try.prog [(9, laws_szBoxS_S), (11, laws_toBoxS_S), (10, spec_NestedBoxes_S), (12, impl_NestedBoxes_S), (13, laws_eqBoxS_S)] from ⟨c_laws_szBoxS, ⟨c_laws_toBoxS, ⟨c_spec_NestedBoxes, ⟨c_impl_NestedBoxes, ⟨c_laws_eqBoxS, trivial⟩⟩⟩⟩⟩)) Try.func3 (by kernel_rfl : Func.cmp Try.prog [(9, laws_szBoxS_S), (11, laws_toBoxS_S), (10, spec_NestedBoxes_S), (12, impl_NestedBoxes_S), (13, laws_eqBoxS_S)] laws_FnExactNestedBoxes_S Try.f3 laws_FnExactNestedBoxes_hs = some laws_FnExactNestedBoxes_L) laws_FnExactNestedBoxes_ok

end Go.Proofs.Ytgnfdkcaaloijaa
