/- The contracts of the functions that the laws FnExactMelodyOf reach: each keeps what its pure function says, wherever that function says something. -/
import Derived.Test.YtobecpmneaninaaRows
import Derived.Test.YtobecpmneaninaaPl2
import Derived.Test.YtobecpmneaninaaLys
import Derived.ProofKit
namespace Go.Proofs.Ytobecpmneaninaa
open Go.ChangeShapes Go.WideShapes Go.ChangeAt Go.RowKit Go.Mw

theorem Try.own : ownKnob Try.prog.godebug = none := by kernel_rfl
theorem Try.laidOut : laidOutB Try.prog = true := by kernel_rfl
theorem Try.mixed : Try.prog.follows .mixedOrders = true := by kernel_rfl
theorem c_laws_szPinS : Contract .zero Try.prog 103 laws_szPinS_S :=
  fn_sh (sg := []) Try.mixed (sgOk_look (show sgOk .zero Try.prog [] from trivial)) Try.func103 (by kernel_rfl : Func.cmp Try.prog [] laws_szPinS_S Try.f103 laws_szPinS_hs = some laws_szPinS_L) laws_szPinS_ok
theorem c_laws_szCylinder : Contract .zero Try.prog 73 laws_szCylinder_S :=
  fn_sh (sg := [(103, laws_szPinS_S)]) Try.mixed (sgOk_look (show sgOk .zero Try.prog [(103, laws_szPinS_S)] from ⟨c_laws_szPinS, trivial⟩)) Try.func73 (by kernel_rfl : Func.cmp Try.prog [(103, laws_szPinS_S)] laws_szCylinder_S Try.f73 laws_szCylinder_hs = some laws_szCylinder_L) laws_szCylinder_ok
theorem c_laws_szPinSS : Contract .zero Try.prog 74 laws_szPinSS_S :=
  fn_sh (sg := [(103, laws_szPinS_S)]) Try.mixed (sgOk_look (show sgOk .zero Try.prog [(103, laws_szPinS_S)] from ⟨c_laws_szPinS, trivial⟩)) Try.func74 (by kernel_rfl : Func.cmp Try.prog [(103, laws_szPinS_S)] laws_szPinSS_S Try.f74 laws_szPinSS_hs = some laws_szPinSS_L) laws_szPinSS_ok
theorem c_laws_szBench : Contract .zero Try.prog 55 laws_szBench_S :=
  fn_sh (sg := [(73, laws_szCylinder_S), (74, laws_szPinSS_S)]) Try.mixed (sgOk_look (show sgOk .zero Try.prog [(73, laws_szCylinder_S), (74, laws_szPinSS_S)] from ⟨c_laws_szCylinder, ⟨c_laws_szPinSS, trivial⟩⟩)) Try.func55 (by kernel_rfl : Func.cmp Try.prog [(73, laws_szCylinder_S), (74, laws_szPinSS_S)] laws_szBench_S Try.f55 laws_szBench_hs = some laws_szBench_L) laws_szBench_ok
theorem c_laws_szIntS : Contract .zero Try.prog 56 laws_szIntS_S :=
  fn_sh (sg := []) Try.mixed (sgOk_look (show sgOk .zero Try.prog [] from trivial)) Try.func56 (by kernel_rfl : Func.cmp Try.prog [] laws_szIntS_S Try.f56 laws_szIntS_hs = some laws_szIntS_L) laws_szIntS_ok
theorem c_laws_szWorkshop : Contract .zero Try.prog 28 laws_szWorkshop_S :=
  fn_sh (sg := [(55, laws_szBench_S), (56, laws_szIntS_S)]) Try.mixed (sgOk_look (show sgOk .zero Try.prog [(55, laws_szBench_S), (56, laws_szIntS_S)] from ⟨c_laws_szBench, ⟨c_laws_szIntS, trivial⟩⟩)) Try.func28 (by kernel_rfl : Func.cmp Try.prog [(55, laws_szBench_S), (56, laws_szIntS_S)] laws_szWorkshop_S Try.f28 laws_szWorkshop_hs = some laws_szWorkshop_L) laws_szWorkshop_ok
theorem c_laws_toPin : Contract .zero Try.prog 120 laws_toPin_S :=
  fn_sh (sg := []) Try.mixed (sgOk_look (show sgOk .zero Try.prog [] from trivial)) Try.func120 (by kernel_rfl : Func.cmp Try.prog [] laws_toPin_S Try.f120 laws_toPin_hs = some laws_toPin_L) laws_toPin_ok
theorem c_laws_toPinS : Contract .zero Try.prog 105 laws_toPinS_S :=
  fn_sh (sg := [(120, laws_toPin_S)]) Try.mixed (sgOk_look (show sgOk .zero Try.prog [(120, laws_toPin_S)] from ⟨c_laws_toPin, trivial⟩)) Try.func105 (by kernel_rfl : Func.cmp Try.prog [(120, laws_toPin_S)] laws_toPinS_S Try.f105 laws_toPinS_hs = some laws_toPinS_L) laws_toPinS_ok
theorem c_laws_toCylinder : Contract .zero Try.prog 79 laws_toCylinder_S :=
  fn_sh (sg := [(105, laws_toPinS_S)]) Try.mixed (sgOk_look (show sgOk .zero Try.prog [(105, laws_toPinS_S)] from ⟨c_laws_toPinS, trivial⟩)) Try.func79 (by kernel_rfl : Func.cmp Try.prog [(105, laws_toPinS_S)] laws_toCylinder_S Try.f79 laws_toCylinder_hs = some laws_toCylinder_L) laws_toCylinder_ok
theorem c_laws_toPinSS : Contract .zero Try.prog 80 laws_toPinSS_S :=
  fn_sh (sg := [(105, laws_toPinS_S)]) Try.mixed (sgOk_look (show sgOk .zero Try.prog [(105, laws_toPinS_S)] from ⟨c_laws_toPinS, trivial⟩)) Try.func80 (by kernel_rfl : Func.cmp Try.prog [(105, laws_toPinS_S)] laws_toPinSS_S Try.f80 laws_toPinSS_hs = some laws_toPinSS_L) laws_toPinSS_ok
theorem c_laws_toBench : Contract .zero Try.prog 59 laws_toBench_S :=
  fn_sh (sg := [(79, laws_toCylinder_S), (80, laws_toPinSS_S)]) Try.mixed (sgOk_look (show sgOk .zero Try.prog [(79, laws_toCylinder_S), (80, laws_toPinSS_S)] from ⟨c_laws_toCylinder, ⟨c_laws_toPinSS, trivial⟩⟩)) Try.func59 (by kernel_rfl : Func.cmp Try.prog [(79, laws_toCylinder_S), (80, laws_toPinSS_S)] laws_toBench_S Try.f59 laws_toBench_hs = some laws_toBench_L) laws_toBench_ok
theorem c_laws_toIntS : Contract .zero Try.prog 60 laws_toIntS_S :=
  fn_sh (sg := []) Try.mixed (sgOk_look (show sgOk .zero Try.prog [] from trivial)) Try.func60 (by kernel_rfl : Func.cmp Try.prog [] laws_toIntS_S Try.f60 laws_toIntS_hs = some laws_toIntS_L) laws_toIntS_ok
theorem c_laws_toSpring : Contract .zero Try.prog 61 laws_toSpring_S :=
  fn_sh (sg := []) Try.mixed (sgOk_look (show sgOk .zero Try.prog [] from trivial)) Try.func61 (by kernel_rfl : Func.cmp Try.prog [] laws_toSpring_S Try.f61 laws_toSpring_hs = some laws_toSpring_L) laws_toSpring_ok
theorem c_laws_toWorkshop : Contract .zero Try.prog 30 laws_toWorkshop_S :=
  fn_sh (sg := [(59, laws_toBench_S), (60, laws_toIntS_S), (61, laws_toSpring_S)]) Try.mixed (sgOk_look (show sgOk .zero Try.prog [(59, laws_toBench_S), (60, laws_toIntS_S), (61, laws_toSpring_S)] from ⟨c_laws_toBench, ⟨c_laws_toIntS, ⟨c_laws_toSpring, trivial⟩⟩⟩)) Try.func30 (by kernel_rfl : Func.cmp Try.prog [(59, laws_toBench_S), (60, laws_toIntS_S), (61, laws_toSpring_S)] laws_toWorkshop_S Try.f30 laws_toWorkshop_hs = some laws_toWorkshop_L) laws_toWorkshop_ok
theorem c_spec_l01In : Contract .zero Try.prog 54 spec_l01In_S :=
  fn_sh (sg := []) Try.mixed (sgOk_look (show sgOk .zero Try.prog [] from trivial)) Try.func54 (by kernel_rfl : Func.cmp Try.prog [] spec_l01In_S Try.f54 spec_l01In_hs = some spec_l01In_L) spec_l01In_ok
theorem c_spec_l06Less : Contract .zero Try.prog 119 spec_l06Less_S :=
  fn_sh (sg := []) Try.mixed (sgOk_look (show sgOk .zero Try.prog [] from trivial)) Try.func119 (by kernel_rfl : Func.cmp Try.prog [] spec_l06Less_S Try.f119 spec_l06Less_hs = some spec_l06Less_L) spec_l06Less_ok
theorem c_spec_CylinderOk : Contract .zero Try.prog 104 spec_CylinderOk_S :=
  fn_sh (sg := [(54, spec_l01In_S), (119, spec_l06Less_S)]) Try.mixed (sgOk_look (show sgOk .zero Try.prog [(54, spec_l01In_S), (119, spec_l06Less_S)] from ⟨c_spec_l01In, ⟨c_spec_l06Less, trivial⟩⟩)) Try.func104 (by kernel_rfl : Func.cmp Try.prog [(54, spec_l01In_S), (119, spec_l06Less_S)] spec_CylinderOk_S Try.f104 spec_CylinderOk_hs = some spec_CylinderOk_L) spec_CylinderOk_ok
theorem c_spec_BenchOk : Contract .zero Try.prog 75 spec_BenchOk_S :=
  fn_sh (sg := [(104, spec_CylinderOk_S)]) Try.mixed (sgOk_look (show sgOk .zero Try.prog [(104, spec_CylinderOk_S)] from ⟨c_spec_CylinderOk, trivial⟩)) Try.func75 (by kernel_rfl : Func.cmp Try.prog [(104, spec_CylinderOk_S)] spec_BenchOk_S Try.f75 spec_BenchOk_hs = some spec_BenchOk_L) spec_BenchOk_ok
theorem c_spec_CombOk : Contract .zero Try.prog 76 spec_CombOk_S :=
  fn_sh (sg := [(54, spec_l01In_S)]) Try.mixed (sgOk_look (show sgOk .zero Try.prog [(54, spec_l01In_S)] from ⟨c_spec_l01In, trivial⟩)) Try.func76 (by kernel_rfl : Func.cmp Try.prog [(54, spec_l01In_S)] spec_CombOk_S Try.f76 spec_CombOk_hs = some spec_CombOk_L) spec_CombOk_ok
theorem c_spec_SpringOk : Contract .zero Try.prog 77 spec_SpringOk_S :=
  fn_sh (sg := [(54, spec_l01In_S)]) Try.mixed (sgOk_look (show sgOk .zero Try.prog [(54, spec_l01In_S)] from ⟨c_spec_l01In, trivial⟩)) Try.func77 (by kernel_rfl : Func.cmp Try.prog [(54, spec_l01In_S)] spec_SpringOk_S Try.f77 spec_SpringOk_hs = some spec_SpringOk_L) spec_SpringOk_ok
theorem c_spec_WorkshopOk : Contract .zero Try.prog 57 spec_WorkshopOk_S :=
  fn_sh (sg := [(75, spec_BenchOk_S), (76, spec_CombOk_S), (77, spec_SpringOk_S), (54, spec_l01In_S)]) Try.mixed (sgOk_look (show sgOk .zero Try.prog [(75, spec_BenchOk_S), (76, spec_CombOk_S), (77, spec_SpringOk_S), (54, spec_l01In_S)] from ⟨c_spec_BenchOk, ⟨c_spec_CombOk, ⟨c_spec_SpringOk, ⟨c_spec_l01In, trivial⟩⟩⟩⟩)) Try.func57 (by kernel_rfl : Func.cmp Try.prog [(75, spec_BenchOk_S), (76, spec_CombOk_S), (77, spec_SpringOk_S), (54, spec_l01In_S)] spec_WorkshopOk_S Try.f57 spec_WorkshopOk_hs = some spec_WorkshopOk_L) spec_WorkshopOk_ok
theorem c_spec_l02Less : Contract .zero Try.prog 78 spec_l02Less_S :=
  fn_sh (sg := []) Try.mixed (sgOk_look (show sgOk .zero Try.prog [] from trivial)) Try.func78 (by kernel_rfl : Func.cmp Try.prog [] spec_l02Less_S Try.f78 spec_l02Less_hs = some spec_l02Less_L) spec_l02Less_ok
theorem c_spec_SortNotes : Contract .zero Try.prog 58 spec_SortNotes_S :=
  fn_sh (sg := [(78, spec_l02Less_S)]) Try.mixed (sgOk_look (show sgOk .zero Try.prog [(78, spec_l02Less_S)] from ⟨c_spec_l02Less, trivial⟩)) Try.func58 (by kernel_rfl : Func.cmp Try.prog [(78, spec_l02Less_S)] spec_SortNotes_S Try.f58 spec_SortNotes_hs = some spec_SortNotes_L) spec_SortNotes_ok
theorem c_spec_MelodyOf : Contract .zero Try.prog 29 spec_MelodyOf_S :=
  fn_sh (sg := [(57, spec_WorkshopOk_S), (58, spec_SortNotes_S)]) Try.mixed (sgOk_look (show sgOk .zero Try.prog [(57, spec_WorkshopOk_S), (58, spec_SortNotes_S)] from ⟨c_spec_WorkshopOk, ⟨c_spec_SortNotes, trivial⟩⟩)) Try.func29 (by kernel_rfl : Func.cmp Try.prog [(57, spec_WorkshopOk_S), (58, spec_SortNotes_S)] spec_MelodyOf_S Try.f29 spec_MelodyOf_hs = some spec_MelodyOf_L) spec_MelodyOf_ok
theorem c_impl_within : Contract .zero Try.prog 50 impl_within_S :=
  fn_sh (sg := []) Try.mixed (sgOk_look (show sgOk .zero Try.prog [] from trivial)) Try.func50 (by kernel_rfl : Func.cmp Try.prog [] impl_within_S Try.f50 impl_within_hs = some impl_within_L) impl_within_ok
theorem c_impl_comparePins : Contract .zero Try.prog 121 impl_comparePins_S :=
  fn_sh (sg := []) Try.mixed (sgOk_look (show sgOk .zero Try.prog [] from trivial)) Try.func121 (by kernel_rfl : Func.cmp Try.prog [] impl_comparePins_S Try.f121 impl_comparePins_hs = some impl_comparePins_L) impl_comparePins_ok
theorem c_impl_CylinderOk : Contract .zero Try.prog 106 impl_CylinderOk_S :=
  fn_sh (sg := [(50, impl_within_S), (121, impl_comparePins_S)]) Try.mixed (sgOk_look (show sgOk .zero Try.prog [(50, impl_within_S), (121, impl_comparePins_S)] from ⟨c_impl_within, ⟨c_impl_comparePins, trivial⟩⟩)) Try.func106 (by kernel_rfl : Func.cmp Try.prog [(50, impl_within_S), (121, impl_comparePins_S)] impl_CylinderOk_S Try.f106 impl_CylinderOk_hs = some impl_CylinderOk_L) impl_CylinderOk_ok
theorem c_impl_BenchOk : Contract .zero Try.prog 81 impl_BenchOk_S :=
  fn_sh (sg := [(106, impl_CylinderOk_S)]) Try.mixed (sgOk_look (show sgOk .zero Try.prog [(106, impl_CylinderOk_S)] from ⟨c_impl_CylinderOk, trivial⟩)) Try.func81 (by kernel_rfl : Func.cmp Try.prog [(106, impl_CylinderOk_S)] impl_BenchOk_S Try.f81 impl_BenchOk_hs = some impl_BenchOk_L) impl_BenchOk_ok
theorem c_impl_CombOk : Contract .zero Try.prog 82 impl_CombOk_S :=
  fn_sh (sg := [(50, impl_within_S)]) Try.mixed (sgOk_look (show sgOk .zero Try.prog [(50, impl_within_S)] from ⟨c_impl_within, trivial⟩)) Try.func82 (by kernel_rfl : Func.cmp Try.prog [(50, impl_within_S)] impl_CombOk_S Try.f82 impl_CombOk_hs = some impl_CombOk_L) impl_CombOk_ok
theorem c_impl_SpringOk : Contract .zero Try.prog 83 impl_SpringOk_S :=
  fn_sh (sg := [(50, impl_within_S)]) Try.mixed (sgOk_look (show sgOk .zero Try.prog [(50, impl_within_S)] from ⟨c_impl_within, trivial⟩)) Try.func83 (by kernel_rfl : Func.cmp Try.prog [(50, impl_within_S)] impl_SpringOk_S Try.f83 impl_SpringOk_hs = some impl_SpringOk_L) impl_SpringOk_ok
theorem c_impl_WorkshopOk : Contract .zero Try.prog 62 impl_WorkshopOk_S :=
  fn_sh (sg := [(81, impl_BenchOk_S), (82, impl_CombOk_S), (83, impl_SpringOk_S), (50, impl_within_S)]) Try.mixed (sgOk_look (show sgOk .zero Try.prog [(81, impl_BenchOk_S), (82, impl_CombOk_S), (83, impl_SpringOk_S), (50, impl_within_S)] from ⟨c_impl_BenchOk, ⟨c_impl_CombOk, ⟨c_impl_SpringOk, ⟨c_impl_within, trivial⟩⟩⟩⟩)) Try.func62 (by kernel_rfl : Func.cmp Try.prog [(81, impl_BenchOk_S), (82, impl_CombOk_S), (83, impl_SpringOk_S), (50, impl_within_S)] impl_WorkshopOk_S Try.f62 impl_WorkshopOk_hs = some impl_WorkshopOk_L) impl_WorkshopOk_ok
theorem c_impl_copyNotes : Contract .zero Try.prog 107 impl_copyNotes_S :=
  fn_sh (sg := []) Try.mixed (sgOk_look (show sgOk .zero Try.prog [] from trivial)) Try.func107 (by kernel_rfl : Func.cmp Try.prog [] impl_copyNotes_S Try.f107 impl_copyNotes_hs = some impl_copyNotes_L) impl_copyNotes_ok
theorem c_impl_compareNotes : Contract .zero Try.prog 109 impl_compareNotes_S :=
  fn_sh (sg := []) Try.mixed (sgOk_look (show sgOk .zero Try.prog [] from trivial)) Try.func109 (by kernel_rfl : Func.cmp Try.prog [] impl_compareNotes_S Try.f109 impl_compareNotes_hs = some impl_compareNotes_L) impl_compareNotes_ok
noncomputable def slices_SortFunc_Limpl_Note_impl_Note_S : Sig := ⟨[.io false [.sl [.sc, .sc]], .cst 109], [], F_slices_SortFunc_Limpl_Note_impl_Note⟩
theorem c_slices_SortFunc_Limpl_Note_impl_Note : Contract .zero Try.prog 108 slices_SortFunc_Limpl_Note_impl_Note_S := by
  unfold slices_SortFunc_Limpl_Note_impl_Note_S
  rw [← slices_SortFunc_Limpl_Note_impl_Note_eq]
  exact sort_contract Try.sort108 Try.isAgg94 Try.sizeOf94 (enters_of Try.func109 (by kernel_rfl) rfl) c_impl_compareNotes impl_compareNotes_F impl_compareNotes_swo impl_compareNotes_tot
def Try.comp110_ren : Go.Shelf.Ren := ⟨fun | 43 => 110 | n => n, fun | 0 => 0 | 3 => 3 | 4 => 4 | 22 => 56 | 23 => 94 | n => n, fun n => n⟩
theorem Try.comp110 : CompLay Try.prog Try.comp110_ren where
  mixed := Try.mixed
  f43 := ⟨Try.f110.name, by decide, Try.func110.trans (congrArg some (by kernel_rfl))⟩
  t0 := Try.underlying0
  a0 := Try.isAgg0
  z0 := Try.sizeOf0
  v0 := Try.zeroValue0
  t3 := Try.underlying3
  a3 := Try.isAgg3
  z3 := Try.sizeOf3
  v3 := Try.zeroValue3
  t4 := Try.underlying4
  a4 := Try.isAgg4
  z4 := Try.sizeOf4
  v4 := Try.zeroValue4
  t22 := Try.underlying56
  a22 := Try.isAgg56
  z22 := Try.sizeOf56
  v22 := Try.zeroValue56
noncomputable def slices_Compact_Limpl_Note_impl_Note_S : Sig := ⟨[.tk false [.sl [.sc, .sc]]], [(false, [.sl [.sc, .sc]])], F_slices_Compact_Limpl_Note_impl_Note⟩
theorem c_slices_Compact_Limpl_Note_impl_Note : Contract .zero Try.prog 110 slices_Compact_Limpl_Note_impl_Note_S := by
  unfold slices_Compact_Limpl_Note_impl_Note_S
  rw [← slices_Compact_Limpl_Note_impl_Note_eq]
  exact compact_at Try.comp110 rfl Try.isAgg94 Try.sizeOf94 Try.zeroValue94 (by kernel_rfl) Try.underlying94 (by decide) (by decide) rfl rfl rfl rfl (by kernel_rfl) Try.underlying3 Try.isAgg3 Try.sizeOf3
theorem c_impl_sorted : Contract .zero Try.prog 84 impl_sorted_S :=
  fn_sh (sg := [(107, impl_copyNotes_S), (108, slices_SortFunc_Limpl_Note_impl_Note_S), (110, slices_Compact_Limpl_Note_impl_Note_S)]) Try.mixed (sgOk_look (show sgOk .zero Try.prog [(107, impl_copyNotes_S), (108, slices_SortFunc_Limpl_Note_impl_Note_S), (110, slices_Compact_Limpl_Note_impl_Note_S)] from ⟨c_impl_copyNotes, ⟨c_slices_SortFunc_Limpl_Note_impl_Note, ⟨c_slices_Compact_Limpl_Note_impl_Note, trivial⟩⟩⟩)) Try.func84 (by kernel_rfl : Func.cmp Try.prog [(107, impl_copyNotes_S), (108, slices_SortFunc_Limpl_Note_impl_Note_S), (110, slices_Compact_Limpl_Note_impl_Note_S)] impl_sorted_S Try.f84 impl_sorted_hs = some impl_sorted_L) impl_sorted_ok
theorem c_impl_SortNotes : Contract .zero Try.prog 63 impl_SortNotes_S :=
  fn_sh (sg := [(84, impl_sorted_S)]) Try.mixed (sgOk_look (show sgOk .zero Try.prog [(84, impl_sorted_S)] from ⟨c_impl_sorted, trivial⟩)) Try.func63 (by kernel_rfl : Func.cmp Try.prog [(84, impl_sorted_S)] impl_SortNotes_S Try.f63 impl_SortNotes_hs = some impl_SortNotes_L) impl_SortNotes_ok
theorem c_impl_MelodyOf : Contract .zero Try.prog 31 impl_MelodyOf_S :=
  fn_sh (sg := [(62, impl_WorkshopOk_S), (63, impl_SortNotes_S)]) Try.mixed (sgOk_look (show sgOk .zero Try.prog [(62, impl_WorkshopOk_S), (63, impl_SortNotes_S)] from ⟨c_impl_WorkshopOk, ⟨c_impl_SortNotes, trivial⟩⟩)) Try.func31 (by kernel_rfl : Func.cmp Try.prog [(62, impl_WorkshopOk_S), (63, impl_SortNotes_S)] impl_MelodyOf_S Try.f31 impl_MelodyOf_hs = some impl_MelodyOf_L) impl_MelodyOf_ok
theorem c_laws_eqNote : Contract .zero Try.prog 64 laws_eqNote_S :=
  fn_sh (sg := []) Try.mixed (sgOk_look (show sgOk .zero Try.prog [] from trivial)) Try.func64 (by kernel_rfl : Func.cmp Try.prog [] laws_eqNote_S Try.f64 laws_eqNote_hs = some laws_eqNote_L) laws_eqNote_ok
theorem c_laws_eqNoteS : Contract .zero Try.prog 32 laws_eqNoteS_S :=
  fn_sh (sg := [(64, laws_eqNote_S)]) Try.mixed (sgOk_look (show sgOk .zero Try.prog [(64, laws_eqNote_S)] from ⟨c_laws_eqNote, trivial⟩)) Try.func32 (by kernel_rfl : Func.cmp Try.prog [(64, laws_eqNote_S)] laws_eqNoteS_S Try.f32 laws_eqNoteS_hs = some laws_eqNoteS_L) laws_eqNoteS_ok
theorem c_laws_eqPin : Contract .zero Try.prog 123 laws_eqPin_S :=
  fn_sh (sg := []) Try.mixed (sgOk_look (show sgOk .zero Try.prog [] from trivial)) Try.func123 (by kernel_rfl : Func.cmp Try.prog [] laws_eqPin_S Try.f123 laws_eqPin_hs = some laws_eqPin_L) laws_eqPin_ok
theorem c_laws_eqPinS : Contract .zero Try.prog 111 laws_eqPinS_S :=
  fn_sh (sg := [(123, laws_eqPin_S)]) Try.mixed (sgOk_look (show sgOk .zero Try.prog [(123, laws_eqPin_S)] from ⟨c_laws_eqPin, trivial⟩)) Try.func111 (by kernel_rfl : Func.cmp Try.prog [(123, laws_eqPin_S)] laws_eqPinS_S Try.f111 laws_eqPinS_hs = some laws_eqPinS_L) laws_eqPinS_ok
theorem c_laws_eqCylinder : Contract .zero Try.prog 85 laws_eqCylinder_S :=
  fn_sh (sg := [(111, laws_eqPinS_S)]) Try.mixed (sgOk_look (show sgOk .zero Try.prog [(111, laws_eqPinS_S)] from ⟨c_laws_eqPinS, trivial⟩)) Try.func85 (by kernel_rfl : Func.cmp Try.prog [(111, laws_eqPinS_S)] laws_eqCylinder_S Try.f85 laws_eqCylinder_hs = some laws_eqCylinder_L) laws_eqCylinder_ok
theorem c_laws_eqPinSS : Contract .zero Try.prog 86 laws_eqPinSS_S :=
  fn_sh (sg := [(111, laws_eqPinS_S)]) Try.mixed (sgOk_look (show sgOk .zero Try.prog [(111, laws_eqPinS_S)] from ⟨c_laws_eqPinS, trivial⟩)) Try.func86 (by kernel_rfl : Func.cmp Try.prog [(111, laws_eqPinS_S)] laws_eqPinSS_S Try.f86 laws_eqPinSS_hs = some laws_eqPinSS_L) laws_eqPinSS_ok
theorem c_laws_eqBench : Contract .zero Try.prog 65 laws_eqBench_S :=
  fn_sh (sg := [(85, laws_eqCylinder_S), (86, laws_eqPinSS_S)]) Try.mixed (sgOk_look (show sgOk .zero Try.prog [(85, laws_eqCylinder_S), (86, laws_eqPinSS_S)] from ⟨c_laws_eqCylinder, ⟨c_laws_eqPinSS, trivial⟩⟩)) Try.func65 (by kernel_rfl : Func.cmp Try.prog [(85, laws_eqCylinder_S), (86, laws_eqPinSS_S)] laws_eqBench_S Try.f65 laws_eqBench_hs = some laws_eqBench_L) laws_eqBench_ok
theorem c_laws_eqIntS : Contract .zero Try.prog 15 laws_eqIntS_S :=
  fn_sh (sg := []) Try.mixed (sgOk_look (show sgOk .zero Try.prog [] from trivial)) Try.func15 (by kernel_rfl : Func.cmp Try.prog [] laws_eqIntS_S Try.f15 laws_eqIntS_hs = some laws_eqIntS_L) laws_eqIntS_ok
theorem c_laws_eqSpring : Contract .zero Try.prog 66 laws_eqSpring_S :=
  fn_sh (sg := []) Try.mixed (sgOk_look (show sgOk .zero Try.prog [] from trivial)) Try.func66 (by kernel_rfl : Func.cmp Try.prog [] laws_eqSpring_S Try.f66 laws_eqSpring_hs = some laws_eqSpring_L) laws_eqSpring_ok
theorem c_laws_eqWorkshop : Contract .zero Try.prog 33 laws_eqWorkshop_S :=
  fn_sh (sg := [(65, laws_eqBench_S), (15, laws_eqIntS_S), (66, laws_eqSpring_S)]) Try.mixed (sgOk_look (show sgOk .zero Try.prog [(65, laws_eqBench_S), (15, laws_eqIntS_S), (66, laws_eqSpring_S)] from ⟨c_laws_eqBench, ⟨c_laws_eqIntS, ⟨c_laws_eqSpring, trivial⟩⟩⟩)) Try.func33 (by kernel_rfl : Func.cmp Try.prog [(65, laws_eqBench_S), (15, laws_eqIntS_S), (66, laws_eqSpring_S)] laws_eqWorkshop_S Try.f33 laws_eqWorkshop_hs = some laws_eqWorkshop_L) laws_eqWorkshop_ok
theorem c_laws_markPinS : Contract .zero Try.prog 112 laws_markPinS_S :=
  fn_sh (sg := []) Try.mixed (sgOk_look (show sgOk .zero Try.prog [] from trivial)) Try.func112 (by kernel_rfl : Func.cmp Try.prog [] laws_markPinS_S Try.f112 laws_markPinS_hs = some laws_markPinS_L) laws_markPinS_ok
theorem c_laws_markCylinder : Contract .zero Try.prog 87 laws_markCylinder_S :=
  fn_sh (sg := [(112, laws_markPinS_S)]) Try.mixed (sgOk_look (show sgOk .zero Try.prog [(112, laws_markPinS_S)] from ⟨c_laws_markPinS, trivial⟩)) Try.func87 (by kernel_rfl : Func.cmp Try.prog [(112, laws_markPinS_S)] laws_markCylinder_S Try.f87 laws_markCylinder_hs = some laws_markCylinder_L) laws_markCylinder_ok
theorem c_laws_markPinSS : Contract .zero Try.prog 88 laws_markPinSS_S :=
  fn_sh (sg := [(112, laws_markPinS_S)]) Try.mixed (sgOk_look (show sgOk .zero Try.prog [(112, laws_markPinS_S)] from ⟨c_laws_markPinS, trivial⟩)) Try.func88 (by kernel_rfl : Func.cmp Try.prog [(112, laws_markPinS_S)] laws_markPinSS_S Try.f88 laws_markPinSS_hs = some laws_markPinSS_L) laws_markPinSS_ok
theorem c_laws_markBench : Contract .zero Try.prog 67 laws_markBench_S :=
  fn_sh (sg := [(87, laws_markCylinder_S), (88, laws_markPinSS_S)]) Try.mixed (sgOk_look (show sgOk .zero Try.prog [(87, laws_markCylinder_S), (88, laws_markPinSS_S)] from ⟨c_laws_markCylinder, ⟨c_laws_markPinSS, trivial⟩⟩)) Try.func67 (by kernel_rfl : Func.cmp Try.prog [(87, laws_markCylinder_S), (88, laws_markPinSS_S)] laws_markBench_S Try.f67 laws_markBench_hs = some laws_markBench_L) laws_markBench_ok
theorem c_laws_markIntS : Contract .zero Try.prog 17 laws_markIntS_S :=
  fn_sh (sg := []) Try.mixed (sgOk_look (show sgOk .zero Try.prog [] from trivial)) Try.func17 (by kernel_rfl : Func.cmp Try.prog [] laws_markIntS_S Try.f17 laws_markIntS_hs = some laws_markIntS_L) laws_markIntS_ok
theorem c_laws_markWorkshop : Contract .zero Try.prog 34 laws_markWorkshop_S :=
  fn_sh (sg := [(67, laws_markBench_S), (17, laws_markIntS_S)]) Try.mixed (sgOk_look (show sgOk .zero Try.prog [(67, laws_markBench_S), (17, laws_markIntS_S)] from ⟨c_laws_markBench, ⟨c_laws_markIntS, trivial⟩⟩)) Try.func34 (by kernel_rfl : Func.cmp Try.prog [(67, laws_markBench_S), (17, laws_markIntS_S)] laws_markWorkshop_S Try.f34 laws_markWorkshop_hs = some laws_markWorkshop_L) laws_markWorkshop_ok
theorem c_laws_markNoteS : Contract .zero Try.prog 35 laws_markNoteS_S :=
  fn_sh (sg := []) Try.mixed (sgOk_look (show sgOk .zero Try.prog [] from trivial)) Try.func35 (by kernel_rfl : Func.cmp Try.prog [] laws_markNoteS_S Try.f35 laws_markNoteS_hs = some laws_markNoteS_L) laws_markNoteS_ok
theorem c_laws_heldNoteS : Contract .zero Try.prog 36 laws_heldNoteS_S :=
  fn_sh (sg := []) Try.mixed (sgOk_look (show sgOk .zero Try.prog [] from trivial)) Try.func36 (by kernel_rfl : Func.cmp Try.prog [] laws_heldNoteS_S Try.f36 laws_heldNoteS_hs = some laws_heldNoteS_L) laws_heldNoteS_ok
theorem c_laws_FnExactMelodyOf : Contract .zero Try.prog 7 laws_FnExactMelodyOf_S :=
  fn_sh (sg := [(28, laws_szWorkshop_S), (30, laws_toWorkshop_S), (29, spec_MelodyOf_S), (31, impl_MelodyOf_S), (32, laws_eqNoteS_S), (33, laws_eqWorkshop_S), (34, laws_markWorkshop_S), (35, laws_markNoteS_S), (36, laws_heldNoteS_S)]) Try.mixed (sgOk_look (show sgOk .zero Try.prog [(28, laws_szWorkshop_S), (30, laws_toWorkshop_S), (29, spec_MelodyOf_S), (31, impl_MelodyOf_S), (32, laws_eqNoteS_S), (33, laws_eqWorkshop_S), (34, laws_markWorkshop_S), (35, laws_markNoteS_S), (36, laws_heldNoteS_S)] from ⟨c_laws_szWorkshop, ⟨c_laws_toWorkshop, ⟨c_spec_MelodyOf, ⟨c_impl_MelodyOf, ⟨c_laws_eqNoteS, ⟨c_laws_eqWorkshop, ⟨c_laws_markWorkshop, ⟨c_laws_markNoteS, ⟨c_laws_heldNoteS, trivial⟩⟩⟩⟩⟩⟩⟩⟩⟩)) Try.func7 (by kernel_rfl : Func.cmp Try.prog [(28, laws_szWorkshop_S), (30, laws_toWorkshop_S), (29, spec_MelodyOf_S), (31, impl_MelodyOf_S), (32, laws_eqNoteS_S), (33, laws_eqWorkshop_S), (34, laws_markWorkshop_S), (35, laws_markNoteS_S), (36, laws_heldNoteS_S)] laws_FnExactMelodyOf_S Try.f7 laws_FnExactMelodyOf_hs = some laws_FnExactMelodyOf_L) laws_FnExactMelodyOf_ok

end Go.Proofs.Ytobecpmneaninaa
