/- The contracts of the functions that the laws FnExactFormatWorkshop, FnSummaries reach: each keeps what its pure function says, wherever that function says something. -/
import Derived.Test.YtpilehpgnfegkaaDoorRows
import Derived.Test.YtpilehpgnfegkaaDoorPa3
import Derived.Test.YtpilehpgnfegkaaDoorLya
import Derived.ProofKit
namespace Go.Proofs.YtpilehpgnfegkaaDoor
open Go.ChangeShapes Go.WideShapes Go.ChangeAt Go.RowKit Go.Mw

theorem Tryd.own : ownKnob Tryd.prog.godebug = none := by kernel_rfl
theorem Tryd.laidOut : laidOutB Tryd.prog = true := by kernel_rfl
theorem Tryd.mixed : Tryd.prog.follows .mixedOrders = true := by kernel_rfl
theorem c_laws_szPinS : Contract .zero Tryd.prog 100 laws_szPinS_S :=
  fn_sh (sg := []) Tryd.mixed (sgOk_look (show sgOk .zero Tryd.prog [] from trivial)) Tryd.func100 (by kernel_rfl : Func.cmp Tryd.prog [] laws_szPinS_S Tryd.f100 laws_szPinS_hs = some laws_szPinS_L) laws_szPinS_ok
theorem c_laws_szCylinder : Contract .zero Tryd.prog 71 laws_szCylinder_S :=
  fn_sh (sg := [(100, laws_szPinS_S)]) Tryd.mixed (sgOk_look (show sgOk .zero Tryd.prog [(100, laws_szPinS_S)] from ⟨c_laws_szPinS, trivial⟩)) Tryd.func71 (by kernel_rfl : Func.cmp Tryd.prog [(100, laws_szPinS_S)] laws_szCylinder_S Tryd.f71 laws_szCylinder_hs = some laws_szCylinder_L) laws_szCylinder_ok
theorem c_laws_szPinSS : Contract .zero Tryd.prog 72 laws_szPinSS_S :=
  fn_sh (sg := [(100, laws_szPinS_S)]) Tryd.mixed (sgOk_look (show sgOk .zero Tryd.prog [(100, laws_szPinS_S)] from ⟨c_laws_szPinS, trivial⟩)) Tryd.func72 (by kernel_rfl : Func.cmp Tryd.prog [(100, laws_szPinS_S)] laws_szPinSS_S Tryd.f72 laws_szPinSS_hs = some laws_szPinSS_L) laws_szPinSS_ok
theorem c_laws_szBench : Contract .zero Tryd.prog 44 laws_szBench_S :=
  fn_sh (sg := [(71, laws_szCylinder_S), (72, laws_szPinSS_S)]) Tryd.mixed (sgOk_look (show sgOk .zero Tryd.prog [(71, laws_szCylinder_S), (72, laws_szPinSS_S)] from ⟨c_laws_szCylinder, ⟨c_laws_szPinSS, trivial⟩⟩)) Tryd.func44 (by kernel_rfl : Func.cmp Tryd.prog [(71, laws_szCylinder_S), (72, laws_szPinSS_S)] laws_szBench_S Tryd.f44 laws_szBench_hs = some laws_szBench_L) laws_szBench_ok
theorem c_laws_szIntS : Contract .zero Tryd.prog 45 laws_szIntS_S :=
  fn_sh (sg := []) Tryd.mixed (sgOk_look (show sgOk .zero Tryd.prog [] from trivial)) Tryd.func45 (by kernel_rfl : Func.cmp Tryd.prog [] laws_szIntS_S Tryd.f45 laws_szIntS_hs = some laws_szIntS_L) laws_szIntS_ok
theorem c_laws_szWorkshop : Contract .zero Tryd.prog 20 laws_szWorkshop_S :=
  fn_sh (sg := [(44, laws_szBench_S), (45, laws_szIntS_S)]) Tryd.mixed (sgOk_look (show sgOk .zero Tryd.prog [(44, laws_szBench_S), (45, laws_szIntS_S)] from ⟨c_laws_szBench, ⟨c_laws_szIntS, trivial⟩⟩)) Tryd.func20 (by kernel_rfl : Func.cmp Tryd.prog [(44, laws_szBench_S), (45, laws_szIntS_S)] laws_szWorkshop_S Tryd.f20 laws_szWorkshop_hs = some laws_szWorkshop_L) laws_szWorkshop_ok
theorem c_laws_toPin : Contract .zero Tryd.prog 121 laws_toPin_S :=
  fn_sh (sg := []) Tryd.mixed (sgOk_look (show sgOk .zero Tryd.prog [] from trivial)) Tryd.func121 (by kernel_rfl : Func.cmp Tryd.prog [] laws_toPin_S Tryd.f121 laws_toPin_hs = some laws_toPin_L) laws_toPin_ok
theorem c_laws_toPinS : Contract .zero Tryd.prog 102 laws_toPinS_S :=
  fn_sh (sg := [(121, laws_toPin_S)]) Tryd.mixed (sgOk_look (show sgOk .zero Tryd.prog [(121, laws_toPin_S)] from ⟨c_laws_toPin, trivial⟩)) Tryd.func102 (by kernel_rfl : Func.cmp Tryd.prog [(121, laws_toPin_S)] laws_toPinS_S Tryd.f102 laws_toPinS_hs = some laws_toPinS_L) laws_toPinS_ok
theorem c_laws_toCylinder : Contract .zero Tryd.prog 77 laws_toCylinder_S :=
  fn_sh (sg := [(102, laws_toPinS_S)]) Tryd.mixed (sgOk_look (show sgOk .zero Tryd.prog [(102, laws_toPinS_S)] from ⟨c_laws_toPinS, trivial⟩)) Tryd.func77 (by kernel_rfl : Func.cmp Tryd.prog [(102, laws_toPinS_S)] laws_toCylinder_S Tryd.f77 laws_toCylinder_hs = some laws_toCylinder_L) laws_toCylinder_ok
theorem c_laws_toPinSS : Contract .zero Tryd.prog 78 laws_toPinSS_S :=
  fn_sh (sg := [(102, laws_toPinS_S)]) Tryd.mixed (sgOk_look (show sgOk .zero Tryd.prog [(102, laws_toPinS_S)] from ⟨c_laws_toPinS, trivial⟩)) Tryd.func78 (by kernel_rfl : Func.cmp Tryd.prog [(102, laws_toPinS_S)] laws_toPinSS_S Tryd.f78 laws_toPinSS_hs = some laws_toPinSS_L) laws_toPinSS_ok
theorem c_laws_toBench : Contract .zero Tryd.prog 48 laws_toBench_S :=
  fn_sh (sg := [(77, laws_toCylinder_S), (78, laws_toPinSS_S)]) Tryd.mixed (sgOk_look (show sgOk .zero Tryd.prog [(77, laws_toCylinder_S), (78, laws_toPinSS_S)] from ⟨c_laws_toCylinder, ⟨c_laws_toPinSS, trivial⟩⟩)) Tryd.func48 (by kernel_rfl : Func.cmp Tryd.prog [(77, laws_toCylinder_S), (78, laws_toPinSS_S)] laws_toBench_S Tryd.f48 laws_toBench_hs = some laws_toBench_L) laws_toBench_ok
theorem c_laws_toIntS : Contract .zero Tryd.prog 49 laws_toIntS_S :=
  fn_sh (sg := []) Tryd.mixed (sgOk_look (show sgOk .zero Tryd.prog [] from trivial)) Tryd.func49 (by kernel_rfl : Func.cmp Tryd.prog [] laws_toIntS_S Tryd.f49 laws_toIntS_hs = some laws_toIntS_L) laws_toIntS_ok
theorem c_laws_toSpring : Contract .zero Tryd.prog 50 laws_toSpring_S :=
  fn_sh (sg := []) Tryd.mixed (sgOk_look (show sgOk .zero Tryd.prog [] from trivial)) Tryd.func50 (by kernel_rfl : Func.cmp Tryd.prog [] laws_toSpring_S Tryd.f50 laws_toSpring_hs = some laws_toSpring_L) laws_toSpring_ok
theorem c_laws_toWorkshop : Contract .zero Tryd.prog 22 laws_toWorkshop_S :=
  fn_sh (sg := [(48, laws_toBench_S), (49, laws_toIntS_S), (50, laws_toSpring_S)]) Tryd.mixed (sgOk_look (show sgOk .zero Tryd.prog [(48, laws_toBench_S), (49, laws_toIntS_S), (50, laws_toSpring_S)] from ⟨c_laws_toBench, ⟨c_laws_toIntS, ⟨c_laws_toSpring, trivial⟩⟩⟩)) Tryd.func22 (by kernel_rfl : Func.cmp Tryd.prog [(48, laws_toBench_S), (49, laws_toIntS_S), (50, laws_toSpring_S)] laws_toWorkshop_S Tryd.f22 laws_toWorkshop_hs = some laws_toWorkshop_L) laws_toWorkshop_ok
theorem c_spec_l01In : Contract .zero Tryd.prog 40 spec_l01In_S :=
  fn_sh (sg := []) Tryd.mixed (sgOk_look (show sgOk .zero Tryd.prog [] from trivial)) Tryd.func40 (by kernel_rfl : Func.cmp Tryd.prog [] spec_l01In_S Tryd.f40 spec_l01In_hs = some spec_l01In_L) spec_l01In_ok
theorem c_spec_l06Less : Contract .zero Tryd.prog 101 spec_l06Less_S :=
  fn_sh (sg := []) Tryd.mixed (sgOk_look (show sgOk .zero Tryd.prog [] from trivial)) Tryd.func101 (by kernel_rfl : Func.cmp Tryd.prog [] spec_l06Less_S Tryd.f101 spec_l06Less_hs = some spec_l06Less_L) spec_l06Less_ok
theorem c_spec_CylinderOk : Contract .zero Tryd.prog 76 spec_CylinderOk_S :=
  fn_sh (sg := [(40, spec_l01In_S), (101, spec_l06Less_S)]) Tryd.mixed (sgOk_look (show sgOk .zero Tryd.prog [(40, spec_l01In_S), (101, spec_l06Less_S)] from ⟨c_spec_l01In, ⟨c_spec_l06Less, trivial⟩⟩)) Tryd.func76 (by kernel_rfl : Func.cmp Tryd.prog [(40, spec_l01In_S), (101, spec_l06Less_S)] spec_CylinderOk_S Tryd.f76 spec_CylinderOk_hs = some spec_CylinderOk_L) spec_CylinderOk_ok
theorem c_spec_BenchOk : Contract .zero Tryd.prog 73 spec_BenchOk_S :=
  fn_sh (sg := [(76, spec_CylinderOk_S)]) Tryd.mixed (sgOk_look (show sgOk .zero Tryd.prog [(76, spec_CylinderOk_S)] from ⟨c_spec_CylinderOk, trivial⟩)) Tryd.func73 (by kernel_rfl : Func.cmp Tryd.prog [(76, spec_CylinderOk_S)] spec_BenchOk_S Tryd.f73 spec_BenchOk_hs = some spec_BenchOk_L) spec_BenchOk_ok
theorem c_spec_CombOk : Contract .zero Tryd.prog 74 spec_CombOk_S :=
  fn_sh (sg := [(40, spec_l01In_S)]) Tryd.mixed (sgOk_look (show sgOk .zero Tryd.prog [(40, spec_l01In_S)] from ⟨c_spec_l01In, trivial⟩)) Tryd.func74 (by kernel_rfl : Func.cmp Tryd.prog [(40, spec_l01In_S)] spec_CombOk_S Tryd.f74 spec_CombOk_hs = some spec_CombOk_L) spec_CombOk_ok
theorem c_spec_SpringOk : Contract .zero Tryd.prog 75 spec_SpringOk_S :=
  fn_sh (sg := [(40, spec_l01In_S)]) Tryd.mixed (sgOk_look (show sgOk .zero Tryd.prog [(40, spec_l01In_S)] from ⟨c_spec_l01In, trivial⟩)) Tryd.func75 (by kernel_rfl : Func.cmp Tryd.prog [(40, spec_l01In_S)] spec_SpringOk_S Tryd.f75 spec_SpringOk_hs = some spec_SpringOk_L) spec_SpringOk_ok
theorem c_spec_WorkshopOk : Contract .zero Tryd.prog 46 spec_WorkshopOk_S :=
  fn_sh (sg := [(73, spec_BenchOk_S), (74, spec_CombOk_S), (75, spec_SpringOk_S), (40, spec_l01In_S)]) Tryd.mixed (sgOk_look (show sgOk .zero Tryd.prog [(73, spec_BenchOk_S), (74, spec_CombOk_S), (75, spec_SpringOk_S), (40, spec_l01In_S)] from ⟨c_spec_BenchOk, ⟨c_spec_CombOk, ⟨c_spec_SpringOk, ⟨c_spec_l01In, trivial⟩⟩⟩⟩)) Tryd.func46 (by kernel_rfl : Func.cmp Tryd.prog [(73, spec_BenchOk_S), (74, spec_CombOk_S), (75, spec_SpringOk_S), (40, spec_l01In_S)] spec_WorkshopOk_S Tryd.f46 spec_WorkshopOk_hs = some spec_WorkshopOk_L) spec_WorkshopOk_ok
theorem c_spec_GridText : Contract .zero Tryd.prog 47 spec_GridText_S :=
  fn_sh (sg := [(76, spec_CylinderOk_S)]) Tryd.mixed (sgOk_look (show sgOk .zero Tryd.prog [(76, spec_CylinderOk_S)] from ⟨c_spec_CylinderOk, trivial⟩)) Tryd.func47 (by kernel_rfl : Func.cmp Tryd.prog [(76, spec_CylinderOk_S)] spec_GridText_S Tryd.f47 spec_GridText_hs = some spec_GridText_L) spec_GridText_ok
theorem c_spec_l01Figure : Contract .zero Tryd.prog 64 spec_l01Figure_S :=
  fn_sh (sg := []) Tryd.mixed (sgOk_look (show sgOk .zero Tryd.prog [] from trivial)) Tryd.func64 (by kernel_rfl : Func.cmp Tryd.prog [] spec_l01Figure_S Tryd.f64 spec_l01Figure_hs = some spec_l01Figure_L) spec_l01Figure_ok
theorem c_spec_FormatInt : Contract .zero Tryd.prog 34 spec_FormatInt_S :=
  fn_sh (sg := [(64, spec_l01Figure_S)]) Tryd.mixed (sgOk_look (show sgOk .zero Tryd.prog [(64, spec_l01Figure_S)] from ⟨c_spec_l01Figure, trivial⟩)) Tryd.func34 (by kernel_rfl : Func.cmp Tryd.prog [(64, spec_l01Figure_S)] spec_FormatInt_S Tryd.f34 spec_FormatInt_hs = some spec_FormatInt_L) spec_FormatInt_ok
theorem c_spec_FormatWorkshop : Contract .zero Tryd.prog 21 spec_FormatWorkshop_S :=
  fn_sh (sg := [(46, spec_WorkshopOk_S), (47, spec_GridText_S), (34, spec_FormatInt_S)]) Tryd.mixed (sgOk_look (show sgOk .zero Tryd.prog [(46, spec_WorkshopOk_S), (47, spec_GridText_S), (34, spec_FormatInt_S)] from ⟨c_spec_WorkshopOk, ⟨c_spec_GridText, ⟨c_spec_FormatInt, trivial⟩⟩⟩)) Tryd.func21 (by kernel_rfl : Func.cmp Tryd.prog [(46, spec_WorkshopOk_S), (47, spec_GridText_S), (34, spec_FormatInt_S)] spec_FormatWorkshop_S Tryd.f21 spec_FormatWorkshop_hs = some spec_FormatWorkshop_L) spec_FormatWorkshop_ok
theorem c_impl_within : Contract .zero Tryd.prog 65 impl_within_S :=
  fn_sh (sg := []) Tryd.mixed (sgOk_look (show sgOk .zero Tryd.prog [] from trivial)) Tryd.func65 (by kernel_rfl : Func.cmp Tryd.prog [] impl_within_S Tryd.f65 impl_within_hs = some impl_within_L) impl_within_ok
theorem c_impl_comparePins : Contract .zero Tryd.prog 91 impl_comparePins_S :=
  fn_sh (sg := []) Tryd.mixed (sgOk_look (show sgOk .zero Tryd.prog [] from trivial)) Tryd.func91 (by kernel_rfl : Func.cmp Tryd.prog [] impl_comparePins_S Tryd.f91 impl_comparePins_hs = some impl_comparePins_L) impl_comparePins_ok
theorem c_impl_CylinderOk : Contract .zero Tryd.prog 61 impl_CylinderOk_S :=
  fn_sh (sg := [(65, impl_within_S), (91, impl_comparePins_S)]) Tryd.mixed (sgOk_look (show sgOk .zero Tryd.prog [(65, impl_within_S), (91, impl_comparePins_S)] from ⟨c_impl_within, ⟨c_impl_comparePins, trivial⟩⟩)) Tryd.func61 (by kernel_rfl : Func.cmp Tryd.prog [(65, impl_within_S), (91, impl_comparePins_S)] impl_CylinderOk_S Tryd.f61 impl_CylinderOk_hs = some impl_CylinderOk_L) impl_CylinderOk_ok
theorem c_impl_BenchOk : Contract .zero Tryd.prog 79 impl_BenchOk_S :=
  fn_sh (sg := [(61, impl_CylinderOk_S)]) Tryd.mixed (sgOk_look (show sgOk .zero Tryd.prog [(61, impl_CylinderOk_S)] from ⟨c_impl_CylinderOk, trivial⟩)) Tryd.func79 (by kernel_rfl : Func.cmp Tryd.prog [(61, impl_CylinderOk_S)] impl_BenchOk_S Tryd.f79 impl_BenchOk_hs = some impl_BenchOk_L) impl_BenchOk_ok
theorem c_impl_CombOk : Contract .zero Tryd.prog 80 impl_CombOk_S :=
  fn_sh (sg := [(65, impl_within_S)]) Tryd.mixed (sgOk_look (show sgOk .zero Tryd.prog [(65, impl_within_S)] from ⟨c_impl_within, trivial⟩)) Tryd.func80 (by kernel_rfl : Func.cmp Tryd.prog [(65, impl_within_S)] impl_CombOk_S Tryd.f80 impl_CombOk_hs = some impl_CombOk_L) impl_CombOk_ok
theorem c_impl_SpringOk : Contract .zero Tryd.prog 81 impl_SpringOk_S :=
  fn_sh (sg := [(65, impl_within_S)]) Tryd.mixed (sgOk_look (show sgOk .zero Tryd.prog [(65, impl_within_S)] from ⟨c_impl_within, trivial⟩)) Tryd.func81 (by kernel_rfl : Func.cmp Tryd.prog [(65, impl_within_S)] impl_SpringOk_S Tryd.f81 impl_SpringOk_hs = some impl_SpringOk_L) impl_SpringOk_ok
theorem c_impl_WorkshopOk : Contract .zero Tryd.prog 51 impl_WorkshopOk_S :=
  fn_sh (sg := [(79, impl_BenchOk_S), (80, impl_CombOk_S), (81, impl_SpringOk_S), (65, impl_within_S)]) Tryd.mixed (sgOk_look (show sgOk .zero Tryd.prog [(79, impl_BenchOk_S), (80, impl_CombOk_S), (81, impl_SpringOk_S), (65, impl_within_S)] from ⟨c_impl_BenchOk, ⟨c_impl_CombOk, ⟨c_impl_SpringOk, ⟨c_impl_within, trivial⟩⟩⟩⟩)) Tryd.func51 (by kernel_rfl : Func.cmp Tryd.prog [(79, impl_BenchOk_S), (80, impl_CombOk_S), (81, impl_SpringOk_S), (65, impl_within_S)] impl_WorkshopOk_S Tryd.f51 impl_WorkshopOk_hs = some impl_WorkshopOk_L) impl_WorkshopOk_ok
noncomputable def strings_Repeat_S : Sig := ⟨[.val false [.sc], .val false [.sc]], [(false, [.sc])], F_strings_Repeat⟩
theorem c_strings_Repeat {G : Gl} (kd : G.dr = false) : Contract G Tryd.prog 62 strings_Repeat_S := repeat_contract Tryd.lays105 Tryd.Builder_Extra_105 kd
theorem c_impl_GridText {G : Gl} (kd : G.dr = false) : Contract G Tryd.prog 31 impl_GridText_S :=
  fn_sh (sg := [(61, impl_CylinderOk_S), (62, strings_Repeat_S)]) Tryd.mixed (sgOk_look (show sgOk G Tryd.prog [(61, impl_CylinderOk_S), (62, strings_Repeat_S)] from ⟨c_impl_CylinderOk.to, ⟨c_strings_Repeat kd, trivial⟩⟩)) Tryd.func31 (by kernel_rfl : Func.cmp Tryd.prog [(61, impl_CylinderOk_S), (62, strings_Repeat_S)] impl_GridText_S Tryd.f31 impl_GridText_hs = some impl_GridText_L) impl_GridText_ok
noncomputable def strconv_Itoa_S : Sig := ⟨[.val false [.sc]], [(false, [.sc])], F_strconv_Itoa⟩
theorem c_strconv_Itoa {G : Gl} (kt : KTab Tryd.prog G) : Contract G Tryd.prog 63 strconv_Itoa_S := itoa_contract Tryd.laysM171 kt
theorem c_impl_FormatInt {G : Gl} (kt : KTab Tryd.prog G) : Contract G Tryd.prog 32 impl_FormatInt_S :=
  fn_sh (sg := [(63, strconv_Itoa_S)]) Tryd.mixed (sgOk_look (show sgOk G Tryd.prog [(63, strconv_Itoa_S)] from ⟨c_strconv_Itoa kt, trivial⟩)) Tryd.func32 (by kernel_rfl : Func.cmp Tryd.prog [(63, strconv_Itoa_S)] impl_FormatInt_S Tryd.f32 impl_FormatInt_hs = some impl_FormatInt_L) impl_FormatInt_ok
theorem c_impl_FormatWorkshop {G : Gl} (kd : G.dr = false) (kt : KTab Tryd.prog G) : Contract G Tryd.prog 23 impl_FormatWorkshop_S :=
  fn_sh (sg := [(51, impl_WorkshopOk_S), (31, impl_GridText_S), (32, impl_FormatInt_S)]) Tryd.mixed (sgOk_look (show sgOk G Tryd.prog [(51, impl_WorkshopOk_S), (31, impl_GridText_S), (32, impl_FormatInt_S)] from ⟨c_impl_WorkshopOk.to, ⟨c_impl_GridText kd, ⟨c_impl_FormatInt kt, trivial⟩⟩⟩)) Tryd.func23 (by kernel_rfl : Func.cmp Tryd.prog [(51, impl_WorkshopOk_S), (31, impl_GridText_S), (32, impl_FormatInt_S)] impl_FormatWorkshop_S Tryd.f23 impl_FormatWorkshop_hs = some impl_FormatWorkshop_L) impl_FormatWorkshop_ok
theorem c_laws_eqStringS : Contract .zero Tryd.prog 24 laws_eqStringS_S :=
  fn_sh (sg := []) Tryd.mixed (sgOk_look (show sgOk .zero Tryd.prog [] from trivial)) Tryd.func24 (by kernel_rfl : Func.cmp Tryd.prog [] laws_eqStringS_S Tryd.f24 laws_eqStringS_hs = some laws_eqStringS_L) laws_eqStringS_ok
theorem c_laws_eqPin : Contract .zero Tryd.prog 122 laws_eqPin_S :=
  fn_sh (sg := []) Tryd.mixed (sgOk_look (show sgOk .zero Tryd.prog [] from trivial)) Tryd.func122 (by kernel_rfl : Func.cmp Tryd.prog [] laws_eqPin_S Tryd.f122 laws_eqPin_hs = some laws_eqPin_L) laws_eqPin_ok
theorem c_laws_eqPinS : Contract .zero Tryd.prog 103 laws_eqPinS_S :=
  fn_sh (sg := [(122, laws_eqPin_S)]) Tryd.mixed (sgOk_look (show sgOk .zero Tryd.prog [(122, laws_eqPin_S)] from ⟨c_laws_eqPin, trivial⟩)) Tryd.func103 (by kernel_rfl : Func.cmp Tryd.prog [(122, laws_eqPin_S)] laws_eqPinS_S Tryd.f103 laws_eqPinS_hs = some laws_eqPinS_L) laws_eqPinS_ok
theorem c_laws_eqCylinder : Contract .zero Tryd.prog 82 laws_eqCylinder_S :=
  fn_sh (sg := [(103, laws_eqPinS_S)]) Tryd.mixed (sgOk_look (show sgOk .zero Tryd.prog [(103, laws_eqPinS_S)] from ⟨c_laws_eqPinS, trivial⟩)) Tryd.func82 (by kernel_rfl : Func.cmp Tryd.prog [(103, laws_eqPinS_S)] laws_eqCylinder_S Tryd.f82 laws_eqCylinder_hs = some laws_eqCylinder_L) laws_eqCylinder_ok
theorem c_laws_eqPinSS : Contract .zero Tryd.prog 83 laws_eqPinSS_S :=
  fn_sh (sg := [(103, laws_eqPinS_S)]) Tryd.mixed (sgOk_look (show sgOk .zero Tryd.prog [(103, laws_eqPinS_S)] from ⟨c_laws_eqPinS, trivial⟩)) Tryd.func83 (by kernel_rfl : Func.cmp Tryd.prog [(103, laws_eqPinS_S)] laws_eqPinSS_S Tryd.f83 laws_eqPinSS_hs = some laws_eqPinSS_L) laws_eqPinSS_ok
theorem c_laws_eqBench : Contract .zero Tryd.prog 52 laws_eqBench_S :=
  fn_sh (sg := [(82, laws_eqCylinder_S), (83, laws_eqPinSS_S)]) Tryd.mixed (sgOk_look (show sgOk .zero Tryd.prog [(82, laws_eqCylinder_S), (83, laws_eqPinSS_S)] from ⟨c_laws_eqCylinder, ⟨c_laws_eqPinSS, trivial⟩⟩)) Tryd.func52 (by kernel_rfl : Func.cmp Tryd.prog [(82, laws_eqCylinder_S), (83, laws_eqPinSS_S)] laws_eqBench_S Tryd.f52 laws_eqBench_hs = some laws_eqBench_L) laws_eqBench_ok
theorem c_laws_eqIntS : Contract .zero Tryd.prog 53 laws_eqIntS_S :=
  fn_sh (sg := []) Tryd.mixed (sgOk_look (show sgOk .zero Tryd.prog [] from trivial)) Tryd.func53 (by kernel_rfl : Func.cmp Tryd.prog [] laws_eqIntS_S Tryd.f53 laws_eqIntS_hs = some laws_eqIntS_L) laws_eqIntS_ok
theorem c_laws_eqSpring : Contract .zero Tryd.prog 54 laws_eqSpring_S :=
  fn_sh (sg := []) Tryd.mixed (sgOk_look (show sgOk .zero Tryd.prog [] from trivial)) Tryd.func54 (by kernel_rfl : Func.cmp Tryd.prog [] laws_eqSpring_S Tryd.f54 laws_eqSpring_hs = some laws_eqSpring_L) laws_eqSpring_ok
theorem c_laws_eqWorkshop : Contract .zero Tryd.prog 25 laws_eqWorkshop_S :=
  fn_sh (sg := [(52, laws_eqBench_S), (53, laws_eqIntS_S), (54, laws_eqSpring_S)]) Tryd.mixed (sgOk_look (show sgOk .zero Tryd.prog [(52, laws_eqBench_S), (53, laws_eqIntS_S), (54, laws_eqSpring_S)] from ⟨c_laws_eqBench, ⟨c_laws_eqIntS, ⟨c_laws_eqSpring, trivial⟩⟩⟩)) Tryd.func25 (by kernel_rfl : Func.cmp Tryd.prog [(52, laws_eqBench_S), (53, laws_eqIntS_S), (54, laws_eqSpring_S)] laws_eqWorkshop_S Tryd.f25 laws_eqWorkshop_hs = some laws_eqWorkshop_L) laws_eqWorkshop_ok
theorem c_laws_markPinS : Contract .zero Tryd.prog 104 laws_markPinS_S :=
  fn_sh (sg := []) Tryd.mixed (sgOk_look (show sgOk .zero Tryd.prog [] from trivial)) Tryd.func104 (by kernel_rfl : Func.cmp Tryd.prog [] laws_markPinS_S Tryd.f104 laws_markPinS_hs = some laws_markPinS_L) laws_markPinS_ok
theorem c_laws_markCylinder : Contract .zero Tryd.prog 84 laws_markCylinder_S :=
  fn_sh (sg := [(104, laws_markPinS_S)]) Tryd.mixed (sgOk_look (show sgOk .zero Tryd.prog [(104, laws_markPinS_S)] from ⟨c_laws_markPinS, trivial⟩)) Tryd.func84 (by kernel_rfl : Func.cmp Tryd.prog [(104, laws_markPinS_S)] laws_markCylinder_S Tryd.f84 laws_markCylinder_hs = some laws_markCylinder_L) laws_markCylinder_ok
theorem c_laws_markPinSS : Contract .zero Tryd.prog 85 laws_markPinSS_S :=
  fn_sh (sg := [(104, laws_markPinS_S)]) Tryd.mixed (sgOk_look (show sgOk .zero Tryd.prog [(104, laws_markPinS_S)] from ⟨c_laws_markPinS, trivial⟩)) Tryd.func85 (by kernel_rfl : Func.cmp Tryd.prog [(104, laws_markPinS_S)] laws_markPinSS_S Tryd.f85 laws_markPinSS_hs = some laws_markPinSS_L) laws_markPinSS_ok
theorem c_laws_markBench : Contract .zero Tryd.prog 55 laws_markBench_S :=
  fn_sh (sg := [(84, laws_markCylinder_S), (85, laws_markPinSS_S)]) Tryd.mixed (sgOk_look (show sgOk .zero Tryd.prog [(84, laws_markCylinder_S), (85, laws_markPinSS_S)] from ⟨c_laws_markCylinder, ⟨c_laws_markPinSS, trivial⟩⟩)) Tryd.func55 (by kernel_rfl : Func.cmp Tryd.prog [(84, laws_markCylinder_S), (85, laws_markPinSS_S)] laws_markBench_S Tryd.f55 laws_markBench_hs = some laws_markBench_L) laws_markBench_ok
theorem c_laws_markIntS : Contract .zero Tryd.prog 56 laws_markIntS_S :=
  fn_sh (sg := []) Tryd.mixed (sgOk_look (show sgOk .zero Tryd.prog [] from trivial)) Tryd.func56 (by kernel_rfl : Func.cmp Tryd.prog [] laws_markIntS_S Tryd.f56 laws_markIntS_hs = some laws_markIntS_L) laws_markIntS_ok
theorem c_laws_markWorkshop : Contract .zero Tryd.prog 26 laws_markWorkshop_S :=
  fn_sh (sg := [(55, laws_markBench_S), (56, laws_markIntS_S)]) Tryd.mixed (sgOk_look (show sgOk .zero Tryd.prog [(55, laws_markBench_S), (56, laws_markIntS_S)] from ⟨c_laws_markBench, ⟨c_laws_markIntS, trivial⟩⟩)) Tryd.func26 (by kernel_rfl : Func.cmp Tryd.prog [(55, laws_markBench_S), (56, laws_markIntS_S)] laws_markWorkshop_S Tryd.f26 laws_markWorkshop_hs = some laws_markWorkshop_L) laws_markWorkshop_ok
theorem c_laws_markText : Contract .zero Tryd.prog 57 laws_markText_S :=
  fn_sh (sg := []) Tryd.mixed (sgOk_look (show sgOk .zero Tryd.prog [] from trivial)) Tryd.func57 (by kernel_rfl : Func.cmp Tryd.prog [] laws_markText_S Tryd.f57 laws_markText_hs = some laws_markText_L) laws_markText_ok
theorem c_laws_markStringS : Contract .zero Tryd.prog 27 laws_markStringS_S :=
  fn_sh (sg := [(57, laws_markText_S)]) Tryd.mixed (sgOk_look (show sgOk .zero Tryd.prog [(57, laws_markText_S)] from ⟨c_laws_markText, trivial⟩)) Tryd.func27 (by kernel_rfl : Func.cmp Tryd.prog [(57, laws_markText_S)] laws_markStringS_S Tryd.f27 laws_markStringS_hs = some laws_markStringS_L) laws_markStringS_ok
theorem c_laws_heldStringS : Contract .zero Tryd.prog 28 laws_heldStringS_S :=
  fn_sh (sg := [(57, laws_markText_S)]) Tryd.mixed (sgOk_look (show sgOk .zero Tryd.prog [(57, laws_markText_S)] from ⟨c_laws_markText, trivial⟩)) Tryd.func28 (by kernel_rfl : Func.cmp Tryd.prog [(57, laws_markText_S)] laws_heldStringS_S Tryd.f28 laws_heldStringS_hs = some laws_heldStringS_L) laws_heldStringS_ok
theorem c_laws_FnExactFormatWorkshop {G : Gl} (kd : G.dr = false) (kt : KTab Tryd.prog G) : Contract G Tryd.prog 6 laws_FnExactFormatWorkshop_S :=
  fn_sh (sg := [(20, laws_szWorkshop_S), (22, laws_toWorkshop_S), (21, spec_FormatWorkshop_S), (23, impl_FormatWorkshop_S), (24, laws_eqStringS_S), (25, laws_eqWorkshop_S), (26, laws_markWorkshop_S), (27, laws_markStringS_S), (28, laws_heldStringS_S)]) Tryd.mixed (sgOk_look (show sgOk G Tryd.prog [(20, laws_szWorkshop_S), (22, laws_toWorkshop_S), (21, spec_FormatWorkshop_S), (23, impl_FormatWorkshop_S), (24, laws_eqStringS_S), (25, laws_eqWorkshop_S), (26, laws_markWorkshop_S), (27, laws_markStringS_S), (28, laws_heldStringS_S)] from ⟨c_laws_szWorkshop.to, ⟨c_laws_toWorkshop.to, ⟨c_spec_FormatWorkshop.to, ⟨c_impl_FormatWorkshop kd kt, ⟨c_laws_eqStringS.to, ⟨c_laws_eqWorkshop.to, ⟨c_laws_markWorkshop.to, ⟨c_laws_markStringS.to, ⟨c_laws_heldStringS.to, trivial⟩⟩⟩⟩⟩⟩⟩⟩⟩)) Tryd.func6 (by kernel_rfl : Func.cmp Tryd.prog [(20, laws_szWorkshop_S), (22, laws_toWorkshop_S), (21, spec_FormatWorkshop_S), (23, impl_FormatWorkshop_S), (24, laws_eqStringS_S), (25, laws_eqWorkshop_S), (26, laws_markWorkshop_S), (27, laws_markStringS_S), (28, laws_heldStringS_S)] laws_FnExactFormatWorkshop_S Tryd.f6 laws_FnExactFormatWorkshop_hs = some laws_FnExactFormatWorkshop_L) laws_FnExactFormatWorkshop_ok
theorem c_laws_big : Contract .zero Tryd.prog 29 laws_big_S :=
  fn_sh (sg := []) Tryd.mixed (sgOk_look (show sgOk .zero Tryd.prog [] from trivial)) Tryd.func29 (by kernel_rfl : Func.cmp Tryd.prog [] laws_big_S Tryd.f29 laws_big_hs = some laws_big_L) laws_big_ok
theorem c_spec_l01New : Contract .zero Tryd.prog 58 spec_l01New_S :=
  fn_sh (sg := []) Tryd.mixed (sgOk_look (show sgOk .zero Tryd.prog [] from trivial)) Tryd.func58 (by kernel_rfl : Func.cmp Tryd.prog [] spec_l01New_S Tryd.f58 spec_l01New_hs = some spec_l01New_L) spec_l01New_ok
theorem c_spec_l01Byte : Contract .zero Tryd.prog 109 spec_l01Byte_S :=
  fn_sh (sg := []) Tryd.mixed (sgOk_look (show sgOk .zero Tryd.prog [] from trivial)) Tryd.func109 (by kernel_rfl : Func.cmp Tryd.prog [] spec_l01Byte_S Tryd.f109 spec_l01Byte_hs = some spec_l01Byte_L) spec_l01Byte_ok
theorem c_spec_l01Below : Contract .zero Tryd.prog 89 spec_l01Below_S :=
  fn_sh (sg := [(109, spec_l01Byte_S)]) Tryd.mixed (sgOk_look (show sgOk .zero Tryd.prog [(109, spec_l01Byte_S)] from ⟨c_spec_l01Byte, trivial⟩)) Tryd.func89 (by kernel_rfl : Func.cmp Tryd.prog [(109, spec_l01Byte_S)] spec_l01Below_S Tryd.f89 spec_l01Below_hs = some spec_l01Below_L) spec_l01Below_ok
theorem c_spec_l01Once : Contract .zero Tryd.prog 86 spec_l01Once_S :=
  fn_sh (sg := [(89, spec_l01Below_S)]) Tryd.mixed (sgOk_look (show sgOk .zero Tryd.prog [(89, spec_l01Below_S)] from ⟨c_spec_l01Below, trivial⟩)) Tryd.func86 (by kernel_rfl : Func.cmp Tryd.prog [(89, spec_l01Below_S)] spec_l01Once_S Tryd.f86 spec_l01Once_hs = some spec_l01Once_L) spec_l01Once_ok
theorem c_spec_NewBench : Contract .zero Tryd.prog 123 spec_NewBench_S :=
  fn_sh (sg := [(73, spec_BenchOk_S)]) Tryd.mixed (sgOk_look (show sgOk .zero Tryd.prog [(73, spec_BenchOk_S)] from ⟨c_spec_BenchOk, trivial⟩)) Tryd.func123 (by kernel_rfl : Func.cmp Tryd.prog [(73, spec_BenchOk_S)] spec_NewBench_S Tryd.f123 spec_NewBench_hs = some spec_NewBench_L) spec_NewBench_ok
theorem c_spec_OpenWorkshop : Contract .zero Tryd.prog 105 spec_OpenWorkshop_S :=
  fn_sh (sg := [(123, spec_NewBench_S), (46, spec_WorkshopOk_S)]) Tryd.mixed (sgOk_look (show sgOk .zero Tryd.prog [(123, spec_NewBench_S), (46, spec_WorkshopOk_S)] from ⟨c_spec_NewBench, ⟨c_spec_WorkshopOk, trivial⟩⟩)) Tryd.func105 (by kernel_rfl : Func.cmp Tryd.prog [(123, spec_NewBench_S), (46, spec_WorkshopOk_S)] spec_OpenWorkshop_S Tryd.f105 spec_OpenWorkshop_hs = some spec_OpenWorkshop_L) spec_OpenWorkshop_ok
theorem c_spec_SampleWorkshop : Contract .zero Tryd.prog 87 spec_SampleWorkshop_S :=
  fn_sh (sg := [(105, spec_OpenWorkshop_S)]) Tryd.mixed (sgOk_look (show sgOk .zero Tryd.prog [(105, spec_OpenWorkshop_S)] from ⟨c_spec_OpenWorkshop, trivial⟩)) Tryd.func87 (by kernel_rfl : Func.cmp Tryd.prog [(105, spec_OpenWorkshop_S)] spec_SampleWorkshop_S Tryd.f87 spec_SampleWorkshop_hs = some spec_SampleWorkshop_L) spec_SampleWorkshop_ok
theorem c_spec_l06Put : Contract .zero Tryd.prog 134 spec_l06Put_S :=
  fn_sh (sg := [(101, spec_l06Less_S)]) Tryd.mixed (sgOk_look (show sgOk .zero Tryd.prog [(101, spec_l06Less_S)] from ⟨c_spec_l06Less, trivial⟩)) Tryd.func134 (by kernel_rfl : Func.cmp Tryd.prog [(101, spec_l06Less_S)] spec_l06Put_S Tryd.f134 spec_l06Put_hs = some spec_l06Put_L) spec_l06Put_ok
theorem c_spec_l06Cylinder : Contract .zero Tryd.prog 124 spec_l06Cylinder_S :=
  fn_sh (sg := [(89, spec_l01Below_S), (134, spec_l06Put_S)]) Tryd.mixed (sgOk_look (show sgOk .zero Tryd.prog [(89, spec_l01Below_S), (134, spec_l06Put_S)] from ⟨c_spec_l01Below, ⟨c_spec_l06Put, trivial⟩⟩)) Tryd.func124 (by kernel_rfl : Func.cmp Tryd.prog [(89, spec_l01Below_S), (134, spec_l06Put_S)] spec_l06Cylinder_S Tryd.f124 spec_l06Cylinder_hs = some spec_l06Cylinder_L) spec_l06Cylinder_ok
theorem c_spec_l06Copy : Contract .zero Tryd.prog 146 spec_l06Copy_S :=
  fn_sh (sg := []) Tryd.mixed (sgOk_look (show sgOk .zero Tryd.prog [] from trivial)) Tryd.func146 (by kernel_rfl : Func.cmp Tryd.prog [] spec_l06Copy_S Tryd.f146 spec_l06Copy_hs = some spec_l06Copy_L) spec_l06Copy_ok
theorem c_spec_PullPin : Contract .zero Tryd.prog 135 spec_PullPin_S :=
  fn_sh (sg := [(146, spec_l06Copy_S), (76, spec_CylinderOk_S), (40, spec_l01In_S)]) Tryd.mixed (sgOk_look (show sgOk .zero Tryd.prog [(146, spec_l06Copy_S), (76, spec_CylinderOk_S), (40, spec_l01In_S)] from ⟨c_spec_l06Copy, ⟨c_spec_CylinderOk, ⟨c_spec_l01In, trivial⟩⟩⟩)) Tryd.func135 (by kernel_rfl : Func.cmp Tryd.prog [(146, spec_l06Copy_S), (76, spec_CylinderOk_S), (40, spec_l01In_S)] spec_PullPin_S Tryd.f135 spec_PullPin_hs = some spec_PullPin_L) spec_PullPin_ok
theorem c_spec_l37Copy : Contract .zero Tryd.prog 136 spec_l37Copy_S :=
  fn_sh (sg := [(146, spec_l06Copy_S)]) Tryd.mixed (sgOk_look (show sgOk .zero Tryd.prog [(146, spec_l06Copy_S)] from ⟨c_spec_l06Copy, trivial⟩)) Tryd.func136 (by kernel_rfl : Func.cmp Tryd.prog [(146, spec_l06Copy_S)] spec_l37Copy_S Tryd.f136 spec_l37Copy_hs = some spec_l37Copy_L) spec_l37Copy_ok
theorem c_spec_l37Step : Contract .zero Tryd.prog 137 spec_l37Step_S :=
  fn_sh (sg := [(136, spec_l37Copy_S), (73, spec_BenchOk_S)]) Tryd.mixed (sgOk_look (show sgOk .zero Tryd.prog [(136, spec_l37Copy_S), (73, spec_BenchOk_S)] from ⟨c_spec_l37Copy, ⟨c_spec_BenchOk, trivial⟩⟩)) Tryd.func137 (by kernel_rfl : Func.cmp Tryd.prog [(136, spec_l37Copy_S), (73, spec_BenchOk_S)] spec_l37Step_S Tryd.f137 spec_l37Step_hs = some spec_l37Step_L) spec_l37Step_ok
theorem c_spec_TakePin : Contract .zero Tryd.prog 125 spec_TakePin_S :=
  fn_sh (sg := [(135, spec_PullPin_S), (136, spec_l37Copy_S), (137, spec_l37Step_S)]) Tryd.mixed (sgOk_look (show sgOk .zero Tryd.prog [(135, spec_PullPin_S), (136, spec_l37Copy_S), (137, spec_l37Step_S)] from ⟨c_spec_PullPin, ⟨c_spec_l37Copy, ⟨c_spec_l37Step, trivial⟩⟩⟩)) Tryd.func125 (by kernel_rfl : Func.cmp Tryd.prog [(135, spec_PullPin_S), (136, spec_l37Copy_S), (137, spec_l37Step_S)] spec_TakePin_S Tryd.f125 spec_TakePin_hs = some spec_TakePin_L) spec_TakePin_ok
theorem c_spec_AddPin : Contract .zero Tryd.prog 138 spec_AddPin_S :=
  fn_sh (sg := [(146, spec_l06Copy_S), (76, spec_CylinderOk_S), (134, spec_l06Put_S)]) Tryd.mixed (sgOk_look (show sgOk .zero Tryd.prog [(146, spec_l06Copy_S), (76, spec_CylinderOk_S), (134, spec_l06Put_S)] from ⟨c_spec_l06Copy, ⟨c_spec_CylinderOk, ⟨c_spec_l06Put, trivial⟩⟩⟩)) Tryd.func138 (by kernel_rfl : Func.cmp Tryd.prog [(146, spec_l06Copy_S), (76, spec_CylinderOk_S), (134, spec_l06Put_S)] spec_AddPin_S Tryd.f138 spec_AddPin_hs = some spec_AddPin_L) spec_AddPin_ok
theorem c_spec_SetPin : Contract .zero Tryd.prog 126 spec_SetPin_S :=
  fn_sh (sg := [(138, spec_AddPin_S), (136, spec_l37Copy_S), (137, spec_l37Step_S)]) Tryd.mixed (sgOk_look (show sgOk .zero Tryd.prog [(138, spec_AddPin_S), (136, spec_l37Copy_S), (137, spec_l37Step_S)] from ⟨c_spec_AddPin, ⟨c_spec_l37Copy, ⟨c_spec_l37Step, trivial⟩⟩⟩)) Tryd.func126 (by kernel_rfl : Func.cmp Tryd.prog [(138, spec_AddPin_S), (136, spec_l37Copy_S), (137, spec_l37Step_S)] spec_SetPin_S Tryd.f126 spec_SetPin_hs = some spec_SetPin_L) spec_SetPin_ok
theorem c_spec_l37Bench : Contract .zero Tryd.prog 106 spec_l37Bench_S :=
  fn_sh (sg := [(124, spec_l06Cylinder_S), (89, spec_l01Below_S), (86, spec_l01Once_S), (125, spec_TakePin_S), (126, spec_SetPin_S)]) Tryd.mixed (sgOk_look (show sgOk .zero Tryd.prog [(124, spec_l06Cylinder_S), (89, spec_l01Below_S), (86, spec_l01Once_S), (125, spec_TakePin_S), (126, spec_SetPin_S)] from ⟨c_spec_l06Cylinder, ⟨c_spec_l01Below, ⟨c_spec_l01Once, ⟨c_spec_TakePin, ⟨c_spec_SetPin, trivial⟩⟩⟩⟩⟩)) Tryd.func106 (by kernel_rfl : Func.cmp Tryd.prog [(124, spec_l06Cylinder_S), (89, spec_l01Below_S), (86, spec_l01Once_S), (125, spec_TakePin_S), (126, spec_SetPin_S)] spec_l37Bench_S Tryd.f106 spec_l37Bench_hs = some spec_l37Bench_L) spec_l37Bench_ok
theorem c_spec_l12Spring : Contract .zero Tryd.prog 107 spec_l12Spring_S :=
  fn_sh (sg := [(89, spec_l01Below_S)]) Tryd.mixed (sgOk_look (show sgOk .zero Tryd.prog [(89, spec_l01Below_S)] from ⟨c_spec_l01Below, trivial⟩)) Tryd.func107 (by kernel_rfl : Func.cmp Tryd.prog [(89, spec_l01Below_S)] spec_l12Spring_S Tryd.f107 spec_l12Spring_hs = some spec_l12Spring_L) spec_l12Spring_ok
theorem c_spec_l01PickInt : Contract .zero Tryd.prog 108 spec_l01PickInt_S :=
  fn_sh (sg := [(89, spec_l01Below_S)]) Tryd.mixed (sgOk_look (show sgOk .zero Tryd.prog [(89, spec_l01Below_S)] from ⟨c_spec_l01Below, trivial⟩)) Tryd.func108 (by kernel_rfl : Func.cmp Tryd.prog [(89, spec_l01Below_S)] spec_l01PickInt_S Tryd.f108 spec_l01PickInt_hs = some spec_l01PickInt_L) spec_l01PickInt_ok
theorem c_spec_l38Workshop : Contract .zero Tryd.prog 88 spec_l38Workshop_S :=
  fn_sh (sg := [(106, spec_l37Bench_S), (107, spec_l12Spring_S), (108, spec_l01PickInt_S)]) Tryd.mixed (sgOk_look (show sgOk .zero Tryd.prog [(106, spec_l37Bench_S), (107, spec_l12Spring_S), (108, spec_l01PickInt_S)] from ⟨c_spec_l37Bench, ⟨c_spec_l12Spring, ⟨c_spec_l01PickInt, trivial⟩⟩⟩)) Tryd.func88 (by kernel_rfl : Func.cmp Tryd.prog [(106, spec_l37Bench_S), (107, spec_l12Spring_S), (108, spec_l01PickInt_S)] spec_l38Workshop_S Tryd.f88 spec_l38Workshop_hs = some spec_l38Workshop_L) spec_l38Workshop_ok
theorem c_spec_l39Workshop : Contract .zero Tryd.prog 59 spec_l39Workshop_S :=
  fn_sh (sg := [(86, spec_l01Once_S), (87, spec_SampleWorkshop_S), (88, spec_l38Workshop_S)]) Tryd.mixed (sgOk_look (show sgOk .zero Tryd.prog [(86, spec_l01Once_S), (87, spec_SampleWorkshop_S), (88, spec_l38Workshop_S)] from ⟨c_spec_l01Once, ⟨c_spec_SampleWorkshop, ⟨c_spec_l38Workshop, trivial⟩⟩⟩)) Tryd.func59 (by kernel_rfl : Func.cmp Tryd.prog [(86, spec_l01Once_S), (87, spec_SampleWorkshop_S), (88, spec_l38Workshop_S)] spec_l39Workshop_S Tryd.f59 spec_l39Workshop_hs = some spec_l39Workshop_L) spec_l39Workshop_ok
theorem c_spec_l39Act : Contract .zero Tryd.prog 90 spec_l39Act_S :=
  fn_sh (sg := [(89, spec_l01Below_S)]) Tryd.mixed (sgOk_look (show sgOk .zero Tryd.prog [(89, spec_l01Below_S)] from ⟨c_spec_l01Below, trivial⟩)) Tryd.func90 (by kernel_rfl : Func.cmp Tryd.prog [(89, spec_l01Below_S)] spec_l39Act_S Tryd.f90 spec_l39Act_hs = some spec_l39Act_L) spec_l39Act_ok
theorem c_spec_l39List : Contract .zero Tryd.prog 60 spec_l39List_S :=
  fn_sh (sg := [(89, spec_l01Below_S), (90, spec_l39Act_S)]) Tryd.mixed (sgOk_look (show sgOk .zero Tryd.prog [(89, spec_l01Below_S), (90, spec_l39Act_S)] from ⟨c_spec_l01Below, ⟨c_spec_l39Act, trivial⟩⟩)) Tryd.func60 (by kernel_rfl : Func.cmp Tryd.prog [(89, spec_l01Below_S), (90, spec_l39Act_S)] spec_l39List_S Tryd.f60 spec_l39List_hs = some spec_l39List_L) spec_l39List_ok
theorem c_spec_DrawActs : Contract .zero Tryd.prog 30 spec_DrawActs_S :=
  fn_sh (sg := [(58, spec_l01New_S), (59, spec_l39Workshop_S), (60, spec_l39List_S)]) Tryd.mixed (sgOk_look (show sgOk .zero Tryd.prog [(58, spec_l01New_S), (59, spec_l39Workshop_S), (60, spec_l39List_S)] from ⟨c_spec_l01New, ⟨c_spec_l39Workshop, ⟨c_spec_l39List, trivial⟩⟩⟩)) Tryd.func30 (by kernel_rfl : Func.cmp Tryd.prog [(58, spec_l01New_S), (59, spec_l39Workshop_S), (60, spec_l39List_S)] spec_DrawActs_S Tryd.f30 spec_DrawActs_hs = some spec_DrawActs_L) spec_DrawActs_ok
theorem c_laws_FnSummaries {G : Gl} (kd : G.dr = false) (kt : KTab Tryd.prog G) : Contract G Tryd.prog 8 laws_FnSummaries_S :=
  fn_sh (sg := [(29, laws_big_S), (30, spec_DrawActs_S), (23, impl_FormatWorkshop_S), (31, impl_GridText_S), (32, impl_FormatInt_S)]) Tryd.mixed (sgOk_look (show sgOk G Tryd.prog [(29, laws_big_S), (30, spec_DrawActs_S), (23, impl_FormatWorkshop_S), (31, impl_GridText_S), (32, impl_FormatInt_S)] from ⟨c_laws_big.to, ⟨c_spec_DrawActs.to, ⟨c_impl_FormatWorkshop kd kt, ⟨c_impl_GridText kd, ⟨c_impl_FormatInt kt, trivial⟩⟩⟩⟩⟩)) Tryd.func8 (by kernel_rfl : Func.cmp Tryd.prog [(29, laws_big_S), (30, spec_DrawActs_S), (23, impl_FormatWorkshop_S), (31, impl_GridText_S), (32, impl_FormatInt_S)] laws_FnSummaries_S Tryd.f8 laws_FnSummaries_hs = some laws_FnSummaries_L) laws_FnSummaries_ok

end Go.Proofs.YtpilehpgnfegkaaDoor
