/- The contracts of the functions that the laws FnExactParseAct, FnActTexts reach: each keeps what its pure function says, wherever that function says something. -/
import Derived.Test.YtpilehpgnfegkaaDoorRows
import Derived.Test.YtpilehpgnfegkaaDoorPb3
import Derived.Test.YtpilehpgnfegkaaDoorLyb
import Derived.ProofKit
namespace Go.Proofs.YtpilehpgnfegkaaDoor
open Go.ChangeShapes Go.WideShapes Go.ChangeAt Go.RowKit Go.Mw

theorem Tryd.own : ownKnob Tryd.prog.godebug = none := by kernel_rfl
theorem Tryd.laidOut : laidOutB Tryd.prog = true := by kernel_rfl
theorem Tryd.mixed : Tryd.prog.follows .mixedOrders = true := by kernel_rfl
theorem c_spec_SplitFields : Contract .zero Tryd.prog 39 spec_SplitFields_S :=
  fn_sh (sg := []) Tryd.mixed (sgOk_look (show sgOk .zero Tryd.prog [] from trivial)) Tryd.func39 (by kernel_rfl : Func.cmp Tryd.prog [] spec_SplitFields_S Tryd.f39 spec_SplitFields_hs = some spec_SplitFields_L) spec_SplitFields_ok
theorem c_spec_l01In : Contract .zero Tryd.prog 40 spec_l01In_S :=
  fn_sh (sg := []) Tryd.mixed (sgOk_look (show sgOk .zero Tryd.prog [] from trivial)) Tryd.func40 (by kernel_rfl : Func.cmp Tryd.prog [] spec_l01In_S Tryd.f40 spec_l01In_hs = some spec_l01In_L) spec_l01In_ok
theorem c_spec_l01Figure : Contract .zero Tryd.prog 64 spec_l01Figure_S :=
  fn_sh (sg := []) Tryd.mixed (sgOk_look (show sgOk .zero Tryd.prog [] from trivial)) Tryd.func64 (by kernel_rfl : Func.cmp Tryd.prog [] spec_l01Figure_S Tryd.f64 spec_l01Figure_hs = some spec_l01Figure_L) spec_l01Figure_ok
theorem c_spec_FormatInt : Contract .zero Tryd.prog 34 spec_FormatInt_S :=
  fn_sh (sg := [(64, spec_l01Figure_S)]) Tryd.mixed (sgOk_look (show sgOk .zero Tryd.prog [(64, spec_l01Figure_S)] from ⟨c_spec_l01Figure, trivial⟩)) Tryd.func34 (by kernel_rfl : Func.cmp Tryd.prog [(64, spec_l01Figure_S)] spec_FormatInt_S Tryd.f34 spec_FormatInt_hs = some spec_FormatInt_L) spec_FormatInt_ok
theorem c_spec_ParseUint : Contract .zero Tryd.prog 69 spec_ParseUint_S :=
  fn_sh (sg := [(34, spec_FormatInt_S)]) Tryd.mixed (sgOk_look (show sgOk .zero Tryd.prog [(34, spec_FormatInt_S)] from ⟨c_spec_FormatInt, trivial⟩)) Tryd.func69 (by kernel_rfl : Func.cmp Tryd.prog [(34, spec_FormatInt_S)] spec_ParseUint_S Tryd.f69 spec_ParseUint_hs = some spec_ParseUint_L) spec_ParseUint_ok
theorem c_spec_l40Number : Contract .zero Tryd.prog 41 spec_l40Number_S :=
  fn_sh (sg := [(69, spec_ParseUint_S)]) Tryd.mixed (sgOk_look (show sgOk .zero Tryd.prog [(69, spec_ParseUint_S)] from ⟨c_spec_ParseUint, trivial⟩)) Tryd.func41 (by kernel_rfl : Func.cmp Tryd.prog [(69, spec_ParseUint_S)] spec_l40Number_S Tryd.f41 spec_l40Number_hs = some spec_l40Number_L) spec_l40Number_ok
theorem c_spec_ActOk : Contract .zero Tryd.prog 33 spec_ActOk_S :=
  fn_sh (sg := [(40, spec_l01In_S)]) Tryd.mixed (sgOk_look (show sgOk .zero Tryd.prog [(40, spec_l01In_S)] from ⟨c_spec_l01In, trivial⟩)) Tryd.func33 (by kernel_rfl : Func.cmp Tryd.prog [(40, spec_l01In_S)] spec_ActOk_S Tryd.f33 spec_ActOk_hs = some spec_ActOk_L) spec_ActOk_ok
theorem c_spec_FormatAct : Contract .zero Tryd.prog 9 spec_FormatAct_S :=
  fn_sh (sg := [(33, spec_ActOk_S), (34, spec_FormatInt_S)]) Tryd.mixed (sgOk_look (show sgOk .zero Tryd.prog [(33, spec_ActOk_S), (34, spec_FormatInt_S)] from ⟨c_spec_ActOk, ⟨c_spec_FormatInt, trivial⟩⟩)) Tryd.func9 (by kernel_rfl : Func.cmp Tryd.prog [(33, spec_ActOk_S), (34, spec_FormatInt_S)] spec_FormatAct_S Tryd.f9 spec_FormatAct_hs = some spec_FormatAct_L) spec_FormatAct_ok
theorem c_spec_ParseAct : Contract .zero Tryd.prog 17 spec_ParseAct_S :=
  fn_sh (sg := [(39, spec_SplitFields_S), (40, spec_l01In_S), (41, spec_l40Number_S), (9, spec_FormatAct_S)]) Tryd.mixed (sgOk_look (show sgOk .zero Tryd.prog [(39, spec_SplitFields_S), (40, spec_l01In_S), (41, spec_l40Number_S), (9, spec_FormatAct_S)] from ⟨c_spec_SplitFields, ⟨c_spec_l01In, ⟨c_spec_l40Number, ⟨c_spec_FormatAct, trivial⟩⟩⟩⟩)) Tryd.func17 (by kernel_rfl : Func.cmp Tryd.prog [(39, spec_SplitFields_S), (40, spec_l01In_S), (41, spec_l40Number_S), (9, spec_FormatAct_S)] spec_ParseAct_S Tryd.f17 spec_ParseAct_hs = some spec_ParseAct_L) spec_ParseAct_ok
theorem c_impl_SplitFields : Contract .zero Tryd.prog 42 impl_SplitFields_S :=
  fn_sh (sg := []) Tryd.mixed (sgOk_look (show sgOk .zero Tryd.prog [] from trivial)) Tryd.func42 (by kernel_rfl : Func.cmp Tryd.prog [] impl_SplitFields_S Tryd.f42 impl_SplitFields_hs = some impl_SplitFields_L) impl_SplitFields_ok
noncomputable def strconv_Atoi_S : Sig := ⟨[.val false [.sc]], [(false, [.sc]), (false, [.sc])], F_strconv_Atoi⟩
theorem c_strconv_Atoi {G : Gl} (kd : G.dr = false) (ke : KErr Tryd.prog G) : Contract G Tryd.prog 70 strconv_Atoi_S := atoi_contract Tryd.laysC172 kd ke
noncomputable def strconv_Itoa_S : Sig := ⟨[.val false [.sc]], [(false, [.sc])], F_strconv_Itoa⟩
theorem c_strconv_Itoa {G : Gl} (kt : KTab Tryd.prog G) : Contract G Tryd.prog 63 strconv_Itoa_S := itoa_contract Tryd.laysM171 kt
theorem c_impl_FormatInt {G : Gl} (kt : KTab Tryd.prog G) : Contract G Tryd.prog 32 impl_FormatInt_S :=
  fn_sh (sg := [(63, strconv_Itoa_S)]) Tryd.mixed (sgOk_look (show sgOk G Tryd.prog [(63, strconv_Itoa_S)] from ⟨c_strconv_Itoa kt, trivial⟩)) Tryd.func32 (by kernel_rfl : Func.cmp Tryd.prog [(63, strconv_Itoa_S)] impl_FormatInt_S Tryd.f32 impl_FormatInt_hs = some impl_FormatInt_L) impl_FormatInt_ok
theorem c_impl_ParseUint {G : Gl} (kd : G.dr = false) (kt : KTab Tryd.prog G) (ke : KErr Tryd.prog G) : Contract G Tryd.prog 43 impl_ParseUint_S :=
  fn_sh (sg := [(70, strconv_Atoi_S), (32, impl_FormatInt_S)]) Tryd.mixed (sgOk_look (show sgOk G Tryd.prog [(70, strconv_Atoi_S), (32, impl_FormatInt_S)] from ⟨c_strconv_Atoi kd ke, ⟨c_impl_FormatInt kt, trivial⟩⟩)) Tryd.func43 (by kernel_rfl : Func.cmp Tryd.prog [(70, strconv_Atoi_S), (32, impl_FormatInt_S)] impl_ParseUint_S Tryd.f43 impl_ParseUint_hs = some impl_ParseUint_L) impl_ParseUint_ok
theorem c_impl_actWord : Contract .zero Tryd.prog 36 impl_actWord_S :=
  fn_sh (sg := []) Tryd.mixed (sgOk_look (show sgOk .zero Tryd.prog [] from trivial)) Tryd.func36 (by kernel_rfl : Func.cmp Tryd.prog [] impl_actWord_S Tryd.f36 impl_actWord_hs = some impl_actWord_L) impl_actWord_ok
theorem c_impl_actNumbers : Contract .zero Tryd.prog 38 impl_actNumbers_S :=
  fn_sh (sg := []) Tryd.mixed (sgOk_look (show sgOk .zero Tryd.prog [] from trivial)) Tryd.func38 (by kernel_rfl : Func.cmp Tryd.prog [] impl_actNumbers_S Tryd.f38 impl_actNumbers_hs = some impl_actNumbers_L) impl_actNumbers_ok
theorem c_impl_within : Contract .zero Tryd.prog 65 impl_within_S :=
  fn_sh (sg := []) Tryd.mixed (sgOk_look (show sgOk .zero Tryd.prog [] from trivial)) Tryd.func65 (by kernel_rfl : Func.cmp Tryd.prog [] impl_within_S Tryd.f65 impl_within_hs = some impl_within_L) impl_within_ok
theorem c_impl_ActOk : Contract .zero Tryd.prog 35 impl_ActOk_S :=
  fn_sh (sg := [(65, impl_within_S)]) Tryd.mixed (sgOk_look (show sgOk .zero Tryd.prog [(65, impl_within_S)] from ⟨c_impl_within, trivial⟩)) Tryd.func35 (by kernel_rfl : Func.cmp Tryd.prog [(65, impl_within_S)] impl_ActOk_S Tryd.f35 impl_ActOk_hs = some impl_ActOk_L) impl_ActOk_ok
theorem c_impl_ParseAct {G : Gl} (kd : G.dr = false) (kt : KTab Tryd.prog G) (ke : KErr Tryd.prog G) : Contract G Tryd.prog 18 impl_ParseAct_S :=
  fn_sh (sg := [(42, impl_SplitFields_S), (43, impl_ParseUint_S), (36, impl_actWord_S), (38, impl_actNumbers_S), (35, impl_ActOk_S)]) Tryd.mixed (sgOk_look (show sgOk G Tryd.prog [(42, impl_SplitFields_S), (43, impl_ParseUint_S), (36, impl_actWord_S), (38, impl_actNumbers_S), (35, impl_ActOk_S)] from ⟨c_impl_SplitFields.to, ⟨c_impl_ParseUint kd kt ke, ⟨c_impl_actWord.to, ⟨c_impl_actNumbers.to, ⟨c_impl_ActOk.to, trivial⟩⟩⟩⟩⟩)) Tryd.func18 (by kernel_rfl : Func.cmp Tryd.prog [(42, impl_SplitFields_S), (43, impl_ParseUint_S), (36, impl_actWord_S), (38, impl_actNumbers_S), (35, impl_ActOk_S)] impl_ParseAct_S Tryd.f18 impl_ParseAct_hs = some impl_ParseAct_L) impl_ParseAct_ok
theorem c_laws_eqAct : Contract .zero Tryd.prog 19 laws_eqAct_S :=
  fn_sh (sg := []) Tryd.mixed (sgOk_look (show sgOk .zero Tryd.prog [] from trivial)) Tryd.func19 (by kernel_rfl : Func.cmp Tryd.prog [] laws_eqAct_S Tryd.f19 laws_eqAct_hs = some laws_eqAct_L) laws_eqAct_ok
theorem c_laws_FnExactParseAct {G : Gl} (kd : G.dr = false) (kt : KTab Tryd.prog G) (ke : KErr Tryd.prog G) : Contract G Tryd.prog 5 laws_FnExactParseAct_S :=
  fn_sh (sg := [(17, spec_ParseAct_S), (18, impl_ParseAct_S), (19, laws_eqAct_S)]) Tryd.mixed (sgOk_look (show sgOk G Tryd.prog [(17, spec_ParseAct_S), (18, impl_ParseAct_S), (19, laws_eqAct_S)] from ⟨c_spec_ParseAct.to, ⟨c_impl_ParseAct kd kt ke, ⟨c_laws_eqAct.to, trivial⟩⟩⟩)) Tryd.func5 (by kernel_rfl : Func.cmp Tryd.prog [(17, spec_ParseAct_S), (18, impl_ParseAct_S), (19, laws_eqAct_S)] laws_FnExactParseAct_S Tryd.f5 laws_FnExactParseAct_hs = some laws_FnExactParseAct_L) laws_FnExactParseAct_ok
theorem c_laws_big : Contract .zero Tryd.prog 29 laws_big_S :=
  fn_sh (sg := []) Tryd.mixed (sgOk_look (show sgOk .zero Tryd.prog [] from trivial)) Tryd.func29 (by kernel_rfl : Func.cmp Tryd.prog [] laws_big_S Tryd.f29 laws_big_hs = some laws_big_L) laws_big_ok
theorem c_spec_l01New : Contract .zero Tryd.prog 58 spec_l01New_S :=
  fn_sh (sg := []) Tryd.mixed (sgOk_look (show sgOk .zero Tryd.prog [] from trivial)) Tryd.func58 (by kernel_rfl : Func.cmp Tryd.prog [] spec_l01New_S Tryd.f58 spec_l01New_hs = some spec_l01New_L) spec_l01New_ok
theorem c_spec_l01Byte : Contract .zero Tryd.prog 109 spec_l01Byte_S :=
  fn_sh (sg := []) Tryd.mixed (sgOk_look (show sgOk .zero Tryd.prog [] from trivial)) Tryd.func109 (by kernel_rfl : Func.cmp Tryd.prog [] spec_l01Byte_S Tryd.f109 spec_l01Byte_hs = some spec_l01Byte_L) spec_l01Byte_ok
theorem c_spec_l01Below : Contract .zero Tryd.prog 89 spec_l01Below_S :=
  fn_sh (sg := [(109, spec_l01Byte_S)]) Tryd.mixed (sgOk_look (show sgOk .zero Tryd.prog [(109, spec_l01Byte_S)] from ⟨c_spec_l01Byte, trivial⟩)) Tryd.func89 (by kernel_rfl : Func.cmp Tryd.prog [(109, spec_l01Byte_S)] spec_l01Below_S Tryd.f89 spec_l01Below_hs = some spec_l01Below_L) spec_l01Below_ok
theorem c_spec_l01Once : Contract .zero Tryd.prog 86 spec_l01Once_S :=
  fn_sh (sg := [(89, spec_l01Below_S)]) Tryd.mixed (sgOk_look (show sgOk .zero Tryd.prog [(89, spec_l01Below_S)] from ⟨c_spec_l01Below, trivial⟩)) Tryd.func86 (by kernel_rfl : Func.cmp Tryd.prog [(89, spec_l01Below_S)] spec_l01Once_S Tryd.f86 spec_l01Once_hs = some spec_l01Once_L) spec_l01Once_ok
theorem c_spec_l06Less : Contract .zero Tryd.prog 101 spec_l06Less_S :=
  fn_sh (sg := []) Tryd.mixed (sgOk_look (show sgOk .zero Tryd.prog [] from trivial)) Tryd.func101 (by kernel_rfl : Func.cmp Tryd.prog [] spec_l06Less_S Tryd.f101 spec_l06Less_hs = some spec_l06Less_L) spec_l06Less_ok
theorem c_spec_CylinderOk : Contract .zero Tryd.prog 76 spec_CylinderOk_S :=
  fn_sh (sg := [(40, spec_l01In_S), (101, spec_l06Less_S)]) Tryd.mixed (sgOk_look (show sgOk .zero Tryd.prog [(40, spec_l01In_S), (101, spec_l06Less_S)] from ⟨c_spec_l01In, ⟨c_spec_l06Less, trivial⟩⟩)) Tryd.func76 (by kernel_rfl : Func.cmp Tryd.prog [(40, spec_l01In_S), (101, spec_l06Less_S)] spec_CylinderOk_S Tryd.f76 spec_CylinderOk_hs = some spec_CylinderOk_L) spec_CylinderOk_ok
theorem c_spec_BenchOk : Contract .zero Tryd.prog 73 spec_BenchOk_S :=
  fn_sh (sg := [(76, spec_CylinderOk_S)]) Tryd.mixed (sgOk_look (show sgOk .zero Tryd.prog [(76, spec_CylinderOk_S)] from ⟨c_spec_CylinderOk, trivial⟩)) Tryd.func73 (by kernel_rfl : Func.cmp Tryd.prog [(76, spec_CylinderOk_S)] spec_BenchOk_S Tryd.f73 spec_BenchOk_hs = some spec_BenchOk_L) spec_BenchOk_ok
theorem c_spec_NewBench : Contract .zero Tryd.prog 123 spec_NewBench_S :=
  fn_sh (sg := [(73, spec_BenchOk_S)]) Tryd.mixed (sgOk_look (show sgOk .zero Tryd.prog [(73, spec_BenchOk_S)] from ⟨c_spec_BenchOk, trivial⟩)) Tryd.func123 (by kernel_rfl : Func.cmp Tryd.prog [(73, spec_BenchOk_S)] spec_NewBench_S Tryd.f123 spec_NewBench_hs = some spec_NewBench_L) spec_NewBench_ok
theorem c_spec_CombOk : Contract .zero Tryd.prog 74 spec_CombOk_S :=
  fn_sh (sg := [(40, spec_l01In_S)]) Tryd.mixed (sgOk_look (show sgOk .zero Tryd.prog [(40, spec_l01In_S)] from ⟨c_spec_l01In, trivial⟩)) Tryd.func74 (by kernel_rfl : Func.cmp Tryd.prog [(40, spec_l01In_S)] spec_CombOk_S Tryd.f74 spec_CombOk_hs = some spec_CombOk_L) spec_CombOk_ok
theorem c_spec_SpringOk : Contract .zero Tryd.prog 75 spec_SpringOk_S :=
  fn_sh (sg := [(40, spec_l01In_S)]) Tryd.mixed (sgOk_look (show sgOk .zero Tryd.prog [(40, spec_l01In_S)] from ⟨c_spec_l01In, trivial⟩)) Tryd.func75 (by kernel_rfl : Func.cmp Tryd.prog [(40, spec_l01In_S)] spec_SpringOk_S Tryd.f75 spec_SpringOk_hs = some spec_SpringOk_L) spec_SpringOk_ok
theorem c_spec_WorkshopOk : Contract .zero Tryd.prog 46 spec_WorkshopOk_S :=
  fn_sh (sg := [(73, spec_BenchOk_S), (74, spec_CombOk_S), (75, spec_SpringOk_S), (40, spec_l01In_S)]) Tryd.mixed (sgOk_look (show sgOk .zero Tryd.prog [(73, spec_BenchOk_S), (74, spec_CombOk_S), (75, spec_SpringOk_S), (40, spec_l01In_S)] from ⟨c_spec_BenchOk, ⟨c_spec_CombOk, ⟨c_spec_SpringOk, ⟨c_spec_l01In, trivial⟩⟩⟩⟩)) Tryd.func46 (by kernel_rfl : Func.cmp Tryd.prog [(73, spec_BenchOk_S), (74, spec_CombOk_S), (75, spec_SpringOk_S), (40, spec_l01In_S)] spec_WorkshopOk_S Tryd.f46 spec_WorkshopOk_hs = some spec_WorkshopOk_L) spec_WorkshopOk_ok
theorem c_spec_OpenWorkshop : Contract .zero Tryd.prog 105 spec_OpenWorkshop_S :=
  fn_sh (sg := [(123, spec_NewBench_S), (46, spec_WorkshopOk_S)]) Tryd.mixed (sgOk_look (show sgOk .zero Tryd.prog [(123, spec_NewBench_S), (46, spec_WorkshopOk_S)] from ⟨c_spec_NewBench, ⟨c_spec_WorkshopOk, trivial⟩⟩)) Tryd.func105 (by kernel_rfl : Func.cmp Tryd.prog [(123, spec_NewBench_S), (46, spec_WorkshopOk_S)] spec_OpenWorkshop_S Tryd.f105 spec_OpenWorkshop_hs = some spec_OpenWorkshop_L) spec_OpenWorkshop_ok
theorem c_spec_SampleWorkshop : Contract .zero Tryd.prog 87 spec_SampleWorkshop_S :=
  fn_sh (sg := [(105, spec_OpenWorkshop_S)]) Tryd.mixed (sgOk_look (show sgOk .zero Tryd.prog [(105, spec_OpenWorkshop_S)] from ⟨c_spec_OpenWorkshop, trivial⟩)) Tryd.func87 (by kernel_rfl : Func.cmp Tryd.prog [(105, spec_OpenWorkshop_S)] spec_SampleWorkshop_S Tryd.f87 spec_SampleWorkshop_hs = some spec_SampleWorkshop_L) spec_SampleWorkshop_ok
theorem c_spec_l06Put : Contract .zero Tryd.prog 134 spec_l06Put_S :=
  fn_sh (sg := [(101, spec_l06Less_S)]) Tryd.mixed (sgOk_look (show sgOk .zero Tryd.prog [(101, spec_l06Less_S)] from ⟨c_spec_l06Less, trivial⟩)) Tryd.func134 (by kernel_rfl : Func.cmp Tryd.prog [(101, spec_l06Less_S)] spec_l06Put_S Tryd.f134 spec_l06Put_hs = some spec_l06Put_L) spec_l06Put_ok
theorem c_spec_l06Cylinder : Contract .zero Tryd.prog 124 spec_l06Cylinder_S :=
  fn_sh (sg := [(89, spec_l01Below_S), (134, spec_l06Put_S)]) Tryd.mixed (sgOk_look (show sgOk .zero Tryd.prog [(89, spec_l01Below_S), (134, spec_l06Put_S)] from ⟨c_spec_l01Below, ⟨c_spec_l06Put, trivial⟩⟩)) Tryd.func124 (by kernel_rfl : Func.cmp Tryd.prog [(89, spec_l01Below_S), (134, spec_l06Put_S)] spec_l06Cylinder_S Tryd.f124 spec_l06Cylinder_hs = some spec_l06Cylinder_L) spec_l06Cylinder_ok
theorem c_spec_l06Copy : Contract .zero Tryd.prog 146 spec_l06Copy_S :=
  fn_sh (sg := []) Tryd.mixed (sgOk_look (show sgOk .zero Tryd.prog [] from trivial)) Tryd.func146 (by kernel_rfl : Func.cmp Tryd.prog [] spec_l06Copy_S Tryd.f146 spec_l06Copy_hs = some spec_l06Copy_L) spec_l06Copy_ok
theorem c_spec_PullPin : Contract .zero Tryd.prog 135 spec_PullPin_S :=
  fn_sh (sg := [(146, spec_l06Copy_S), (76, spec_CylinderOk_S), (40, spec_l01In_S)]) Tryd.mixed (sgOk_look (show sgOk .zero Tryd.prog [(146, spec_l06Copy_S), (76, spec_CylinderOk_S), (40, spec_l01In_S)] from ⟨c_spec_l06Copy, ⟨c_spec_CylinderOk, ⟨c_spec_l01In, trivial⟩⟩⟩)) Tryd.func135 (by kernel_rfl : Func.cmp Tryd.prog [(146, spec_l06Copy_S), (76, spec_CylinderOk_S), (40, spec_l01In_S)] spec_PullPin_S Tryd.f135 spec_PullPin_hs = some spec_PullPin_L) spec_PullPin_ok
theorem c_spec_l37Copy : Contract .zero Tryd.prog 136 spec_l37Copy_S :=
  fn_sh (sg := [(146, spec_l06Copy_S)]) Tryd.mixed (sgOk_look (show sgOk .zero Tryd.prog [(146, spec_l06Copy_S)] from ⟨c_spec_l06Copy, trivial⟩)) Tryd.func136 (by kernel_rfl : Func.cmp Tryd.prog [(146, spec_l06Copy_S)] spec_l37Copy_S Tryd.f136 spec_l37Copy_hs = some spec_l37Copy_L) spec_l37Copy_ok
theorem c_spec_l37Step : Contract .zero Tryd.prog 137 spec_l37Step_S :=
  fn_sh (sg := [(136, spec_l37Copy_S), (73, spec_BenchOk_S)]) Tryd.mixed (sgOk_look (show sgOk .zero Tryd.prog [(136, spec_l37Copy_S), (73, spec_BenchOk_S)] from ⟨c_spec_l37Copy, ⟨c_spec_BenchOk, trivial⟩⟩)) Tryd.func137 (by kernel_rfl : Func.cmp Tryd.prog [(136, spec_l37Copy_S), (73, spec_BenchOk_S)] spec_l37Step_S Tryd.f137 spec_l37Step_hs = some spec_l37Step_L) spec_l37Step_ok
theorem c_spec_TakePin : Contract .zero Tryd.prog 125 spec_TakePin_S :=
  fn_sh (sg := [(135, spec_PullPin_S), (136, spec_l37Copy_S), (137, spec_l37Step_S)]) Tryd.mixed (sgOk_look (show sgOk .zero Tryd.prog [(135, spec_PullPin_S), (136, spec_l37Copy_S), (137, spec_l37Step_S)] from ⟨c_spec_PullPin, ⟨c_spec_l37Copy, ⟨c_spec_l37Step, trivial⟩⟩⟩)) Tryd.func125 (by kernel_rfl : Func.cmp Tryd.prog [(135, spec_PullPin_S), (136, spec_l37Copy_S), (137, spec_l37Step_S)] spec_TakePin_S Tryd.f125 spec_TakePin_hs = some spec_TakePin_L) spec_TakePin_ok
theorem c_spec_AddPin : Contract .zero Tryd.prog 138 spec_AddPin_S :=
  fn_sh (sg := [(146, spec_l06Copy_S), (76, spec_CylinderOk_S), (134, spec_l06Put_S)]) Tryd.mixed (sgOk_look (show sgOk .zero Tryd.prog [(146, spec_l06Copy_S), (76, spec_CylinderOk_S), (134, spec_l06Put_S)] from ⟨c_spec_l06Copy, ⟨c_spec_CylinderOk, ⟨c_spec_l06Put, trivial⟩⟩⟩)) Tryd.func138 (by kernel_rfl : Func.cmp Tryd.prog [(146, spec_l06Copy_S), (76, spec_CylinderOk_S), (134, spec_l06Put_S)] spec_AddPin_S Tryd.f138 spec_AddPin_hs = some spec_AddPin_L) spec_AddPin_ok
theorem c_spec_SetPin : Contract .zero Tryd.prog 126 spec_SetPin_S :=
  fn_sh (sg := [(138, spec_AddPin_S), (136, spec_l37Copy_S), (137, spec_l37Step_S)]) Tryd.mixed (sgOk_look (show sgOk .zero Tryd.prog [(138, spec_AddPin_S), (136, spec_l37Copy_S), (137, spec_l37Step_S)] from ⟨c_spec_AddPin, ⟨c_spec_l37Copy, ⟨c_spec_l37Step, trivial⟩⟩⟩)) Tryd.func126 (by kernel_rfl : Func.cmp Tryd.prog [(138, spec_AddPin_S), (136, spec_l37Copy_S), (137, spec_l37Step_S)] spec_SetPin_S Tryd.f126 spec_SetPin_hs = some spec_SetPin_L) spec_SetPin_ok
theorem c_spec_l37Bench : Contract .zero Tryd.prog 106 spec_l37Bench_S :=
  fn_sh (sg := [(124, spec_l06Cylinder_S), (89, spec_l01Below_S), (86, spec_l01Once_S), (125, spec_TakePin_S), (126, spec_SetPin_S)]) Tryd.mixed (sgOk_look (show sgOk .zero Tryd.prog [(124, spec_l06Cylinder_S), (89, spec_l01Below_S), (86, spec_l01Once_S), (125, spec_TakePin_S), (126, spec_SetPin_S)] from ⟨c_spec_l06Cylinder, ⟨c_spec_l01Below, ⟨c_spec_l01Once, ⟨c_spec_TakePin, ⟨c_spec_SetPin, trivial⟩⟩⟩⟩⟩)) Tryd.func106 (by kernel_rfl : Func.cmp Tryd.prog [(124, spec_l06Cylinder_S), (89, spec_l01Below_S), (86, spec_l01Once_S), (125, spec_TakePin_S), (126, spec_SetPin_S)] spec_l37Bench_S Tryd.f106 spec_l37Bench_hs = some spec_l37Bench_L) spec_l37Bench_ok
theorem c_spec_l12Spring : Contract .zero Tryd.prog 107 spec_l12Spring_S :=
  fn_sh (sg := [(89, spec_l01Below_S)]) Tryd.mixed (sgOk_look (show sgOk .zero Tryd.prog [(89, spec_l01Below_S)] from ⟨c_spec_l01Below, trivial⟩)) Tryd.func107 (by kernel_rfl : Func.cmp Tryd.prog [(89, spec_l01Below_S)] spec_l12Spring_S Tryd.f107 spec_l12Spring_hs = some spec_l12Spring_L) spec_l12Spring_ok
theorem c_spec_l01PickInt : Contract .zero Tryd.prog 108 spec_l01PickInt_S :=
  fn_sh (sg := [(89, spec_l01Below_S)]) Tryd.mixed (sgOk_look (show sgOk .zero Tryd.prog [(89, spec_l01Below_S)] from ⟨c_spec_l01Below, trivial⟩)) Tryd.func108 (by kernel_rfl : Func.cmp Tryd.prog [(89, spec_l01Below_S)] spec_l01PickInt_S Tryd.f108 spec_l01PickInt_hs = some spec_l01PickInt_L) spec_l01PickInt_ok
theorem c_spec_l38Workshop : Contract .zero Tryd.prog 88 spec_l38Workshop_S :=
  fn_sh (sg := [(106, spec_l37Bench_S), (107, spec_l12Spring_S), (108, spec_l01PickInt_S)]) Tryd.mixed (sgOk_look (show sgOk .zero Tryd.prog [(106, spec_l37Bench_S), (107, spec_l12Spring_S), (108, spec_l01PickInt_S)] from ⟨c_spec_l37Bench, ⟨c_spec_l12Spring, ⟨c_spec_l01PickInt, trivial⟩⟩⟩)) Tryd.func88 (by kernel_rfl : Func.cmp Tryd.prog [(106, spec_l37Bench_S), (107, spec_l12Spring_S), (108, spec_l01PickInt_S)] spec_l38Workshop_S Tryd.f88 spec_l38Workshop_hs = some spec_l38Workshop_L) spec_l38Workshop_ok
theorem c_spec_l39Workshop : Contract .zero Tryd.prog 59 spec_l39Workshop_S :=
  fn_sh (sg := [(86, spec_l01Once_S), (87, spec_SampleWorkshop_S), (88, spec_l38Workshop_S)]) Tryd.mixed (sgOk_look (show sgOk .zero Tryd.prog [(86, spec_l01Once_S), (87, spec_SampleWorkshop_S), (88, spec_l38Workshop_S)] from ⟨c_spec_l01Once, ⟨c_spec_SampleWorkshop, ⟨c_spec_l38Workshop, trivial⟩⟩⟩)) Tryd.func59 (by kernel_rfl : Func.cmp Tryd.prog [(86, spec_l01Once_S), (87, spec_SampleWorkshop_S), (88, spec_l38Workshop_S)] spec_l39Workshop_S Tryd.f59 spec_l39Workshop_hs = some spec_l39Workshop_L) spec_l39Workshop_ok
theorem c_spec_l39Act : Contract .zero Tryd.prog 90 spec_l39Act_S :=
  fn_sh (sg := [(89, spec_l01Below_S)]) Tryd.mixed (sgOk_look (show sgOk .zero Tryd.prog [(89, spec_l01Below_S)] from ⟨c_spec_l01Below, trivial⟩)) Tryd.func90 (by kernel_rfl : Func.cmp Tryd.prog [(89, spec_l01Below_S)] spec_l39Act_S Tryd.f90 spec_l39Act_hs = some spec_l39Act_L) spec_l39Act_ok
theorem c_spec_l39List : Contract .zero Tryd.prog 60 spec_l39List_S :=
  fn_sh (sg := [(89, spec_l01Below_S), (90, spec_l39Act_S)]) Tryd.mixed (sgOk_look (show sgOk .zero Tryd.prog [(89, spec_l01Below_S), (90, spec_l39Act_S)] from ⟨c_spec_l01Below, ⟨c_spec_l39Act, trivial⟩⟩)) Tryd.func60 (by kernel_rfl : Func.cmp Tryd.prog [(89, spec_l01Below_S), (90, spec_l39Act_S)] spec_l39List_S Tryd.f60 spec_l39List_hs = some spec_l39List_L) spec_l39List_ok
theorem c_spec_DrawActs : Contract .zero Tryd.prog 30 spec_DrawActs_S :=
  fn_sh (sg := [(58, spec_l01New_S), (59, spec_l39Workshop_S), (60, spec_l39List_S)]) Tryd.mixed (sgOk_look (show sgOk .zero Tryd.prog [(58, spec_l01New_S), (59, spec_l39Workshop_S), (60, spec_l39List_S)] from ⟨c_spec_l01New, ⟨c_spec_l39Workshop, ⟨c_spec_l39List, trivial⟩⟩⟩)) Tryd.func30 (by kernel_rfl : Func.cmp Tryd.prog [(58, spec_l01New_S), (59, spec_l39Workshop_S), (60, spec_l39List_S)] spec_DrawActs_S Tryd.f30 spec_DrawActs_hs = some spec_DrawActs_L) spec_DrawActs_ok
noncomputable def strings_Join_S : Sig := ⟨[.val false [.sl [.sc]], .val false [.sc]], [(false, [.sc])], F_strings_Join⟩
theorem c_strings_Join {G : Gl} (kd : G.dr = false) : Contract G Tryd.prog 37 strings_Join_S := join_contract Tryd.lays156 Tryd.Builder_Extra_156 kd
theorem c_impl_FormatAct {G : Gl} (kd : G.dr = false) (kt : KTab Tryd.prog G) : Contract G Tryd.prog 11 impl_FormatAct_S :=
  fn_sh (sg := [(35, impl_ActOk_S), (36, impl_actWord_S), (32, impl_FormatInt_S), (38, impl_actNumbers_S), (37, strings_Join_S)]) Tryd.mixed (sgOk_look (show sgOk G Tryd.prog [(35, impl_ActOk_S), (36, impl_actWord_S), (32, impl_FormatInt_S), (38, impl_actNumbers_S), (37, strings_Join_S)] from ⟨c_impl_ActOk.to, ⟨c_impl_actWord.to, ⟨c_impl_FormatInt kt, ⟨c_impl_actNumbers.to, ⟨c_strings_Join kd, trivial⟩⟩⟩⟩⟩)) Tryd.func11 (by kernel_rfl : Func.cmp Tryd.prog [(35, impl_ActOk_S), (36, impl_actWord_S), (32, impl_FormatInt_S), (38, impl_actNumbers_S), (37, strings_Join_S)] impl_FormatAct_S Tryd.f11 impl_FormatAct_hs = some impl_FormatAct_L) impl_FormatAct_ok
theorem c_laws_FnActTexts {G : Gl} (kd : G.dr = false) (kt : KTab Tryd.prog G) (ke : KErr Tryd.prog G) : Contract G Tryd.prog 7 laws_FnActTexts_S :=
  fn_sh (sg := [(29, laws_big_S), (30, spec_DrawActs_S), (11, impl_FormatAct_S), (18, impl_ParseAct_S)]) Tryd.mixed (sgOk_look (show sgOk G Tryd.prog [(29, laws_big_S), (30, spec_DrawActs_S), (11, impl_FormatAct_S), (18, impl_ParseAct_S)] from ⟨c_laws_big.to, ⟨c_spec_DrawActs.to, ⟨c_impl_FormatAct kd kt, ⟨c_impl_ParseAct kd kt ke, trivial⟩⟩⟩⟩)) Tryd.func7 (by kernel_rfl : Func.cmp Tryd.prog [(29, laws_big_S), (30, spec_DrawActs_S), (11, impl_FormatAct_S), (18, impl_ParseAct_S)] laws_FnActTexts_S Tryd.f7 laws_FnActTexts_hs = some laws_FnActTexts_L) laws_FnActTexts_ok

end Go.Proofs.YtpilehpgnfegkaaDoor
