/- The contracts of the functions that the laws FnExactFormatAct, FnExactScriptText reach: each keeps what its pure function says, wherever that function says something. -/
import Derived.Test.YtpilehpgnfegkaaDoorRows
import Derived.Test.YtpilehpgnfegkaaDoorPl2
import Derived.Test.YtpilehpgnfegkaaDoorLay
import Derived.ProofKit
namespace Go.Proofs.YtpilehpgnfegkaaDoor
open Go.ChangeShapes Go.WideShapes Go.ChangeAt Go.RowKit Go.Mw

theorem Tryd.own : ownKnob Tryd.prog.godebug = none := by kernel_rfl
theorem Tryd.laidOut : laidOutB Tryd.prog = true := by kernel_rfl
theorem Tryd.mixed : Tryd.prog.follows .mixedOrders = true := by kernel_rfl
theorem c_laws_toAct : Contract .zero Tryd.prog 10 laws_toAct_S :=
  fn_sh (sg := []) Tryd.mixed (sgOk_look (show sgOk .zero Tryd.prog [] from trivial)) Tryd.func10 (by kernel_rfl : Func.cmp Tryd.prog [] laws_toAct_S Tryd.f10 laws_toAct_hs = some laws_toAct_L) laws_toAct_ok
theorem c_spec_l01In : Contract .zero Tryd.prog 40 spec_l01In_S :=
  fn_sh (sg := []) Tryd.mixed (sgOk_look (show sgOk .zero Tryd.prog [] from trivial)) Tryd.func40 (by kernel_rfl : Func.cmp Tryd.prog [] spec_l01In_S Tryd.f40 spec_l01In_hs = some spec_l01In_L) spec_l01In_ok
theorem c_spec_ActOk : Contract .zero Tryd.prog 33 spec_ActOk_S :=
  fn_sh (sg := [(40, spec_l01In_S)]) Tryd.mixed (sgOk_look (show sgOk .zero Tryd.prog [(40, spec_l01In_S)] from ⟨c_spec_l01In, trivial⟩)) Tryd.func33 (by kernel_rfl : Func.cmp Tryd.prog [(40, spec_l01In_S)] spec_ActOk_S Tryd.f33 spec_ActOk_hs = some spec_ActOk_L) spec_ActOk_ok
theorem c_spec_l01Figure : Contract .zero Tryd.prog 64 spec_l01Figure_S :=
  fn_sh (sg := []) Tryd.mixed (sgOk_look (show sgOk .zero Tryd.prog [] from trivial)) Tryd.func64 (by kernel_rfl : Func.cmp Tryd.prog [] spec_l01Figure_S Tryd.f64 spec_l01Figure_hs = some spec_l01Figure_L) spec_l01Figure_ok
theorem c_spec_FormatInt : Contract .zero Tryd.prog 34 spec_FormatInt_S :=
  fn_sh (sg := [(64, spec_l01Figure_S)]) Tryd.mixed (sgOk_look (show sgOk .zero Tryd.prog [(64, spec_l01Figure_S)] from ⟨c_spec_l01Figure, trivial⟩)) Tryd.func34 (by kernel_rfl : Func.cmp Tryd.prog [(64, spec_l01Figure_S)] spec_FormatInt_S Tryd.f34 spec_FormatInt_hs = some spec_FormatInt_L) spec_FormatInt_ok
theorem c_spec_FormatAct : Contract .zero Tryd.prog 9 spec_FormatAct_S :=
  fn_sh (sg := [(33, spec_ActOk_S), (34, spec_FormatInt_S)]) Tryd.mixed (sgOk_look (show sgOk .zero Tryd.prog [(33, spec_ActOk_S), (34, spec_FormatInt_S)] from ⟨c_spec_ActOk, ⟨c_spec_FormatInt, trivial⟩⟩)) Tryd.func9 (by kernel_rfl : Func.cmp Tryd.prog [(33, spec_ActOk_S), (34, spec_FormatInt_S)] spec_FormatAct_S Tryd.f9 spec_FormatAct_hs = some spec_FormatAct_L) spec_FormatAct_ok
theorem c_impl_within : Contract .zero Tryd.prog 65 impl_within_S :=
  fn_sh (sg := []) Tryd.mixed (sgOk_look (show sgOk .zero Tryd.prog [] from trivial)) Tryd.func65 (by kernel_rfl : Func.cmp Tryd.prog [] impl_within_S Tryd.f65 impl_within_hs = some impl_within_L) impl_within_ok
theorem c_impl_ActOk : Contract .zero Tryd.prog 35 impl_ActOk_S :=
  fn_sh (sg := [(65, impl_within_S)]) Tryd.mixed (sgOk_look (show sgOk .zero Tryd.prog [(65, impl_within_S)] from ⟨c_impl_within, trivial⟩)) Tryd.func35 (by kernel_rfl : Func.cmp Tryd.prog [(65, impl_within_S)] impl_ActOk_S Tryd.f35 impl_ActOk_hs = some impl_ActOk_L) impl_ActOk_ok
theorem c_impl_actWord : Contract .zero Tryd.prog 36 impl_actWord_S :=
  fn_sh (sg := []) Tryd.mixed (sgOk_look (show sgOk .zero Tryd.prog [] from trivial)) Tryd.func36 (by kernel_rfl : Func.cmp Tryd.prog [] impl_actWord_S Tryd.f36 impl_actWord_hs = some impl_actWord_L) impl_actWord_ok
noncomputable def strconv_Itoa_S : Sig := ⟨[.val false [.sc]], [(false, [.sc])], F_strconv_Itoa⟩
theorem c_strconv_Itoa {G : Gl} (kt : KTab Tryd.prog G) : Contract G Tryd.prog 63 strconv_Itoa_S := itoa_contract Tryd.laysM171 kt
theorem c_impl_FormatInt {G : Gl} (kt : KTab Tryd.prog G) : Contract G Tryd.prog 32 impl_FormatInt_S :=
  fn_sh (sg := [(63, strconv_Itoa_S)]) Tryd.mixed (sgOk_look (show sgOk G Tryd.prog [(63, strconv_Itoa_S)] from ⟨c_strconv_Itoa kt, trivial⟩)) Tryd.func32 (by kernel_rfl : Func.cmp Tryd.prog [(63, strconv_Itoa_S)] impl_FormatInt_S Tryd.f32 impl_FormatInt_hs = some impl_FormatInt_L) impl_FormatInt_ok
theorem c_impl_actNumbers : Contract .zero Tryd.prog 38 impl_actNumbers_S :=
  fn_sh (sg := []) Tryd.mixed (sgOk_look (show sgOk .zero Tryd.prog [] from trivial)) Tryd.func38 (by kernel_rfl : Func.cmp Tryd.prog [] impl_actNumbers_S Tryd.f38 impl_actNumbers_hs = some impl_actNumbers_L) impl_actNumbers_ok
noncomputable def strings_Join_S : Sig := ⟨[.val false [.sl [.sc]], .val false [.sc]], [(false, [.sc])], F_strings_Join⟩
theorem c_strings_Join {G : Gl} (kd : G.dr = false) : Contract G Tryd.prog 37 strings_Join_S := join_contract Tryd.lays156 Tryd.Builder_Extra_156 kd
theorem c_impl_FormatAct {G : Gl} (kd : G.dr = false) (kt : KTab Tryd.prog G) : Contract G Tryd.prog 11 impl_FormatAct_S :=
  fn_sh (sg := [(35, impl_ActOk_S), (36, impl_actWord_S), (32, impl_FormatInt_S), (38, impl_actNumbers_S), (37, strings_Join_S)]) Tryd.mixed (sgOk_look (show sgOk G Tryd.prog [(35, impl_ActOk_S), (36, impl_actWord_S), (32, impl_FormatInt_S), (38, impl_actNumbers_S), (37, strings_Join_S)] from ⟨c_impl_ActOk.to, ⟨c_impl_actWord.to, ⟨c_impl_FormatInt kt, ⟨c_impl_actNumbers.to, ⟨c_strings_Join kd, trivial⟩⟩⟩⟩⟩)) Tryd.func11 (by kernel_rfl : Func.cmp Tryd.prog [(35, impl_ActOk_S), (36, impl_actWord_S), (32, impl_FormatInt_S), (38, impl_actNumbers_S), (37, strings_Join_S)] impl_FormatAct_S Tryd.f11 impl_FormatAct_hs = some impl_FormatAct_L) impl_FormatAct_ok
theorem c_laws_FnExactFormatAct {G : Gl} (kd : G.dr = false) (kt : KTab Tryd.prog G) : Contract G Tryd.prog 3 laws_FnExactFormatAct_S :=
  fn_sh (sg := [(10, laws_toAct_S), (9, spec_FormatAct_S), (11, impl_FormatAct_S)]) Tryd.mixed (sgOk_look (show sgOk G Tryd.prog [(10, laws_toAct_S), (9, spec_FormatAct_S), (11, impl_FormatAct_S)] from ⟨c_laws_toAct.to, ⟨c_spec_FormatAct.to, ⟨c_impl_FormatAct kd kt, trivial⟩⟩⟩)) Tryd.func3 (by kernel_rfl : Func.cmp Tryd.prog [(10, laws_toAct_S), (9, spec_FormatAct_S), (11, impl_FormatAct_S)] laws_FnExactFormatAct_S Tryd.f3 laws_FnExactFormatAct_hs = some laws_FnExactFormatAct_L) laws_FnExactFormatAct_ok
theorem c_laws_szActS : Contract .zero Tryd.prog 12 laws_szActS_S :=
  fn_sh (sg := []) Tryd.mixed (sgOk_look (show sgOk .zero Tryd.prog [] from trivial)) Tryd.func12 (by kernel_rfl : Func.cmp Tryd.prog [] laws_szActS_S Tryd.f12 laws_szActS_hs = some laws_szActS_L) laws_szActS_ok
theorem c_laws_toActS : Contract .zero Tryd.prog 14 laws_toActS_S :=
  fn_sh (sg := [(10, laws_toAct_S)]) Tryd.mixed (sgOk_look (show sgOk .zero Tryd.prog [(10, laws_toAct_S)] from ⟨c_laws_toAct, trivial⟩)) Tryd.func14 (by kernel_rfl : Func.cmp Tryd.prog [(10, laws_toAct_S)] laws_toActS_S Tryd.f14 laws_toActS_hs = some laws_toActS_L) laws_toActS_ok
theorem c_spec_ScriptText : Contract .zero Tryd.prog 13 spec_ScriptText_S :=
  fn_sh (sg := [(9, spec_FormatAct_S)]) Tryd.mixed (sgOk_look (show sgOk .zero Tryd.prog [(9, spec_FormatAct_S)] from ⟨c_spec_FormatAct, trivial⟩)) Tryd.func13 (by kernel_rfl : Func.cmp Tryd.prog [(9, spec_FormatAct_S)] spec_ScriptText_S Tryd.f13 spec_ScriptText_hs = some spec_ScriptText_L) spec_ScriptText_ok
theorem c_impl_ScriptText {G : Gl} (kd : G.dr = false) (kt : KTab Tryd.prog G) : Contract G Tryd.prog 15 impl_ScriptText_S :=
  fn_sh (sg := [(11, impl_FormatAct_S)]) Tryd.mixed (sgOk_look (show sgOk G Tryd.prog [(11, impl_FormatAct_S)] from ⟨c_impl_FormatAct kd kt, trivial⟩)) Tryd.func15 (by kernel_rfl : Func.cmp Tryd.prog [(11, impl_FormatAct_S)] impl_ScriptText_S Tryd.f15 impl_ScriptText_hs = some impl_ScriptText_L) impl_ScriptText_ok
theorem c_laws_eqAct : Contract .zero Tryd.prog 19 laws_eqAct_S :=
  fn_sh (sg := []) Tryd.mixed (sgOk_look (show sgOk .zero Tryd.prog [] from trivial)) Tryd.func19 (by kernel_rfl : Func.cmp Tryd.prog [] laws_eqAct_S Tryd.f19 laws_eqAct_hs = some laws_eqAct_L) laws_eqAct_ok
theorem c_laws_eqActS : Contract .zero Tryd.prog 16 laws_eqActS_S :=
  fn_sh (sg := [(19, laws_eqAct_S)]) Tryd.mixed (sgOk_look (show sgOk .zero Tryd.prog [(19, laws_eqAct_S)] from ⟨c_laws_eqAct, trivial⟩)) Tryd.func16 (by kernel_rfl : Func.cmp Tryd.prog [(19, laws_eqAct_S)] laws_eqActS_S Tryd.f16 laws_eqActS_hs = some laws_eqActS_L) laws_eqActS_ok
theorem c_laws_FnExactScriptText {G : Gl} (kd : G.dr = false) (kt : KTab Tryd.prog G) : Contract G Tryd.prog 4 laws_FnExactScriptText_S :=
  fn_sh (sg := [(12, laws_szActS_S), (14, laws_toActS_S), (13, spec_ScriptText_S), (15, impl_ScriptText_S), (16, laws_eqActS_S)]) Tryd.mixed (sgOk_look (show sgOk G Tryd.prog [(12, laws_szActS_S), (14, laws_toActS_S), (13, spec_ScriptText_S), (15, impl_ScriptText_S), (16, laws_eqActS_S)] from ⟨c_laws_szActS.to, ⟨c_laws_toActS.to, ⟨c_spec_ScriptText.to, ⟨c_impl_ScriptText kd kt, ⟨c_laws_eqActS.to, trivial⟩⟩⟩⟩⟩)) Tryd.func4 (by kernel_rfl : Func.cmp Tryd.prog [(12, laws_szActS_S), (14, laws_toActS_S), (13, spec_ScriptText_S), (15, impl_ScriptText_S), (16, laws_eqActS_S)] laws_FnExactScriptText_S Tryd.f4 laws_FnExactScriptText_hs = some laws_FnExactScriptText_L) laws_FnExactScriptText_ok

end Go.Proofs.YtpilehpgnfegkaaDoor
