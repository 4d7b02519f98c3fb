/- The law FnExactParseAct holds: for every input it returns true and leaves its arguments as they read before. Its card. -/
import Derived.Test.YtpilehpgnfegkaaDoorCards
import Derived.Test.YtpilehpgnfegkaaDoorTie
import Derived.Lay
import Derived.Test.YtpilehpgnfegkaaDoorS3
namespace Go.Proofs.YtpilehpgnfegkaaDoor.fnExactParseAct
open Go.ChangeShapes Go.WideShapes Go.ChangeAt Go.RowKit Go.Mw

theorem table {W : World} (h : laidMetH Tryd.prog Rows.fnExactParseActRow.laid W) : Lib.TabIs Tryd.prog W "internal/strconv.uint64pow10" .u64 Lib.pow10Tab :=
  Lib.tabIs_of_head (g := 3) (t := 190) (e := 151) (n := 20) (by kernel_rfl) (by kernel_rfl) (by kernel_rfl) (by kernel_rfl) (by kernel_rfl) (by kernel_rfl) (laidMet_tail (laidMet_tail h))
theorem kerr {W : World} (h : laidMetH Tryd.prog Rows.fnExactParseActRow.laid W) : KErr Tryd.prog (glOf W) :=
  kerr_laid (g1 := 2) (t1 := 108) (g2 := 1) (t2 := 108) (by kernel_rfl) (by kernel_rfl) (by kernel_rfl) (by kernel_rfl) (by kernel_rfl) (by kernel_rfl) (laidMet_tail (laidMet_tail (laidMet_tail h)))
/-- A world for the witness: the settled one, what the row lists laid into it. -/
noncomputable def laidWorld (os : Os) : World := World.laidAll Tryd.prog os Rows.fnExactParseActRow.laid
theorem laid_met (os : Os) : laidMet Tryd.prog Rows.fnExactParseActRow.laid ((laidWorld os).forCall (fun _ _ => 0) ⟨#[], #[.string ByteArray.empty], []⟩).memory := laidMet_laidAll _ (by kernel_rfl) (by kernel_rfl)
theorem reads (os : Os) {H : Type} (enc : TypeId × Value → H) : ∃ places, DataW.whole enc Tryd.prog ((laidWorld os).forCall (fun _ _ => 0) ⟨#[], #[.string ByteArray.empty], []⟩).memory Tryd.f5.params.toList Rows.fnExactParseActSpec.vars false #[.string ByteArray.empty].toList 8 = some ([.lit (.string [])], [], places) := ⟨[], by kernel_rfl⟩

set_option maxRecDepth 100000 in
theorem lifted (os : Os) (started : os.Started) (H : Type) (enc : TypeId × Value → H) (F0 : Stop.Interp) :
    ReturnsInHanded {} Tryd.checked os 5 .any ((OpenSpec.ofChange Rows.fnExactParseActSpec).preRow enc Tryd.prog Tryd.f5 Rows.fnExactParseActRow.domain false Rows.fnExactParseActRow.laid) (((OpenSpec.ofChange Rows.fnExactParseActSpec).at F0).post enc Tryd.prog Tryd.f5 false true false false) := by
  obtain ⟨places, hx⟩ := reads os enc
  exact law_laid (C := Tryd.checked) (tb := 4) (l := [(false, [.str])]) (F := F_FnExactParseAct) Tryd.own started (by kernel_rfl) Tryd.func5
    (witness_row_at (enc := enc) (C := Tryd.checked) false (laidWorld os) #[.string ByteArray.empty] rfl (by kernel_rfl) (by kernel_rfl) (by kernel_rfl)
      (OpenSpec.preRow_of_cond 8 hx (by kernel_rfl) (fun k hk => by cases hk) (by kernel_rfl) (laid_met os)))
    Tryd.laidOut (by kernel_rfl) rfl Tryd.underlying4 rfl
    (fun ds h => by
      match ds, h with
      | [d0], _ => rfl)
    (by kernel_rfl) (fun W hL _ => c_laws_FnExactParseAct (G := glOf W) rfl (ktab_of (table hL)) (kerr hL)) F_FnExactParseAct_law
theorem said : Rows.FnExactParseActSaid :=
  OpenClaim.holds_of_cond 5 Tryd.f5 rfl rfl rfl rfl rfl rfl rfl ⟨rfl, rfl, rfl, rfl, rfl⟩ rfl rfl rfl rfl rfl (by kernel_rfl) Tryd.func5 (by kernel_rfl)
    (of_decide_eq_true (by kernel_rfl)) (by unfold Func.isWrapper; first | (rw [if_pos (by decide +kernel)]; kernel_rfl) | (rw [if_neg (by decide +kernel)]; exact ⟨rfl, rfl⟩))
    (fun os started H enc _ F0 => by rw [OpenClaim.pre_eq_preRow]; exact lifted os started H enc F0)
/-- No parameter wants a stand-in; the program's own looks are off: what the card asks. -/
theorem plain (f : FuncId) (fn : Func) (hf : Tryd.pinned.checked.prog.funcNamed "loop.example/g03309/laws.FnExactParseAct" = some f) (hfn : Tryd.pinned.checked.prog.funcs[f]? = some fn) :
    true = Tryd.pinned.checked.prog.looks [] ∧ ∀ (j : Nat) t, fn.params[j]? = some t → Tryd.pinned.checked.prog.wantsStandIn t = false := by
  obtain rfl : f = 5 := Option.some.inj ((show Tryd.prog.funcNamed "loop.example/g03309/laws.FnExactParseAct" = some 5 by kernel_rfl).symm.trans hf) |>.symm
  obtain rfl : fn = Tryd.f5 := (Option.some.inj (Tryd.func5.symm.trans hfn)).symm
  refine ⟨by kernel_rfl, fun j t ht => ?_⟩
  rw [Tryd.params5] at ht
  obtain rfl : t = 9 := by simpa using Array.mem_of_getElem? ht
  exact (show Tryd.prog.wantsStandIn 9 = false by kernel_rfl)
theorem card : Rows.FnExactParseActCardSaid :=
  Claim7.holds_tied_plain_at .later [] _ _ _ _ said (fun _ h => by cases h) (by kernel_rfl) (fun _ h => by cases h) fnExactParseAct_row_tie rfl ⟨rfl, rfl⟩ (by kernel_rfl) rfl plain (by kernel_rfl)

end Go.Proofs.YtpilehpgnfegkaaDoor.fnExactParseAct
