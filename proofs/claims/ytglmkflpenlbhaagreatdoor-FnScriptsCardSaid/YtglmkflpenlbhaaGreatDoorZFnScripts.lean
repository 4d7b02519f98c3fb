/- The law FnScripts holds: for every input it returns true and leaves its arguments as they read before. Its card. -/
import Derived.Test.YtglmkflpenlbhaaGreatDoorCards
import Derived.Test.YtglmkflpenlbhaaGreatDoorTie
import Derived.Lay
import Derived.Test.YtglmkflpenlbhaaGreatDoorSC
namespace Go.Proofs.YtglmkflpenlbhaaGreatDoor.fnScripts
open Go.ChangeShapes Go.WideShapes Go.ChangeAt Go.RowKit Go.Mw

theorem table {W : World} (h : laidMetH Tryz.prog Rows.fnScriptsRow.laid W) : Lib.TabIs Tryz.prog W "internal/strconv.uint64pow10" .u64 Lib.pow10Tab :=
  Lib.tabIs_of_head (g := 1) (t := 170) (e := 143) (n := 20) (by kernel_rfl) (by kernel_rfl) (by kernel_rfl) (by kernel_rfl) (by kernel_rfl) (by kernel_rfl) (laidMet_tail (laidMet_tail h))
theorem kerr {W : World} (h : laidMetH Tryz.prog Rows.fnScriptsRow.laid W) : KErr Tryz.prog (glOf W) := by
  first
  | exact kerr_laid (g1 := 5) (t1 := 125) (g2 := 4) (t2 := 125) (by kernel_rfl) (by kernel_rfl) (by kernel_rfl) (by kernel_rfl) (by kernel_rfl) (by kernel_rfl) (laidMet_tail (laidMet_tail (laidMet_tail (laidMet_tail h))))
  | exact kerr_laid (g1 := 5) (t1 := 125) (g2 := 4) (t2 := 125) (by kernel_rfl) (by kernel_rfl) (by kernel_rfl) (by kernel_rfl) (by kernel_rfl) (by kernel_rfl) (laidMet_tail (laidMet_tail (laidMet_tail h)))
/-- A world for the witness: the settled one, what the row lists laid into it. -/
noncomputable def laidWorld (os : Os) : World := World.laidAll Tryz.prog os Rows.fnScriptsRow.laid
theorem laid_met (os : Os) : laidMet Tryz.prog Rows.fnScriptsRow.laid ((laidWorld os).forCall (fun _ _ => 0) ⟨#[], #[.slice none 0 0], []⟩).memory := laidMet_laidAll _ (by kernel_rfl) (by kernel_rfl)
theorem reads (os : Os) {H : Type} (enc : TypeId × Value → H) : ∃ places, DataW.whole enc Tryz.prog ((laidWorld os).forCall (fun _ _ => 0) ⟨#[], #[.slice none 0 0], []⟩).memory Tryz.f4.params.toList Rows.fnScriptsSpec.vars false #[.slice none 0 0].toList 8 = some ([.nil], [], places) := ⟨[], by kernel_rfl⟩

set_option maxRecDepth 100000 in
theorem lifted (os : Os) (started : os.Started) (H : Type) (enc : TypeId × Value → H) (F0 : Stop.Interp) :
    ReturnsInHanded {} Tryz.checked os 4 .any ((OpenSpec.ofChange Rows.fnScriptsSpec).preRow enc Tryz.prog Tryz.f4 Rows.fnScriptsRow.domain false Rows.fnScriptsRow.laid) (((OpenSpec.ofChange Rows.fnScriptsSpec).at F0).post enc Tryz.prog Tryz.f4 false true false false) := by
  obtain ⟨places, hx⟩ := reads os enc
  exact law_laid (C := Tryz.checked) (tb := 4) (l := [(false, [.list false [.int .u8]])]) (F := F_FnScripts) Tryz.own started (by kernel_rfl) Tryz.func4
    (witness_row_at (enc := enc) (C := Tryz.checked) false (laidWorld os) #[.slice none 0 0] rfl (by kernel_rfl) (by kernel_rfl) (by kernel_rfl)
      (OpenSpec.preRow_of_cond 8 hx (by kernel_rfl) (fun k hk => by cases hk) (by kernel_rfl) (laid_met os)))
    Tryz.laidOut (by kernel_rfl) rfl Tryz.underlying4 rfl
    (fun ds h => by
      match ds, h with
      | [d0], _ => rfl)
    (by kernel_rfl) (fun W hL hsh => c_laws_FnScripts (G := glOf W) rfl (ktab_of (table hL)) (kerr hL) (kmax_ex (Tryz.laysM146.s1_3 W hsh))) F_FnScripts_law
theorem said : Rows.FnScriptsSaid :=
  OpenClaim.holds_of_cond 4 Tryz.f4 rfl rfl rfl rfl rfl rfl rfl ⟨rfl, rfl, rfl, rfl, rfl⟩ rfl rfl rfl rfl rfl (by kernel_rfl) Tryz.func4 (by kernel_rfl)
    (of_decide_eq_true (by kernel_rfl)) (by unfold Func.isWrapper; first | (rw [if_pos (by decide +kernel)]; kernel_rfl) | (rw [if_neg (by decide +kernel)]; exact ⟨rfl, rfl⟩))
    (fun os started H enc _ F0 => by rw [OpenClaim.pre_eq_preRow]; exact lifted os started H enc F0)
/-- No parameter wants a stand-in; the program's own looks are off: what the card asks. -/
theorem plain (f : FuncId) (fn : Func) (hf : Tryz.pinned.checked.prog.funcNamed "loop.example/g03309/laws.FnScripts" = some f) (hfn : Tryz.pinned.checked.prog.funcs[f]? = some fn) :
    true = Tryz.pinned.checked.prog.looks [] ∧ ∀ (j : Nat) t, fn.params[j]? = some t → Tryz.pinned.checked.prog.wantsStandIn t = false := by
  obtain rfl : f = 4 := Option.some.inj ((show Tryz.prog.funcNamed "loop.example/g03309/laws.FnScripts" = some 4 by kernel_rfl).symm.trans hf) |>.symm
  obtain rfl : fn = Tryz.f4 := (Option.some.inj (Tryz.func4.symm.trans hfn)).symm
  refine ⟨by kernel_rfl, fun j t ht => ?_⟩
  rw [Tryz.params4] at ht
  obtain rfl : t = 22 := by simpa using Array.mem_of_getElem? ht
  exact (show Tryz.prog.wantsStandIn 22 = false by kernel_rfl)
theorem card : Rows.FnScriptsCardSaid :=
  Claim7.holds_tied_plain_at .later [] _ _ _ _ said (fun _ h => by cases h) (by kernel_rfl) (fun _ h => by cases h) fnScripts_row_tie rfl ⟨rfl, rfl⟩ (by kernel_rfl) rfl plain (by kernel_rfl)

end Go.Proofs.YtglmkflpenlbhaaGreatDoor.fnScripts
