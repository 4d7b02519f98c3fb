/- What functions of the program compute, as small pure programs, shown against plain Lean functions: no condition. -/
import Derived.KernelRfl
import Derived.Test.YtfefmdhhbidfbaaGreatPl1
/- Workshops: memory, opening. -/
namespace Go.Mw
theorem laws_markWorkshop_ok : ∀ ds outs, F_markWorkshop ds = some outs → shL laws_markWorkshop_L (qRet outs) ds := F_markWorkshop_elim fun x k hp => by
  rw [laws_markWorkshop_L_sh]
  rw [p_markBench (x_p := x.p) (x_o := x.o) ⟨hp.1, hp.2.1, hp.2.2.2.1, hp.2.2.2.2⟩]
  rw [p_markIntS ⟨by omega, by show 0 ≤ k + 2 * (x.p.length : Int) + 2 * (sum2 x.o : Int); omega, by show k + 2 * (x.p.length : Int) + 2 * (sum2 x.o : Int) ≤ _; omega⟩]
  simp
theorem laws_heldWorkshop_ok : ∀ ds outs, F_heldWorkshop ds = some outs → shL laws_heldWorkshop_L (qRet outs) ds := F_heldWorkshop_elim fun x k hp => by
  rw [laws_heldWorkshop_L_sh]
  rw [p_heldBench (x_p := x.p) (x_o := x.o) ⟨hp.1, hp.2.1, hp.2.2.2.1, hp.2.2.2.2⟩]
  by_cases h : x.p = markL2 x.p.length k ∧ x.o = markLL2 x.o (k + 2 * x.p.length)
  · have h2 : ¬ k + 2 * (x.p.length : Int) + 2 * sum2 x.o < 0 := by omega
    rw [if_pos h]
    simp only [P1_lss, ifB_bool, decide_eq_true_eq, decide_eq_false_iff_not]
    refine ⟨fun h3 => absurd h3 h2, fun _ => ?_⟩
    rw [p_heldIntS ⟨by omega, by omega, by omega⟩]
    by_cases h3 : x.c = markL1 x.c.length (k + 2 * x.p.length + 2 * sum2 x.o)
    · rw [if_pos h3, if_pos ⟨h.1, h.2, h3⟩]
      simp
      omega
    · rw [if_neg h3, if_neg (fun hh => h3 hh.2.2)]
      simp
  · rw [if_neg h, if_neg (fun hh => h ⟨hh.1, hh.2.1⟩)]
    simp
@[simp] theorem P1_lst14 {a b c d : Int} {k : V → Prop} : P1 (.lst [.sc] false 4) [.int .i64 a, .int .i64 b, .int .i64 c, .int .i64 d] k ↔ k (vL I1 v1 [a, b, c, d]) := P1_of (by simp [Prim.run, aksOk, akOk, chunk, V.pack, vL, v1]) k
end Go.Mw

/- The sample workshop: the law. -/
namespace Go.Mw
noncomputable section
end
end Go.Mw

/- What functions compute, in plain terms: the bench's steps. -/
namespace Go.Mw
def takeOk (b : Bench) : Bool := benchOk b && decide (b.o ≠ [])
def takeBack (b : Bench) : Bench := if takeOk b then ⟨b.s, b.t, (b.o[b.o.length - 1]?).getD [], b.o.take (b.o.length - 1)⟩ else b
def E_TakeBack (x : Bench) : List V := [.int .i64 x.s, .int .i64 x.t, vL I2 v2 x.p, vL IL2 vLL2 x.o]
noncomputable def F_TakeBack : List V → Option (List V) := mkF E_TakeBack (fun x => x.p.length ≤ 1048576 ∧ fitLL x.o) (fun x => [.int .i64 (takeBack x).s, .int .i64 (takeBack x).t, vL I2 v2 (takeBack x).p, vL IL2 vLL2 (takeBack x).o, .bool (takeOk x)])
theorem F_TakeBack_inj : ∀ x y, E_TakeBack x = E_TakeBack y → x = y := by
  rintro ⟨xs, xt, xp, xo⟩ ⟨xs', xt', xp', xo'⟩ h
  simpa [E_TakeBack] using h
theorem F_TakeBack_elim {P : List V → List V → Prop} (h : ∀ (x : Bench), (x.p.length ≤ 1048576 ∧ fitLL x.o) → P [.int .i64 x.s, .int .i64 x.t, vL I2 v2 x.p, vL IL2 vLL2 x.o] [.int .i64 (takeBack x).s, .int .i64 (takeBack x).t, vL I2 v2 (takeBack x).p, vL IL2 vLL2 (takeBack x).o, .bool (takeOk x)]) : ∀ ds outs, F_TakeBack ds = some outs → P ds outs := by
  intro ds outs hh
  obtain ⟨x, rfl, hp, rfl⟩ := mkF_inv hh
  exact h x hp
theorem p_TakeBack {x_s : Int} {x_t : Int} {x_p : List T2} {x_o : List (List T2)} {nr_ : Nat} {kk_ : V → V → V → V → V → Prop} (hp : (⟨x_s, x_t, x_p, x_o⟩ : Bench).p.length ≤ 1048576 ∧ fitLL (⟨x_s, x_t, x_p, x_o⟩ : Bench).o) : P5 (.call F_TakeBack 0 nr_) [.int .i64 x_s, .int .i64 x_t, vL I2 v2 x_p, vL IL2 vLL2 x_o] kk_ ↔ kk_ (.int .i64 (takeBack (⟨x_s, x_t, x_p, x_o⟩ : Bench)).s) (.int .i64 (takeBack (⟨x_s, x_t, x_p, x_o⟩ : Bench)).t) (vL I2 v2 (takeBack (⟨x_s, x_t, x_p, x_o⟩ : Bench)).p) (vL IL2 vLL2 (takeBack (⟨x_s, x_t, x_p, x_o⟩ : Bench)).o) (.bool (takeOk (⟨x_s, x_t, x_p, x_o⟩ : Bench))) :=
  P5_callF (by unfold F_TakeBack; exact mkF_eq F_TakeBack_inj ((⟨x_s, x_t, x_p, x_o⟩ : Bench)) hp)

def Bench.cyl (b : Bench) : Cyl := ⟨b.s, b.t, b.p⟩
def stepped (b : Bench) (c : Cyl) : Bench := ⟨c.s, c.t, c.p, b.o ++ [b.p]⟩
def stepOk (b : Bench) (c : Cyl) : Bool := benchOk b && benchOk (stepped b c)
def stepTo (b : Bench) (c : Cyl) (done : Bool) : Bench := if done && stepOk b c then stepped b c else b
def E_l37Step : Bench × Cyl → List V := fun (x, y) => [.int .i64 x.s, .int .i64 x.t, vL I2 v2 x.p, vL IL2 vLL2 x.o, .int .i64 y.s, .int .i64 y.t, vL I2 v2 y.p]
noncomputable def F_l37Step : List V → Option (List V) := mkF E_l37Step (fun (x, y) => x.p.length ≤ 1048576 ∧ fitLL x.o ∧ y.p.length ≤ 1048576) (fun (x, y) => [.int .i64 (stepTo x y true).s, .int .i64 (stepTo x y true).t, vL I2 v2 (stepTo x y true).p, vL IL2 vLL2 (stepTo x y true).o, .bool (stepOk x y)])
theorem F_l37Step_inj : ∀ x y, E_l37Step x = E_l37Step y → x = y := by
  rintro ⟨⟨xs, xt, xp, xo⟩, ⟨ys, yt, yp⟩⟩ ⟨⟨xs', xt', xp', xo'⟩, ⟨ys', yt', yp'⟩⟩ h
  simpa [E_l37Step, and_assoc] using h
theorem F_l37Step_elim {P : List V → List V → Prop} (h : ∀ (x : Bench) (y : Cyl), (x.p.length ≤ 1048576 ∧ fitLL x.o ∧ y.p.length ≤ 1048576) → P [.int .i64 x.s, .int .i64 x.t, vL I2 v2 x.p, vL IL2 vLL2 x.o, .int .i64 y.s, .int .i64 y.t, vL I2 v2 y.p] [.int .i64 (stepTo x y true).s, .int .i64 (stepTo x y true).t, vL I2 v2 (stepTo x y true).p, vL IL2 vLL2 (stepTo x y true).o, .bool (stepOk x y)]) : ∀ ds outs, F_l37Step ds = some outs → P ds outs := by
  intro ds outs hh
  obtain ⟨⟨x, y⟩, rfl, hp, rfl⟩ := mkF_inv hh
  exact h x y hp
theorem p_l37Step {x_s : Int} {x_t : Int} {x_p : List T2} {x_o : List (List T2)} {y_s : Int} {y_t : Int} {y_p : List T2} {nr_ : Nat} {kk_ : V → V → V → V → V → Prop} (hp : (⟨x_s, x_t, x_p, x_o⟩ : Bench).p.length ≤ 1048576 ∧ fitLL (⟨x_s, x_t, x_p, x_o⟩ : Bench).o ∧ (⟨y_s, y_t, y_p⟩ : Cyl).p.length ≤ 1048576) : P5 (.call F_l37Step 0 nr_) [.int .i64 x_s, .int .i64 x_t, vL I2 v2 x_p, vL IL2 vLL2 x_o, .int .i64 y_s, .int .i64 y_t, vL I2 v2 y_p] kk_ ↔ kk_ (.int .i64 (stepTo (⟨x_s, x_t, x_p, x_o⟩ : Bench) (⟨y_s, y_t, y_p⟩ : Cyl) true).s) (.int .i64 (stepTo (⟨x_s, x_t, x_p, x_o⟩ : Bench) (⟨y_s, y_t, y_p⟩ : Cyl) true).t) (vL I2 v2 (stepTo (⟨x_s, x_t, x_p, x_o⟩ : Bench) (⟨y_s, y_t, y_p⟩ : Cyl) true).p) (vL IL2 vLL2 (stepTo (⟨x_s, x_t, x_p, x_o⟩ : Bench) (⟨y_s, y_t, y_p⟩ : Cyl) true).o) (.bool (stepOk (⟨x_s, x_t, x_p, x_o⟩ : Bench) (⟨y_s, y_t, y_p⟩ : Cyl))) :=
  P5_callF (by unfold F_l37Step; exact mkF_eq F_l37Step_inj ((⟨x_s, x_t, x_p, x_o⟩ : Bench), (⟨y_s, y_t, y_p⟩ : Cyl)) hp)

def E_replaced : Bench × Cyl × Bool → List V := fun (x, y, n) => [.int .i64 x.s, .int .i64 x.t, vL I2 v2 x.p, vL IL2 vLL2 x.o, .int .i64 y.s, .int .i64 y.t, vL I2 v2 y.p, .bool n]
noncomputable def F_replaced : List V → Option (List V) := mkF E_replaced (fun (x, y, _) => x.p.length ≤ 1048576 ∧ fitLL x.o ∧ y.p.length ≤ 1048576) (fun (x, y, n) => [.int .i64 (stepTo x y n).s, .int .i64 (stepTo x y n).t, vL I2 v2 (stepTo x y n).p, vL IL2 vLL2 (stepTo x y n).o, .bool (n && stepOk x y)])
theorem F_replaced_inj : ∀ x y, E_replaced x = E_replaced y → x = y := by
  rintro ⟨⟨xs, xt, xp, xo⟩, ⟨ys, yt, yp⟩, n⟩ ⟨⟨xs', xt', xp', xo'⟩, ⟨ys', yt', yp'⟩, n'⟩ h
  simpa [E_replaced, and_assoc] using h
theorem F_replaced_elim {P : List V → List V → Prop} (h : ∀ (x : Bench) (y : Cyl) (n : Bool), (x.p.length ≤ 1048576 ∧ fitLL x.o ∧ y.p.length ≤ 1048576) → P [.int .i64 x.s, .int .i64 x.t, vL I2 v2 x.p, vL IL2 vLL2 x.o, .int .i64 y.s, .int .i64 y.t, vL I2 v2 y.p, .bool n] [.int .i64 (stepTo x y n).s, .int .i64 (stepTo x y n).t, vL I2 v2 (stepTo x y n).p, vL IL2 vLL2 (stepTo x y n).o, .bool (n && stepOk x y)]) : ∀ ds outs, F_replaced ds = some outs → P ds outs := by
  intro ds outs hh
  obtain ⟨⟨x, y, n⟩, rfl, hp, rfl⟩ := mkF_inv hh
  exact h x y n hp
theorem p_replaced {x_s : Int} {x_t : Int} {x_p : List T2} {x_o : List (List T2)} {y_s : Int} {y_t : Int} {y_p : List T2} {n : Bool} {nr_ : Nat} {kk_ : V → V → V → V → V → Prop} (hp : (⟨x_s, x_t, x_p, x_o⟩ : Bench).p.length ≤ 1048576 ∧ fitLL (⟨x_s, x_t, x_p, x_o⟩ : Bench).o ∧ (⟨y_s, y_t, y_p⟩ : Cyl).p.length ≤ 1048576) : P5 (.call F_replaced 0 nr_) [.int .i64 x_s, .int .i64 x_t, vL I2 v2 x_p, vL IL2 vLL2 x_o, .int .i64 y_s, .int .i64 y_t, vL I2 v2 y_p, .bool n] kk_ ↔ kk_ (.int .i64 (stepTo (⟨x_s, x_t, x_p, x_o⟩ : Bench) (⟨y_s, y_t, y_p⟩ : Cyl) n).s) (.int .i64 (stepTo (⟨x_s, x_t, x_p, x_o⟩ : Bench) (⟨y_s, y_t, y_p⟩ : Cyl) n).t) (vL I2 v2 (stepTo (⟨x_s, x_t, x_p, x_o⟩ : Bench) (⟨y_s, y_t, y_p⟩ : Cyl) n).p) (vL IL2 vLL2 (stepTo (⟨x_s, x_t, x_p, x_o⟩ : Bench) (⟨y_s, y_t, y_p⟩ : Cyl) n).o) (.bool (n && stepOk (⟨x_s, x_t, x_p, x_o⟩ : Bench) (⟨y_s, y_t, y_p⟩ : Cyl))) :=
  P5_callF (by unfold F_replaced; exact mkF_eq F_replaced_inj ((⟨x_s, x_t, x_p, x_o⟩ : Bench), (⟨y_s, y_t, y_p⟩ : Cyl), n) hp)

def pullOk (c : Cyl) (k : Int) : Bool := cylOk c && (decide (0 ≤ k) && decide (k < c.p.length))
def pulled (b : Bench) (k : Int) : Cyl := ⟨b.s, b.t, pullPin b.cyl k⟩
def takePin (b : Bench) (k : Int) : Bench := stepTo b (pulled b k) (pullOk b.cyl k)
def E_TakePin : Bench × Int → List V := fun (x, k) => [.int .i64 x.s, .int .i64 x.t, vL I2 v2 x.p, vL IL2 vLL2 x.o, .int .i64 k]
noncomputable def F_TakePin : List V → Option (List V) := mkF E_TakePin (fun (x, _) => x.p.length ≤ 1048576 ∧ fitLL x.o) (fun (x, k) => [.int .i64 (takePin x k).s, .int .i64 (takePin x k).t, vL I2 v2 (takePin x k).p, vL IL2 vLL2 (takePin x k).o, .bool (pullOk x.cyl k && stepOk x (pulled x k))])
theorem F_TakePin_inj : ∀ x y, E_TakePin x = E_TakePin y → x = y := by
  rintro ⟨⟨xs, xt, xp, xo⟩, k⟩ ⟨⟨xs', xt', xp', xo'⟩, k'⟩ h
  simpa [E_TakePin, and_assoc] using h
theorem F_TakePin_elim {P : List V → List V → Prop} (h : ∀ (x : Bench) (k : Int), (x.p.length ≤ 1048576 ∧ fitLL x.o) → P [.int .i64 x.s, .int .i64 x.t, vL I2 v2 x.p, vL IL2 vLL2 x.o, .int .i64 k] [.int .i64 (takePin x k).s, .int .i64 (takePin x k).t, vL I2 v2 (takePin x k).p, vL IL2 vLL2 (takePin x k).o, .bool (pullOk x.cyl k && stepOk x (pulled x k))]) : ∀ ds outs, F_TakePin ds = some outs → P ds outs := by
  intro ds outs hh
  obtain ⟨⟨x, k⟩, rfl, hp, rfl⟩ := mkF_inv hh
  exact h x k hp
theorem p_TakePin {x_s : Int} {x_t : Int} {x_p : List T2} {x_o : List (List T2)} {k : Int} {nr_ : Nat} {kk_ : V → V → V → V → V → Prop} (hp : (⟨x_s, x_t, x_p, x_o⟩ : Bench).p.length ≤ 1048576 ∧ fitLL (⟨x_s, x_t, x_p, x_o⟩ : Bench).o) : P5 (.call F_TakePin 0 nr_) [.int .i64 x_s, .int .i64 x_t, vL I2 v2 x_p, vL IL2 vLL2 x_o, .int .i64 k] kk_ ↔ kk_ (.int .i64 (takePin (⟨x_s, x_t, x_p, x_o⟩ : Bench) k).s) (.int .i64 (takePin (⟨x_s, x_t, x_p, x_o⟩ : Bench) k).t) (vL I2 v2 (takePin (⟨x_s, x_t, x_p, x_o⟩ : Bench) k).p) (vL IL2 vLL2 (takePin (⟨x_s, x_t, x_p, x_o⟩ : Bench) k).o) (.bool (pullOk (⟨x_s, x_t, x_p, x_o⟩ : Bench).cyl k && stepOk (⟨x_s, x_t, x_p, x_o⟩ : Bench) (pulled (⟨x_s, x_t, x_p, x_o⟩ : Bench) k))) :=
  P5_callF (by unfold F_TakePin; exact mkF_eq F_TakePin_inj ((⟨x_s, x_t, x_p, x_o⟩ : Bench), k) hp)


end Go.Mw

/- Functions of the program, as small pure programs (printed by a program of ours). -/
namespace Go.Mw
noncomputable section
def spec_TakeBack_L : L := .seq (.rg []) (.seq (.rg [⟨[], .call F_l37Copy 0 4, [.v 0, .v 1, .v 2, .v 3], 4⟩]) (.seq (.rg [⟨[], .len, [.v 3], 1⟩]) (.seq (.seq (.rg [⟨[], .call F_BenchOk 0 1, [.v 0, .v 1, .v 2, .v 3], 1⟩, ⟨[], .un .not, [.v 9], 1⟩, ⟨[(.v 10, false)], .bin .eql, [.v 8, .k (.int .i64 0)], 1⟩, ⟨[], .pick, [.v 10, .k (.bool true), .v 11], 1⟩]) (.ite (.v 12) (.seq (.rg []) (.ret [.v 4, .v 5, .v 6, .v 7, .k (.bool false)])) (.skip))) (.seq (.rg [⟨[], .bin .sub, [.v 8, .k (.int .i64 1)], 1⟩, ⟨[], .idx [.sl [.sc, .sc]], [.v 7, .v 13], 1⟩]) (.seq (.rg [⟨[], .bin .sub, [.v 8, .k (.int .i64 1)], 1⟩, ⟨[], .lsub [.sl [.sc, .sc]], [.v 7, .k (.int .i64 0), .v 15], 1⟩]) (.seq (.rg []) (.seq (.rg [⟨[], .chkLe, [.v 15, .v 13], 0⟩]) (.ret [.v 4, .v 5, .v 14, .v 16, .k (.bool true)]))))))))
theorem spec_TakeBack_L_sh (Q : QT) (x0 x1 x2 x3 : V) : shL spec_TakeBack_L Q [x0, x1, x2, x3] = (
  P4 (.call F_l37Copy 0 4) [x0, x1, x2, x3] fun v0 v1 v2 v3 =>
  P1 (.len) [x3] fun v4 =>
  P1 (.call F_BenchOk 0 1) [x0, x1, x2, x3] fun v5 =>
  P1 (.un .not) [v5] fun v6 =>
  ifB v6 (
    Q .ret [v0, v1, v2, v3, .bool false]) (
    P1 (.bin .eql) [v4, .int .i64 0] fun v7 =>
    ifB v7 (
      Q .ret [v0, v1, v2, v3, .bool false]) (
      P1 (.bin .sub) [v4, .int .i64 1] fun v8 =>
      P1 (.idx [.sl [.sc, .sc]]) [v3, v8] fun v9 =>
      P1 (.bin .sub) [v4, .int .i64 1] fun v10 =>
      P1 (.lsub [.sl [.sc, .sc]]) [v3, .int .i64 0, v10] fun v11 =>
      P0 (.chkLe) [v10, v8] (
      Q .ret [v0, v1, v9, v11, .bool true])))) := by kernel_rfl
def spec_TakeBack_S : Sig := ⟨[.val true [.sc, .sc, .sl [.sc, .sc], .sl [.sl [.sc, .sc]]]], [(true, [.sc, .sc, .sl [.sc, .sc], .sl [.sl [.sc, .sc]]]), (false, [.sc])], F_TakeBack⟩
def spec_TakeBack_hs : List NF := []

def impl_TakeBack_L : L := .seq (.rg []) (.seq (.rg [⟨[], .call F_copyBench 0 4, [.v 0, .v 1, .v 2, .v 3], 4⟩]) (.seq (.rg [⟨[], .len, [.v 3], 1⟩]) (.seq (.seq (.rg [⟨[], .call F_BenchOk 0 1, [.v 0, .v 1, .v 2, .v 3], 1⟩, ⟨[], .un .not, [.v 9], 1⟩, ⟨[(.v 10, false)], .bin .eql, [.v 8, .k (.int .i64 0)], 1⟩, ⟨[], .pick, [.v 10, .k (.bool true), .v 11], 1⟩]) (.ite (.v 12) (.seq (.rg []) (.ret [.v 4, .v 5, .v 6, .v 7, .k (.bool false)])) (.skip))) (.seq (.rg [⟨[], .bin .sub, [.v 8, .k (.int .i64 1)], 1⟩, ⟨[], .idx [.sl [.sc, .sc]], [.v 7, .v 13], 1⟩]) (.seq (.rg [⟨[], .bin .sub, [.v 8, .k (.int .i64 1)], 1⟩, ⟨[], .lsub [.sl [.sc, .sc]], [.v 7, .k (.int .i64 0), .v 15], 1⟩]) (.seq (.rg []) (.seq (.rg [⟨[], .chkLe, [.v 15, .v 13], 0⟩]) (.ret [.v 4, .v 5, .v 14, .v 16, .k (.bool true)]))))))))
theorem impl_TakeBack_L_sh (Q : QT) (x0 x1 x2 x3 : V) : shL impl_TakeBack_L Q [x0, x1, x2, x3] = (
  P4 (.call F_copyBench 0 4) [x0, x1, x2, x3] fun v0 v1 v2 v3 =>
  P1 (.len) [x3] fun v4 =>
  P1 (.call F_BenchOk 0 1) [x0, x1, x2, x3] fun v5 =>
  P1 (.un .not) [v5] fun v6 =>
  ifB v6 (
    Q .ret [v0, v1, v2, v3, .bool false]) (
    P1 (.bin .eql) [v4, .int .i64 0] fun v7 =>
    ifB v7 (
      Q .ret [v0, v1, v2, v3, .bool false]) (
      P1 (.bin .sub) [v4, .int .i64 1] fun v8 =>
      P1 (.idx [.sl [.sc, .sc]]) [v3, v8] fun v9 =>
      P1 (.bin .sub) [v4, .int .i64 1] fun v10 =>
      P1 (.lsub [.sl [.sc, .sc]]) [v3, .int .i64 0, v10] fun v11 =>
      P0 (.chkLe) [v10, v8] (
      Q .ret [v0, v1, v9, v11, .bool true])))) := by kernel_rfl
def impl_TakeBack_S : Sig := ⟨[.val true [.sc, .sc, .sl [.sc, .sc], .sl [.sl [.sc, .sc]]]], [(true, [.sc, .sc, .sl [.sc, .sc], .sl [.sl [.sc, .sc]]]), (false, [.sc])], F_TakeBack⟩
def impl_TakeBack_hs : List NF := []

def spec_l37Step_L : L := .seq (.rg []) (.seq (.rg [⟨[], .call F_l37Copy 0 4, [.v 0, .v 1, .v 2, .v 3], 4⟩]) (.seq (.rg [⟨[], .lst [.sc, .sc] true 0, [], 1⟩, ⟨[], .app [.sc, .sc] 16, [.v 11, .v 2], 1⟩, ⟨[], .lst [.sl [.sc, .sc]] false 1, [.v 12], 1⟩, ⟨[], .app [.sl [.sc, .sc]] 24, [.v 10, .v 13], 1⟩]) (.seq (.rg []) (.seq (.seq (.rg [⟨[], .call F_BenchOk 0 1, [.v 0, .v 1, .v 2, .v 3], 1⟩, ⟨[], .un .not, [.v 15], 1⟩, ⟨[(.v 16, false)], .call F_BenchOk 0 1, [.v 4, .v 5, .v 6, .v 14], 1⟩, ⟨[(.v 16, false)], .un .not, [.v 17], 1⟩, ⟨[], .pick, [.v 16, .k (.bool true), .v 18], 1⟩]) (.ite (.v 19) (.seq (.rg [⟨[], .call F_l37Copy 0 4, [.v 0, .v 1, .v 2, .v 3], 4⟩]) (.ret [.v 20, .v 21, .v 22, .v 23, .k (.bool false)])) (.skip))) (.seq (.rg []) (.ret [.v 4, .v 5, .v 6, .v 14, .k (.bool true)]))))))
theorem spec_l37Step_L_sh (Q : QT) (x0 x1 x2 x3 x4 x5 x6 : V) : shL spec_l37Step_L Q [x0, x1, x2, x3, x4, x5, x6] = (
  P4 (.call F_l37Copy 0 4) [x0, x1, x2, x3] fun _ _ _ v3 =>
  P1 (.lst [.sc, .sc] true 0) [] fun v4 =>
  P1 (.app [.sc, .sc] 16) [v4, x2] fun v5 =>
  P1 (.lst [.sl [.sc, .sc]] false 1) [v5] fun v6 =>
  P1 (.app [.sl [.sc, .sc]] 24) [v3, v6] fun v7 =>
  P1 (.call F_BenchOk 0 1) [x0, x1, x2, x3] fun v8 =>
  P1 (.un .not) [v8] fun v9 =>
  ifB v9 (
    P4 (.call F_l37Copy 0 4) [x0, x1, x2, x3] fun v10 v11 v12 v13 =>
    Q .ret [v10, v11, v12, v13, .bool false]) (
    P1 (.call F_BenchOk 0 1) [x4, x5, x6, v7] fun v14 =>
    P1 (.un .not) [v14] fun v15 =>
    ifB v15 (
      P4 (.call F_l37Copy 0 4) [x0, x1, x2, x3] fun v16 v17 v18 v19 =>
      Q .ret [v16, v17, v18, v19, .bool false]) (
      Q .ret [x4, x5, x6, v7, .bool true]))) := by kernel_rfl
def spec_l37Step_S : Sig := ⟨[.val true [.sc, .sc, .sl [.sc, .sc], .sl [.sl [.sc, .sc]]], .tk true [.sc, .sc, .sl [.sc, .sc]]], [(true, [.sc, .sc, .sl [.sc, .sc], .sl [.sl [.sc, .sc]]]), (false, [.sc])], F_l37Step⟩
def spec_l37Step_hs : List NF := []

def spec_TakePin_L : L := .seq (.rg []) (.seq (.rg [⟨[], .call F_PullPin 0 4, [.v 0, .v 1, .v 2, .v 4], 4⟩]) (.seq (.seq (.rg [⟨[], .un .not, [.v 8], 1⟩]) (.ite (.v 9) (.seq (.rg [⟨[], .call F_l37Copy 0 4, [.v 0, .v 1, .v 2, .v 3], 4⟩]) (.ret [.v 10, .v 11, .v 12, .v 13, .k (.bool false)])) (.skip))) (.seq (.rg [⟨[], .call F_l37Step 0 5, [.v 0, .v 1, .v 2, .v 3, .v 5, .v 6, .v 7], 5⟩]) (.seq (.rg []) (.ret [.v 10, .v 11, .v 12, .v 13, .v 14])))))
theorem spec_TakePin_L_sh (Q : QT) (x0 x1 x2 x3 x4 : V) : shL spec_TakePin_L Q [x0, x1, x2, x3, x4] = (
  P4 (.call F_PullPin 0 4) [x0, x1, x2, x4] fun v0 v1 v2 v3 =>
  P1 (.un .not) [v3] fun v4 =>
  ifB v4 (
    P4 (.call F_l37Copy 0 4) [x0, x1, x2, x3] fun v5 v6 v7 v8 =>
    Q .ret [v5, v6, v7, v8, .bool false]) (
    P5 (.call F_l37Step 0 5) [x0, x1, x2, x3, v0, v1, v2] fun v9 v10 v11 v12 v13 =>
    Q .ret [v9, v10, v11, v12, v13])) := by kernel_rfl
def spec_TakePin_S : Sig := ⟨[.val true [.sc, .sc, .sl [.sc, .sc], .sl [.sl [.sc, .sc]]], .val false [.sc]], [(true, [.sc, .sc, .sl [.sc, .sc], .sl [.sl [.sc, .sc]]]), (false, [.sc])], F_TakePin⟩
def spec_TakePin_hs : List NF := []

def impl_replaced_L : L := .seq (.rg []) (.seq (.rg [⟨[], .call F_copyBench 0 4, [.v 0, .v 1, .v 2, .v 3], 4⟩]) (.seq (.rg [⟨[], .call F_copyPins 0 1, [.v 2], 1⟩, ⟨[], .lst [.sl [.sc, .sc]] false 1, [.v 12], 1⟩, ⟨[], .app [.sl [.sc, .sc]] 24, [.v 11, .v 13], 1⟩]) (.seq (.rg []) (.seq (.seq (.rg [⟨[], .un .not, [.v 7], 1⟩, ⟨[(.v 15, false)], .call F_BenchOk 0 1, [.v 0, .v 1, .v 2, .v 3], 1⟩, ⟨[(.v 15, false)], .un .not, [.v 16], 1⟩, ⟨[], .pick, [.v 15, .k (.bool true), .v 17], 1⟩, ⟨[(.v 18, false)], .call F_BenchOk 0 1, [.v 4, .v 5, .v 6, .v 14], 1⟩, ⟨[(.v 18, false)], .un .not, [.v 19], 1⟩, ⟨[], .pick, [.v 18, .k (.bool true), .v 20], 1⟩]) (.ite (.v 21) (.seq (.rg [⟨[], .call F_copyBench 0 4, [.v 0, .v 1, .v 2, .v 3], 4⟩]) (.ret [.v 22, .v 23, .v 24, .v 25, .k (.bool false)])) (.skip))) (.seq (.rg []) (.ret [.v 4, .v 5, .v 6, .v 14, .k (.bool true)]))))))
theorem impl_replaced_L_sh (Q : QT) (x0 x1 x2 x3 x4 x5 x6 x7 : V) : shL impl_replaced_L Q [x0, x1, x2, x3, x4, x5, x6, x7] = (
  P4 (.call F_copyBench 0 4) [x0, x1, x2, x3] fun _ _ _ v3 =>
  P1 (.call F_copyPins 0 1) [x2] fun v4 =>
  P1 (.lst [.sl [.sc, .sc]] false 1) [v4] fun v5 =>
  P1 (.app [.sl [.sc, .sc]] 24) [v3, v5] fun v6 =>
  P1 (.un .not) [x7] fun v7 =>
  ifB v7 (
    P4 (.call F_copyBench 0 4) [x0, x1, x2, x3] fun v8 v9 v10 v11 =>
    Q .ret [v8, v9, v10, v11, .bool false]) (
    P1 (.call F_BenchOk 0 1) [x0, x1, x2, x3] fun v12 =>
    P1 (.un .not) [v12] fun v13 =>
    ifB v13 (
      P4 (.call F_copyBench 0 4) [x0, x1, x2, x3] fun v14 v15 v16 v17 =>
      Q .ret [v14, v15, v16, v17, .bool false]) (
      P1 (.call F_BenchOk 0 1) [x4, x5, x6, v6] fun v18 =>
      P1 (.un .not) [v18] fun v19 =>
      ifB v19 (
        P4 (.call F_copyBench 0 4) [x0, x1, x2, x3] fun v20 v21 v22 v23 =>
        Q .ret [v20, v21, v22, v23, .bool false]) (
        Q .ret [x4, x5, x6, v6, .bool true])))) := by kernel_rfl
def impl_replaced_S : Sig := ⟨[.val true [.sc, .sc, .sl [.sc, .sc], .sl [.sl [.sc, .sc]]], .tk true [.sc, .sc, .sl [.sc, .sc]], .val false [.sc]], [(true, [.sc, .sc, .sl [.sc, .sc], .sl [.sl [.sc, .sc]]]), (false, [.sc])], F_replaced⟩
def impl_replaced_hs : List NF := []

def impl_TakePin_L : L := .seq (.rg []) (.seq (.rg [⟨[], .call F_PullPin 0 4, [.v 0, .v 1, .v 2, .v 4], 4⟩]) (.seq (.rg [⟨[], .call F_replaced 0 5, [.v 0, .v 1, .v 2, .v 3, .v 5, .v 6, .v 7, .v 8], 5⟩]) (.ret [.v 9, .v 10, .v 11, .v 12, .v 13])))
theorem impl_TakePin_L_sh (Q : QT) (x0 x1 x2 x3 x4 : V) : shL impl_TakePin_L Q [x0, x1, x2, x3, x4] = (
  P4 (.call F_PullPin 0 4) [x0, x1, x2, x4] fun v0 v1 v2 v3 =>
  P5 (.call F_replaced 0 5) [x0, x1, x2, x3, v0, v1, v2, v3] fun v4 v5 v6 v7 v8 =>
  Q .ret [v4, v5, v6, v7, v8]) := by kernel_rfl
def impl_TakePin_S : Sig := ⟨[.val true [.sc, .sc, .sl [.sc, .sc], .sl [.sl [.sc, .sc]]], .val false [.sc]], [(true, [.sc, .sc, .sl [.sc, .sc], .sl [.sl [.sc, .sc]]]), (false, [.sc])], F_TakePin⟩
def impl_TakePin_hs : List NF := []

end
end Go.Mw

/- Taking back; a step of the bench; pulling a pin. -/
namespace Go.Mw
/-- A bench whose memory is within bounds. -/
def bSmall (b : Bench) : Prop := b.p.length ≤ 1048576 ∧ fitLL b.o ∧ 1 + 2 * (b.p.length : Int) + 2 * sum2 b.o ≤ 1099511627776
theorem sum2_le {l : List (List T2)} {n m : Nat} (h1 : l.length ≤ n) (h2 : ∀ x ∈ l, x.length ≤ m) : sum2 l ≤ n * m := by
  induction l generalizing n with
  | nil => simp [sum2]
  | cons x l ih =>
    obtain ⟨n, rfl⟩ : ∃ k, n = k + 1 := ⟨n - 1, by simp at h1; omega⟩
    have h3 := ih (n := n) (by simpa using h1) (fun y hy => h2 y (by simp [hy]))
    have h4 := h2 x (by simp)
    simp only [sum2, List.map_cons, List.sum_cons, Nat.add_mul] at h3 ⊢
    omega
theorem bSmall_of_tot {b : Bench} (h : (b.p.length : Int) + tot2 b.o ≤ 1048576) : bSmall b := by
  have := tot2_eq b.o
  refine ⟨by omega, fit_of_tot (by omega), by omega⟩
theorem bSmall_of_ok {b : Bench} (h : benchOk b = true) : bSmall b := by
  have h1 := benchOk_len h
  have h2 := ((benchOk_iff b).1 h).2.1
  have h3 := sum2_le h2 h1.2
  exact ⟨by omega, ⟨by omega, fun x hx => by have := h1.2 x hx; omega⟩, by omega⟩
theorem P1_appLL2_1 {l : List (List T2)} {a : List T2} {b : Nat} {k : V → Prop} : P1 (.app [.sl [.sc, .sc]] b) [vL IL2 vLL2 l, vL IL2 vLL2 [a]] k ↔ ((l.length + 1) * b ≤ 140737488355328 ∧ l.length + 1 ≤ 140737488355328) ∧ k (vL IL2 vLL2 (l ++ [a])) := P1_appL2_
theorem lastL2 {l : List (List T2)} (h : l ≠ []) : l[((l.length : Int) - 1).toNat]? = some ((l[l.length - 1]?).getD []) := by
  have h1 : 0 < l.length := List.length_pos_iff.2 h
  have h2 : ((l.length : Int) - 1).toNat = l.length - 1 := by omega
  rw [h2, List.getElem?_eq_getElem (by omega)]; rfl
theorem spec_TakeBack_ok : ∀ ds outs, F_TakeBack ds = some outs → shL spec_TakeBack_L (qRet outs) ds := F_TakeBack_elim fun b hp => by
  rw [spec_TakeBack_L_sh, p_l37Copy (x_p := b.p) (x_o := b.o) hp]
  simp only [P1_len, p_BenchOk (x_p := b.p) (x_o := b.o) hp]
  cases h : benchOk b with
  | false => simp [takeBack, takeOk, h]
  | true =>
    by_cases ho : b.o = []
    · simp [takeBack, takeOk, h, ho]
    · have h1 : 0 < b.o.length := List.length_pos_iff.2 ho
      have h2 := hp.2.1
      have h3 : ¬ ((b.o.length : Int) = 0) := by omega
      have hw : IntKind.i64.wrap ((b.o.length : Int) - 1) = b.o.length - 1 := wrap_id (by omega) (by omega)
      have h4 : ((b.o.length : Int) - 1).toNat = b.o.length - 1 := by omega
      simp [h3, hw, lastL2 ho, takeBack, takeOk, h, ho, h4]
      have e := lastL2 ho
      rw [h4] at e
      exact ⟨by omega, e, by omega, by omega⟩
theorem impl_TakeBack_ok : ∀ ds outs, F_TakeBack ds = some outs → shL impl_TakeBack_L (qRet outs) ds := F_TakeBack_elim fun b hp => by
  rw [impl_TakeBack_L_sh, p_copyBench (x_p := b.p) (x_o := b.o) hp]
  simp only [P1_len, p_BenchOk (x_p := b.p) (x_o := b.o) hp]
  cases h : benchOk b with
  | false => simp [takeBack, takeOk, h]
  | true =>
    by_cases ho : b.o = []
    · simp [takeBack, takeOk, h, ho]
    · have h1 : 0 < b.o.length := List.length_pos_iff.2 ho
      have h2 := hp.2.1
      have h3 : ¬ ((b.o.length : Int) = 0) := by omega
      have hw : IntKind.i64.wrap ((b.o.length : Int) - 1) = b.o.length - 1 := wrap_id (by omega) (by omega)
      have h4 : ((b.o.length : Int) - 1).toNat = b.o.length - 1 := by omega
      simp [h3, hw, lastL2 ho, takeBack, takeOk, h, ho, h4]
      have e := lastL2 ho
      rw [h4] at e
      exact ⟨by omega, e, by omega, by omega⟩
theorem step_fit {b : Bench} {c : Cyl} (h : benchOk b = true) (hc : c.p.length ≤ 1048576) : (stepped b c).p.length ≤ 1048576 ∧ fitLL (stepped b c).o := by
  have h1 := bSmall_of_ok h
  have h2 := ((benchOk_iff b).1 h).2.1
  refine ⟨hc, by simp [stepped]; omega, fun x hx => ?_⟩
  simp only [stepped, List.mem_append, List.mem_singleton] at hx
  rcases hx with hx | rfl
  · exact h1.2.1.2 x hx
  · exact h1.1
theorem spec_l37Step_ok : ∀ ds outs, F_l37Step ds = some outs → shL spec_l37Step_L (qRet outs) ds := F_l37Step_elim fun b c hp => by
  have hb := And.intro hp.1 hp.2.1
  have hl := hp.2.1.1
  rw [spec_l37Step_L_sh, p_l37Copy (x_p := b.p) (x_o := b.o) hb]
  simp only [P1_lst0, P1_app2_0, P1_lstL2, P1_appLL2_1, p_l37Copy (x_p := b.p) (x_o := b.o) hb, p_BenchOk (x_p := b.p) (x_o := b.o) hb]
  refine ⟨by omega, by omega, ?_⟩
  cases h : benchOk b with
  | false => simp [stepTo, stepOk, h]
  | true =>
    have hs := step_fit h hp.2.2
    have e := p_BenchOk (x_s := c.s) (x_t := c.t) (x_p := c.p) (x_o := b.o ++ [b.p]) (nr_ := 1) (kk_ := fun v => v = v) hs
    simp only [P1_not, ifB_bool, Bool.not_true, Bool.false_eq_true, false_implies, true_and, true_implies]
    rw [p_BenchOk (x_s := c.s) (x_t := c.t) (x_p := c.p) (x_o := b.o ++ [b.p]) hs]
    cases h2 : benchOk (stepped b c) with
    | false =>
      have h3 : benchOk ⟨c.s, c.t, c.p, b.o ++ [b.p]⟩ = false := h2
      simp [stepTo, stepOk, h, h2, h3]
    | true =>
      have h3 : benchOk ⟨c.s, c.t, c.p, b.o ++ [b.p]⟩ = true := h2
      simp [stepTo, stepOk, h, h2, h3, stepped]
theorem impl_replaced_ok : ∀ ds outs, F_replaced ds = some outs → shL impl_replaced_L (qRet outs) ds := F_replaced_elim fun b c n hp => by
  have hb := And.intro hp.1 hp.2.1
  have hl := hp.2.1.1
  have hbp : b.p.length ≤ 4194304 := by omega
  rw [impl_replaced_L_sh, p_copyBench (x_p := b.p) (x_o := b.o) hb, p_copyPins hbp]
  simp only [P1_lstL2, P1_appLL2_1, p_copyBench (x_p := b.p) (x_o := b.o) hb, p_BenchOk (x_p := b.p) (x_o := b.o) hb]
  refine ⟨by omega, ?_⟩
  cases n with
  | false => simp [stepTo]
  | true =>
  cases h : benchOk b with
  | false => simp [stepTo, stepOk, h]
  | true =>
    have hs := step_fit h hp.2.2
    simp only [P1_not, ifB_bool, Bool.not_true, Bool.false_eq_true, false_implies, true_and, true_implies]
    rw [p_BenchOk (x_s := c.s) (x_t := c.t) (x_p := c.p) (x_o := b.o ++ [b.p]) hs]
    cases h2 : benchOk (stepped b c) with
    | false =>
      have h3 : benchOk ⟨c.s, c.t, c.p, b.o ++ [b.p]⟩ = false := h2
      simp [stepTo, stepOk, h, h2, h3]
    | true =>
      have h3 : benchOk ⟨c.s, c.t, c.p, b.o ++ [b.p]⟩ = true := h2
      simp [stepTo, stepOk, h, h2, h3, stepped]
theorem pullPin_len (c : Cyl) (k : Int) : (pullPin c k).length ≤ c.p.length := by
  unfold pullPin
  split
  · simp; omega
  · exact Nat.le_refl _
theorem spec_TakePin_ok : ∀ ds outs, F_TakePin ds = some outs → shL spec_TakePin_L (qRet outs) ds := F_TakePin_elim fun b k hp => by
  have hl : (pullPin b.cyl k).length ≤ 1048576 := Nat.le_trans (pullPin_len b.cyl k) hp.1
  rw [spec_TakePin_L_sh, p_PullPin (x_p := b.p) hp.1]
  simp only [p_l37Copy (x_p := b.p) (x_o := b.o) hp]
  cases h : pullOk b.cyl k with
  | false =>
    have h' : (cylOk ⟨b.s, b.t, b.p⟩ && (decide (0 ≤ k) && decide (k < b.p.length))) = false := h
    simp [takePin, stepTo, h, h']
  | true =>
    have h' : (cylOk ⟨b.s, b.t, b.p⟩ && (decide (0 ≤ k) && decide (k < b.p.length))) = true := h
    simp only [h', P1_not, ifB_bool, Bool.not_true, Bool.false_eq_true, false_implies, true_and, true_implies]
    rw [p_l37Step (x_p := b.p) (x_o := b.o) (y_p := pullPin ⟨b.s, b.t, b.p⟩ k) ⟨hp.1, hp.2, hl⟩]
    simp only [takePin, h, Bool.true_and]
    exact ⟨rfl, rfl⟩
theorem impl_TakePin_ok : ∀ ds outs, F_TakePin ds = some outs → shL impl_TakePin_L (qRet outs) ds := F_TakePin_elim fun b k hp => by
  have hl : (pullPin b.cyl k).length ≤ 1048576 := Nat.le_trans (pullPin_len b.cyl k) hp.1
  rw [impl_TakePin_L_sh, p_PullPin (x_p := b.p) hp.1]
  rw [p_replaced (x_p := b.p) (x_o := b.o) (y_p := pullPin ⟨b.s, b.t, b.p⟩ k) ⟨hp.1, hp.2, hl⟩]
  exact ⟨rfl, rfl⟩
theorem stepTo_small {b : Bench} {c : Cyl} {n : Bool} (h : bSmall b) : bSmall (stepTo b c n) := by
  unfold stepTo
  split
  · rename_i hk
    simp only [stepOk, Bool.and_eq_true] at hk
    exact bSmall_of_ok hk.2.2
  · exact h
end Go.Mw

/- Copies of a bench (spec); pulling a pin. -/
namespace Go.Mw
theorem spec_l37Copy_ok : ∀ ds outs, F_l37Copy ds = some outs → shL spec_l37Copy_L (qRet outs) ds := F_l37Copy_elim fun b hp => by
  rw [spec_l37Copy_L_sh]
  have hl := hp.2.1
  rw [p_l06Copy (x_p := b.p) (by show b.p.length ≤ _; omega)]
  simp
  refine loop_upto b.o.length (fun k => [.int .i64 k, vL I2 v2 b.p, vL IL2 vLL2 (b.o.take k), .int .i64 b.s, .int .i64 b.t, vL I2 v2 b.p, vL IL2 vLL2 b.o, .int .i64 0, .int .i64 0, .int .i64 b.s, .int .i64 b.t]) (by intro i j _ _ h; simp at h; omega) (fun _ => True) (by simp; rfl) trivial ?_
  intro k hk _
  rw [spec_l37Copy_b0_sh]
  simp
  refine ⟨fun h => ?_, fun h => ?_⟩
  · have hx := hp.2.2 b.o[k] (by simp)
    have hw : IntKind.i64.wrap ((k : Int) + 1) = k + 1 := wrap_id (by omega) (by omega)
    simp only [List.getElem?_eq_getElem h, Option.some.injEq, exists_eq_left']
    simp [h, hw]
    omega
  · obtain rfl : k = b.o.length := by omega
    simp [spec_l37Copy_r1_sh]

theorem spec_PullPin_ok : ∀ ds outs, F_PullPin ds = some outs → shL spec_PullPin_L (qRet outs) ds := F_PullPin_elim fun x k hp => by
  rw [spec_PullPin_L_sh, p_l06Copy (x_p := x.p) (by show x.p.length ≤ _; omega), p_CylinderOk (x_p := x.p) hp]
  have hw : IntKind.i64.wrap ((x.p.length : Int) - 1) = x.p.length - 1 := wrap_id (by omega) (by omega)
  have hc : cylOk ⟨x.s, x.t, x.p⟩ = cylOk x := rfl
  simp only [hc]
  by_cases h : cylOk x = true
  · by_cases h2 : 0 ≤ k ∧ k < x.p.length
    · have hw2 : IntKind.i64.wrap (k + 1) = k + 1 := wrap_id (by omega) (by omega)
      have h3 : (k + 1).toNat = k.toNat + 1 := by omega
      simp [h, hw, within, pullPin, h2.1, h2.2, hw2, h3]
      grind
    · simp [h, hw, within, pullPin]
      grind
  · simp only [Bool.not_eq_true] at h
    simp [h, pullPin]

theorem impl_PullPin_ok : ∀ ds outs, F_PullPin ds = some outs → shL impl_PullPin_L (qRet outs) ds := F_PullPin_elim fun x k hp => by
  rw [impl_PullPin_L_sh, p_copyCylinder (x_p := x.p) (by show x.p.length ≤ _; omega), p_CylinderOk (x_p := x.p) hp]
  have hc : cylOk ⟨x.s, x.t, x.p⟩ = cylOk x := rfl
  simp only [hc]
  by_cases h : cylOk x = true
  · by_cases h2 : 0 ≤ k ∧ k < x.p.length
    · have hw2 : IntKind.i64.wrap (k + 1) = k + 1 := wrap_id (by omega) (by omega)
      have h3 : (k + 1).toNat = k.toNat + 1 := by omega
      have h4 : ¬ k < 0 := by omega
      have h5 : ¬ (x.p.length : Int) ≤ k := by omega
      simp [h, pullPin, h2.1, h2.2, h4, h5]
      rw [p_copyPins (by simp; omega)]
      simp [hw2, h3]
      omega
    · simp [h, pullPin]
      grind
  · simp only [Bool.not_eq_true] at h
    simp [h, pullPin]
end Go.Mw

/- What functions compute, in plain terms: the workshop's steps. -/
namespace Go.Mw
@[simp] theorem P1_lstLL1 {x : List Int} {k : V → Prop} : P1 (.lst [.sl [.sc]] false 1) [vL I1 v1 x] k ↔ k (vL IL1 vLL1 [x]) := P1_of (by simp [Prim.run, aksOk, akOk, chunk, V.pack, vL, vLL1, IL1, I1, AK.eqs_refl]) k
@[simp] theorem P1_lstI2 {a b : Int} {k : V → Prop} : P1 (.lst [.sc] false 2) [.int .i64 a, .int .i64 b] k ↔ k (vL I1 v1 [a, b]) := P1_of (by simp [Prim.run, aksOk, akOk, chunk, V.pack, vL, v1]) k
@[simp] theorem P1_appLL1 {l m : List (List Int)} {b : Nat} {k : V → Prop} : P1 (.app [.sl [.sc]] b) [vL IL1 vLL1 l, vL IL1 vLL1 m] k ↔ ((l.length + m.length) * b ≤ 140737488355328 ∧ l.length + m.length ≤ 140737488355328) ∧ k (vL IL1 vLL1 (l ++ m)) := P1_app
@[simp] theorem P1_appLL1_0 {m : List (List Int)} {b : Nat} {k : V → Prop} : P1 (.app [.sl [.sc]] b) [.list [.sl [.sc]] [], vL IL1 vLL1 m] k ↔ (m.length * b ≤ 140737488355328 ∧ m.length ≤ 140737488355328) ∧ k (vL IL1 vLL1 m) := P1_app0

def E_l38Copy (x : Shop) : List V := [.int .i64 x.s, .int .i64 x.t, vL I2 v2 x.p, vL IL2 vLL2 x.o, vL I1 v1 x.c, .int .i64 x.u, .int .i64 x.m, .int .i64 x.f, .int .i64 x.y, .int .i64 x.d]
noncomputable def F_l38Copy : List V → Option (List V) := mkF E_l38Copy (fun x => x.p.length ≤ 1048576 ∧ fitLL x.o ∧ x.c.length ≤ 1048576) (fun x => [.int .i64 x.s, .int .i64 x.t, vL I2 v2 x.p, vL IL2 vLL2 x.o, vL I1 v1 x.c, .int .i64 x.u, .int .i64 x.m, .int .i64 x.f, .int .i64 x.y, .int .i64 x.d])
theorem F_l38Copy_inj : ∀ x y, E_l38Copy x = E_l38Copy y → x = y := by
  rintro ⟨xs, xt, xp, xo, xc, xu, xm, xf, xy, xd⟩ ⟨xs', xt', xp', xo', xc', xu', xm', xf', xy', xd'⟩ h
  simpa [E_l38Copy] using h
theorem F_l38Copy_elim {P : List V → List V → Prop} (h : ∀ (x : Shop), (x.p.length ≤ 1048576 ∧ fitLL x.o ∧ x.c.length ≤ 1048576) → P [.int .i64 x.s, .int .i64 x.t, vL I2 v2 x.p, vL IL2 vLL2 x.o, vL I1 v1 x.c, .int .i64 x.u, .int .i64 x.m, .int .i64 x.f, .int .i64 x.y, .int .i64 x.d] [.int .i64 x.s, .int .i64 x.t, vL I2 v2 x.p, vL IL2 vLL2 x.o, vL I1 v1 x.c, .int .i64 x.u, .int .i64 x.m, .int .i64 x.f, .int .i64 x.y, .int .i64 x.d]) : ∀ ds outs, F_l38Copy ds = some outs → P ds outs := by
  intro ds outs hh
  obtain ⟨x, rfl, hp, rfl⟩ := mkF_inv hh
  exact h x hp
theorem p_l38Copy {x_s : Int} {x_t : Int} {x_p : List T2} {x_o : List (List T2)} {x_c : List Int} {x_u : Int} {x_m : Int} {x_f : Int} {x_y : Int} {x_d : Int} {nr_ : Nat} {kk_ : V → V → V → V → V → V → V → V → V → V → Prop} (hp : (⟨x_s, x_t, x_p, x_o, x_c, x_u, x_m, x_f, x_y, x_d⟩ : Shop).p.length ≤ 1048576 ∧ fitLL (⟨x_s, x_t, x_p, x_o, x_c, x_u, x_m, x_f, x_y, x_d⟩ : Shop).o ∧ (⟨x_s, x_t, x_p, x_o, x_c, x_u, x_m, x_f, x_y, x_d⟩ : Shop).c.length ≤ 1048576) : P10 (.call F_l38Copy 0 nr_) [.int .i64 x_s, .int .i64 x_t, vL I2 v2 x_p, vL IL2 vLL2 x_o, vL I1 v1 x_c, .int .i64 x_u, .int .i64 x_m, .int .i64 x_f, .int .i64 x_y, .int .i64 x_d] kk_ ↔ kk_ (.int .i64 ((⟨x_s, x_t, x_p, x_o, x_c, x_u, x_m, x_f, x_y, x_d⟩ : Shop)).s) (.int .i64 ((⟨x_s, x_t, x_p, x_o, x_c, x_u, x_m, x_f, x_y, x_d⟩ : Shop)).t) (vL I2 v2 ((⟨x_s, x_t, x_p, x_o, x_c, x_u, x_m, x_f, x_y, x_d⟩ : Shop)).p) (vL IL2 vLL2 ((⟨x_s, x_t, x_p, x_o, x_c, x_u, x_m, x_f, x_y, x_d⟩ : Shop)).o) (vL I1 v1 ((⟨x_s, x_t, x_p, x_o, x_c, x_u, x_m, x_f, x_y, x_d⟩ : Shop)).c) (.int .i64 ((⟨x_s, x_t, x_p, x_o, x_c, x_u, x_m, x_f, x_y, x_d⟩ : Shop)).u) (.int .i64 ((⟨x_s, x_t, x_p, x_o, x_c, x_u, x_m, x_f, x_y, x_d⟩ : Shop)).m) (.int .i64 ((⟨x_s, x_t, x_p, x_o, x_c, x_u, x_m, x_f, x_y, x_d⟩ : Shop)).f) (.int .i64 ((⟨x_s, x_t, x_p, x_o, x_c, x_u, x_m, x_f, x_y, x_d⟩ : Shop)).y) (.int .i64 ((⟨x_s, x_t, x_p, x_o, x_c, x_u, x_m, x_f, x_y, x_d⟩ : Shop)).d) :=
  P10_callF (by unfold F_l38Copy; exact mkF_eq F_l38Copy_inj ((⟨x_s, x_t, x_p, x_o, x_c, x_u, x_m, x_f, x_y, x_d⟩ : Shop)) hp)

def E_copyWorkshop (x : Shop) : List V := [.int .i64 x.s, .int .i64 x.t, vL I2 v2 x.p, vL IL2 vLL2 x.o, vL I1 v1 x.c, .int .i64 x.u, .int .i64 x.m, .int .i64 x.f, .int .i64 x.y, .int .i64 x.d]
noncomputable def F_copyWorkshop : List V → Option (List V) := mkF E_copyWorkshop (fun x => x.p.length ≤ 1048576 ∧ fitLL x.o ∧ x.c.length ≤ 1048576) (fun x => [.int .i64 x.s, .int .i64 x.t, vL I2 v2 x.p, vL IL2 vLL2 x.o, vL I1 v1 x.c, .int .i64 x.u, .int .i64 x.m, .int .i64 x.f, .int .i64 x.y, .int .i64 x.d])
theorem F_copyWorkshop_inj : ∀ x y, E_copyWorkshop x = E_copyWorkshop y → x = y := by
  rintro ⟨xs, xt, xp, xo, xc, xu, xm, xf, xy, xd⟩ ⟨xs', xt', xp', xo', xc', xu', xm', xf', xy', xd'⟩ h
  simpa [E_copyWorkshop] using h
theorem F_copyWorkshop_elim {P : List V → List V → Prop} (h : ∀ (x : Shop), (x.p.length ≤ 1048576 ∧ fitLL x.o ∧ x.c.length ≤ 1048576) → P [.int .i64 x.s, .int .i64 x.t, vL I2 v2 x.p, vL IL2 vLL2 x.o, vL I1 v1 x.c, .int .i64 x.u, .int .i64 x.m, .int .i64 x.f, .int .i64 x.y, .int .i64 x.d] [.int .i64 x.s, .int .i64 x.t, vL I2 v2 x.p, vL IL2 vLL2 x.o, vL I1 v1 x.c, .int .i64 x.u, .int .i64 x.m, .int .i64 x.f, .int .i64 x.y, .int .i64 x.d]) : ∀ ds outs, F_copyWorkshop ds = some outs → P ds outs := by
  intro ds outs hh
  obtain ⟨x, rfl, hp, rfl⟩ := mkF_inv hh
  exact h x hp
theorem p_copyWorkshop {x_s : Int} {x_t : Int} {x_p : List T2} {x_o : List (List T2)} {x_c : List Int} {x_u : Int} {x_m : Int} {x_f : Int} {x_y : Int} {x_d : Int} {nr_ : Nat} {kk_ : V → V → V → V → V → V → V → V → V → V → Prop} (hp : (⟨x_s, x_t, x_p, x_o, x_c, x_u, x_m, x_f, x_y, x_d⟩ : Shop).p.length ≤ 1048576 ∧ fitLL (⟨x_s, x_t, x_p, x_o, x_c, x_u, x_m, x_f, x_y, x_d⟩ : Shop).o ∧ (⟨x_s, x_t, x_p, x_o, x_c, x_u, x_m, x_f, x_y, x_d⟩ : Shop).c.length ≤ 1048576) : P10 (.call F_copyWorkshop 0 nr_) [.int .i64 x_s, .int .i64 x_t, vL I2 v2 x_p, vL IL2 vLL2 x_o, vL I1 v1 x_c, .int .i64 x_u, .int .i64 x_m, .int .i64 x_f, .int .i64 x_y, .int .i64 x_d] kk_ ↔ kk_ (.int .i64 ((⟨x_s, x_t, x_p, x_o, x_c, x_u, x_m, x_f, x_y, x_d⟩ : Shop)).s) (.int .i64 ((⟨x_s, x_t, x_p, x_o, x_c, x_u, x_m, x_f, x_y, x_d⟩ : Shop)).t) (vL I2 v2 ((⟨x_s, x_t, x_p, x_o, x_c, x_u, x_m, x_f, x_y, x_d⟩ : Shop)).p) (vL IL2 vLL2 ((⟨x_s, x_t, x_p, x_o, x_c, x_u, x_m, x_f, x_y, x_d⟩ : Shop)).o) (vL I1 v1 ((⟨x_s, x_t, x_p, x_o, x_c, x_u, x_m, x_f, x_y, x_d⟩ : Shop)).c) (.int .i64 ((⟨x_s, x_t, x_p, x_o, x_c, x_u, x_m, x_f, x_y, x_d⟩ : Shop)).u) (.int .i64 ((⟨x_s, x_t, x_p, x_o, x_c, x_u, x_m, x_f, x_y, x_d⟩ : Shop)).m) (.int .i64 ((⟨x_s, x_t, x_p, x_o, x_c, x_u, x_m, x_f, x_y, x_d⟩ : Shop)).f) (.int .i64 ((⟨x_s, x_t, x_p, x_o, x_c, x_u, x_m, x_f, x_y, x_d⟩ : Shop)).y) (.int .i64 ((⟨x_s, x_t, x_p, x_o, x_c, x_u, x_m, x_f, x_y, x_d⟩ : Shop)).d) :=
  P10_callF (by unfold F_copyWorkshop; exact mkF_eq F_copyWorkshop_inj ((⟨x_s, x_t, x_p, x_o, x_c, x_u, x_m, x_f, x_y, x_d⟩ : Shop)) hp)

def windOk (x : T3) (n : Int) : Bool := springOk x && within n 0 100
def windBy (x : T3) (n : Int) : Int := if windOk x n then min n (x.b - x.a) else -1
def windTo (x : T3) (n : Int) : T3 := if windOk x n then ⟨x.a + min n (x.b - x.a), x.b, x.c⟩ else x
def E_Wind : T3 × Int → List V := fun (x, n) => [.int .i64 x.a, .int .i64 x.b, .int .i64 x.c, .int .i64 n]
noncomputable def F_Wind : List V → Option (List V) := mkF E_Wind (fun (_, _) => True) (fun (x, n) => [.int .i64 (windTo x n).a, .int .i64 (windTo x n).b, .int .i64 (windTo x n).c, .int .i64 (windBy x n)])
theorem F_Wind_inj : ∀ x y, E_Wind x = E_Wind y → x = y := by
  rintro ⟨⟨xa, xb, xc⟩, n⟩ ⟨⟨xa', xb', xc'⟩, n'⟩ h
  simpa [E_Wind, and_assoc] using h
theorem F_Wind_elim {P : List V → List V → Prop} (h : ∀ (x : T3) (n : Int), P [.int .i64 x.a, .int .i64 x.b, .int .i64 x.c, .int .i64 n] [.int .i64 (windTo x n).a, .int .i64 (windTo x n).b, .int .i64 (windTo x n).c, .int .i64 (windBy x n)]) : ∀ ds outs, F_Wind ds = some outs → P ds outs := by
  intro ds outs hh
  obtain ⟨⟨x, n⟩, rfl, -, rfl⟩ := mkF_inv hh
  exact h x n
@[simp] theorem p_Wind {x_a : Int} {x_b : Int} {x_c : Int} {n : Int} {nr_ : Nat} {kk_ : V → V → V → V → Prop} : P4 (.call F_Wind 0 nr_) [.int .i64 x_a, .int .i64 x_b, .int .i64 x_c, .int .i64 n] kk_ ↔ kk_ (.int .i64 (windTo (⟨x_a, x_b, x_c⟩ : T3) n).a) (.int .i64 (windTo (⟨x_a, x_b, x_c⟩ : T3) n).b) (.int .i64 (windTo (⟨x_a, x_b, x_c⟩ : T3) n).c) (.int .i64 (windBy (⟨x_a, x_b, x_c⟩ : T3) n)) :=
  P4_callF (by unfold F_Wind; exact mkF_eq F_Wind_inj ((⟨x_a, x_b, x_c⟩ : T3), n) trivial)

def Shop.spring (w : Shop) : T3 := ⟨w.u, w.m, w.f⟩
def crank (w : Shop) (n : Int) : Shop := if shopOk w then ⟨w.s, w.t, w.p, w.o, w.c, (windTo w.spring n).a, (windTo w.spring n).b, (windTo w.spring n).c, w.y, w.d⟩ else w
def E_Crank : Shop × Int → List V := fun (x, n) => [.int .i64 x.s, .int .i64 x.t, vL I2 v2 x.p, vL IL2 vLL2 x.o, vL I1 v1 x.c, .int .i64 x.u, .int .i64 x.m, .int .i64 x.f, .int .i64 x.y, .int .i64 x.d, .int .i64 n]
noncomputable def F_Crank : List V → Option (List V) := mkF E_Crank (fun (x, _) => x.p.length ≤ 1048576 ∧ fitLL x.o ∧ x.c.length ≤ 1048576) (fun (x, n) => [.int .i64 (crank x n).s, .int .i64 (crank x n).t, vL I2 v2 (crank x n).p, vL IL2 vLL2 (crank x n).o, vL I1 v1 (crank x n).c, .int .i64 (crank x n).u, .int .i64 (crank x n).m, .int .i64 (crank x n).f, .int .i64 (crank x n).y, .int .i64 (crank x n).d, .int .i64 (if shopOk x then windBy x.spring n else -1)])
theorem F_Crank_inj : ∀ x y, E_Crank x = E_Crank y → x = y := by
  rintro ⟨⟨xs, xt, xp, xo, xc, xu, xm, xf, xy, xd⟩, n⟩ ⟨⟨xs', xt', xp', xo', xc', xu', xm', xf', xy', xd'⟩, n'⟩ h
  simpa [E_Crank, and_assoc] using h
theorem F_Crank_elim {P : List V → List V → Prop} (h : ∀ (x : Shop) (n : Int), (x.p.length ≤ 1048576 ∧ fitLL x.o ∧ x.c.length ≤ 1048576) → P [.int .i64 x.s, .int .i64 x.t, vL I2 v2 x.p, vL IL2 vLL2 x.o, vL I1 v1 x.c, .int .i64 x.u, .int .i64 x.m, .int .i64 x.f, .int .i64 x.y, .int .i64 x.d, .int .i64 n] [.int .i64 (crank x n).s, .int .i64 (crank x n).t, vL I2 v2 (crank x n).p, vL IL2 vLL2 (crank x n).o, vL I1 v1 (crank x n).c, .int .i64 (crank x n).u, .int .i64 (crank x n).m, .int .i64 (crank x n).f, .int .i64 (crank x n).y, .int .i64 (crank x n).d, .int .i64 (if shopOk x then windBy x.spring n else -1)]) : ∀ ds outs, F_Crank ds = some outs → P ds outs := by
  intro ds outs hh
  obtain ⟨⟨x, n⟩, rfl, hp, rfl⟩ := mkF_inv hh
  exact h x n hp
theorem p_Crank {x_s : Int} {x_t : Int} {x_p : List T2} {x_o : List (List T2)} {x_c : List Int} {x_u : Int} {x_m : Int} {x_f : Int} {x_y : Int} {x_d : Int} {n : Int} {nr_ : Nat} {kk_ : V → V → V → V → V → V → V → V → V → V → V → Prop} (hp : (⟨x_s, x_t, x_p, x_o, x_c, x_u, x_m, x_f, x_y, x_d⟩ : Shop).p.length ≤ 1048576 ∧ fitLL (⟨x_s, x_t, x_p, x_o, x_c, x_u, x_m, x_f, x_y, x_d⟩ : Shop).o ∧ (⟨x_s, x_t, x_p, x_o, x_c, x_u, x_m, x_f, x_y, x_d⟩ : Shop).c.length ≤ 1048576) : P11 (.call F_Crank 0 nr_) [.int .i64 x_s, .int .i64 x_t, vL I2 v2 x_p, vL IL2 vLL2 x_o, vL I1 v1 x_c, .int .i64 x_u, .int .i64 x_m, .int .i64 x_f, .int .i64 x_y, .int .i64 x_d, .int .i64 n] kk_ ↔ kk_ (.int .i64 (crank (⟨x_s, x_t, x_p, x_o, x_c, x_u, x_m, x_f, x_y, x_d⟩ : Shop) n).s) (.int .i64 (crank (⟨x_s, x_t, x_p, x_o, x_c, x_u, x_m, x_f, x_y, x_d⟩ : Shop) n).t) (vL I2 v2 (crank (⟨x_s, x_t, x_p, x_o, x_c, x_u, x_m, x_f, x_y, x_d⟩ : Shop) n).p) (vL IL2 vLL2 (crank (⟨x_s, x_t, x_p, x_o, x_c, x_u, x_m, x_f, x_y, x_d⟩ : Shop) n).o) (vL I1 v1 (crank (⟨x_s, x_t, x_p, x_o, x_c, x_u, x_m, x_f, x_y, x_d⟩ : Shop) n).c) (.int .i64 (crank (⟨x_s, x_t, x_p, x_o, x_c, x_u, x_m, x_f, x_y, x_d⟩ : Shop) n).u) (.int .i64 (crank (⟨x_s, x_t, x_p, x_o, x_c, x_u, x_m, x_f, x_y, x_d⟩ : Shop) n).m) (.int .i64 (crank (⟨x_s, x_t, x_p, x_o, x_c, x_u, x_m, x_f, x_y, x_d⟩ : Shop) n).f) (.int .i64 (crank (⟨x_s, x_t, x_p, x_o, x_c, x_u, x_m, x_f, x_y, x_d⟩ : Shop) n).y) (.int .i64 (crank (⟨x_s, x_t, x_p, x_o, x_c, x_u, x_m, x_f, x_y, x_d⟩ : Shop) n).d) (.int .i64 (if shopOk (⟨x_s, x_t, x_p, x_o, x_c, x_u, x_m, x_f, x_y, x_d⟩ : Shop) then windBy (⟨x_s, x_t, x_p, x_o, x_c, x_u, x_m, x_f, x_y, x_d⟩ : Shop).spring n else -1)) :=
  P11_callF (by unfold F_Crank; exact mkF_eq F_Crank_inj ((⟨x_s, x_t, x_p, x_o, x_c, x_u, x_m, x_f, x_y, x_d⟩ : Shop), n) hp)


def withB (w : Shop) (b : Bench) (k : Int) : Shop := ⟨b.s, b.t, b.p, b.o, w.c, w.u, w.m, w.f, w.y - k, w.d⟩
def benchFits (w : Shop) (b : Bench) (k : Int) (ok : Bool) : Bool := ok && (shopOk w && shopOk (withB w b k))
def withBench (w : Shop) (b : Bench) (k : Int) (ok : Bool) : Shop := if benchFits w b k ok then withB w b k else w
def E_withBench : Shop × Bench × Int × Bool → List V := fun (x, y, k, n) => [.int .i64 x.s, .int .i64 x.t, vL I2 v2 x.p, vL IL2 vLL2 x.o, vL I1 v1 x.c, .int .i64 x.u, .int .i64 x.m, .int .i64 x.f, .int .i64 x.y, .int .i64 x.d, .int .i64 y.s, .int .i64 y.t, vL I2 v2 y.p, vL IL2 vLL2 y.o, .int .i64 k, .bool n]
noncomputable def F_withBench : List V → Option (List V) := mkF E_withBench (fun (x, y, k, _) => x.p.length ≤ 1048576 ∧ fitLL x.o ∧ x.c.length ≤ 1048576 ∧ y.p.length ≤ 1048576 ∧ fitLL y.o ∧ -1000000000 ≤ k ∧ k ≤ 1000000000) (fun (x, y, k, n) => [.int .i64 (withBench x y k n).s, .int .i64 (withBench x y k n).t, vL I2 v2 (withBench x y k n).p, vL IL2 vLL2 (withBench x y k n).o, vL I1 v1 (withBench x y k n).c, .int .i64 (withBench x y k n).u, .int .i64 (withBench x y k n).m, .int .i64 (withBench x y k n).f, .int .i64 (withBench x y k n).y, .int .i64 (withBench x y k n).d, .bool (benchFits x y k n)])
theorem F_withBench_inj : ∀ x y, E_withBench x = E_withBench y → x = y := by
  rintro ⟨⟨xs, xt, xp, xo, xc, xu, xm, xf, xy, xd⟩, ⟨ys, yt, yp, yo⟩, k, n⟩ ⟨⟨xs', xt', xp', xo', xc', xu', xm', xf', xy', xd'⟩, ⟨ys', yt', yp', yo'⟩, k', n'⟩ h
  simpa [E_withBench, and_assoc] using h
theorem F_withBench_elim {P : List V → List V → Prop} (h : ∀ (x : Shop) (y : Bench) (k : Int) (n : Bool), (x.p.length ≤ 1048576 ∧ fitLL x.o ∧ x.c.length ≤ 1048576 ∧ y.p.length ≤ 1048576 ∧ fitLL y.o ∧ -1000000000 ≤ k ∧ k ≤ 1000000000) → P [.int .i64 x.s, .int .i64 x.t, vL I2 v2 x.p, vL IL2 vLL2 x.o, vL I1 v1 x.c, .int .i64 x.u, .int .i64 x.m, .int .i64 x.f, .int .i64 x.y, .int .i64 x.d, .int .i64 y.s, .int .i64 y.t, vL I2 v2 y.p, vL IL2 vLL2 y.o, .int .i64 k, .bool n] [.int .i64 (withBench x y k n).s, .int .i64 (withBench x y k n).t, vL I2 v2 (withBench x y k n).p, vL IL2 vLL2 (withBench x y k n).o, vL I1 v1 (withBench x y k n).c, .int .i64 (withBench x y k n).u, .int .i64 (withBench x y k n).m, .int .i64 (withBench x y k n).f, .int .i64 (withBench x y k n).y, .int .i64 (withBench x y k n).d, .bool (benchFits x y k n)]) : ∀ ds outs, F_withBench ds = some outs → P ds outs := by
  intro ds outs hh
  obtain ⟨⟨x, y, k, n⟩, rfl, hp, rfl⟩ := mkF_inv hh
  exact h x y k n hp
theorem p_withBench {x_s : Int} {x_t : Int} {x_p : List T2} {x_o : List (List T2)} {x_c : List Int} {x_u : Int} {x_m : Int} {x_f : Int} {x_y : Int} {x_d : Int} {y_s : Int} {y_t : Int} {y_p : List T2} {y_o : List (List T2)} {k : Int} {n : Bool} {nr_ : Nat} {kk_ : V → V → V → V → V → V → V → V → V → V → V → Prop} (hp : (⟨x_s, x_t, x_p, x_o, x_c, x_u, x_m, x_f, x_y, x_d⟩ : Shop).p.length ≤ 1048576 ∧ fitLL (⟨x_s, x_t, x_p, x_o, x_c, x_u, x_m, x_f, x_y, x_d⟩ : Shop).o ∧ (⟨x_s, x_t, x_p, x_o, x_c, x_u, x_m, x_f, x_y, x_d⟩ : Shop).c.length ≤ 1048576 ∧ (⟨y_s, y_t, y_p, y_o⟩ : Bench).p.length ≤ 1048576 ∧ fitLL (⟨y_s, y_t, y_p, y_o⟩ : Bench).o ∧ -1000000000 ≤ k ∧ k ≤ 1000000000) : P11 (.call F_withBench 0 nr_) [.int .i64 x_s, .int .i64 x_t, vL I2 v2 x_p, vL IL2 vLL2 x_o, vL I1 v1 x_c, .int .i64 x_u, .int .i64 x_m, .int .i64 x_f, .int .i64 x_y, .int .i64 x_d, .int .i64 y_s, .int .i64 y_t, vL I2 v2 y_p, vL IL2 vLL2 y_o, .int .i64 k, .bool n] kk_ ↔ kk_ (.int .i64 (withBench (⟨x_s, x_t, x_p, x_o, x_c, x_u, x_m, x_f, x_y, x_d⟩ : Shop) (⟨y_s, y_t, y_p, y_o⟩ : Bench) k n).s) (.int .i64 (withBench (⟨x_s, x_t, x_p, x_o, x_c, x_u, x_m, x_f, x_y, x_d⟩ : Shop) (⟨y_s, y_t, y_p, y_o⟩ : Bench) k n).t) (vL I2 v2 (withBench (⟨x_s, x_t, x_p, x_o, x_c, x_u, x_m, x_f, x_y, x_d⟩ : Shop) (⟨y_s, y_t, y_p, y_o⟩ : Bench) k n).p) (vL IL2 vLL2 (withBench (⟨x_s, x_t, x_p, x_o, x_c, x_u, x_m, x_f, x_y, x_d⟩ : Shop) (⟨y_s, y_t, y_p, y_o⟩ : Bench) k n).o) (vL I1 v1 (withBench (⟨x_s, x_t, x_p, x_o, x_c, x_u, x_m, x_f, x_y, x_d⟩ : Shop) (⟨y_s, y_t, y_p, y_o⟩ : Bench) k n).c) (.int .i64 (withBench (⟨x_s, x_t, x_p, x_o, x_c, x_u, x_m, x_f, x_y, x_d⟩ : Shop) (⟨y_s, y_t, y_p, y_o⟩ : Bench) k n).u) (.int .i64 (withBench (⟨x_s, x_t, x_p, x_o, x_c, x_u, x_m, x_f, x_y, x_d⟩ : Shop) (⟨y_s, y_t, y_p, y_o⟩ : Bench) k n).m) (.int .i64 (withBench (⟨x_s, x_t, x_p, x_o, x_c, x_u, x_m, x_f, x_y, x_d⟩ : Shop) (⟨y_s, y_t, y_p, y_o⟩ : Bench) k n).f) (.int .i64 (withBench (⟨x_s, x_t, x_p, x_o, x_c, x_u, x_m, x_f, x_y, x_d⟩ : Shop) (⟨y_s, y_t, y_p, y_o⟩ : Bench) k n).y) (.int .i64 (withBench (⟨x_s, x_t, x_p, x_o, x_c, x_u, x_m, x_f, x_y, x_d⟩ : Shop) (⟨y_s, y_t, y_p, y_o⟩ : Bench) k n).d) (.bool (benchFits (⟨x_s, x_t, x_p, x_o, x_c, x_u, x_m, x_f, x_y, x_d⟩ : Shop) (⟨y_s, y_t, y_p, y_o⟩ : Bench) k n)) :=
  P11_callF (by unfold F_withBench; exact mkF_eq F_withBench_inj ((⟨x_s, x_t, x_p, x_o, x_c, x_u, x_m, x_f, x_y, x_d⟩ : Shop), (⟨y_s, y_t, y_p, y_o⟩ : Bench), k, n) hp)

def canTake (b : Bench) (k : Int) : Bool := pullOk b.cyl k && stepOk b (pulled b k)
def E_RemovePin : Shop × Int → List V := fun (x, k) => [.int .i64 x.s, .int .i64 x.t, vL I2 v2 x.p, vL IL2 vLL2 x.o, vL I1 v1 x.c, .int .i64 x.u, .int .i64 x.m, .int .i64 x.f, .int .i64 x.y, .int .i64 x.d, .int .i64 k]
noncomputable def F_RemovePin : List V → Option (List V) := mkF E_RemovePin (fun (x, _) => x.p.length ≤ 1048576 ∧ fitLL x.o ∧ x.c.length ≤ 1048576) (fun (x, k) => [.int .i64 (withBench x (takePin x.bench k) 0 (canTake x.bench k)).s, .int .i64 (withBench x (takePin x.bench k) 0 (canTake x.bench k)).t, vL I2 v2 (withBench x (takePin x.bench k) 0 (canTake x.bench k)).p, vL IL2 vLL2 (withBench x (takePin x.bench k) 0 (canTake x.bench k)).o, vL I1 v1 (withBench x (takePin x.bench k) 0 (canTake x.bench k)).c, .int .i64 (withBench x (takePin x.bench k) 0 (canTake x.bench k)).u, .int .i64 (withBench x (takePin x.bench k) 0 (canTake x.bench k)).m, .int .i64 (withBench x (takePin x.bench k) 0 (canTake x.bench k)).f, .int .i64 (withBench x (takePin x.bench k) 0 (canTake x.bench k)).y, .int .i64 (withBench x (takePin x.bench k) 0 (canTake x.bench k)).d, .bool (benchFits x (takePin x.bench k) 0 (canTake x.bench k))])
theorem F_RemovePin_inj : ∀ x y, E_RemovePin x = E_RemovePin y → x = y := by
  rintro ⟨⟨xs, xt, xp, xo, xc, xu, xm, xf, xy, xd⟩, k⟩ ⟨⟨xs', xt', xp', xo', xc', xu', xm', xf', xy', xd'⟩, k'⟩ h
  simpa [E_RemovePin, and_assoc] using h
theorem F_RemovePin_elim {P : List V → List V → Prop} (h : ∀ (x : Shop) (k : Int), (x.p.length ≤ 1048576 ∧ fitLL x.o ∧ x.c.length ≤ 1048576) → P [.int .i64 x.s, .int .i64 x.t, vL I2 v2 x.p, vL IL2 vLL2 x.o, vL I1 v1 x.c, .int .i64 x.u, .int .i64 x.m, .int .i64 x.f, .int .i64 x.y, .int .i64 x.d, .int .i64 k] [.int .i64 (withBench x (takePin x.bench k) 0 (canTake x.bench k)).s, .int .i64 (withBench x (takePin x.bench k) 0 (canTake x.bench k)).t, vL I2 v2 (withBench x (takePin x.bench k) 0 (canTake x.bench k)).p, vL IL2 vLL2 (withBench x (takePin x.bench k) 0 (canTake x.bench k)).o, vL I1 v1 (withBench x (takePin x.bench k) 0 (canTake x.bench k)).c, .int .i64 (withBench x (takePin x.bench k) 0 (canTake x.bench k)).u, .int .i64 (withBench x (takePin x.bench k) 0 (canTake x.bench k)).m, .int .i64 (withBench x (takePin x.bench k) 0 (canTake x.bench k)).f, .int .i64 (withBench x (takePin x.bench k) 0 (canTake x.bench k)).y, .int .i64 (withBench x (takePin x.bench k) 0 (canTake x.bench k)).d, .bool (benchFits x (takePin x.bench k) 0 (canTake x.bench k))]) : ∀ ds outs, F_RemovePin ds = some outs → P ds outs := by
  intro ds outs hh
  obtain ⟨⟨x, k⟩, rfl, hp, rfl⟩ := mkF_inv hh
  exact h x k hp
theorem p_RemovePin {x_s : Int} {x_t : Int} {x_p : List T2} {x_o : List (List T2)} {x_c : List Int} {x_u : Int} {x_m : Int} {x_f : Int} {x_y : Int} {x_d : Int} {k : Int} {nr_ : Nat} {kk_ : V → V → V → V → V → V → V → V → V → V → V → Prop} (hp : (⟨x_s, x_t, x_p, x_o, x_c, x_u, x_m, x_f, x_y, x_d⟩ : Shop).p.length ≤ 1048576 ∧ fitLL (⟨x_s, x_t, x_p, x_o, x_c, x_u, x_m, x_f, x_y, x_d⟩ : Shop).o ∧ (⟨x_s, x_t, x_p, x_o, x_c, x_u, x_m, x_f, x_y, x_d⟩ : Shop).c.length ≤ 1048576) : P11 (.call F_RemovePin 0 nr_) [.int .i64 x_s, .int .i64 x_t, vL I2 v2 x_p, vL IL2 vLL2 x_o, vL I1 v1 x_c, .int .i64 x_u, .int .i64 x_m, .int .i64 x_f, .int .i64 x_y, .int .i64 x_d, .int .i64 k] kk_ ↔ kk_ (.int .i64 (withBench (⟨x_s, x_t, x_p, x_o, x_c, x_u, x_m, x_f, x_y, x_d⟩ : Shop) (takePin (⟨x_s, x_t, x_p, x_o, x_c, x_u, x_m, x_f, x_y, x_d⟩ : Shop).bench k) 0 (canTake (⟨x_s, x_t, x_p, x_o, x_c, x_u, x_m, x_f, x_y, x_d⟩ : Shop).bench k)).s) (.int .i64 (withBench (⟨x_s, x_t, x_p, x_o, x_c, x_u, x_m, x_f, x_y, x_d⟩ : Shop) (takePin (⟨x_s, x_t, x_p, x_o, x_c, x_u, x_m, x_f, x_y, x_d⟩ : Shop).bench k) 0 (canTake (⟨x_s, x_t, x_p, x_o, x_c, x_u, x_m, x_f, x_y, x_d⟩ : Shop).bench k)).t) (vL I2 v2 (withBench (⟨x_s, x_t, x_p, x_o, x_c, x_u, x_m, x_f, x_y, x_d⟩ : Shop) (takePin (⟨x_s, x_t, x_p, x_o, x_c, x_u, x_m, x_f, x_y, x_d⟩ : Shop).bench k) 0 (canTake (⟨x_s, x_t, x_p, x_o, x_c, x_u, x_m, x_f, x_y, x_d⟩ : Shop).bench k)).p) (vL IL2 vLL2 (withBench (⟨x_s, x_t, x_p, x_o, x_c, x_u, x_m, x_f, x_y, x_d⟩ : Shop) (takePin (⟨x_s, x_t, x_p, x_o, x_c, x_u, x_m, x_f, x_y, x_d⟩ : Shop).bench k) 0 (canTake (⟨x_s, x_t, x_p, x_o, x_c, x_u, x_m, x_f, x_y, x_d⟩ : Shop).bench k)).o) (vL I1 v1 (withBench (⟨x_s, x_t, x_p, x_o, x_c, x_u, x_m, x_f, x_y, x_d⟩ : Shop) (takePin (⟨x_s, x_t, x_p, x_o, x_c, x_u, x_m, x_f, x_y, x_d⟩ : Shop).bench k) 0 (canTake (⟨x_s, x_t, x_p, x_o, x_c, x_u, x_m, x_f, x_y, x_d⟩ : Shop).bench k)).c) (.int .i64 (withBench (⟨x_s, x_t, x_p, x_o, x_c, x_u, x_m, x_f, x_y, x_d⟩ : Shop) (takePin (⟨x_s, x_t, x_p, x_o, x_c, x_u, x_m, x_f, x_y, x_d⟩ : Shop).bench k) 0 (canTake (⟨x_s, x_t, x_p, x_o, x_c, x_u, x_m, x_f, x_y, x_d⟩ : Shop).bench k)).u) (.int .i64 (withBench (⟨x_s, x_t, x_p, x_o, x_c, x_u, x_m, x_f, x_y, x_d⟩ : Shop) (takePin (⟨x_s, x_t, x_p, x_o, x_c, x_u, x_m, x_f, x_y, x_d⟩ : Shop).bench k) 0 (canTake (⟨x_s, x_t, x_p, x_o, x_c, x_u, x_m, x_f, x_y, x_d⟩ : Shop).bench k)).m) (.int .i64 (withBench (⟨x_s, x_t, x_p, x_o, x_c, x_u, x_m, x_f, x_y, x_d⟩ : Shop) (takePin (⟨x_s, x_t, x_p, x_o, x_c, x_u, x_m, x_f, x_y, x_d⟩ : Shop).bench k) 0 (canTake (⟨x_s, x_t, x_p, x_o, x_c, x_u, x_m, x_f, x_y, x_d⟩ : Shop).bench k)).f) (.int .i64 (withBench (⟨x_s, x_t, x_p, x_o, x_c, x_u, x_m, x_f, x_y, x_d⟩ : Shop) (takePin (⟨x_s, x_t, x_p, x_o, x_c, x_u, x_m, x_f, x_y, x_d⟩ : Shop).bench k) 0 (canTake (⟨x_s, x_t, x_p, x_o, x_c, x_u, x_m, x_f, x_y, x_d⟩ : Shop).bench k)).y) (.int .i64 (withBench (⟨x_s, x_t, x_p, x_o, x_c, x_u, x_m, x_f, x_y, x_d⟩ : Shop) (takePin (⟨x_s, x_t, x_p, x_o, x_c, x_u, x_m, x_f, x_y, x_d⟩ : Shop).bench k) 0 (canTake (⟨x_s, x_t, x_p, x_o, x_c, x_u, x_m, x_f, x_y, x_d⟩ : Shop).bench k)).d) (.bool (benchFits (⟨x_s, x_t, x_p, x_o, x_c, x_u, x_m, x_f, x_y, x_d⟩ : Shop) (takePin (⟨x_s, x_t, x_p, x_o, x_c, x_u, x_m, x_f, x_y, x_d⟩ : Shop).bench k) 0 (canTake (⟨x_s, x_t, x_p, x_o, x_c, x_u, x_m, x_f, x_y, x_d⟩ : Shop).bench k))) :=
  P11_callF (by unfold F_RemovePin; exact mkF_eq F_RemovePin_inj ((⟨x_s, x_t, x_p, x_o, x_c, x_u, x_m, x_f, x_y, x_d⟩ : Shop), k) hp)


def gap (a b n : Int) : Int := if within n 1 1000 && (within a 0 (n - 1) && within b 0 (n - 1)) then min (max (a - b) (b - a)) (n - max (a - b) (b - a)) else -1
def E_GapAround : Int × Int × Int → List V := fun (a, b, n) => [.int .i64 a, .int .i64 b, .int .i64 n]
noncomputable def F_GapAround : List V → Option (List V) := mkF E_GapAround (fun (_, _, _) => True) (fun (a, b, n) => [.int .i64 (gap a b n)])
theorem F_GapAround_inj : ∀ x y, E_GapAround x = E_GapAround y → x = y := by
  rintro ⟨a, b, n⟩ ⟨a', b', n'⟩ h
  simpa [E_GapAround] using h
theorem F_GapAround_elim {P : List V → List V → Prop} (h : ∀ (a : Int) (b : Int) (n : Int), P [.int .i64 a, .int .i64 b, .int .i64 n] [.int .i64 (gap a b n)]) : ∀ ds outs, F_GapAround ds = some outs → P ds outs := by
  intro ds outs hh
  obtain ⟨⟨a, b, n⟩, rfl, -, rfl⟩ := mkF_inv hh
  exact h a b n
@[simp] theorem p_GapAround {a : Int} {b : Int} {n : Int} {nr_ : Nat} {kk_ : V → Prop} : P1 (.call F_GapAround 0 nr_) [.int .i64 a, .int .i64 b, .int .i64 n] kk_ ↔ kk_ (.int .i64 (gap a b n)) :=
  P1_callF (by unfold F_GapAround; exact mkF_eq F_GapAround_inj (a, b, n) trivial)

def closeAt (c : Cyl) (r : Int) (i j : Nat) : Bool := match c.p[i]?, c.p[j]? with | some x, some y => decide (x.a = y.a ∧ gap x.b y.b c.s < r) | _, _ => false
/-- The pairs of the i-th pin with those from the (i+1)-th on, below the k-th. -/
def closeRow (c : Cyl) (r : Int) (i : Nat) : Nat → List (List Int)
  | 0 => []
  | k + 1 => closeRow c r i k ++ (if i < k ∧ closeAt c r i k then [[(i : Int), (k : Int)]] else [])
def closeTo (c : Cyl) (r : Int) : Nat → List (List Int)
  | 0 => []
  | k + 1 => closeTo c r k ++ closeRow c r k c.p.length
def tooClose (c : Cyl) (r : Int) : List (List Int) := if cylOk c && within r 1 96 then closeTo c r c.p.length else []
def E_TooClose : Cyl × Int → List V := fun (x, r) => [.int .i64 x.s, .int .i64 x.t, vL I2 v2 x.p, .int .i64 r]
noncomputable def F_TooClose : List V → Option (List V) := mkF E_TooClose (fun (x, _) => x.p.length ≤ 1048576) (fun (x, r) => [vL IL1 vLL1 (tooClose x r)])
theorem F_TooClose_inj : ∀ x y, E_TooClose x = E_TooClose y → x = y := by
  rintro ⟨⟨xs, xt, xp⟩, r⟩ ⟨⟨xs', xt', xp'⟩, r'⟩ h
  simpa [E_TooClose, and_assoc] using h
theorem F_TooClose_elim {P : List V → List V → Prop} (h : ∀ (x : Cyl) (r : Int), (x.p.length ≤ 1048576) → P [.int .i64 x.s, .int .i64 x.t, vL I2 v2 x.p, .int .i64 r] [vL IL1 vLL1 (tooClose x r)]) : ∀ ds outs, F_TooClose ds = some outs → P ds outs := by
  intro ds outs hh
  obtain ⟨⟨x, r⟩, rfl, hp, rfl⟩ := mkF_inv hh
  exact h x r hp
theorem p_TooClose {x_s : Int} {x_t : Int} {x_p : List T2} {r : Int} {nr_ : Nat} {kk_ : V → Prop} (hp : (⟨x_s, x_t, x_p⟩ : Cyl).p.length ≤ 1048576) : P1 (.call F_TooClose 0 nr_) [.int .i64 x_s, .int .i64 x_t, vL I2 v2 x_p, .int .i64 r] kk_ ↔ kk_ (vL IL1 vLL1 (tooClose (⟨x_s, x_t, x_p⟩ : Cyl) r)) :=
  P1_callF (by unfold F_TooClose; exact mkF_eq F_TooClose_inj ((⟨x_s, x_t, x_p⟩ : Cyl), r) hp)

def playable (c : Cyl) (r : Int) : Bool := cylOk c && (within r 1 96 && decide (tooClose c r = []))
def E_IsPlayable : Cyl × Int → List V := fun (x, r) => [.int .i64 x.s, .int .i64 x.t, vL I2 v2 x.p, .int .i64 r]
noncomputable def F_IsPlayable : List V → Option (List V) := mkF E_IsPlayable (fun (x, _) => x.p.length ≤ 1048576) (fun (x, r) => [.bool (playable x r)])
theorem F_IsPlayable_inj : ∀ x y, E_IsPlayable x = E_IsPlayable y → x = y := by
  rintro ⟨⟨xs, xt, xp⟩, r⟩ ⟨⟨xs', xt', xp'⟩, r'⟩ h
  simpa [E_IsPlayable, and_assoc] using h
theorem F_IsPlayable_elim {P : List V → List V → Prop} (h : ∀ (x : Cyl) (r : Int), (x.p.length ≤ 1048576) → P [.int .i64 x.s, .int .i64 x.t, vL I2 v2 x.p, .int .i64 r] [.bool (playable x r)]) : ∀ ds outs, F_IsPlayable ds = some outs → P ds outs := by
  intro ds outs hh
  obtain ⟨⟨x, r⟩, rfl, hp, rfl⟩ := mkF_inv hh
  exact h x r hp
theorem p_IsPlayable {x_s : Int} {x_t : Int} {x_p : List T2} {r : Int} {nr_ : Nat} {kk_ : V → Prop} (hp : (⟨x_s, x_t, x_p⟩ : Cyl).p.length ≤ 1048576) : P1 (.call F_IsPlayable 0 nr_) [.int .i64 x_s, .int .i64 x_t, vL I2 v2 x_p, .int .i64 r] kk_ ↔ kk_ (.bool (playable (⟨x_s, x_t, x_p⟩ : Cyl) r)) :=
  P1_callF (by unfold F_IsPlayable; exact mkF_eq F_IsPlayable_inj ((⟨x_s, x_t, x_p⟩ : Cyl), r) hp)

def played (w : Shop) : Shop := ⟨w.s, w.t, w.p, w.o, w.c, w.u - 1, w.m, w.f, w.y, w.d + w.p.length⟩
def canPlay (w : Shop) : Bool := shopOk w && (!decide (w.u = 0) && (playable ⟨w.s, w.t, w.p⟩ 2 && shopOk (played w)))
def playOnce (w : Shop) : Shop := if canPlay w then played w else w
def E_PlayOnce (x : Shop) : List V := [.int .i64 x.s, .int .i64 x.t, vL I2 v2 x.p, vL IL2 vLL2 x.o, vL I1 v1 x.c, .int .i64 x.u, .int .i64 x.m, .int .i64 x.f, .int .i64 x.y, .int .i64 x.d]
noncomputable def F_PlayOnce : List V → Option (List V) := mkF E_PlayOnce (fun x => x.p.length ≤ 1048576 ∧ fitLL x.o ∧ x.c.length ≤ 1048576) (fun x => [.int .i64 (playOnce x).s, .int .i64 (playOnce x).t, vL I2 v2 (playOnce x).p, vL IL2 vLL2 (playOnce x).o, vL I1 v1 (playOnce x).c, .int .i64 (playOnce x).u, .int .i64 (playOnce x).m, .int .i64 (playOnce x).f, .int .i64 (playOnce x).y, .int .i64 (playOnce x).d, .bool (canPlay x)])
theorem F_PlayOnce_inj : ∀ x y, E_PlayOnce x = E_PlayOnce y → x = y := by
  rintro ⟨xs, xt, xp, xo, xc, xu, xm, xf, xy, xd⟩ ⟨xs', xt', xp', xo', xc', xu', xm', xf', xy', xd'⟩ h
  simpa [E_PlayOnce] using h
theorem F_PlayOnce_elim {P : List V → List V → Prop} (h : ∀ (x : Shop), (x.p.length ≤ 1048576 ∧ fitLL x.o ∧ x.c.length ≤ 1048576) → P [.int .i64 x.s, .int .i64 x.t, vL I2 v2 x.p, vL IL2 vLL2 x.o, vL I1 v1 x.c, .int .i64 x.u, .int .i64 x.m, .int .i64 x.f, .int .i64 x.y, .int .i64 x.d] [.int .i64 (playOnce x).s, .int .i64 (playOnce x).t, vL I2 v2 (playOnce x).p, vL IL2 vLL2 (playOnce x).o, vL I1 v1 (playOnce x).c, .int .i64 (playOnce x).u, .int .i64 (playOnce x).m, .int .i64 (playOnce x).f, .int .i64 (playOnce x).y, .int .i64 (playOnce x).d, .bool (canPlay x)]) : ∀ ds outs, F_PlayOnce ds = some outs → P ds outs := by
  intro ds outs hh
  obtain ⟨x, rfl, hp, rfl⟩ := mkF_inv hh
  exact h x hp
theorem p_PlayOnce {x_s : Int} {x_t : Int} {x_p : List T2} {x_o : List (List T2)} {x_c : List Int} {x_u : Int} {x_m : Int} {x_f : Int} {x_y : Int} {x_d : Int} {nr_ : Nat} {kk_ : V → V → V → V → V → V → V → V → V → V → V → Prop} (hp : (⟨x_s, x_t, x_p, x_o, x_c, x_u, x_m, x_f, x_y, x_d⟩ : Shop).p.length ≤ 1048576 ∧ fitLL (⟨x_s, x_t, x_p, x_o, x_c, x_u, x_m, x_f, x_y, x_d⟩ : Shop).o ∧ (⟨x_s, x_t, x_p, x_o, x_c, x_u, x_m, x_f, x_y, x_d⟩ : Shop).c.length ≤ 1048576) : P11 (.call F_PlayOnce 0 nr_) [.int .i64 x_s, .int .i64 x_t, vL I2 v2 x_p, vL IL2 vLL2 x_o, vL I1 v1 x_c, .int .i64 x_u, .int .i64 x_m, .int .i64 x_f, .int .i64 x_y, .int .i64 x_d] kk_ ↔ kk_ (.int .i64 (playOnce (⟨x_s, x_t, x_p, x_o, x_c, x_u, x_m, x_f, x_y, x_d⟩ : Shop)).s) (.int .i64 (playOnce (⟨x_s, x_t, x_p, x_o, x_c, x_u, x_m, x_f, x_y, x_d⟩ : Shop)).t) (vL I2 v2 (playOnce (⟨x_s, x_t, x_p, x_o, x_c, x_u, x_m, x_f, x_y, x_d⟩ : Shop)).p) (vL IL2 vLL2 (playOnce (⟨x_s, x_t, x_p, x_o, x_c, x_u, x_m, x_f, x_y, x_d⟩ : Shop)).o) (vL I1 v1 (playOnce (⟨x_s, x_t, x_p, x_o, x_c, x_u, x_m, x_f, x_y, x_d⟩ : Shop)).c) (.int .i64 (playOnce (⟨x_s, x_t, x_p, x_o, x_c, x_u, x_m, x_f, x_y, x_d⟩ : Shop)).u) (.int .i64 (playOnce (⟨x_s, x_t, x_p, x_o, x_c, x_u, x_m, x_f, x_y, x_d⟩ : Shop)).m) (.int .i64 (playOnce (⟨x_s, x_t, x_p, x_o, x_c, x_u, x_m, x_f, x_y, x_d⟩ : Shop)).f) (.int .i64 (playOnce (⟨x_s, x_t, x_p, x_o, x_c, x_u, x_m, x_f, x_y, x_d⟩ : Shop)).y) (.int .i64 (playOnce (⟨x_s, x_t, x_p, x_o, x_c, x_u, x_m, x_f, x_y, x_d⟩ : Shop)).d) (.bool (canPlay (⟨x_s, x_t, x_p, x_o, x_c, x_u, x_m, x_f, x_y, x_d⟩ : Shop))) :=
  P11_callF (by unfold F_PlayOnce; exact mkF_eq F_PlayOnce_inj ((⟨x_s, x_t, x_p, x_o, x_c, x_u, x_m, x_f, x_y, x_d⟩ : Shop)) hp)


end Go.Mw

/- Functions of the program, as small pure programs (printed by a program of ours). -/
namespace Go.Mw
noncomputable section
def spec_l38Copy_L : L := .seq (.rg []) (.seq (.rg [⟨[], .call F_l37Copy 0 4, [.v 0, .v 1, .v 2, .v 3], 4⟩, ⟨[], .lst [.sc] false 0, [], 1⟩, ⟨[], .app [.sc] 8, [.v 14, .v 4], 1⟩]) (.ret [.v 10, .v 11, .v 12, .v 13, .v 15, .v 5, .v 6, .v 7, .v 8, .v 9]))
theorem spec_l38Copy_L_sh (Q : QT) (x0 x1 x2 x3 x4 x5 x6 x7 x8 x9 : V) : shL spec_l38Copy_L Q [x0, x1, x2, x3, x4, x5, x6, x7, x8, x9] = (
  P4 (.call F_l37Copy 0 4) [x0, x1, x2, x3] fun v0 v1 v2 v3 =>
  P1 (.lst [.sc] false 0) [] fun v4 =>
  P1 (.app [.sc] 8) [v4, x4] fun v5 =>
  Q .ret [v0, v1, v2, v3, v5, x5, x6, x7, x8, x9]) := by kernel_rfl
def spec_l38Copy_S : Sig := ⟨[.val true [.sc, .sc, .sl [.sc, .sc], .sl [.sl [.sc, .sc]], .sl [.sc], .sc, .sc, .sc, .sc, .sc]], [(true, [.sc, .sc, .sl [.sc, .sc], .sl [.sl [.sc, .sc]], .sl [.sc], .sc, .sc, .sc, .sc, .sc])], F_l38Copy⟩
def spec_l38Copy_hs : List NF := []

def spec_Wind_L : L := .seq (.rg []) (.seq (.seq (.rg [⟨[], .call F_SpringOk 0 1, [.v 0, .v 1, .v 2], 1⟩, ⟨[], .un .not, [.v 4], 1⟩, ⟨[(.v 5, false)], .call F_l01In 0 1, [.v 3, .k (.int .i64 0), .k (.int .i64 100)], 1⟩, ⟨[(.v 5, false)], .un .not, [.v 6], 1⟩, ⟨[], .pick, [.v 5, .k (.bool true), .v 7], 1⟩]) (.ite (.v 8) (.seq (.rg []) (.ret [.v 0, .v 1, .v 2, .k (.int .i64 (-1))])) (.skip))) (.seq (.rg [⟨[], .bin .sub, [.v 1, .v 0], 1⟩, ⟨[], .mn, [.v 3, .v 9], 1⟩]) (.seq (.rg [⟨[], .bin .add, [.v 0, .v 10], 1⟩]) (.seq (.rg []) (.ret [.v 11, .v 1, .v 2, .v 10])))))
theorem spec_Wind_L_sh (Q : QT) (x0 x1 x2 x3 : V) : shL spec_Wind_L Q [x0, x1, x2, x3] = (
  P1 (.call F_SpringOk 0 1) [x0, x1, x2] fun v0 =>
  P1 (.un .not) [v0] fun v1 =>
  ifB v1 (
    Q .ret [x0, x1, x2, .int .i64 (-1)]) (
    P1 (.call F_l01In 0 1) [x3, .int .i64 0, .int .i64 100] fun v2 =>
    P1 (.un .not) [v2] fun v3 =>
    ifB v3 (
      Q .ret [x0, x1, x2, .int .i64 (-1)]) (
      P1 (.bin .sub) [x1, x0] fun v4 =>
      P1 (.mn) [x3, v4] fun v5 =>
      P1 (.bin .add) [x0, v5] fun v6 =>
      Q .ret [v6, x1, x2, v5]))) := by kernel_rfl
def spec_Wind_S : Sig := ⟨[.val true [.sc, .sc, .sc], .val false [.sc]], [(true, [.sc, .sc, .sc]), (false, [.sc])], F_Wind⟩
def spec_Wind_hs : List NF := []

def spec_Crank_L : L := .seq (.rg []) (.seq (.rg [⟨[], .call F_l38Copy 0 10, [.v 0, .v 1, .v 2, .v 3, .v 4, .v 5, .v 6, .v 7, .v 8, .v 9], 10⟩]) (.seq (.seq (.rg [⟨[], .call F_WorkshopOk 0 1, [.v 0, .v 1, .v 2, .v 3, .v 4, .v 5, .v 6, .v 7, .v 8, .v 9], 1⟩, ⟨[], .un .not, [.v 21], 1⟩]) (.ite (.v 22) (.seq (.rg []) (.ret [.v 11, .v 12, .v 13, .v 14, .v 15, .v 16, .v 17, .v 18, .v 19, .v 20, .k (.int .i64 (-1))])) (.skip))) (.seq (.rg [⟨[], .call F_Wind 0 4, [.v 5, .v 6, .v 7, .v 10], 4⟩]) (.seq (.rg []) (.seq (.rg []) (.ret [.v 11, .v 12, .v 13, .v 14, .v 15, .v 23, .v 24, .v 25, .v 19, .v 20, .v 26]))))))
theorem spec_Crank_L_sh (Q : QT) (x0 x1 x2 x3 x4 x5 x6 x7 x8 x9 x10 : V) : shL spec_Crank_L Q [x0, x1, x2, x3, x4, x5, x6, x7, x8, x9, x10] = (
  P10 (.call F_l38Copy 0 10) [x0, x1, x2, x3, x4, x5, x6, x7, x8, x9] fun v0 v1 v2 v3 v4 v5 v6 v7 v8 v9 =>
  P1 (.call F_WorkshopOk 0 1) [x0, x1, x2, x3, x4, x5, x6, x7, x8, x9] fun v10 =>
  P1 (.un .not) [v10] fun v11 =>
  ifB v11 (
    Q .ret [v0, v1, v2, v3, v4, v5, v6, v7, v8, v9, .int .i64 (-1)]) (
    P4 (.call F_Wind 0 4) [x5, x6, x7, x10] fun v12 v13 v14 v15 =>
    Q .ret [v0, v1, v2, v3, v4, v12, v13, v14, v8, v9, v15])) := by kernel_rfl
def spec_Crank_S : Sig := ⟨[.val true [.sc, .sc, .sl [.sc, .sc], .sl [.sl [.sc, .sc]], .sl [.sc], .sc, .sc, .sc, .sc, .sc], .val false [.sc]], [(true, [.sc, .sc, .sl [.sc, .sc], .sl [.sl [.sc, .sc]], .sl [.sc], .sc, .sc, .sc, .sc, .sc]), (false, [.sc])], F_Crank⟩
def spec_Crank_hs : List NF := []

def impl_copyWorkshop_L : L := .seq (.rg []) (.seq (.rg [⟨[], .call F_copyBench 0 4, [.v 0, .v 1, .v 2, .v 3], 4⟩]) (.seq (.rg [⟨[], .call F_copyInts 0 1, [.v 4], 1⟩]) (.seq (.rg []) (.ret [.v 10, .v 11, .v 12, .v 13, .v 14, .v 5, .v 6, .v 7, .v 8, .v 9]))))
theorem impl_copyWorkshop_L_sh (Q : QT) (x0 x1 x2 x3 x4 x5 x6 x7 x8 x9 : V) : shL impl_copyWorkshop_L Q [x0, x1, x2, x3, x4, x5, x6, x7, x8, x9] = (
  P4 (.call F_copyBench 0 4) [x0, x1, x2, x3] fun v0 v1 v2 v3 =>
  P1 (.call F_copyInts 0 1) [x4] fun v4 =>
  Q .ret [v0, v1, v2, v3, v4, x5, x6, x7, x8, x9]) := by kernel_rfl
def impl_copyWorkshop_S : Sig := ⟨[.val true [.sc, .sc, .sl [.sc, .sc], .sl [.sl [.sc, .sc]], .sl [.sc], .sc, .sc, .sc, .sc, .sc]], [(true, [.sc, .sc, .sl [.sc, .sc], .sl [.sl [.sc, .sc]], .sl [.sc], .sc, .sc, .sc, .sc, .sc])], F_copyWorkshop⟩
def impl_copyWorkshop_hs : List NF := []

def impl_Wind_L : L := .seq (.rg []) (.seq (.seq (.rg [⟨[], .call F_SpringOk 0 1, [.v 0, .v 1, .v 2], 1⟩, ⟨[], .un .not, [.v 4], 1⟩, ⟨[(.v 5, false)], .call F_within 0 1, [.v 3, .k (.int .i64 0), .k (.int .i64 100)], 1⟩, ⟨[(.v 5, false)], .un .not, [.v 6], 1⟩, ⟨[], .pick, [.v 5, .k (.bool true), .v 7], 1⟩]) (.ite (.v 8) (.seq (.rg []) (.ret [.v 0, .v 1, .v 2, .k (.int .i64 (-1))])) (.skip))) (.seq (.rg [⟨[], .bin .sub, [.v 1, .v 0], 1⟩, ⟨[], .mn, [.v 3, .v 9], 1⟩]) (.seq (.rg [⟨[], .bin .add, [.v 0, .v 10], 1⟩]) (.seq (.rg []) (.ret [.v 11, .v 1, .v 2, .v 10])))))
theorem impl_Wind_L_sh (Q : QT) (x0 x1 x2 x3 : V) : shL impl_Wind_L Q [x0, x1, x2, x3] = (
  P1 (.call F_SpringOk 0 1) [x0, x1, x2] fun v0 =>
  P1 (.un .not) [v0] fun v1 =>
  ifB v1 (
    Q .ret [x0, x1, x2, .int .i64 (-1)]) (
    P1 (.call F_within 0 1) [x3, .int .i64 0, .int .i64 100] fun v2 =>
    P1 (.un .not) [v2] fun v3 =>
    ifB v3 (
      Q .ret [x0, x1, x2, .int .i64 (-1)]) (
      P1 (.bin .sub) [x1, x0] fun v4 =>
      P1 (.mn) [x3, v4] fun v5 =>
      P1 (.bin .add) [x0, v5] fun v6 =>
      Q .ret [v6, x1, x2, v5]))) := by kernel_rfl
def impl_Wind_S : Sig := ⟨[.val true [.sc, .sc, .sc], .val false [.sc]], [(true, [.sc, .sc, .sc]), (false, [.sc])], F_Wind⟩
def impl_Wind_hs : List NF := []

def impl_Crank_L : L := .seq (.rg []) (.seq (.rg [⟨[], .call F_copyWorkshop 0 10, [.v 0, .v 1, .v 2, .v 3, .v 4, .v 5, .v 6, .v 7, .v 8, .v 9], 10⟩]) (.seq (.rg [⟨[], .call F_Wind 0 4, [.v 5, .v 6, .v 7, .v 10], 4⟩]) (.seq (.seq (.rg [⟨[], .call F_WorkshopOk 0 1, [.v 0, .v 1, .v 2, .v 3, .v 4, .v 5, .v 6, .v 7, .v 8, .v 9], 1⟩, ⟨[], .un .not, [.v 25], 1⟩, ⟨[(.v 26, false)], .bin .lss, [.v 24, .k (.int .i64 0)], 1⟩, ⟨[], .pick, [.v 26, .k (.bool true), .v 27], 1⟩]) (.ite (.v 28) (.seq (.rg []) (.ret [.v 11, .v 12, .v 13, .v 14, .v 15, .v 16, .v 17, .v 18, .v 19, .v 20, .k (.int .i64 (-1))])) (.skip))) (.seq (.rg []) (.seq (.rg []) (.ret [.v 11, .v 12, .v 13, .v 14, .v 15, .v 21, .v 22, .v 23, .v 19, .v 20, .v 24]))))))
theorem impl_Crank_L_sh (Q : QT) (x0 x1 x2 x3 x4 x5 x6 x7 x8 x9 x10 : V) : shL impl_Crank_L Q [x0, x1, x2, x3, x4, x5, x6, x7, x8, x9, x10] = (
  P10 (.call F_copyWorkshop 0 10) [x0, x1, x2, x3, x4, x5, x6, x7, x8, x9] fun v0 v1 v2 v3 v4 v5 v6 v7 v8 v9 =>
  P4 (.call F_Wind 0 4) [x5, x6, x7, x10] fun v10 v11 v12 v13 =>
  P1 (.call F_WorkshopOk 0 1) [x0, x1, x2, x3, x4, x5, x6, x7, x8, x9] fun v14 =>
  P1 (.un .not) [v14] fun v15 =>
  ifB v15 (
    Q .ret [v0, v1, v2, v3, v4, v5, v6, v7, v8, v9, .int .i64 (-1)]) (
    P1 (.bin .lss) [v13, .int .i64 0] fun v16 =>
    ifB v16 (
      Q .ret [v0, v1, v2, v3, v4, v5, v6, v7, v8, v9, .int .i64 (-1)]) (
      Q .ret [v0, v1, v2, v3, v4, v10, v11, v12, v8, v9, v13]))) := by kernel_rfl
def impl_Crank_S : Sig := ⟨[.val true [.sc, .sc, .sl [.sc, .sc], .sl [.sl [.sc, .sc]], .sl [.sc], .sc, .sc, .sc, .sc, .sc], .val false [.sc]], [(true, [.sc, .sc, .sl [.sc, .sc], .sl [.sl [.sc, .sc]], .sl [.sc], .sc, .sc, .sc, .sc, .sc]), (false, [.sc])], F_Crank⟩
def impl_Crank_hs : List NF := []

def spec_RemovePin_L : L := .seq (.rg []) (.seq (.rg [⟨[], .call F_l38Copy 0 10, [.v 0, .v 1, .v 2, .v 3, .v 4, .v 5, .v 6, .v 7, .v 8, .v 9], 10⟩]) (.seq (.rg [⟨[], .call F_TakePin 0 5, [.v 0, .v 1, .v 2, .v 3, .v 10], 5⟩]) (.seq (.rg []) (.seq (.seq (.rg [⟨[], .call F_WorkshopOk 0 1, [.v 0, .v 1, .v 2, .v 3, .v 4, .v 5, .v 6, .v 7, .v 8, .v 9], 1⟩, ⟨[], .un .not, [.v 26], 1⟩, ⟨[(.v 27, false)], .un .not, [.v 25], 1⟩, ⟨[], .pick, [.v 27, .k (.bool true), .v 28], 1⟩, ⟨[(.v 29, false)], .call F_WorkshopOk 0 1, [.v 21, .v 22, .v 23, .v 24, .v 15, .v 16, .v 17, .v 18, .v 19, .v 20], 1⟩, ⟨[(.v 29, false)], .un .not, [.v 30], 1⟩, ⟨[], .pick, [.v 29, .k (.bool true), .v 31], 1⟩]) (.ite (.v 32) (.seq (.rg [⟨[], .call F_l38Copy 0 10, [.v 0, .v 1, .v 2, .v 3, .v 4, .v 5, .v 6, .v 7, .v 8, .v 9], 10⟩]) (.ret [.v 33, .v 34, .v 35, .v 36, .v 37, .v 38, .v 39, .v 40, .v 41, .v 42, .k (.bool false)])) (.skip))) (.seq (.rg []) (.ret [.v 21, .v 22, .v 23, .v 24, .v 15, .v 16, .v 17, .v 18, .v 19, .v 20, .k (.bool true)]))))))
theorem spec_RemovePin_L_sh (Q : QT) (x0 x1 x2 x3 x4 x5 x6 x7 x8 x9 x10 : V) : shL spec_RemovePin_L Q [x0, x1, x2, x3, x4, x5, x6, x7, x8, x9, x10] = (
  P10 (.call F_l38Copy 0 10) [x0, x1, x2, x3, x4, x5, x6, x7, x8, x9] fun _ _ _ _ v4 v5 v6 v7 v8 v9 =>
  P5 (.call F_TakePin 0 5) [x0, x1, x2, x3, x10] fun v10 v11 v12 v13 v14 =>
  P1 (.call F_WorkshopOk 0 1) [x0, x1, x2, x3, x4, x5, x6, x7, x8, x9] fun v15 =>
  P1 (.un .not) [v15] fun v16 =>
  ifB v16 (
    P10 (.call F_l38Copy 0 10) [x0, x1, x2, x3, x4, x5, x6, x7, x8, x9] fun v17 v18 v19 v20 v21 v22 v23 v24 v25 v26 =>
    Q .ret [v17, v18, v19, v20, v21, v22, v23, v24, v25, v26, .bool false]) (
    P1 (.un .not) [v14] fun v27 =>
    ifB v27 (
      P10 (.call F_l38Copy 0 10) [x0, x1, x2, x3, x4, x5, x6, x7, x8, x9] fun v28 v29 v30 v31 v32 v33 v34 v35 v36 v37 =>
      Q .ret [v28, v29, v30, v31, v32, v33, v34, v35, v36, v37, .bool false]) (
      P1 (.call F_WorkshopOk 0 1) [v10, v11, v12, v13, v4, v5, v6, v7, v8, v9] fun v38 =>
      P1 (.un .not) [v38] fun v39 =>
      ifB v39 (
        P10 (.call F_l38Copy 0 10) [x0, x1, x2, x3, x4, x5, x6, x7, x8, x9] fun v40 v41 v42 v43 v44 v45 v46 v47 v48 v49 =>
        Q .ret [v40, v41, v42, v43, v44, v45, v46, v47, v48, v49, .bool false]) (
        Q .ret [v10, v11, v12, v13, v4, v5, v6, v7, v8, v9, .bool true])))) := by kernel_rfl
def spec_RemovePin_S : Sig := ⟨[.val true [.sc, .sc, .sl [.sc, .sc], .sl [.sl [.sc, .sc]], .sl [.sc], .sc, .sc, .sc, .sc, .sc], .val false [.sc]], [(true, [.sc, .sc, .sl [.sc, .sc], .sl [.sl [.sc, .sc]], .sl [.sc], .sc, .sc, .sc, .sc, .sc]), (false, [.sc])], F_RemovePin⟩
def spec_RemovePin_hs : List NF := []

def impl_withBench_L : L := .seq (.rg []) (.seq (.rg [⟨[], .call F_copyWorkshop 0 10, [.v 0, .v 1, .v 2, .v 3, .v 4, .v 5, .v 6, .v 7, .v 8, .v 9], 10⟩]) (.seq (.rg []) (.seq (.rg [⟨[], .bin .sub, [.v 24, .v 14], 1⟩]) (.seq (.seq (.rg [⟨[], .un .not, [.v 15], 1⟩, ⟨[(.v 27, false)], .call F_WorkshopOk 0 1, [.v 0, .v 1, .v 2, .v 3, .v 4, .v 5, .v 6, .v 7, .v 8, .v 9], 1⟩, ⟨[(.v 27, false)], .un .not, [.v 28], 1⟩, ⟨[], .pick, [.v 27, .k (.bool true), .v 29], 1⟩, ⟨[(.v 30, false)], .call F_WorkshopOk 0 1, [.v 10, .v 11, .v 12, .v 13, .v 20, .v 21, .v 22, .v 23, .v 26, .v 25], 1⟩, ⟨[(.v 30, false)], .un .not, [.v 31], 1⟩, ⟨[], .pick, [.v 30, .k (.bool true), .v 32], 1⟩]) (.ite (.v 33) (.seq (.rg [⟨[], .call F_copyWorkshop 0 10, [.v 0, .v 1, .v 2, .v 3, .v 4, .v 5, .v 6, .v 7, .v 8, .v 9], 10⟩]) (.ret [.v 34, .v 35, .v 36, .v 37, .v 38, .v 39, .v 40, .v 41, .v 42, .v 43, .k (.bool false)])) (.skip))) (.seq (.rg []) (.ret [.v 10, .v 11, .v 12, .v 13, .v 20, .v 21, .v 22, .v 23, .v 26, .v 25, .k (.bool true)]))))))
theorem impl_withBench_L_sh (Q : QT) (x0 x1 x2 x3 x4 x5 x6 x7 x8 x9 x10 x11 x12 x13 x14 x15 : V) : shL impl_withBench_L Q [x0, x1, x2, x3, x4, x5, x6, x7, x8, x9, x10, x11, x12, x13, x14, x15] = (
  P10 (.call F_copyWorkshop 0 10) [x0, x1, x2, x3, x4, x5, x6, x7, x8, x9] fun _ _ _ _ v4 v5 v6 v7 v8 v9 =>
  P1 (.bin .sub) [v8, x14] fun v10 =>
  P1 (.un .not) [x15] fun v11 =>
  ifB v11 (
    P10 (.call F_copyWorkshop 0 10) [x0, x1, x2, x3, x4, x5, x6, x7, x8, x9] fun v12 v13 v14 v15 v16 v17 v18 v19 v20 v21 =>
    Q .ret [v12, v13, v14, v15, v16, v17, v18, v19, v20, v21, .bool false]) (
    P1 (.call F_WorkshopOk 0 1) [x0, x1, x2, x3, x4, x5, x6, x7, x8, x9] fun v22 =>
    P1 (.un .not) [v22] fun v23 =>
    ifB v23 (
      P10 (.call F_copyWorkshop 0 10) [x0, x1, x2, x3, x4, x5, x6, x7, x8, x9] fun v24 v25 v26 v27 v28 v29 v30 v31 v32 v33 =>
      Q .ret [v24, v25, v26, v27, v28, v29, v30, v31, v32, v33, .bool false]) (
      P1 (.call F_WorkshopOk 0 1) [x10, x11, x12, x13, v4, v5, v6, v7, v10, v9] fun v34 =>
      P1 (.un .not) [v34] fun v35 =>
      ifB v35 (
        P10 (.call F_copyWorkshop 0 10) [x0, x1, x2, x3, x4, x5, x6, x7, x8, x9] fun v36 v37 v38 v39 v40 v41 v42 v43 v44 v45 =>
        Q .ret [v36, v37, v38, v39, v40, v41, v42, v43, v44, v45, .bool false]) (
        Q .ret [x10, x11, x12, x13, v4, v5, v6, v7, v10, v9, .bool true])))) := by kernel_rfl
def impl_withBench_S : Sig := ⟨[.val true [.sc, .sc, .sl [.sc, .sc], .sl [.sl [.sc, .sc]], .sl [.sc], .sc, .sc, .sc, .sc, .sc], .tk true [.sc, .sc, .sl [.sc, .sc], .sl [.sl [.sc, .sc]]], .val false [.sc], .val false [.sc]], [(true, [.sc, .sc, .sl [.sc, .sc], .sl [.sl [.sc, .sc]], .sl [.sc], .sc, .sc, .sc, .sc, .sc]), (false, [.sc])], F_withBench⟩
def impl_withBench_hs : List NF := []

def impl_RemovePin_L : L := .seq (.rg []) (.seq (.rg [⟨[], .call F_TakePin 0 5, [.v 0, .v 1, .v 2, .v 3, .v 10], 5⟩]) (.seq (.rg [⟨[], .call F_withBench 0 11, [.v 0, .v 1, .v 2, .v 3, .v 4, .v 5, .v 6, .v 7, .v 8, .v 9, .v 11, .v 12, .v 13, .v 14, .k (.int .i64 0), .v 15], 11⟩]) (.ret [.v 16, .v 17, .v 18, .v 19, .v 20, .v 21, .v 22, .v 23, .v 24, .v 25, .v 26])))
theorem impl_RemovePin_L_sh (Q : QT) (x0 x1 x2 x3 x4 x5 x6 x7 x8 x9 x10 : V) : shL impl_RemovePin_L Q [x0, x1, x2, x3, x4, x5, x6, x7, x8, x9, x10] = (
  P5 (.call F_TakePin 0 5) [x0, x1, x2, x3, x10] fun v0 v1 v2 v3 v4 =>
  P11 (.call F_withBench 0 11) [x0, x1, x2, x3, x4, x5, x6, x7, x8, x9, v0, v1, v2, v3, .int .i64 0, v4] fun v5 v6 v7 v8 v9 v10 v11 v12 v13 v14 v15 =>
  Q .ret [v5, v6, v7, v8, v9, v10, v11, v12, v13, v14, v15]) := by kernel_rfl
def impl_RemovePin_S : Sig := ⟨[.val true [.sc, .sc, .sl [.sc, .sc], .sl [.sl [.sc, .sc]], .sl [.sc], .sc, .sc, .sc, .sc, .sc], .val false [.sc]], [(true, [.sc, .sc, .sl [.sc, .sc], .sl [.sl [.sc, .sc]], .sl [.sc], .sc, .sc, .sc, .sc, .sc]), (false, [.sc])], F_RemovePin⟩
def impl_RemovePin_hs : List NF := []

def spec_GapAround_L : L := .seq (.rg []) (.seq (.seq (.rg [⟨[], .call F_l01In 0 1, [.v 2, .k (.int .i64 1), .k (.int .i64 1000)], 1⟩, ⟨[], .un .not, [.v 3], 1⟩, ⟨[(.v 4, false)], .bin .sub, [.v 2, .k (.int .i64 1)], 1⟩, ⟨[(.v 4, false)], .call F_l01In 0 1, [.v 0, .k (.int .i64 0), .v 5], 1⟩, ⟨[(.v 4, false)], .un .not, [.v 6], 1⟩, ⟨[], .pick, [.v 4, .k (.bool true), .v 7], 1⟩, ⟨[(.v 8, false)], .bin .sub, [.v 2, .k (.int .i64 1)], 1⟩, ⟨[(.v 8, false)], .call F_l01In 0 1, [.v 1, .k (.int .i64 0), .v 9], 1⟩, ⟨[(.v 8, false)], .un .not, [.v 10], 1⟩, ⟨[], .pick, [.v 8, .k (.bool true), .v 11], 1⟩]) (.ite (.v 12) (.seq (.rg []) (.ret [.k (.int .i64 (-1))])) (.skip))) (.seq (.rg [⟨[], .bin .sub, [.v 0, .v 1], 1⟩, ⟨[], .bin .sub, [.v 1, .v 0], 1⟩, ⟨[], .mx, [.v 13, .v 14], 1⟩]) (.seq (.rg [⟨[], .bin .sub, [.v 2, .v 15], 1⟩, ⟨[], .mn, [.v 15, .v 16], 1⟩]) (.ret [.v 17]))))
theorem spec_GapAround_L_sh (Q : QT) (x0 x1 x2 : V) : shL spec_GapAround_L Q [x0, x1, x2] = (
  P1 (.call F_l01In 0 1) [x2, .int .i64 1, .int .i64 1000] fun v0 =>
  P1 (.un .not) [v0] fun v1 =>
  ifB v1 (
    Q .ret [.int .i64 (-1)]) (
    P1 (.bin .sub) [x2, .int .i64 1] fun v2 =>
    P1 (.call F_l01In 0 1) [x0, .int .i64 0, v2] fun v3 =>
    P1 (.un .not) [v3] fun v4 =>
    ifB v4 (
      Q .ret [.int .i64 (-1)]) (
      P1 (.bin .sub) [x2, .int .i64 1] fun v5 =>
      P1 (.call F_l01In 0 1) [x1, .int .i64 0, v5] fun v6 =>
      P1 (.un .not) [v6] fun v7 =>
      ifB v7 (
        Q .ret [.int .i64 (-1)]) (
        P1 (.bin .sub) [x0, x1] fun v8 =>
        P1 (.bin .sub) [x1, x0] fun v9 =>
        P1 (.mx) [v8, v9] fun v10 =>
        P1 (.bin .sub) [x2, v10] fun v11 =>
        P1 (.mn) [v10, v11] fun v12 =>
        Q .ret [v12])))) := by kernel_rfl
def spec_GapAround_S : Sig := ⟨[.val false [.sc], .val false [.sc], .val false [.sc]], [(false, [.sc])], F_GapAround⟩
def spec_GapAround_hs : List NF := []

def spec_TooClose_b1 : L := .seq (.seq (.seq (.rg [⟨[], .len, [.v 6], 1⟩, ⟨[], .bin .lss, [.v 2, .v 7], 1⟩]) (.ite (.v 8) (.skip) (.seq (.tup [.v 0, .v 1, .v 3, .v 4, .v 5, .v 6]) (.exit 2)))) (.seq (.block 3 (.seq (.seq (.rg [⟨[], .idx [.sc, .sc], [.v 6, .v 1], 2⟩, ⟨[], .idx [.sc, .sc], [.v 6, .v 2], 2⟩, ⟨[], .bin .eql, [.v 9, .v 11], 1⟩, ⟨[(.v 13, true)], .idx [.sc, .sc], [.v 6, .v 1], 2⟩, ⟨[(.v 13, true)], .idx [.sc, .sc], [.v 6, .v 2], 2⟩, ⟨[(.v 13, true)], .call F_GapAround 0 1, [.v 15, .v 17, .v 4], 1⟩, ⟨[(.v 13, true)], .bin .lss, [.v 18, .v 0], 1⟩, ⟨[], .pick, [.v 13, .v 19, .k (.bool false)], 1⟩]) (.ite (.v 20) (.seq (.rg [⟨[], .lst [.sc] false 2, [.v 1, .v 2], 1⟩, ⟨[], .lst [.sl [.sc]] false 1, [.v 21], 1⟩, ⟨[], .app [.sl [.sc]] 24, [.v 3, .v 22], 1⟩]) (.tup [.v 0, .v 1, .v 2, .v 23, .v 4, .v 5, .v 6])) (.seq (.skip) (.tup [.v 0, .v 1, .v 2, .v 3, .v 4, .v 5, .v 6])))) (.tup [.v 0, .v 1, .v 2, .v 3, .v 4, .v 5, .v 6]))) (.rg [⟨[], .bin .add, [.v 2, .k (.int .i64 1)], 1⟩]))) (.tup [.v 0, .v 1, .v 7, .v 3, .v 4, .v 5, .v 6])
theorem spec_TooClose_b1_sh (Q : QT) (x0 x1 x2 x3 x4 x5 x6 : V) : shL spec_TooClose_b1 Q [x0, x1, x2, x3, x4, x5, x6] = (
  P1 (.len) [x6] fun v0 =>
  P1 (.bin .lss) [x2, v0] fun v1 =>
  ifB v1 (
    P2 (.idx [.sc, .sc]) [x6, x1] fun v2 _ =>
    P2 (.idx [.sc, .sc]) [x6, x2] fun v4 _ =>
    P1 (.bin .eql) [v2, v4] fun v6 =>
    ifB v6 (
      P2 (.idx [.sc, .sc]) [x6, x1] fun _ v8 =>
      P2 (.idx [.sc, .sc]) [x6, x2] fun _ v10 =>
      P1 (.call F_GapAround 0 1) [v8, v10, x4] fun v11 =>
      P1 (.bin .lss) [v11, x0] fun v12 =>
      ifB v12 (
        P1 (.lst [.sc] false 2) [x1, x2] fun v13 =>
        P1 (.lst [.sl [.sc]] false 1) [v13] fun v14 =>
        P1 (.app [.sl [.sc]] 24) [x3, v14] fun v15 =>
        P1 (.bin .add) [x2, .int .i64 1] fun v16 =>
        Q .normal [x0, x1, v16, v15, x4, x5, x6]) (
        P1 (.bin .add) [x2, .int .i64 1] fun v17 =>
        Q .normal [x0, x1, v17, x3, x4, x5, x6])) (
      P1 (.bin .add) [x2, .int .i64 1] fun v18 =>
      Q .normal [x0, x1, v18, x3, x4, x5, x6])) (
    Q (.exit 2) [x0, x1, x3, x4, x5, x6])) := by kernel_rfl

def spec_TooClose_r2 : L := .tup [.v 0, .v 1, .v 2, .v 3, .v 4, .v 5]
theorem spec_TooClose_r2_sh (Q : QT) (x0 x1 x2 x3 x4 x5 : V) : shL spec_TooClose_r2 Q [x0, x1, x2, x3, x4, x5] = (
  Q .normal [x0, x1, x2, x3, x4, x5]) := by kernel_rfl

def spec_TooClose_r3 : L := .rg [⟨[], .bin .add, [.v 1, .k (.int .i64 1)], 1⟩]
theorem spec_TooClose_r3_sh (Q : QT) (x0 x1 x2 x3 x4 x5 : V) : shL spec_TooClose_r3 Q [x0, x1, x2, x3, x4, x5] = (
  P1 (.bin .add) [x1, .int .i64 1] fun v0 =>
  Q .normal [x0, x1, x2, x3, x4, x5, v0]) := by kernel_rfl

def spec_TooClose_r4 : L := .tup [.v 0, .v 6, .v 2, .v 3, .v 4, .v 5]
theorem spec_TooClose_r4_sh (Q : QT) (x0 x1 x2 x3 x4 x5 x6 : V) : shL spec_TooClose_r4 Q [x0, x1, x2, x3, x4, x5, x6] = (
  Q .normal [x0, x6, x2, x3, x4, x5]) := by kernel_rfl

def spec_TooClose_b0 : L := .seq (.seq (.seq (.rg [⟨[], .len, [.v 5], 1⟩, ⟨[], .bin .lss, [.v 1, .v 6], 1⟩]) (.ite (.v 7) (.skip) (.seq (.tup [.v 2]) (.exit 0)))) (.seq (.block 1 (.seq (.seq (.rg [⟨[], .bin .add, [.v 1, .k (.int .i64 1)], 1⟩]) (.block 2 (.seq (.tup [.v 0, .v 1, .v 8, .v 2, .v 3, .v 4, .v 5]) (.loop (spec_TooClose_b1))))) (spec_TooClose_r2))) (spec_TooClose_r3))) (spec_TooClose_r4)
theorem spec_TooClose_b0_sh (Q : QT) (x0 x1 x2 x3 x4 x5 : V) : shL spec_TooClose_b0 Q [x0, x1, x2, x3, x4, x5] = (
  P1 (.len) [x5] fun v0 =>
  P1 (.bin .lss) [x1, v0] fun v1 =>
  ifB v1 (
    P1 (.bin .add) [x1, .int .i64 1] fun v2 =>
    shL (.loop spec_TooClose_b1) (qB 2 (qS (shL spec_TooClose_r2 (qB 1 (qS (shL spec_TooClose_r3 (qS (shL spec_TooClose_r4 Q) Q)) (qS (shL spec_TooClose_r4 Q) Q)))) (qB 1 (qS (shL spec_TooClose_r3 (qS (shL spec_TooClose_r4 Q) Q)) (qS (shL spec_TooClose_r4 Q) Q))))) [x0, x1, v2, x2, x3, x4, x5]) (
    Q (.exit 0) [x2])) := by kernel_rfl

def spec_TooClose_r5 : L := .seq (.rg []) (.ret [.v 0])
theorem spec_TooClose_r5_sh (Q : QT) (x0 : V) : shL spec_TooClose_r5 Q [x0] = (
  Q .ret [x0]) := by kernel_rfl

def spec_TooClose_L : L := .seq (.rg []) (.seq (.rg [⟨[], .lst [.sl [.sc]] false 0, [], 1⟩]) (.seq (.seq (.rg [⟨[], .call F_CylinderOk 0 1, [.v 0, .v 1, .v 2], 1⟩, ⟨[], .un .not, [.v 5], 1⟩, ⟨[(.v 6, false)], .call F_l01In 0 1, [.v 3, .k (.int .i64 1), .k (.int .i64 96)], 1⟩, ⟨[(.v 6, false)], .un .not, [.v 7], 1⟩, ⟨[], .pick, [.v 6, .k (.bool true), .v 8], 1⟩]) (.ite (.v 9) (.seq (.rg []) (.ret [.v 4])) (.skip))) (.seq (.seq (.rg []) (.block 0 (.seq (.tup [.v 3, .k (.int .i64 0), .v 4, .v 0, .v 1, .v 2]) (.loop (spec_TooClose_b0))))) (spec_TooClose_r5))))
theorem spec_TooClose_L_sh (Q : QT) (x0 x1 x2 x3 : V) : shL spec_TooClose_L Q [x0, x1, x2, x3] = (
  P1 (.lst [.sl [.sc]] false 0) [] fun v0 =>
  P1 (.call F_CylinderOk 0 1) [x0, x1, x2] fun v1 =>
  P1 (.un .not) [v1] fun v2 =>
  ifB v2 (
    Q .ret [v0]) (
    P1 (.call F_l01In 0 1) [x3, .int .i64 1, .int .i64 96] fun v3 =>
    P1 (.un .not) [v3] fun v4 =>
    ifB v4 (
      Q .ret [v0]) (
      shL (.loop spec_TooClose_b0) (qB 0 (qS (shL spec_TooClose_r5 Q) Q)) [x3, .int .i64 0, v0, x0, x1, x2]))) := by kernel_rfl
def spec_TooClose_S : Sig := ⟨[.val true [.sc, .sc, .sl [.sc, .sc]], .val false [.sc]], [(false, [.sl [.sl [.sc]]])], F_TooClose⟩
def spec_TooClose_hs : List NF := [⟨[(5, .sc false [.own 64])], [(64, true, [.sl [.sc]])], [], 65⟩, ⟨[(1, .sc false [.sc]), (2, .ptr 64 0), (5, .sc false [.own 65]), (6, .sc false [.sc])], [(65, true, [.sl [.sc]])], [(64, [.sc, .sc, .ro [.sc, .sc]])], 66⟩, ⟨[(1, .sc false [.sc]), (2, .ptr 64 0), (5, .sc false [.own 65]), (6, .sc false [.sc])], [(65, true, [.sl [.sc]])], [(64, [.sc, .sc, .ro [.sc, .sc]])], 66⟩, ⟨[(1, .sc false [.sc]), (2, .ptr 64 0), (5, .sc false [.own 65]), (6, .sc false [.sc])], [(65, true, [.sl [.sc]])], [(64, [.sc, .sc, .ro [.sc, .sc]])], 66⟩, ⟨[(1, .sc false [.sc]), (2, .ptr 64 0), (5, .sc false [.own 65]), (6, .sc false [.sc]), (7, .sc false [.sc])], [(65, true, [.sl [.sc]])], [(64, [.sc, .sc, .ro [.sc, .sc]])], 66⟩, ⟨[(1, .sc false [.sc]), (2, .ptr 64 0), (5, .sc false [.own 65]), (6, .sc false [.sc]), (7, .sc false [.sc])], [(65, true, [.sl [.sc]])], [(64, [.sc, .sc, .ro [.sc, .sc]])], 66⟩, ⟨[(1, .sc false [.sc]), (2, .ptr 64 0), (5, .sc false [.own 65]), (6, .sc false [.sc]), (7, .sc false [.sc])], [(65, true, [.sl [.sc]])], [(64, [.sc, .sc, .ro [.sc, .sc]])], 66⟩]

def spec_IsPlayable_L : L := .seq (.rg []) (.seq (.rg [⟨[], .call F_CylinderOk 0 1, [.v 0, .v 1, .v 2], 1⟩, ⟨[(.v 4, true)], .call F_l01In 0 1, [.v 3, .k (.int .i64 1), .k (.int .i64 96)], 1⟩, ⟨[], .pick, [.v 4, .v 5, .k (.bool false)], 1⟩, ⟨[(.v 6, true)], .call F_TooClose 0 1, [.v 0, .v 1, .v 2, .v 3], 1⟩, ⟨[(.v 6, true)], .len, [.v 7], 1⟩, ⟨[(.v 6, true)], .bin .eql, [.v 8, .k (.int .i64 0)], 1⟩, ⟨[], .pick, [.v 6, .v 9, .k (.bool false)], 1⟩]) (.ret [.v 10]))
theorem spec_IsPlayable_L_sh (Q : QT) (x0 x1 x2 x3 : V) : shL spec_IsPlayable_L Q [x0, x1, x2, x3] = (
  P1 (.call F_CylinderOk 0 1) [x0, x1, x2] fun v0 =>
  ifB v0 (
    P1 (.call F_l01In 0 1) [x3, .int .i64 1, .int .i64 96] fun v1 =>
    ifB v1 (
      P1 (.call F_TooClose 0 1) [x0, x1, x2, x3] fun v2 =>
      P1 (.len) [v2] fun v3 =>
      P1 (.bin .eql) [v3, .int .i64 0] fun v4 =>
      Q .ret [v4]) (
      Q .ret [.bool false])) (
    Q .ret [.bool false])) := by kernel_rfl
def spec_IsPlayable_S : Sig := ⟨[.val true [.sc, .sc, .sl [.sc, .sc]], .val false [.sc]], [(false, [.sc])], F_IsPlayable⟩
def spec_IsPlayable_hs : List NF := []

def spec_PlayOnce_r0 : L := .seq (.rg [⟨[], .bin .sub, [.v 5, .k (.int .i64 1)], 1⟩]) (.seq (.rg [⟨[], .len, [.v 2], 1⟩, ⟨[], .bin .add, [.v 9, .v 28], 1⟩]) (.seq (.seq (.rg [⟨[], .call F_WorkshopOk 0 1, [.v 10, .v 11, .v 12, .v 13, .v 14, .v 27, .v 16, .v 17, .v 18, .v 29], 1⟩, ⟨[], .un .not, [.v 30], 1⟩]) (.ite (.v 31) (.seq (.rg [⟨[], .call F_l38Copy 0 10, [.v 0, .v 1, .v 2, .v 3, .v 4, .v 5, .v 6, .v 7, .v 8, .v 9], 10⟩]) (.ret [.v 32, .v 33, .v 34, .v 35, .v 36, .v 37, .v 38, .v 39, .v 40, .v 41, .k (.bool false)])) (.skip))) (.seq (.rg []) (.ret [.v 10, .v 11, .v 12, .v 13, .v 14, .v 27, .v 16, .v 17, .v 18, .v 29, .k (.bool true)]))))
theorem spec_PlayOnce_r0_sh (Q : QT) (x0 x1 x2 x3 x4 x5 x6 x7 x8 x9 x10 x11 x12 x13 x14 x15 x16 x17 x18 x19 x20 x21 x22 x23 x24 x25 x26 : V) : shL spec_PlayOnce_r0 Q [x0, x1, x2, x3, x4, x5, x6, x7, x8, x9, x10, x11, x12, x13, x14, x15, x16, x17, x18, x19, x20, x21, x22, x23, x24, x25, x26] = (
  P1 (.bin .sub) [x5, .int .i64 1] fun v0 =>
  P1 (.len) [x2] fun v1 =>
  P1 (.bin .add) [x9, v1] fun v2 =>
  P1 (.call F_WorkshopOk 0 1) [x10, x11, x12, x13, x14, v0, x16, x17, x18, v2] fun v3 =>
  P1 (.un .not) [v3] fun v4 =>
  ifB v4 (
    P10 (.call F_l38Copy 0 10) [x0, x1, x2, x3, x4, x5, x6, x7, x8, x9] fun v5 v6 v7 v8 v9 v10 v11 v12 v13 v14 =>
    Q .ret [v5, v6, v7, v8, v9, v10, v11, v12, v13, v14, .bool false]) (
    Q .ret [x10, x11, x12, x13, x14, v0, x16, x17, x18, v2, .bool true])) := by kernel_rfl

def spec_PlayOnce_L : L := .seq (.rg []) (.seq (.rg [⟨[], .call F_l38Copy 0 10, [.v 0, .v 1, .v 2, .v 3, .v 4, .v 5, .v 6, .v 7, .v 8, .v 9], 10⟩]) (.seq (.seq (.rg [⟨[], .call F_WorkshopOk 0 1, [.v 0, .v 1, .v 2, .v 3, .v 4, .v 5, .v 6, .v 7, .v 8, .v 9], 1⟩, ⟨[], .un .not, [.v 20], 1⟩, ⟨[(.v 21, false)], .bin .eql, [.v 5, .k (.int .i64 0)], 1⟩, ⟨[], .pick, [.v 21, .k (.bool true), .v 22], 1⟩, ⟨[(.v 23, false)], .call F_IsPlayable 0 1, [.v 0, .v 1, .v 2, .k (.int .i64 2)], 1⟩, ⟨[(.v 23, false)], .un .not, [.v 24], 1⟩, ⟨[], .pick, [.v 23, .k (.bool true), .v 25], 1⟩]) (.ite (.v 26) (.seq (.rg []) (.ret [.v 10, .v 11, .v 12, .v 13, .v 14, .v 15, .v 16, .v 17, .v 18, .v 19, .k (.bool false)])) (.skip))) (spec_PlayOnce_r0)))
theorem spec_PlayOnce_L_sh (Q : QT) (x0 x1 x2 x3 x4 x5 x6 x7 x8 x9 : V) : shL spec_PlayOnce_L Q [x0, x1, x2, x3, x4, x5, x6, x7, x8, x9] = (
  P10 (.call F_l38Copy 0 10) [x0, x1, x2, x3, x4, x5, x6, x7, x8, x9] fun v0 v1 v2 v3 v4 v5 v6 v7 v8 v9 =>
  P1 (.call F_WorkshopOk 0 1) [x0, x1, x2, x3, x4, x5, x6, x7, x8, x9] fun v10 =>
  P1 (.un .not) [v10] fun v11 =>
  ifB v11 (
    Q .ret [v0, v1, v2, v3, v4, v5, v6, v7, v8, v9, .bool false]) (
    P1 (.bin .eql) [x5, .int .i64 0] fun v12 =>
    ifB v12 (
      Q .ret [v0, v1, v2, v3, v4, v5, v6, v7, v8, v9, .bool false]) (
      P1 (.call F_IsPlayable 0 1) [x0, x1, x2, .int .i64 2] fun v13 =>
      P1 (.un .not) [v13] fun v14 =>
      ifB v14 (
        Q .ret [v0, v1, v2, v3, v4, v5, v6, v7, v8, v9, .bool false]) (
        shL spec_PlayOnce_r0 Q [x0, x1, x2, x3, x4, x5, x6, x7, x8, x9, v0, v1, v2, v3, v4, v5, v6, v7, v8, v9, v10, .bool false, v12, .bool false, v13, v14, .bool false])))) := by kernel_rfl
def spec_PlayOnce_S : Sig := ⟨[.val true [.sc, .sc, .sl [.sc, .sc], .sl [.sl [.sc, .sc]], .sl [.sc], .sc, .sc, .sc, .sc, .sc]], [(true, [.sc, .sc, .sl [.sc, .sc], .sl [.sl [.sc, .sc]], .sl [.sc], .sc, .sc, .sc, .sc, .sc]), (false, [.sc])], F_PlayOnce⟩
def spec_PlayOnce_hs : List NF := []

def impl_GapAround_L : L := .seq (.rg []) (.seq (.seq (.rg [⟨[], .call F_within 0 1, [.v 2, .k (.int .i64 1), .k (.int .i64 1000)], 1⟩, ⟨[], .un .not, [.v 3], 1⟩, ⟨[(.v 4, false)], .bin .sub, [.v 2, .k (.int .i64 1)], 1⟩, ⟨[(.v 4, false)], .call F_within 0 1, [.v 0, .k (.int .i64 0), .v 5], 1⟩, ⟨[(.v 4, false)], .un .not, [.v 6], 1⟩, ⟨[], .pick, [.v 4, .k (.bool true), .v 7], 1⟩, ⟨[(.v 8, false)], .bin .sub, [.v 2, .k (.int .i64 1)], 1⟩, ⟨[(.v 8, false)], .call F_within 0 1, [.v 1, .k (.int .i64 0), .v 9], 1⟩, ⟨[(.v 8, false)], .un .not, [.v 10], 1⟩, ⟨[], .pick, [.v 8, .k (.bool true), .v 11], 1⟩]) (.ite (.v 12) (.seq (.rg []) (.ret [.k (.int .i64 (-1))])) (.skip))) (.seq (.rg [⟨[], .bin .sub, [.v 0, .v 1], 1⟩, ⟨[], .call F_magnitude 0 1, [.v 13], 1⟩]) (.seq (.rg [⟨[], .bin .sub, [.v 2, .v 14], 1⟩, ⟨[], .mn, [.v 14, .v 15], 1⟩]) (.ret [.v 16]))))
theorem impl_GapAround_L_sh (Q : QT) (x0 x1 x2 : V) : shL impl_GapAround_L Q [x0, x1, x2] = (
  P1 (.call F_within 0 1) [x2, .int .i64 1, .int .i64 1000] fun v0 =>
  P1 (.un .not) [v0] fun v1 =>
  ifB v1 (
    Q .ret [.int .i64 (-1)]) (
    P1 (.bin .sub) [x2, .int .i64 1] fun v2 =>
    P1 (.call F_within 0 1) [x0, .int .i64 0, v2] fun v3 =>
    P1 (.un .not) [v3] fun v4 =>
    ifB v4 (
      Q .ret [.int .i64 (-1)]) (
      P1 (.bin .sub) [x2, .int .i64 1] fun v5 =>
      P1 (.call F_within 0 1) [x1, .int .i64 0, v5] fun v6 =>
      P1 (.un .not) [v6] fun v7 =>
      ifB v7 (
        Q .ret [.int .i64 (-1)]) (
        P1 (.bin .sub) [x0, x1] fun v8 =>
        P1 (.call F_magnitude 0 1) [v8] fun v9 =>
        P1 (.bin .sub) [x2, v9] fun v10 =>
        P1 (.mn) [v9, v10] fun v11 =>
        Q .ret [v11])))) := by kernel_rfl
def impl_GapAround_S : Sig := ⟨[.val false [.sc], .val false [.sc], .val false [.sc]], [(false, [.sc])], F_GapAround⟩
def impl_GapAround_hs : List NF := []

def impl_TooClose_b1 : L := .seq (.seq (.seq (.rg [⟨[], .len, [.v 9], 1⟩, ⟨[], .bin .lss, [.v 2, .v 12], 1⟩]) (.ite (.v 13) (.skip) (.seq (.tup [.v 0, .v 3, .v 4, .v 5, .v 6, .v 7, .v 8, .v 9]) (.exit 2)))) (.seq (.block 3 (.seq (.seq (.rg [⟨[], .idx [.sc, .sc], [.v 9, .v 2], 2⟩]) (.seq (.rg [⟨[], .bin .eql, [.v 10, .v 14], 1⟩, ⟨[(.v 16, true)], .call F_GapAround 0 1, [.v 11, .v 15, .v 7], 1⟩, ⟨[(.v 16, true)], .bin .lss, [.v 17, .v 0], 1⟩, ⟨[], .pick, [.v 16, .v 18, .k (.bool false)], 1⟩]) (.ite (.v 19) (.seq (.rg [⟨[], .lst [.sc] false 2, [.v 1, .v 2], 1⟩, ⟨[], .lst [.sl [.sc]] false 1, [.v 20], 1⟩, ⟨[], .app [.sl [.sc]] 24, [.v 6, .v 21], 1⟩]) (.tup [.v 0, .v 1, .v 2, .v 3, .v 4, .v 5, .v 22, .v 7, .v 8, .v 9, .v 10, .v 11])) (.seq (.skip) (.tup [.v 0, .v 1, .v 2, .v 3, .v 4, .v 5, .v 6, .v 7, .v 8, .v 9, .v 10, .v 11]))))) (.tup [.v 0, .v 1, .v 2, .v 3, .v 4, .v 5, .v 6, .v 7, .v 8, .v 9, .v 10, .v 11]))) (.rg [⟨[], .bin .add, [.v 2, .k (.int .i64 1)], 1⟩]))) (.tup [.v 0, .v 1, .v 12, .v 3, .v 4, .v 5, .v 6, .v 7, .v 8, .v 9, .v 10, .v 11])
theorem impl_TooClose_b1_sh (Q : QT) (x0 x1 x2 x3 x4 x5 x6 x7 x8 x9 x10 x11 : V) : shL impl_TooClose_b1 Q [x0, x1, x2, x3, x4, x5, x6, x7, x8, x9, x10, x11] = (
  P1 (.len) [x9] fun v0 =>
  P1 (.bin .lss) [x2, v0] fun v1 =>
  ifB v1 (
    P2 (.idx [.sc, .sc]) [x9, x2] fun v2 v3 =>
    P1 (.bin .eql) [x10, v2] fun v4 =>
    ifB v4 (
      P1 (.call F_GapAround 0 1) [x11, v3, x7] fun v5 =>
      P1 (.bin .lss) [v5, x0] fun v6 =>
      ifB v6 (
        P1 (.lst [.sc] false 2) [x1, x2] fun v7 =>
        P1 (.lst [.sl [.sc]] false 1) [v7] fun v8 =>
        P1 (.app [.sl [.sc]] 24) [x6, v8] fun v9 =>
        P1 (.bin .add) [x2, .int .i64 1] fun v10 =>
        Q .normal [x0, x1, v10, x3, x4, x5, v9, x7, x8, x9, x10, x11]) (
        P1 (.bin .add) [x2, .int .i64 1] fun v11 =>
        Q .normal [x0, x1, v11, x3, x4, x5, x6, x7, x8, x9, x10, x11])) (
      P1 (.bin .add) [x2, .int .i64 1] fun v12 =>
      Q .normal [x0, x1, v12, x3, x4, x5, x6, x7, x8, x9, x10, x11])) (
    Q (.exit 2) [x0, x3, x4, x5, x6, x7, x8, x9])) := by kernel_rfl

def impl_TooClose_r2 : L := .tup [.v 0, .v 1, .v 2, .v 3, .v 4, .v 5, .v 6, .v 7]
theorem impl_TooClose_r2_sh (Q : QT) (x0 x1 x2 x3 x4 x5 x6 x7 : V) : shL impl_TooClose_r2 Q [x0, x1, x2, x3, x4, x5, x6, x7] = (
  Q .normal [x0, x1, x2, x3, x4, x5, x6, x7]) := by kernel_rfl

def impl_TooClose_r3 : L := .rg [⟨[], .bin .add, [.v 3, .k (.int .i64 1)], 1⟩]
theorem impl_TooClose_r3_sh (Q : QT) (x0 x1 x2 x3 x4 x5 x6 x7 : V) : shL impl_TooClose_r3 Q [x0, x1, x2, x3, x4, x5, x6, x7] = (
  P1 (.bin .add) [x3, .int .i64 1] fun v0 =>
  Q .normal [x0, x1, x2, x3, x4, x5, x6, x7, v0]) := by kernel_rfl

def impl_TooClose_r4 : L := .tup [.v 0, .v 1, .v 2, .v 8, .v 4, .v 5, .v 6, .v 7]
theorem impl_TooClose_r4_sh (Q : QT) (x0 x1 x2 x3 x4 x5 x6 x7 x8 : V) : shL impl_TooClose_r4 Q [x0, x1, x2, x3, x4, x5, x6, x7, x8] = (
  Q .normal [x0, x1, x2, x8, x4, x5, x6, x7]) := by kernel_rfl

def impl_TooClose_b0 : L := .seq (.seq (.rg [⟨[], .bin .lss, [.v 3, .v 2], 1⟩]) (.seq (.ite (.v 8) (.skip) (.seq (.tup [.v 4]) (.exit 0))) (.seq (.block 1 (.seq (.seq (.rg [⟨[], .idx [.sc, .sc], [.v 1, .v 3], 2⟩]) (.seq (.rg [⟨[], .bin .add, [.v 3, .k (.int .i64 1)], 1⟩]) (.block 2 (.seq (.tup [.v 0, .v 3, .v 11, .v 1, .v 2, .v 3, .v 4, .v 5, .v 6, .v 7, .v 9, .v 10]) (.loop (impl_TooClose_b1)))))) (impl_TooClose_r2))) (impl_TooClose_r3)))) (impl_TooClose_r4)
theorem impl_TooClose_b0_sh (Q : QT) (x0 x1 x2 x3 x4 x5 x6 x7 : V) : shL impl_TooClose_b0 Q [x0, x1, x2, x3, x4, x5, x6, x7] = (
  P1 (.bin .lss) [x3, x2] fun v0 =>
  ifB v0 (
    P2 (.idx [.sc, .sc]) [x1, x3] fun v1 v2 =>
    P1 (.bin .add) [x3, .int .i64 1] fun v3 =>
    shL (.loop impl_TooClose_b1) (qB 2 (qS (shL impl_TooClose_r2 (qB 1 (qS (shL impl_TooClose_r3 (qS (shL impl_TooClose_r4 Q) Q)) (qS (shL impl_TooClose_r4 Q) Q)))) (qB 1 (qS (shL impl_TooClose_r3 (qS (shL impl_TooClose_r4 Q) Q)) (qS (shL impl_TooClose_r4 Q) Q))))) [x0, x3, v3, x1, x2, x3, x4, x5, x6, x7, v1, v2]) (
    Q (.exit 0) [x4])) := by kernel_rfl

def impl_TooClose_r5 : L := .seq (.rg []) (.ret [.v 0])
theorem impl_TooClose_r5_sh (Q : QT) (x0 : V) : shL impl_TooClose_r5 Q [x0] = (
  Q .ret [x0]) := by kernel_rfl

def impl_TooClose_L : L := .seq (.rg []) (.seq (.seq (.rg [⟨[], .call F_CylinderOk 0 1, [.v 0, .v 1, .v 2], 1⟩, ⟨[], .un .not, [.v 4], 1⟩, ⟨[(.v 5, false)], .call F_within 0 1, [.v 3, .k (.int .i64 1), .k (.int .i64 96)], 1⟩, ⟨[(.v 5, false)], .un .not, [.v 6], 1⟩, ⟨[], .pick, [.v 5, .k (.bool true), .v 7], 1⟩]) (.ite (.v 8) (.seq (.rg []) (.ret [.k (.list [.sl [.sc]] [])])) (.skip))) (.seq (.rg [⟨[], .lst [.sl [.sc]] false 0, [], 1⟩]) (.seq (.seq (.rg [⟨[], .len, [.v 2], 1⟩]) (.block 0 (.seq (.tup [.v 3, .v 2, .v 10, .k (.int .i64 0), .v 9, .v 0, .v 1, .v 2]) (.loop (impl_TooClose_b0))))) (impl_TooClose_r5))))
theorem impl_TooClose_L_sh (Q : QT) (x0 x1 x2 x3 : V) : shL impl_TooClose_L Q [x0, x1, x2, x3] = (
  P1 (.call F_CylinderOk 0 1) [x0, x1, x2] fun v0 =>
  P1 (.un .not) [v0] fun v1 =>
  ifB v1 (
    Q .ret [.list [.sl [.sc]] []]) (
    P1 (.call F_within 0 1) [x3, .int .i64 1, .int .i64 96] fun v2 =>
    P1 (.un .not) [v2] fun v3 =>
    ifB v3 (
      Q .ret [.list [.sl [.sc]] []]) (
      P1 (.lst [.sl [.sc]] false 0) [] fun v4 =>
      P1 (.len) [x2] fun v5 =>
      shL (.loop impl_TooClose_b0) (qB 0 (qS (shL impl_TooClose_r5 Q) Q)) [x3, x2, v5, .int .i64 0, v4, x0, x1, x2]))) := by kernel_rfl
def impl_TooClose_S : Sig := ⟨[.val true [.sc, .sc, .sl [.sc, .sc]], .val false [.sc]], [(false, [.sl [.sl [.sc]]])], F_TooClose⟩
def impl_TooClose_hs : List NF := [⟨[(5, .sc false [.own 64])], [(64, true, [.sl [.sc]])], [], 65⟩, ⟨[(1, .sc false [.sc]), (2, .ptr 64 0), (5, .sc false [.own 65]), (20, .sc false [.ro [.sc, .sc]]), (21, .sc false [.sc]), (22, .sc false [.sc])], [(65, true, [.sl [.sc]])], [(64, [.sc, .sc, .ro [.sc, .sc]])], 66⟩, ⟨[(1, .sc false [.sc]), (2, .ptr 64 0), (5, .sc false [.own 65]), (20, .sc false [.ro [.sc, .sc]]), (21, .sc false [.sc]), (22, .sc false [.sc])], [(65, true, [.sl [.sc]])], [(64, [.sc, .sc, .ro [.sc, .sc]])], 66⟩, ⟨[(1, .sc false [.sc]), (2, .ptr 64 0), (5, .sc false [.own 65]), (20, .sc false [.ro [.sc, .sc]]), (21, .sc false [.sc]), (22, .sc false [.sc])], [(65, true, [.sl [.sc]])], [(64, [.sc, .sc, .ro [.sc, .sc]])], 66⟩, ⟨[(1, .sc false [.sc]), (2, .ptr 64 0), (5, .sc false [.own 65]), (6, .sc false [.sc]), (7, .ptr 66 0), (8, .sc false [.sc]), (20, .sc false [.ro [.sc, .sc]]), (21, .sc false [.sc]), (22, .sc false [.sc])], [(65, true, [.sl [.sc]])], [(64, [.sc, .sc, .ro [.sc, .sc]]), (66, [.sc, .sc])], 67⟩, ⟨[(1, .sc false [.sc]), (2, .ptr 64 0), (5, .sc false [.own 65]), (6, .sc false [.sc]), (7, .ptr 66 0), (8, .sc false [.sc]), (20, .sc false [.ro [.sc, .sc]]), (21, .sc false [.sc]), (22, .sc false [.sc])], [(65, true, [.sl [.sc]])], [(64, [.sc, .sc, .ro [.sc, .sc]]), (66, [.sc, .sc])], 67⟩, ⟨[(1, .sc false [.sc]), (2, .ptr 64 0), (5, .sc false [.own 65]), (6, .sc false [.sc]), (7, .ptr 66 0), (8, .sc false [.sc]), (20, .sc false [.ro [.sc, .sc]]), (21, .sc false [.sc]), (22, .sc false [.sc])], [(65, true, [.sl [.sc]])], [(64, [.sc, .sc, .ro [.sc, .sc]]), (66, [.sc, .sc])], 67⟩]

def impl_IsPlayable_L : L := .seq (.rg []) (.seq (.rg [⟨[], .call F_CylinderOk 0 1, [.v 0, .v 1, .v 2], 1⟩, ⟨[(.v 4, true)], .call F_within 0 1, [.v 3, .k (.int .i64 1), .k (.int .i64 96)], 1⟩, ⟨[], .pick, [.v 4, .v 5, .k (.bool false)], 1⟩, ⟨[(.v 6, true)], .call F_TooClose 0 1, [.v 0, .v 1, .v 2, .v 3], 1⟩, ⟨[(.v 6, true)], .len, [.v 7], 1⟩, ⟨[(.v 6, true)], .bin .eql, [.v 8, .k (.int .i64 0)], 1⟩, ⟨[], .pick, [.v 6, .v 9, .k (.bool false)], 1⟩]) (.ret [.v 10]))
theorem impl_IsPlayable_L_sh (Q : QT) (x0 x1 x2 x3 : V) : shL impl_IsPlayable_L Q [x0, x1, x2, x3] = (
  P1 (.call F_CylinderOk 0 1) [x0, x1, x2] fun v0 =>
  ifB v0 (
    P1 (.call F_within 0 1) [x3, .int .i64 1, .int .i64 96] fun v1 =>
    ifB v1 (
      P1 (.call F_TooClose 0 1) [x0, x1, x2, x3] fun v2 =>
      P1 (.len) [v2] fun v3 =>
      P1 (.bin .eql) [v3, .int .i64 0] fun v4 =>
      Q .ret [v4]) (
      Q .ret [.bool false])) (
    Q .ret [.bool false])) := by kernel_rfl
def impl_IsPlayable_S : Sig := ⟨[.val true [.sc, .sc, .sl [.sc, .sc]], .val false [.sc]], [(false, [.sc])], F_IsPlayable⟩
def impl_IsPlayable_hs : List NF := []

def impl_PlayOnce_r0 : L := .seq (.rg [⟨[], .bin .sub, [.v 15, .k (.int .i64 1)], 1⟩]) (.seq (.rg [⟨[], .len, [.v 2], 1⟩, ⟨[], .bin .add, [.v 19, .v 28], 1⟩]) (.seq (.seq (.rg [⟨[], .call F_WorkshopOk 0 1, [.v 10, .v 11, .v 12, .v 13, .v 14, .v 27, .v 16, .v 17, .v 18, .v 29], 1⟩, ⟨[], .un .not, [.v 30], 1⟩]) (.ite (.v 31) (.seq (.rg [⟨[], .call F_copyWorkshop 0 10, [.v 0, .v 1, .v 2, .v 3, .v 4, .v 5, .v 6, .v 7, .v 8, .v 9], 10⟩]) (.ret [.v 32, .v 33, .v 34, .v 35, .v 36, .v 37, .v 38, .v 39, .v 40, .v 41, .k (.bool false)])) (.skip))) (.seq (.rg []) (.ret [.v 10, .v 11, .v 12, .v 13, .v 14, .v 27, .v 16, .v 17, .v 18, .v 29, .k (.bool true)]))))
theorem impl_PlayOnce_r0_sh (Q : QT) (x0 x1 x2 x3 x4 x5 x6 x7 x8 x9 x10 x11 x12 x13 x14 x15 x16 x17 x18 x19 x20 x21 x22 x23 x24 x25 x26 : V) : shL impl_PlayOnce_r0 Q [x0, x1, x2, x3, x4, x5, x6, x7, x8, x9, x10, x11, x12, x13, x14, x15, x16, x17, x18, x19, x20, x21, x22, x23, x24, x25, x26] = (
  P1 (.bin .sub) [x15, .int .i64 1] fun v0 =>
  P1 (.len) [x2] fun v1 =>
  P1 (.bin .add) [x19, v1] fun v2 =>
  P1 (.call F_WorkshopOk 0 1) [x10, x11, x12, x13, x14, v0, x16, x17, x18, v2] fun v3 =>
  P1 (.un .not) [v3] fun v4 =>
  ifB v4 (
    P10 (.call F_copyWorkshop 0 10) [x0, x1, x2, x3, x4, x5, x6, x7, x8, x9] fun v5 v6 v7 v8 v9 v10 v11 v12 v13 v14 =>
    Q .ret [v5, v6, v7, v8, v9, v10, v11, v12, v13, v14, .bool false]) (
    Q .ret [x10, x11, x12, x13, x14, v0, x16, x17, x18, v2, .bool true])) := by kernel_rfl

def impl_PlayOnce_L : L := .seq (.rg []) (.seq (.rg [⟨[], .call F_copyWorkshop 0 10, [.v 0, .v 1, .v 2, .v 3, .v 4, .v 5, .v 6, .v 7, .v 8, .v 9], 10⟩]) (.seq (.seq (.rg [⟨[], .call F_WorkshopOk 0 1, [.v 0, .v 1, .v 2, .v 3, .v 4, .v 5, .v 6, .v 7, .v 8, .v 9], 1⟩, ⟨[], .un .not, [.v 20], 1⟩, ⟨[(.v 21, false)], .bin .eql, [.v 5, .k (.int .i64 0)], 1⟩, ⟨[], .pick, [.v 21, .k (.bool true), .v 22], 1⟩, ⟨[(.v 23, false)], .call F_IsPlayable 0 1, [.v 0, .v 1, .v 2, .k (.int .i64 2)], 1⟩, ⟨[(.v 23, false)], .un .not, [.v 24], 1⟩, ⟨[], .pick, [.v 23, .k (.bool true), .v 25], 1⟩]) (.ite (.v 26) (.seq (.rg []) (.ret [.v 10, .v 11, .v 12, .v 13, .v 14, .v 15, .v 16, .v 17, .v 18, .v 19, .k (.bool false)])) (.skip))) (impl_PlayOnce_r0)))
theorem impl_PlayOnce_L_sh (Q : QT) (x0 x1 x2 x3 x4 x5 x6 x7 x8 x9 : V) : shL impl_PlayOnce_L Q [x0, x1, x2, x3, x4, x5, x6, x7, x8, x9] = (
  P10 (.call F_copyWorkshop 0 10) [x0, x1, x2, x3, x4, x5, x6, x7, x8, x9] fun v0 v1 v2 v3 v4 v5 v6 v7 v8 v9 =>
  P1 (.call F_WorkshopOk 0 1) [x0, x1, x2, x3, x4, x5, x6, x7, x8, x9] fun v10 =>
  P1 (.un .not) [v10] fun v11 =>
  ifB v11 (
    Q .ret [v0, v1, v2, v3, v4, v5, v6, v7, v8, v9, .bool false]) (
    P1 (.bin .eql) [x5, .int .i64 0] fun v12 =>
    ifB v12 (
      Q .ret [v0, v1, v2, v3, v4, v5, v6, v7, v8, v9, .bool false]) (
      P1 (.call F_IsPlayable 0 1) [x0, x1, x2, .int .i64 2] fun v13 =>
      P1 (.un .not) [v13] fun v14 =>
      ifB v14 (
        Q .ret [v0, v1, v2, v3, v4, v5, v6, v7, v8, v9, .bool false]) (
        shL impl_PlayOnce_r0 Q [x0, x1, x2, x3, x4, x5, x6, x7, x8, x9, v0, v1, v2, v3, v4, v5, v6, v7, v8, v9, v10, .bool false, v12, .bool false, v13, v14, .bool false])))) := by kernel_rfl
def impl_PlayOnce_S : Sig := ⟨[.val true [.sc, .sc, .sl [.sc, .sc], .sl [.sl [.sc, .sc]], .sl [.sc], .sc, .sc, .sc, .sc, .sc]], [(true, [.sc, .sc, .sl [.sc, .sc], .sl [.sl [.sc, .sc]], .sl [.sc], .sc, .sc, .sc, .sc, .sc]), (false, [.sc])], F_PlayOnce⟩
def impl_PlayOnce_hs : List NF := []

end
end Go.Mw

/- Crank, RemovePin, the gap. -/
namespace Go.Mw
theorem shopOk_iff (w : Shop) : shopOk w = true ↔ benchOk w.bench = true ∧ combOk w.c = true ∧ springOk w.spring = true ∧ w.t = w.c.length ∧ within w.y 0 1000000 = true ∧ within w.d 0 1000000 = true := by
  simp [shopOk, Shop.spring]
theorem combOk_len {l : List Int} (h : combOk l = true) : l.length ≤ 24 := by
  simp [combOk, within] at h; omega
/-- A workshop whose memory is within bounds. -/
def sFit (w : Shop) : Prop := w.p.length ≤ 1048576 ∧ fitLL w.o ∧ w.c.length ≤ 1048576
def sSmall (w : Shop) : Prop := sFit w ∧ 1 + 2 * (w.p.length : Int) + 2 * sum2 w.o ≤ 1099511627776
theorem sSmall_of_tot {w : Shop} (h : (w.p.length : Int) + tot2 w.o + w.c.length ≤ 1048576) : sSmall w := by
  have h0 : 0 ≤ tot2 w.o := by rw [tot2_eq]; omega
  have := bSmall_of_tot (b := w.bench) (by simp only [Shop.bench]; omega)
  exact ⟨⟨this.1, this.2.1, by omega⟩, this.2.2⟩
theorem sSmall_of_ok {w : Shop} (h : shopOk w = true) : sSmall w := by
  have h := (shopOk_iff w).1 h
  have h1 := bSmall_of_ok h.1
  have h2 := combOk_len h.2.1
  exact ⟨⟨h1.1, h1.2.1, by omega⟩, h1.2.2⟩

theorem spec_l38Copy_ok : ∀ ds outs, F_l38Copy ds = some outs → shL spec_l38Copy_L (qRet outs) ds := F_l38Copy_elim fun x hp => by
  rw [spec_l38Copy_L_sh, p_l37Copy (x_p := x.p) (x_o := x.o) ⟨hp.1, hp.2.1⟩]
  simp
  omega
theorem impl_copyWorkshop_ok : ∀ ds outs, F_copyWorkshop ds = some outs → shL impl_copyWorkshop_L (qRet outs) ds := F_copyWorkshop_elim fun x hp => by
  rw [impl_copyWorkshop_L_sh, p_copyBench (x_p := x.p) (x_o := x.o) ⟨hp.1, hp.2.1⟩]
  simp only [p_copyInts (l := x.c) (by omega)]
  simp
theorem spec_Wind_ok : ∀ ds outs, F_Wind ds = some outs → shL spec_Wind_L (qRet outs) ds := F_Wind_elim fun x n => by
  rw [spec_Wind_L_sh]
  cases h : springOk x with
  | false => simp [h, windTo, windBy, windOk]
  | true =>
    have hb : 1 ≤ x.b ∧ x.b ≤ 50 ∧ 0 ≤ x.a ∧ x.a ≤ x.b := by simp [springOk, within] at h; omega
    cases h2 : within n 0 100 with
    | false => simp [h, h2, windTo, windBy, windOk]
    | true =>
      have hw : IntKind.i64.wrap (x.b - x.a) = x.b - x.a := wrap_id (by omega) (by omega)
      have hn : 0 ≤ n ∧ n ≤ 100 := by simpa [within] using h2
      have hw2 : IntKind.i64.wrap (x.a + min n (x.b - x.a)) = x.a + min n (x.b - x.a) := wrap_id (by omega) (by omega)
      simp [h, h2, windTo, windBy, windOk, hw, hw2]
theorem impl_Wind_ok : ∀ ds outs, F_Wind ds = some outs → shL impl_Wind_L (qRet outs) ds := F_Wind_elim fun x n => by
  rw [impl_Wind_L_sh]
  cases h : springOk x with
  | false => simp [h, windTo, windBy, windOk]
  | true =>
    have hb : 1 ≤ x.b ∧ x.b ≤ 50 ∧ 0 ≤ x.a ∧ x.a ≤ x.b := by simp [springOk, within] at h; omega
    cases h2 : within n 0 100 with
    | false => simp [h, h2, windTo, windBy, windOk]
    | true =>
      have hw : IntKind.i64.wrap (x.b - x.a) = x.b - x.a := wrap_id (by omega) (by omega)
      have hn : 0 ≤ n ∧ n ≤ 100 := by simpa [within] using h2
      have hw2 : IntKind.i64.wrap (x.a + min n (x.b - x.a)) = x.a + min n (x.b - x.a) := wrap_id (by omega) (by omega)
      simp [h, h2, windTo, windBy, windOk, hw, hw2]
theorem spec_Crank_ok : ∀ ds outs, F_Crank ds = some outs → shL spec_Crank_L (qRet outs) ds := F_Crank_elim fun x n hp => by
  rw [spec_Crank_L_sh, p_l38Copy (x_p := x.p) (x_o := x.o) (x_c := x.c) hp]
  simp only [p_WorkshopOk (x_p := x.p) (x_o := x.o) (x_c := x.c) hp]
  cases h : shopOk x <;> simp [h, crank, Shop.spring]
theorem windBy_neg {x : T3} {n : Int} (h : windBy x n < 0) : windTo x n = x ∧ windBy x n = -1 := by
  unfold windBy windTo at *
  cases hw : windOk x n with
  | false => simp
  | true =>
    exfalso
    rw [hw] at h
    simp only [windOk, springOk, within, Bool.and_eq_true, decide_eq_true_eq] at hw
    simp at h
    omega
theorem impl_Crank_ok : ∀ ds outs, F_Crank ds = some outs → shL impl_Crank_L (qRet outs) ds := F_Crank_elim fun x n hp => by
  rw [impl_Crank_L_sh, p_copyWorkshop (x_p := x.p) (x_o := x.o) (x_c := x.c) hp]
  simp only [p_Wind, p_WorkshopOk (x_p := x.p) (x_o := x.o) (x_c := x.c) hp]
  cases h : shopOk x with
  | false => simp [h, crank]
  | true =>
    simp [h, crank, Shop.spring]
    intro hn
    have := windBy_neg hn
    simp [this.1, this.2]

theorem impl_withBench_ok : ∀ ds outs, F_withBench ds = some outs → shL impl_withBench_L (qRet outs) ds := F_withBench_elim fun x y k n hp => by
  have h1 : x.p.length ≤ 1048576 ∧ fitLL x.o ∧ x.c.length ≤ 1048576 := ⟨hp.1, hp.2.1, hp.2.2.1⟩
  have h2 : y.p.length ≤ 1048576 ∧ fitLL y.o ∧ x.c.length ≤ 1048576 := ⟨hp.2.2.2.1, hp.2.2.2.2.1, hp.2.2.1⟩
  rw [impl_withBench_L_sh]
  simp only [p_copyWorkshop (x_p := x.p) (x_o := x.o) (x_c := x.c) h1, P1_sub, P1_not, p_WorkshopOk (x_p := x.p) (x_o := x.o) (x_c := x.c) h1, p_WorkshopOk (x_p := y.p) (x_o := y.o) (x_c := x.c) h2]
  cases n with
  | false => simp [withBench, benchFits]
  | true =>
    cases h : shopOk x with
    | false => simp [h, withBench, benchFits]
    | true =>
      have hy := ((shopOk_iff x).1 h).2.2.2.2.1
      have hy : 0 ≤ x.y ∧ x.y ≤ 1000000 := by simpa [within] using hy
      have hw : IntKind.i64.wrap (x.y - k) = x.y - k := wrap_id (by omega) (by omega)
      have e : (⟨y.s, y.t, y.p, y.o, x.c, x.u, x.m, x.f, x.y - k, x.d⟩ : Shop) = withB x y k := rfl
      rw [hw, e]
      cases h3 : shopOk (withB x y k) <;> simp [h, h3, withBench, benchFits]
      simp [withB]
theorem takePin_small {b : Bench} {k : Int} (h : bSmall b) : bSmall (takePin b k) := stepTo_small h
end Go.Mw

/- RemovePin; the law. -/
namespace Go.Mw
theorem takePin_no {b : Bench} {k : Int} (h : canTake b k = false) : takePin b k = b := by
  unfold canTake at h; unfold takePin stepTo; rw [h]; simp
theorem spec_RemovePin_ok : ∀ ds outs, F_RemovePin ds = some outs → shL spec_RemovePin_L (qRet outs) ds := F_RemovePin_elim fun x k hp => by
  have hb : x.p.length ≤ 1048576 ∧ fitLL x.o := ⟨hp.1, hp.2.1⟩
  rw [spec_RemovePin_L_sh, p_l38Copy (x_p := x.p) (x_o := x.o) (x_c := x.c) hp]
  simp only [p_l38Copy (x_p := x.p) (x_o := x.o) (x_c := x.c) hp, p_TakePin (x_p := x.p) (x_o := x.o) hb, p_WorkshopOk (x_p := x.p) (x_o := x.o) (x_c := x.c) hp]
  have e0 : (⟨x.s, x.t, x.p, x.o⟩ : Bench) = x.bench := rfl
  have e1 : (pullOk x.bench.cyl k && stepOk x.bench (pulled x.bench k)) = canTake x.bench k := rfl
  simp only [e0, e1]
  cases h : shopOk x with
  | false => simp [h, withBench, benchFits]
  | true =>
    cases h2 : canTake x.bench k with
    | false => simp [h, withBench, benchFits]
    | true =>
      have hs := takePin_small (k := k) (bSmall_of_ok ((shopOk_iff x).1 h).1)
      have hf : (takePin x.bench k).p.length ≤ 1048576 ∧ fitLL (takePin x.bench k).o ∧ x.c.length ≤ 1048576 := ⟨hs.1, hs.2.1, hp.2.2⟩
      have e : (⟨(takePin x.bench k).s, (takePin x.bench k).t, (takePin x.bench k).p, (takePin x.bench k).o, x.c, x.u, x.m, x.f, x.y, x.d⟩ : Shop) = withB x (takePin x.bench k) 0 := by simp [withB]
      simp only [p_WorkshopOk (x_p := (takePin x.bench k).p) (x_o := (takePin x.bench k).o) (x_c := x.c) hf, e]
      cases h3 : shopOk (withB x (takePin x.bench k) 0) <;> simp [h, h3, withBench, benchFits]
      simp [withB]
theorem impl_RemovePin_ok : ∀ ds outs, F_RemovePin ds = some outs → shL impl_RemovePin_L (qRet outs) ds := F_RemovePin_elim fun x k hp => by
  have hb : x.p.length ≤ 1048576 ∧ fitLL x.o := ⟨hp.1, hp.2.1⟩
  rw [impl_RemovePin_L_sh, p_TakePin (x_p := x.p) (x_o := x.o) hb]
  have e0 : (⟨x.s, x.t, x.p, x.o⟩ : Bench) = x.bench := rfl
  have e1 : (pullOk x.bench.cyl k && stepOk x.bench (pulled x.bench k)) = canTake x.bench k := rfl
  simp only [e0, e1]
  have hf : (takePin x.bench k).p.length ≤ 1048576 ∧ fitLL (takePin x.bench k).o := by
    cases h2 : canTake x.bench k with
    | false => rw [takePin_no h2]; exact hb
    | true =>
      have : stepOk x.bench (pulled x.bench k) = true := by simp [canTake] at h2; exact h2.2
      have hs : benchOk x.bench = true := by simp [stepOk] at this; exact this.1
      have := takePin_small (k := k) (bSmall_of_ok hs)
      exact ⟨this.1, this.2.1⟩
  generalize takePin x.bench k = B at *
  rw [p_withBench (x_p := x.p) (x_o := x.o) (x_c := x.c) (y_p := B.p) (y_o := B.o) ⟨hp.1, hp.2.1, hp.2.2, hf.1, hf.2, by omega, by omega⟩]
  simp
theorem withBench_small {x : Shop} {b : Bench} {k : Int} {ok : Bool} (h : sSmall x) : sSmall (withBench x b k ok) := by
  unfold withBench
  cases h2 : benchFits x b k ok with
  | false => simpa using h
  | true => simp [benchFits] at h2; simpa using sSmall_of_ok h2.2.2
theorem crank_small {x : Shop} {n : Int} (h : sSmall x) : sSmall (crank x n) := by
  unfold crank
  split
  · exact h
  · exact h
end Go.Mw

/- The gap; pins that stand too close. -/
namespace Go.Mw
theorem within_iff {a b c : Int} : within a b c = true ↔ b ≤ a ∧ a ≤ c := by simp [within]
theorem spec_GapAround_ok : ∀ ds outs, F_GapAround ds = some outs → shL spec_GapAround_L (qRet outs) ds := F_GapAround_elim fun a b n => by
  rw [spec_GapAround_L_sh]
  cases h : within n 1 1000 with
  | false => simp [h, gap]
  | true =>
    have hn := within_iff.1 h
    have hw : IntKind.i64.wrap (n - 1) = n - 1 := wrap_id (by omega) (by omega)
    cases h2 : within a 0 (n - 1) with
    | false => simp [h, hw, h2, gap]
    | true =>
      cases h3 : within b 0 (n - 1) with
      | false => simp [h, hw, h2, h3, gap]
      | true =>
        have ha := within_iff.1 h2
        have hb := within_iff.1 h3
        have w1 : IntKind.i64.wrap (a - b) = a - b := wrap_id (by omega) (by omega)
        have w2 : IntKind.i64.wrap (b - a) = b - a := wrap_id (by omega) (by omega)
        have w3 : IntKind.i64.wrap (n - max (a - b) (b - a)) = n - max (a - b) (b - a) := wrap_id (by omega) (by omega)
        simp [h, hw, h2, h3, gap, w1, w2, w3]
theorem impl_GapAround_ok : ∀ ds outs, F_GapAround ds = some outs → shL impl_GapAround_L (qRet outs) ds := F_GapAround_elim fun a b n => by
  rw [impl_GapAround_L_sh]
  cases h : within n 1 1000 with
  | false => simp [h, gap]
  | true =>
    have hn := within_iff.1 h
    have hw : IntKind.i64.wrap (n - 1) = n - 1 := wrap_id (by omega) (by omega)
    cases h2 : within a 0 (n - 1) with
    | false => simp [h, hw, h2, gap]
    | true =>
      cases h3 : within b 0 (n - 1) with
      | false => simp [h, hw, h2, h3, gap]
      | true =>
        have ha := within_iff.1 h2
        have hb := within_iff.1 h3
        have w1 : IntKind.i64.wrap (a - b) = a - b := wrap_id (by omega) (by omega)
        have w3 : IntKind.i64.wrap (n - max (a - b) (b - a)) = n - max (a - b) (b - a) := wrap_id (by omega) (by omega)
        have e : mag (a - b) = max (a - b) (b - a) := by unfold mag; split <;> omega
        have hm : -9223372036854775807 ≤ a - b ∧ a - b ≤ 9223372036854775807 := by omega
        simp [h, hw, h2, h3, gap, w1, p_magnitude hm, e, w3]

theorem closeRow_len (c : Cyl) (r : Int) (i k : Nat) : (closeRow c r i k).length ≤ k := by
  induction k with
  | zero => simp [closeRow]
  | succ k ih => simp only [closeRow, List.length_append]; split <;> simp <;> omega
theorem closeTo_len (c : Cyl) (r : Int) (k : Nat) : (closeTo c r k).length ≤ k * c.p.length := by
  induction k with
  | zero => simp [closeTo]
  | succ k ih =>
    have := closeRow_len c r k c.p.length
    simp only [closeTo, List.length_append, Nat.add_mul]; omega
theorem closeRow_none (c : Cyl) (r : Int) (i k : Nat) (h : k ≤ i + 1) : closeRow c r i k = [] := by
  induction k with
  | zero => rfl
  | succ k ih => simp only [closeRow, ih (by omega)]; rw [if_neg (by omega)]; rfl
theorem closeRow_len2 (c : Cyl) (r : Int) (i k : Nat) : (closeTo c r i ++ closeRow c r i k).length ≤ i * c.p.length + k := by
  have h1 := closeTo_len c r i
  have h2 := closeRow_len c r i k
  simp only [List.length_append]; omega

theorem closeAt_eq {c : Cyl} {r : Int} {i j : Nat} (hi : i < c.p.length) (hj : j < c.p.length) : closeAt c r i j = decide (c.p[i].a = c.p[j].a ∧ gap c.p[i].b c.p[j].b c.s < r) := by
  simp [closeAt, List.getElem?_eq_getElem hi, List.getElem?_eq_getElem hj]
theorem spec_TooClose_ok : ∀ ds outs, F_TooClose ds = some outs → shL spec_TooClose_L (qRet outs) ds := F_TooClose_elim fun x r hp => by
  rw [spec_TooClose_L_sh]
  simp only [p_CylinderOk (x_p := x.p) hp]
  have hc : cylOk ⟨x.s, x.t, x.p⟩ = cylOk x := rfl
  simp only [hc]
  cases h : cylOk x with
  | false => simp [h, tooClose]; rfl
  | true =>
    cases h2 : within r 1 96 with
    | false => simp [h, h2, tooClose]; rfl
    | true =>
      have hb := cylOk_bounds h
      have hl := hb.2.2
      simp [h, h2]
      refine loop_upto x.p.length (fun i => [.int .i64 r, .int .i64 i, vL IL1 vLL1 (closeTo x r i), .int .i64 x.s, .int .i64 x.t, vL I2 v2 x.p]) (by intro i j _ _ h; simp at h; omega) (fun _ => True) (by simp [closeTo]; rfl) trivial ?_
      intro i hi _
      rw [spec_TooClose_b0_sh]
      simp
      refine ⟨fun hi2 => ?_, fun hi2 => ?_⟩
      · have hw : IntKind.i64.wrap ((i : Int) + 1) = i + 1 := wrap_id (by omega) (by omega)
        rw [hw]
        refine loop_upto (x.p.length - (i + 1)) (fun j => [.int .i64 r, .int .i64 i, .int .i64 ((i + 1 + j : Nat) : Int), vL IL1 vLL1 (closeTo x r i ++ closeRow x r i (i + 1 + j)), .int .i64 x.s, .int .i64 x.t, vL I2 v2 x.p]) (by intro a b _ _ h; simp at h; omega) (fun _ => True) (by simp [closeRow_none]) trivial ?_
        intro j hj _
        rw [spec_TooClose_b1_sh]
        generalize hm : i + 1 + j = m at *
        simp only [P1_len, P1_lss, ifB_bool, decide_eq_true_eq, decide_eq_false_iff_not]
        refine ⟨fun h3 => ?_, fun h3 => ?_⟩
        · have h4 : m < x.p.length := by omega
          have hw2 : IntKind.i64.wrap ((m : Int) + 1) = m + 1 := wrap_id (by omega) (by omega)
          have e2 : i + 1 + (j + 1) = m + 1 := by omega
          have hx := closeRow_len2 x r i m
          have hx2 : i * x.p.length + m ≤ 100 * 100 + 100 := by
            have := Nat.mul_le_mul (show i ≤ 100 by omega) hl
            omega
          have him : i < m := by omega
          have hj2 : j < x.p.length - (i + 1) := by omega
          have hrow : closeRow x r i (m + 1) = closeRow x r i m ++ (if x.p[i].a = x.p[m].a ∧ gap x.p[i].b x.p[m].b x.s < r then [[(i : Int), (m : Int)]] else []) := by
            simp [closeRow, him, closeAt_eq hi2 h4]
          have hx3 : (closeTo x r i).length + (closeRow x r i m).length ≤ 10100 := by
            simp only [List.length_append] at hx; omega
          simp only [e2, hrow]
          generalize closeRow x r i m = R at *
          clear hrow
          simp [hi2, h4, hw2, hj2]
          refine ⟨fun h5 => ⟨fun h6 => ?_, fun h6 => ?_⟩, fun h5 => ?_⟩
          · simp [h5, h6]; omega
          · exact fun _ => h6
          · exact fun h8 => absurd h8 h5
        · obtain rfl : m = x.p.length := by omega
          simp [spec_TooClose_r2_sh, spec_TooClose_r3_sh, spec_TooClose_r4_sh, hw, closeTo, hi2]
      · obtain rfl : i = x.p.length := by omega
        simp [spec_TooClose_r5_sh, tooClose, h, h2]
theorem impl_TooClose_ok : ∀ ds outs, F_TooClose ds = some outs → shL impl_TooClose_L (qRet outs) ds := F_TooClose_elim fun x r hp => by
  rw [impl_TooClose_L_sh]
  simp only [p_CylinderOk (x_p := x.p) hp]
  have hc : cylOk ⟨x.s, x.t, x.p⟩ = cylOk x := rfl
  simp only [hc]
  cases h : cylOk x with
  | false => simp [h, tooClose]; rfl
  | true =>
    cases h2 : within r 1 96 with
    | false => simp [h, h2, tooClose]; rfl
    | true =>
      have hb := cylOk_bounds h
      have hl := hb.2.2
      simp [h, h2]
      refine loop_upto x.p.length (fun i => [.int .i64 r, vL I2 v2 x.p, .int .i64 x.p.length, .int .i64 i, vL IL1 vLL1 (closeTo x r i), .int .i64 x.s, .int .i64 x.t, vL I2 v2 x.p]) (by intro i j _ _ h; simp at h; omega) (fun _ => True) (by simp [closeTo]; rfl) trivial ?_
      intro i hi _
      rw [impl_TooClose_b0_sh]
      simp
      refine ⟨fun hi2 => ?_, fun hi2 => ?_⟩
      · have hw : IntKind.i64.wrap ((i : Int) + 1) = i + 1 := wrap_id (by omega) (by omega)
        simp only [List.getElem?_eq_getElem hi2, Option.some.injEq, exists_eq_left', hw]
        refine loop_upto (x.p.length - (i + 1)) (fun j => [.int .i64 r, .int .i64 i, .int .i64 ((i + 1 + j : Nat) : Int), vL I2 v2 x.p, .int .i64 x.p.length, .int .i64 i, vL IL1 vLL1 (closeTo x r i ++ closeRow x r i (i + 1 + j)), .int .i64 x.s, .int .i64 x.t, vL I2 v2 x.p, .int .i64 x.p[i].a, .int .i64 x.p[i].b]) (by intro a b _ _ h; simp at h; omega) (fun _ => True) (by simp [closeRow_none]) trivial ?_
        intro j hj _
        rw [impl_TooClose_b1_sh]
        generalize hm : i + 1 + j = m at *
        simp only [P1_len, P1_lss, ifB_bool, decide_eq_true_eq, decide_eq_false_iff_not]
        refine ⟨fun h3 => ?_, fun h3 => ?_⟩
        · have h4 : m < x.p.length := by omega
          have hw2 : IntKind.i64.wrap ((m : Int) + 1) = m + 1 := wrap_id (by omega) (by omega)
          have e2 : i + 1 + (j + 1) = m + 1 := by omega
          have hx := closeRow_len2 x r i m
          have hx2 : i * x.p.length + m ≤ 100 * 100 + 100 := by
            have := Nat.mul_le_mul (show i ≤ 100 by omega) hl
            omega
          have him : i < m := by omega
          have hj2 : j < x.p.length - (i + 1) := by omega
          have hrow : closeRow x r i (m + 1) = closeRow x r i m ++ (if x.p[i].a = x.p[m].a ∧ gap x.p[i].b x.p[m].b x.s < r then [[(i : Int), (m : Int)]] else []) := by
            simp [closeRow, him, closeAt_eq hi2 h4]
          have hx3 : (closeTo x r i).length + (closeRow x r i m).length ≤ 10100 := by
            simp only [List.length_append] at hx; omega
          simp only [e2, hrow]
          generalize closeRow x r i m = R at *
          clear hrow
          simp [h4, hw2, hj2]
          refine ⟨fun h5 => ⟨fun h6 => ?_, fun h6 => ?_⟩, fun h5 => ?_⟩
          · simp [h5, h6]; omega
          · exact fun _ => h6
          · exact fun h8 => absurd h8 h5
        · obtain rfl : m = x.p.length := by omega
          simp [impl_TooClose_r2_sh, impl_TooClose_r3_sh, impl_TooClose_r4_sh, hw, closeTo, hi2]
      · obtain rfl : i = x.p.length := by omega
        simp [impl_TooClose_r5_sh, tooClose, h, h2]

theorem spec_IsPlayable_ok : ∀ ds outs, F_IsPlayable ds = some outs → shL spec_IsPlayable_L (qRet outs) ds := F_IsPlayable_elim fun x r hp => by
  rw [spec_IsPlayable_L_sh]
  simp only [p_CylinderOk (x_p := x.p) hp, p_TooClose (x_p := x.p) hp]
  have hc : cylOk ⟨x.s, x.t, x.p⟩ = cylOk x := rfl
  simp only [hc, playable]
  have e : ((tooClose x r).length : Int) = 0 ↔ tooClose x r = [] := by rw [← List.length_eq_zero_iff]; omega
  have e2 : (((tooClose x r).length : Int) == 0) = decide (tooClose x r = []) := by rw [← decide_eq_decide.2 e]; rfl
  cases h : cylOk x <;> cases h2 : within r 1 96 <;> simp [h2, e2]
theorem impl_IsPlayable_ok : ∀ ds outs, F_IsPlayable ds = some outs → shL impl_IsPlayable_L (qRet outs) ds := F_IsPlayable_elim fun x r hp => by
  rw [impl_IsPlayable_L_sh]
  simp only [p_CylinderOk (x_p := x.p) hp, p_TooClose (x_p := x.p) hp]
  have hc : cylOk ⟨x.s, x.t, x.p⟩ = cylOk x := rfl
  simp only [hc, playable]
  have e : ((tooClose x r).length : Int) = 0 ↔ tooClose x r = [] := by rw [← List.length_eq_zero_iff]; omega
  have e2 : (((tooClose x r).length : Int) == 0) = decide (tooClose x r = []) := by rw [← decide_eq_decide.2 e]; rfl
  cases h : cylOk x <;> cases h2 : within r 1 96 <;> simp [h2, e2]
theorem spec_PlayOnce_ok : ∀ ds outs, F_PlayOnce ds = some outs → shL spec_PlayOnce_L (qRet outs) ds := F_PlayOnce_elim fun x hp => by
  rw [spec_PlayOnce_L_sh]
  simp only [p_l38Copy (x_p := x.p) (x_o := x.o) (x_c := x.c) hp, p_WorkshopOk (x_p := x.p) (x_o := x.o) (x_c := x.c) hp, p_IsPlayable (x_p := x.p) hp.1, spec_PlayOnce_r0_sh]
  cases h : shopOk x with
  | false => simp [h, playOnce, canPlay]
  | true =>
    have hs := (shopOk_iff x).1 h
    have hu : 0 ≤ x.u ∧ x.u ≤ 50 := by have h9 := hs.2.2.1; simp only [Shop.spring, springOk, Bool.and_eq_true, within_iff] at h9; omega
    have hd := within_iff.1 hs.2.2.2.2.2
    by_cases h2 : x.u = 0
    · simp [h, h2, playOnce, canPlay]
    · cases h3 : playable ⟨x.s, x.t, x.p⟩ 2 with
      | false => simp [h, h2, h3, playOnce, canPlay]
      | true =>
        have hw : IntKind.i64.wrap (x.u - 1) = x.u - 1 := wrap_id (by omega) (by omega)
        have hw2 : IntKind.i64.wrap (x.d + x.p.length) = x.d + x.p.length := wrap_id (by omega) (by omega)
        have e : (⟨x.s, x.t, x.p, x.o, x.c, x.u - 1, x.m, x.f, x.y, x.d + x.p.length⟩ : Shop) = played x := rfl
        have hq := fun (nr_ : Nat) (kk_ : V → Prop) => p_WorkshopOk (x_s := x.s) (x_t := x.t) (x_p := x.p) (x_o := x.o) (x_c := x.c) (x_u := x.u - 1) (x_m := x.m) (x_f := x.f) (x_y := x.y) (x_d := x.d + x.p.length) (nr_ := nr_) (kk_ := kk_) hp
        rw [e] at hq
        simp only [P1_sub, P1_add, P1_len, hw, hw2, hq]
        cases h4 : shopOk (played x) <;> simp [h, h2, h3, h4, playOnce, canPlay]
        simp [played]
theorem impl_PlayOnce_ok : ∀ ds outs, F_PlayOnce ds = some outs → shL impl_PlayOnce_L (qRet outs) ds := F_PlayOnce_elim fun x hp => by
  rw [impl_PlayOnce_L_sh]
  simp only [p_copyWorkshop (x_p := x.p) (x_o := x.o) (x_c := x.c) hp, p_WorkshopOk (x_p := x.p) (x_o := x.o) (x_c := x.c) hp, p_IsPlayable (x_p := x.p) hp.1, impl_PlayOnce_r0_sh]
  cases h : shopOk x with
  | false => simp [h, playOnce, canPlay]
  | true =>
    have hs := (shopOk_iff x).1 h
    have hu : 0 ≤ x.u ∧ x.u ≤ 50 := by have h9 := hs.2.2.1; simp only [Shop.spring, springOk, Bool.and_eq_true, within_iff] at h9; omega
    have hd := within_iff.1 hs.2.2.2.2.2
    by_cases h2 : x.u = 0
    · simp [h, h2, playOnce, canPlay]
    · cases h3 : playable ⟨x.s, x.t, x.p⟩ 2 with
      | false => simp [h, h2, h3, playOnce, canPlay]
      | true =>
        have hw : IntKind.i64.wrap (x.u - 1) = x.u - 1 := wrap_id (by omega) (by omega)
        have hw2 : IntKind.i64.wrap (x.d + x.p.length) = x.d + x.p.length := wrap_id (by omega) (by omega)
        have e : (⟨x.s, x.t, x.p, x.o, x.c, x.u - 1, x.m, x.f, x.y, x.d + x.p.length⟩ : Shop) = played x := rfl
        have hq := fun (nr_ : Nat) (kk_ : V → Prop) => p_WorkshopOk (x_s := x.s) (x_t := x.t) (x_p := x.p) (x_o := x.o) (x_c := x.c) (x_u := x.u - 1) (x_m := x.m) (x_f := x.f) (x_y := x.y) (x_d := x.d + x.p.length) (nr_ := nr_) (kk_ := kk_) hp
        rw [e] at hq
        simp only [P1_sub, P1_add, P1_len, hw, hw2, hq]
        cases h4 : shopOk (played x) <;> simp [h, h2, h3, h4, playOnce, canPlay]
        simp [played]
theorem playOnce_small {x : Shop} (h : sSmall x) : sSmall (playOnce x) := by
  unfold playOnce
  split
  · exact h
  · exact h
end Go.Mw

/- What functions compute, in plain terms: draws; stops and sums. -/
namespace Go.Mw
/-- A bitwise operation of the machine. -/
def land (a b : Int) : Int := IntKind.i64.wrap (BitVec.ofInt IntKind.i64.bits a &&& BitVec.ofInt IntKind.i64.bits b).toNat
def lxor (a b : Int) : Int := IntKind.i64.wrap (BitVec.ofInt IntKind.i64.bits a ^^^ BitVec.ofInt IntKind.i64.bits b).toNat
@[simp] theorem P1_and {a b : Int} {k : V → Prop} : P1 (.bin .and) [.int .i64 a, .int .i64 b] k ↔ k (.int .i64 (land a b)) := P1_of (by simp [Prim.run, binV, binI, land]) k
@[simp] theorem P1_xor {a b : Int} {k : V → Prop} : P1 (.bin .xor) [.int .i64 a, .int .i64 b] k ↔ k (.int .i64 (lxor a b)) := P1_of (by simp [Prim.run, binV, binI, lxor]) k
/-- A cursor: its bytes, the place, the hash. -/
structure Cur where
  b : List UInt8
  i : Int
  h : Int
def hNext (h : Int) : Int := IntKind.i64.wrap (IntKind.i64.wrap (h * 6364136223846793005) + 1442695040888963407)
def cStep (x : Cur) : Cur := ⟨x.b, if x.i < x.b.length then x.i + 1 else x.i, hNext x.h⟩
def cAfter (x : Cur) (n : Int) : Cur := if n ≤ 0 then x else if n ≤ 256 then cStep x else cStep (cStep (cStep (cStep x)))
def putPin : List T2 → T2 → List T2
  | [], p => [p]
  | a :: r, p => if pinLess a p then a :: putPin r p else if a = p then a :: r else p :: a :: r
def putNew : List T2 → T2 → Bool
  | [], _ => true
  | a :: r, p => if pinLess a p then putNew r p else decide (a ≠ p)
def E_l06Put : List T2 × T2 → List V := fun (l, y) => [vL I2 v2 l, .int .i64 y.a, .int .i64 y.b]
noncomputable def F_l06Put : List V → Option (List V) := mkF E_l06Put (fun (l, _) => l.length ≤ 1048576) (fun (l, y) => [vL I2 v2 (putPin l y), .bool (putNew l y)])
theorem F_l06Put_inj : ∀ x y, E_l06Put x = E_l06Put y → x = y := by
  rintro ⟨l, ⟨ya, yb⟩⟩ ⟨l', ⟨ya', yb'⟩⟩ h
  simpa [E_l06Put, and_assoc] using h
theorem F_l06Put_elim {P : List V → List V → Prop} (h : ∀ (l : List T2) (y : T2), (l.length ≤ 1048576) → P [vL I2 v2 l, .int .i64 y.a, .int .i64 y.b] [vL I2 v2 (putPin l y), .bool (putNew l y)]) : ∀ ds outs, F_l06Put ds = some outs → P ds outs := by
  intro ds outs hh
  obtain ⟨⟨l, y⟩, rfl, hp, rfl⟩ := mkF_inv hh
  exact h l y hp
theorem p_l06Put {l : List T2} {y_a : Int} {y_b : Int} {nr_ : Nat} {kk_ : V → V → Prop} (hp : l.length ≤ 1048576) : P2 (.call F_l06Put 0 nr_) [vL I2 v2 l, .int .i64 y_a, .int .i64 y_b] kk_ ↔ kk_ (vL I2 v2 (putPin l (⟨y_a, y_b⟩ : T2))) (.bool (putNew l (⟨y_a, y_b⟩ : T2))) :=
  P2_callF (by unfold F_l06Put; exact mkF_eq F_l06Put_inj (l, (⟨y_a, y_b⟩ : T2)) hp)

def cylX (x : Cur) : Cur := cAfter (cAfter (cAfter x 21) 8) 10
def E_sameInts : List Int × List Int → List V := fun (l, m) => [vL I1 v1 l, vL I1 v1 m]
noncomputable def F_sameInts : List V → Option (List V) := mkF E_sameInts (fun (l, m) => l.length ≤ 1048576 ∧ m.length ≤ 1048576) (fun (l, m) => [.bool (decide (l = m))])
theorem F_sameInts_inj : ∀ x y, E_sameInts x = E_sameInts y → x = y := by
  rintro ⟨l, m⟩ ⟨l', m'⟩ h
  simpa [E_sameInts] using h
theorem F_sameInts_elim {P : List V → List V → Prop} (h : ∀ (l : List Int) (m : List Int), (l.length ≤ 1048576 ∧ m.length ≤ 1048576) → P [vL I1 v1 l, vL I1 v1 m] [.bool (decide (l = m))]) : ∀ ds outs, F_sameInts ds = some outs → P ds outs := by
  intro ds outs hh
  obtain ⟨⟨l, m⟩, rfl, hp, rfl⟩ := mkF_inv hh
  exact h l m hp
theorem p_sameInts {l : List Int} {m : List Int} {nr_ : Nat} {kk_ : V → Prop} (hp : l.length ≤ 1048576 ∧ m.length ≤ 1048576) : P1 (.call F_sameInts 0 nr_) [vL I1 v1 l, vL I1 v1 m] kk_ ↔ kk_ (.bool (decide (l = m))) :=
  P1_callF (by unfold F_sameInts; exact mkF_eq F_sameInts_inj (l, m) hp)

end Go.Mw

/- Functions of the program, as small pure programs (printed by a program of ours). -/
namespace Go.Mw
noncomputable section
def spec_l06Put_b0 : L := .seq (.seq (.seq (.rg [⟨[], .len, [.v 0], 1⟩, ⟨[], .bin .lss, [.v 1, .v 4], 1⟩, ⟨[(.v 5, true)], .idx [.sc, .sc], [.v 0, .v 1], 2⟩, ⟨[(.v 5, true)], .call F_l06Less 0 1, [.v 6, .v 7, .v 2, .v 3], 1⟩, ⟨[], .pick, [.v 5, .v 8, .k (.bool false)], 1⟩]) (.ite (.v 9) (.skip) (.seq (.tup [.v 0, .v 1, .v 2, .v 3]) (.exit 0)))) (.block 1 (.seq (.rg [⟨[], .bin .add, [.v 1, .k (.int .i64 1)], 1⟩]) (.tup [.v 0, .v 10, .v 2, .v 3])))) (.tup [.v 0, .v 1, .v 2, .v 3])
theorem spec_l06Put_b0_sh (Q : QT) (x0 x1 x2 x3 : V) : shL spec_l06Put_b0 Q [x0, x1, x2, x3] = (
  P1 (.len) [x0] fun v0 =>
  P1 (.bin .lss) [x1, v0] fun v1 =>
  ifB v1 (
    P2 (.idx [.sc, .sc]) [x0, x1] fun v2 v3 =>
    P1 (.call F_l06Less 0 1) [v2, v3, x2, x3] fun v4 =>
    ifB v4 (
      P1 (.bin .add) [x1, .int .i64 1] fun v5 =>
      Q .normal [x0, v5, x2, x3]) (
      Q (.exit 0) [x0, x1, x2, x3])) (
    Q (.exit 0) [x0, x1, x2, x3])) := by kernel_rfl

def spec_l06Put_r1 : L := .seq (.seq (.rg [⟨[], .len, [.v 0], 1⟩, ⟨[], .bin .lss, [.v 1, .v 4], 1⟩, ⟨[(.v 5, true)], .idx [.sc, .sc], [.v 0, .v 1], 2⟩, ⟨[(.v 5, true)], .eqa false [.i, .i], [.v 6, .v 7, .v 2, .v 3], 1⟩, ⟨[], .pick, [.v 5, .v 8, .k (.bool false)], 1⟩]) (.ite (.v 9) (.seq (.rg [⟨[], .lst [.sc, .sc] true 0, [], 1⟩, ⟨[], .app [.sc, .sc] 16, [.v 10, .v 0], 1⟩]) (.ret [.v 11, .k (.bool false)])) (.skip))) (.seq (.rg [⟨[], .lst [.sc, .sc] true 0, [], 1⟩, ⟨[], .lsub [.sc, .sc], [.v 0, .k (.int .i64 0), .v 1], 1⟩, ⟨[], .app [.sc, .sc] 16, [.v 10, .v 11], 1⟩, ⟨[], .lst [.sc, .sc] true 1, [.v 2, .v 3], 1⟩, ⟨[], .app [.sc, .sc] 16, [.v 12, .v 13], 1⟩, ⟨[], .lsub [.sc, .sc], [.v 0, .v 1], 1⟩, ⟨[], .app [.sc, .sc] 16, [.v 14, .v 15], 1⟩]) (.ret [.v 16, .k (.bool true)]))
theorem spec_l06Put_r1_sh (Q : QT) (x0 x1 x2 x3 : V) : shL spec_l06Put_r1 Q [x0, x1, x2, x3] = (
  P1 (.len) [x0] fun v0 =>
  P1 (.bin .lss) [x1, v0] fun v1 =>
  ifB v1 (
    P2 (.idx [.sc, .sc]) [x0, x1] fun v2 v3 =>
    P1 (.eqa false [.i, .i]) [v2, v3, x2, x3] fun v4 =>
    ifB v4 (
      P1 (.lst [.sc, .sc] true 0) [] fun v5 =>
      P1 (.app [.sc, .sc] 16) [v5, x0] fun v6 =>
      Q .ret [v6, .bool false]) (
      P1 (.lst [.sc, .sc] true 0) [] fun v7 =>
      P1 (.lsub [.sc, .sc]) [x0, .int .i64 0, x1] fun v8 =>
      P1 (.app [.sc, .sc] 16) [v7, v8] fun v9 =>
      P1 (.lst [.sc, .sc] true 1) [x2, x3] fun v10 =>
      P1 (.app [.sc, .sc] 16) [v9, v10] fun v11 =>
      P1 (.lsub [.sc, .sc]) [x0, x1] fun v12 =>
      P1 (.app [.sc, .sc] 16) [v11, v12] fun v13 =>
      Q .ret [v13, .bool true])) (
    P1 (.lst [.sc, .sc] true 0) [] fun v14 =>
    P1 (.lsub [.sc, .sc]) [x0, .int .i64 0, x1] fun v15 =>
    P1 (.app [.sc, .sc] 16) [v14, v15] fun v16 =>
    P1 (.lst [.sc, .sc] true 1) [x2, x3] fun v17 =>
    P1 (.app [.sc, .sc] 16) [v16, v17] fun v18 =>
    P1 (.lsub [.sc, .sc]) [x0, x1] fun v19 =>
    P1 (.app [.sc, .sc] 16) [v18, v19] fun v20 =>
    Q .ret [v20, .bool true])) := by kernel_rfl

def spec_l06Put_L : L := .seq (.rg []) (.seq (.rg []) (.seq (.block 0 (.seq (.tup [.v 0, .k (.int .i64 0), .v 1, .v 2]) (.loop (spec_l06Put_b0)))) (spec_l06Put_r1)))
theorem spec_l06Put_L_sh (Q : QT) (x0 x1 x2 : V) : shL spec_l06Put_L Q [x0, x1, x2] = (
  shL (.loop spec_l06Put_b0) (qB 0 (qS (shL spec_l06Put_r1 Q) Q)) [x0, .int .i64 0, x1, x2]) := by kernel_rfl
def spec_l06Put_S : Sig := ⟨[.val false [.sl [.sc, .sc]], .val true [.sc, .sc]], [(false, [.sl [.sc, .sc]]), (false, [.sc])], F_l06Put⟩
def spec_l06Put_hs : List NF := [⟨[(0, .sc false [.ro [.sc, .sc]]), (3, .ptr 64 0), (6, .sc false [.sc])], [], [(64, [.sc, .sc])], 65⟩, ⟨[(0, .sc false [.ro [.sc, .sc]]), (3, .ptr 64 0), (6, .sc false [.sc])], [], [(64, [.sc, .sc])], 65⟩, ⟨[(0, .sc false [.ro [.sc, .sc]]), (3, .ptr 64 0), (6, .sc false [.sc])], [], [(64, [.sc, .sc])], 65⟩]

end
end Go.Mw

/- Draws. -/
namespace Go.Mw
@[simp] theorem cStep_b (x : Cur) : (cStep x).b = x.b := rfl
@[simp] theorem cAfter_b (x : Cur) (n : Int) : (cAfter x n).b = x.b := by unfold cAfter; split <;> (try split) <;> simp
/-! putting a pin -/
theorem put_at : ∀ (l : List T2) (y : T2) (i : Nat), (∀ j (h : j < l.length), j < i → pinLess l[j] y = true) → i ≤ l.length → (∀ (h : i < l.length), pinLess l[i] y = false) →
    putPin l y = (if l[i]? = some y then l else l.take i ++ [y] ++ l.drop i) ∧ putNew l y = !decide (l[i]? = some y)
  | [], y, i, _, hi, _ => by
    obtain rfl : i = 0 := by simpa using hi
    simp [putPin, putNew]
  | a :: r, y, 0, _, _, h => by
    have h := h (by simp)
    simp only [List.getElem_cons_zero] at h
    by_cases e : a = y
    · subst e; simp [putPin, putNew, h]
    · simp [putPin, putNew, h, e]
  | a :: r, y, i + 1, h1, h2, h3 => by
    have ha := h1 0 (by simp) (by omega)
    simp only [List.getElem_cons_zero] at ha
    have ih := put_at r y i (fun j hj hji => by have := h1 (j + 1) (by simp; omega) (by omega); simpa using this) (by simpa using h2) (fun h => by have := h3 (by simp; omega); simpa using this)
    simp only [putPin, putNew, ha, if_true, List.getElem?_cons_succ, ih.1, ih.2, List.take_succ_cons, List.drop_succ_cons]
    refine ⟨?_, trivial⟩
    split <;> simp
theorem spec_l06Put_ok : ∀ ds outs, F_l06Put ds = some outs → shL spec_l06Put_L (qRet outs) ds := F_l06Put_elim fun l y hp => by
  rw [spec_l06Put_L_sh]
  refine loop_upto l.length (fun k => [vL I2 v2 l, .int .i64 k, .int .i64 y.a, .int .i64 y.b]) (by intro i j _ _ h; simp at h; omega) (fun k => ∀ j (h : j < l.length), j < k → pinLess l[j] y = true) (by simp) (by simp) ?_
  intro k hk hP
  have fin : (∀ (h : k < l.length), pinLess l[k] y = false) → shL spec_l06Put_r1 (qRet [vL I2 v2 (putPin l y), .bool (putNew l y)]) [vL I2 v2 l, .int .i64 k, .int .i64 y.a, .int .i64 y.b] := by
    intro h
    obtain ⟨e1, e2⟩ := put_at l y k hP hk h
    rw [spec_l06Put_r1_sh, e1, e2]
    by_cases hl : k < l.length
    · by_cases hy : l[k] = y
      · have h5 : l[k].a = y.a ∧ l[k].b = y.b := by rw [hy]; exact ⟨rfl, rfl⟩
        simp [hl, hy]; omega
      · have h5 : ¬ (l[k].a = y.a ∧ l[k].b = y.b) := fun h => hy (by cases hh : l[k]; rw [hh] at h; cases y; simp_all)
        simp [hl, hy, h5]; omega
    · have h6 : k = l.length := by omega
      subst h6
      simp; omega
  rw [spec_l06Put_b0_sh]
  simp
  refine ⟨fun h => ?_, fun h => fin (fun h2 => absurd h2 (by omega))⟩
  simp only [List.getElem?_eq_getElem h, Option.some.injEq, exists_eq_left']
  cases hl : pinLess l[k] y with
  | false =>
    simp [hl]
    exact fin (fun _ => hl)
  | true =>
    have hw : IntKind.i64.wrap ((k : Int) + 1) = k + 1 := wrap_id (by omega) (by omega)
    simp [hl, hw, h]
    intro j hj hjk
    by_cases e : j = k
    · subst e; exact hl
    · exact hP j hj (by omega)
theorem putPin_len (l : List T2) (y : T2) : (putPin l y).length ≤ l.length + 1 := by
  induction l with
  | nil => simp [putPin]
  | cons a r ih => unfold putPin; split <;> (try split) <;> simp <;> omega
end Go.Mw

/- Drawn cylinders and states. -/
namespace Go.Mw
@[simp] theorem P1_lstI3 {a b c : Int} {k : V → Prop} : P1 (.lst [.sc] false 3) [.int .i64 a, .int .i64 b, .int .i64 c] k ↔ k (vL I1 v1 [a, b, c]) := P1_of (by simp [Prim.run, aksOk, akOk, chunk, V.pack, vL, v1]) k

theorem pinLess_or {a b : T2} (h : pinLess a b = false) (hne : a ≠ b) : pinLess b a = true := by
  cases a; cases b
  simp only [pinLess, decide_eq_false_iff_not, decide_eq_true_eq, ne_eq, T2.mk.injEq] at *
  omega
theorem rising_cons {a : T2} {r : List T2} : rising (a :: r) = true ↔ (∀ h, r.head? = some h → pinLess a h = true) ∧ rising r = true := by
  cases r <;> simp [rising]
theorem putPin_head {l : List T2} {y h : T2} (hh : (putPin l y).head? = some h) : h = y ∨ l.head? = some h := by
  cases l with
  | nil => simp [putPin] at hh; exact .inl hh.symm
  | cons a r =>
    unfold putPin at hh
    split at hh
    · simp at hh; exact .inr (by simp [hh])
    · split at hh
      · simp at hh; exact .inr (by simp [hh])
      · simp at hh; exact .inl hh.symm
theorem putPin_rising {l : List T2} {y : T2} (h : rising l = true) : rising (putPin l y) = true := by
  induction l with
  | nil => simp [putPin, rising]
  | cons a r ih =>
    have hr := rising_cons.1 h
    unfold putPin
    by_cases h1 : pinLess a y = true
    · rw [if_pos h1, rising_cons]
      refine ⟨fun b hb => ?_, ih hr.2⟩
      rcases putPin_head hb with rfl | hb
      · exact h1
      · exact hr.1 b hb
    · rw [if_neg h1]
      by_cases h2 : a = y
      · rw [if_pos h2]; exact h
      · rw [if_neg h2, rising_cons]
        refine ⟨fun b hb => ?_, h⟩
        simp only [List.head?_cons, Option.some.injEq] at hb
        subst hb
        exact pinLess_or (by simpa using h1) h2
@[simp] theorem cylX_b (x : Cur) : (cylX x).b = x.b := by simp [cylX]
end Go.Mw

/- Stops. -/
namespace Go.Mw
@[simp] theorem P1_neaX {a c e g : Int} {b f : Bool} {k : V → Prop} : P1 (.eqa true [.i, .b, .i]) [.int .i64 a, .bool b, .int .i64 c, .int .i64 e, .bool f, .int .i64 g] k ↔ k (.bool (!decide (a = e ∧ b = f ∧ c = g))) := P1_of (by simp only [Prim.run, eqVs, eqV1, List.length_cons, List.length_nil, List.take, List.drop, if_true]; cases b <;> cases f <;> simp <;> grind) k
theorem pinsAt_le (c : Cyl) (a : Int) : (pinsAt c a).length ≤ c.p.length := by
  unfold pinsAt
  split
  · simpa using List.length_filter_le _ _
  · simp
theorem it_p (c : Cyl) (x : Stt) : ∀ k, (itS c x k).p = x.p + (itL c x k).length ∧ (itL c x k).length ≤ k * c.p.length
  | 0 => by simp [itS, itL]
  | k + 1 => by
    obtain ⟨h1, h2⟩ := it_p c x k
    have h3 := pinsAt_le c (itS c x k).a
    simp only [itS, itL, nextStt, List.length_append, h1, Nat.add_mul]
    omega
/-- A state of a small cylinder. -/
structure Small (c : Cyl) (x : Stt) : Prop where
  ok : sttOk c x = true
  len : c.p.length ≤ 9
  p : x.p ≤ 77
theorem Small.it {c : Cyl} {x : Stt} (h : Small c x) (hn : x.n = true) {k : Nat} (hk : k ≤ runN c x) : sttOk c (itS c x k) = true := by
  have h0 := (sttOk_iff c x).1 h.ok
  have hb := cylOk_bounds h0.1
  have h1 := it_p c x k
  have h77 := h.p
  have h2 : k * c.p.length ≤ 96 * 9 := Nat.mul_le_mul (by simp only [runN] at hk; omega) h.len
  rw [sttOk_iff]
  refine ⟨h0.1, ?_, by omega⟩
  by_cases e : k < runN c x
  · have := (itS_on h.ok hn k e).1
    simp only [runN] at e
    omega
  · obtain rfl : k = runN c x := by omega
    have := (itS_off h.ok hn).1
    omega
theorem Small.can {c : Cyl} {x : Stt} (h : Small c x) (hn : x.n = true) {k : Nat} (hk : k < runN c x) : canStep c (itS c x k) = true := by
  rw [canStep_iff]
  exact ⟨h.it hn (by omega), (itS_on h.ok hn k hk).2, h.it hn (k := k + 1) hk⟩
def runM (c : Cyl) (x : Stt) : Nat := if x.n then runN c x else 0
theorem Small.steps {c : Cyl} {x : Stt} (h : Small c x) : stepsLeft c x = runM c x := by
  have h0 := (sttOk_iff c x).1 h.ok
  unfold stepsLeft runM
  rw [if_pos h.ok]
  cases x.n
  · simp
  · simp only [if_true, runN]; omega
theorem Small.run {c : Cyl} {x : Stt} (h : Small c x) : runBox c x = (itS c x (runM c x), itL c x (runM c x)) := by
  unfold runBox runM
  cases hn : x.n with
  | false =>
    have : runOk c x = false := by simp [runOk, hn]
    simp [this, itS, itL]
  | true =>
    have : runOk c x = true := by
      simp only [runOk, h.ok, hn, Bool.true_and, List.all_eq_true, List.mem_range]
      intro k hk; exact h.can hn hk
    simp [this]
end Go.Mw

/- The law on stops. -/
namespace Go.Mw
end Go.Mw

/- What functions compute, in plain terms: sorted pins; setting a pin. -/
namespace Go.Mw
def cmpPins (x y : T2) : Int := if pinLess x y then -1 else if x = y then 0 else 1
def sortPins (l : List T2) : List T2 := l.mergeSort fun x y => !pinLess y x
def E_slices_SortFunc_Limpl_Pin_impl_Pin (l : List T2) : List V := [vL I2 v2 l]
noncomputable def F_slices_SortFunc_Limpl_Pin_impl_Pin : List V → Option (List V) := mkF E_slices_SortFunc_Limpl_Pin_impl_Pin (fun l => l.length ≤ 1048576) (fun l => [vL I2 v2 (sortPins l)])
theorem F_slices_SortFunc_Limpl_Pin_impl_Pin_inj : ∀ x y, E_slices_SortFunc_Limpl_Pin_impl_Pin x = E_slices_SortFunc_Limpl_Pin_impl_Pin y → x = y := by
  rintro l l' h
  simpa [E_slices_SortFunc_Limpl_Pin_impl_Pin] using h
theorem p_slices_SortFunc_Limpl_Pin_impl_Pin {l : List T2} {kk_ : V → Prop} (hp : l.length ≤ 1048576) : P1 (.call F_slices_SortFunc_Limpl_Pin_impl_Pin 1 0) [vL I2 v2 l, vL I2 v2 l] kk_ ↔ kk_ (vL I2 v2 (sortPins l)) :=
  P1_of (callIo_run (as := [vL I2 v2 l]) (rs := [vL I2 v2 l]) (n := 1) (nr := 0) rfl (by simp) (by unfold F_slices_SortFunc_Limpl_Pin_impl_Pin; exact mkF_eq F_slices_SortFunc_Limpl_Pin_impl_Pin_inj (l) hp) (by simp [ksAll, vL, AK.eqs_refl]) rfl) kk_

def E_sortedPins (l : List T2) : List V := [vL I2 v2 l]
noncomputable def F_sortedPins : List V → Option (List V) := mkF E_sortedPins (fun l => l.length ≤ 1048576) (fun l => [vL I2 v2 (sortPins l)])
theorem F_sortedPins_inj : ∀ x y, E_sortedPins x = E_sortedPins y → x = y := by
  rintro l l' h
  simpa [E_sortedPins] using h
theorem F_sortedPins_elim {P : List V → List V → Prop} (h : ∀ (l : List T2), (l.length ≤ 1048576) → P [vL I2 v2 l] [vL I2 v2 (sortPins l)]) : ∀ ds outs, F_sortedPins ds = some outs → P ds outs := by
  intro ds outs hh
  obtain ⟨l, rfl, hp, rfl⟩ := mkF_inv hh
  exact h l hp
theorem p_sortedPins {l : List T2} {nr_ : Nat} {kk_ : V → Prop} (hp : l.length ≤ 1048576) : P1 (.call F_sortedPins 0 nr_) [vL I2 v2 l] kk_ ↔ kk_ (vL I2 v2 (sortPins l)) :=
  P1_callF (by unfold F_sortedPins; exact mkF_eq F_sortedPins_inj (l) hp)

def addOk (c : Cyl) (p : T2) : Bool := cylOk c && (!decide (p ∈ c.p) && cylOk ⟨c.s, c.t, putPin c.p p⟩)
def addTo (c : Cyl) (p : T2) : Cyl := if addOk c p then ⟨c.s, c.t, putPin c.p p⟩ else c
def E_AddPin : Cyl × T2 → List V := fun (x, y) => [.int .i64 x.s, .int .i64 x.t, vL I2 v2 x.p, .int .i64 y.a, .int .i64 y.b]
noncomputable def F_AddPin : List V → Option (List V) := mkF E_AddPin (fun (x, _) => x.p.length ≤ 1048576) (fun (x, y) => [.int .i64 (addTo x y).s, .int .i64 (addTo x y).t, vL I2 v2 (addTo x y).p, .bool (addOk x y)])
theorem F_AddPin_inj : ∀ x y, E_AddPin x = E_AddPin y → x = y := by
  rintro ⟨⟨xs, xt, xp⟩, ⟨ya, yb⟩⟩ ⟨⟨xs', xt', xp'⟩, ⟨ya', yb'⟩⟩ h
  simpa [E_AddPin, and_assoc] using h
theorem F_AddPin_elim {P : List V → List V → Prop} (h : ∀ (x : Cyl) (y : T2), (x.p.length ≤ 1048576) → P [.int .i64 x.s, .int .i64 x.t, vL I2 v2 x.p, .int .i64 y.a, .int .i64 y.b] [.int .i64 (addTo x y).s, .int .i64 (addTo x y).t, vL I2 v2 (addTo x y).p, .bool (addOk x y)]) : ∀ ds outs, F_AddPin ds = some outs → P ds outs := by
  intro ds outs hh
  obtain ⟨⟨x, y⟩, rfl, hp, rfl⟩ := mkF_inv hh
  exact h x y hp
theorem p_AddPin {x_s : Int} {x_t : Int} {x_p : List T2} {y_a : Int} {y_b : Int} {nr_ : Nat} {kk_ : V → V → V → V → Prop} (hp : (⟨x_s, x_t, x_p⟩ : Cyl).p.length ≤ 1048576) : P4 (.call F_AddPin 0 nr_) [.int .i64 x_s, .int .i64 x_t, vL I2 v2 x_p, .int .i64 y_a, .int .i64 y_b] kk_ ↔ kk_ (.int .i64 (addTo (⟨x_s, x_t, x_p⟩ : Cyl) (⟨y_a, y_b⟩ : T2)).s) (.int .i64 (addTo (⟨x_s, x_t, x_p⟩ : Cyl) (⟨y_a, y_b⟩ : T2)).t) (vL I2 v2 (addTo (⟨x_s, x_t, x_p⟩ : Cyl) (⟨y_a, y_b⟩ : T2)).p) (.bool (addOk (⟨x_s, x_t, x_p⟩ : Cyl) (⟨y_a, y_b⟩ : T2))) :=
  P4_callF (by unfold F_AddPin; exact mkF_eq F_AddPin_inj ((⟨x_s, x_t, x_p⟩ : Cyl), (⟨y_a, y_b⟩ : T2)) hp)

def setPin (b : Bench) (p : T2) : Bench := stepTo b (addTo b.cyl p) (addOk b.cyl p)
def E_SetPin : Bench × T2 → List V := fun (x, y) => [.int .i64 x.s, .int .i64 x.t, vL I2 v2 x.p, vL IL2 vLL2 x.o, .int .i64 y.a, .int .i64 y.b]
noncomputable def F_SetPin : List V → Option (List V) := mkF E_SetPin (fun (x, _) => x.p.length ≤ 1048576 ∧ fitLL x.o) (fun (x, y) => [.int .i64 (setPin x y).s, .int .i64 (setPin x y).t, vL I2 v2 (setPin x y).p, vL IL2 vLL2 (setPin x y).o, .bool (addOk x.cyl y && stepOk x (addTo x.cyl y))])
theorem F_SetPin_inj : ∀ x y, E_SetPin x = E_SetPin y → x = y := by
  rintro ⟨⟨xs, xt, xp, xo⟩, ⟨ya, yb⟩⟩ ⟨⟨xs', xt', xp', xo'⟩, ⟨ya', yb'⟩⟩ h
  simpa [E_SetPin, and_assoc] using h
theorem F_SetPin_elim {P : List V → List V → Prop} (h : ∀ (x : Bench) (y : T2), (x.p.length ≤ 1048576 ∧ fitLL x.o) → P [.int .i64 x.s, .int .i64 x.t, vL I2 v2 x.p, vL IL2 vLL2 x.o, .int .i64 y.a, .int .i64 y.b] [.int .i64 (setPin x y).s, .int .i64 (setPin x y).t, vL I2 v2 (setPin x y).p, vL IL2 vLL2 (setPin x y).o, .bool (addOk x.cyl y && stepOk x (addTo x.cyl y))]) : ∀ ds outs, F_SetPin ds = some outs → P ds outs := by
  intro ds outs hh
  obtain ⟨⟨x, y⟩, rfl, hp, rfl⟩ := mkF_inv hh
  exact h x y hp
theorem p_SetPin {x_s : Int} {x_t : Int} {x_p : List T2} {x_o : List (List T2)} {y_a : Int} {y_b : Int} {nr_ : Nat} {kk_ : V → V → V → V → V → Prop} (hp : (⟨x_s, x_t, x_p, x_o⟩ : Bench).p.length ≤ 1048576 ∧ fitLL (⟨x_s, x_t, x_p, x_o⟩ : Bench).o) : P5 (.call F_SetPin 0 nr_) [.int .i64 x_s, .int .i64 x_t, vL I2 v2 x_p, vL IL2 vLL2 x_o, .int .i64 y_a, .int .i64 y_b] kk_ ↔ kk_ (.int .i64 (setPin (⟨x_s, x_t, x_p, x_o⟩ : Bench) (⟨y_a, y_b⟩ : T2)).s) (.int .i64 (setPin (⟨x_s, x_t, x_p, x_o⟩ : Bench) (⟨y_a, y_b⟩ : T2)).t) (vL I2 v2 (setPin (⟨x_s, x_t, x_p, x_o⟩ : Bench) (⟨y_a, y_b⟩ : T2)).p) (vL IL2 vLL2 (setPin (⟨x_s, x_t, x_p, x_o⟩ : Bench) (⟨y_a, y_b⟩ : T2)).o) (.bool (addOk (⟨x_s, x_t, x_p, x_o⟩ : Bench).cyl (⟨y_a, y_b⟩ : T2) && stepOk (⟨x_s, x_t, x_p, x_o⟩ : Bench) (addTo (⟨x_s, x_t, x_p, x_o⟩ : Bench).cyl (⟨y_a, y_b⟩ : T2)))) :=
  P5_callF (by unfold F_SetPin; exact mkF_eq F_SetPin_inj ((⟨x_s, x_t, x_p, x_o⟩ : Bench), (⟨y_a, y_b⟩ : T2)) hp)

end Go.Mw

/- Functions of the program, as small pure programs (printed by a program of ours). -/
namespace Go.Mw
noncomputable section
def spec_AddPin_L : L := .seq (.rg []) (.seq (.rg [⟨[], .call F_l06Copy 0 3, [.v 0, .v 1, .v 2], 3⟩]) (.seq (.seq (.rg [⟨[], .call F_CylinderOk 0 1, [.v 0, .v 1, .v 2], 1⟩, ⟨[], .un .not, [.v 8], 1⟩]) (.ite (.v 9) (.seq (.rg []) (.ret [.v 5, .v 6, .v 7, .k (.bool false)])) (.skip))) (.seq (.rg [⟨[], .call F_l06Put 0 2, [.v 2, .v 3, .v 4], 2⟩]) (.seq (.rg []) (.seq (.seq (.rg [⟨[], .un .not, [.v 11], 1⟩, ⟨[(.v 12, false)], .call F_CylinderOk 0 1, [.v 5, .v 6, .v 10], 1⟩, ⟨[(.v 12, false)], .un .not, [.v 13], 1⟩, ⟨[], .pick, [.v 12, .k (.bool true), .v 14], 1⟩]) (.ite (.v 15) (.seq (.rg [⟨[], .call F_l06Copy 0 3, [.v 0, .v 1, .v 2], 3⟩]) (.ret [.v 16, .v 17, .v 18, .k (.bool false)])) (.skip))) (.seq (.rg []) (.ret [.v 5, .v 6, .v 10, .k (.bool true)])))))))
theorem spec_AddPin_L_sh (Q : QT) (x0 x1 x2 x3 x4 : V) : shL spec_AddPin_L Q [x0, x1, x2, x3, x4] = (
  P3 (.call F_l06Copy 0 3) [x0, x1, x2] fun v0 v1 v2 =>
  P1 (.call F_CylinderOk 0 1) [x0, x1, x2] fun v3 =>
  P1 (.un .not) [v3] fun v4 =>
  ifB v4 (
    Q .ret [v0, v1, v2, .bool false]) (
    P2 (.call F_l06Put 0 2) [x2, x3, x4] fun v5 v6 =>
    P1 (.un .not) [v6] fun v7 =>
    ifB v7 (
      P3 (.call F_l06Copy 0 3) [x0, x1, x2] fun v8 v9 v10 =>
      Q .ret [v8, v9, v10, .bool false]) (
      P1 (.call F_CylinderOk 0 1) [v0, v1, v5] fun v11 =>
      P1 (.un .not) [v11] fun v12 =>
      ifB v12 (
        P3 (.call F_l06Copy 0 3) [x0, x1, x2] fun v13 v14 v15 =>
        Q .ret [v13, v14, v15, .bool false]) (
        Q .ret [v0, v1, v5, .bool true])))) := by kernel_rfl
def spec_AddPin_S : Sig := ⟨[.val true [.sc, .sc, .sl [.sc, .sc]], .val true [.sc, .sc]], [(true, [.sc, .sc, .sl [.sc, .sc]]), (false, [.sc])], F_AddPin⟩
def spec_AddPin_hs : List NF := []

def spec_SetPin_L : L := .seq (.rg []) (.seq (.rg [⟨[], .call F_AddPin 0 4, [.v 0, .v 1, .v 2, .v 4, .v 5], 4⟩]) (.seq (.seq (.rg [⟨[], .un .not, [.v 9], 1⟩]) (.ite (.v 10) (.seq (.rg [⟨[], .call F_l37Copy 0 4, [.v 0, .v 1, .v 2, .v 3], 4⟩]) (.ret [.v 11, .v 12, .v 13, .v 14, .k (.bool false)])) (.skip))) (.seq (.rg [⟨[], .call F_l37Step 0 5, [.v 0, .v 1, .v 2, .v 3, .v 6, .v 7, .v 8], 5⟩]) (.seq (.rg []) (.ret [.v 11, .v 12, .v 13, .v 14, .v 15])))))
theorem spec_SetPin_L_sh (Q : QT) (x0 x1 x2 x3 x4 x5 : V) : shL spec_SetPin_L Q [x0, x1, x2, x3, x4, x5] = (
  P4 (.call F_AddPin 0 4) [x0, x1, x2, x4, x5] fun v0 v1 v2 v3 =>
  P1 (.un .not) [v3] fun v4 =>
  ifB v4 (
    P4 (.call F_l37Copy 0 4) [x0, x1, x2, x3] fun v5 v6 v7 v8 =>
    Q .ret [v5, v6, v7, v8, .bool false]) (
    P5 (.call F_l37Step 0 5) [x0, x1, x2, x3, v0, v1, v2] fun v9 v10 v11 v12 v13 =>
    Q .ret [v9, v10, v11, v12, v13])) := by kernel_rfl
def spec_SetPin_S : Sig := ⟨[.val true [.sc, .sc, .sl [.sc, .sc], .sl [.sl [.sc, .sc]]], .val true [.sc, .sc]], [(true, [.sc, .sc, .sl [.sc, .sc], .sl [.sl [.sc, .sc]]]), (false, [.sc])], F_SetPin⟩
def spec_SetPin_hs : List NF := []

def impl_sortedPins_L : L := .seq (.rg []) (.seq (.rg [⟨[], .call F_copyPins 0 1, [.v 0], 1⟩]) (.seq (.rg [⟨[], .call F_slices_SortFunc_Limpl_Pin_impl_Pin 1 0, [.v 1, .v 1], 1⟩]) (.seq (.rg []) (.ret [.v 2]))))
theorem impl_sortedPins_L_sh (Q : QT) (x0 : V) : shL impl_sortedPins_L Q [x0] = (
  P1 (.call F_copyPins 0 1) [x0] fun v0 =>
  P1 (.call F_slices_SortFunc_Limpl_Pin_impl_Pin 1 0) [v0, v0] fun v1 =>
  Q .ret [v1]) := by kernel_rfl
def impl_sortedPins_S : Sig := ⟨[.val false [.sl [.sc, .sc]]], [(false, [.sl [.sc, .sc]])], F_sortedPins⟩
def impl_sortedPins_hs : List NF := []

def impl_AddPin_L : L := .seq (.rg []) (.seq (.seq (.rg [⟨[], .call F_CylinderOk 0 1, [.v 0, .v 1, .v 2], 1⟩, ⟨[], .un .not, [.v 5], 1⟩, ⟨[(.v 6, false)], .call F_hasPin 0 1, [.v 2, .v 3, .v 4], 1⟩, ⟨[], .pick, [.v 6, .k (.bool true), .v 7], 1⟩]) (.ite (.v 8) (.seq (.rg [⟨[], .call F_copyCylinder 0 3, [.v 0, .v 1, .v 2], 3⟩]) (.ret [.v 9, .v 10, .v 11, .k (.bool false)])) (.skip))) (.seq (.rg [⟨[], .call F_copyCylinder 0 3, [.v 0, .v 1, .v 2], 3⟩]) (.seq (.rg [⟨[], .lst [.sc, .sc] true 1, [.v 3, .v 4], 1⟩, ⟨[], .app [.sc, .sc] 16, [.v 11, .v 12], 1⟩, ⟨[], .call F_sortedPins 0 1, [.v 13], 1⟩]) (.seq (.seq (.rg [⟨[], .call F_CylinderOk 0 1, [.v 9, .v 10, .v 14], 1⟩, ⟨[], .un .not, [.v 15], 1⟩]) (.ite (.v 16) (.seq (.rg [⟨[], .call F_copyCylinder 0 3, [.v 0, .v 1, .v 2], 3⟩]) (.ret [.v 17, .v 18, .v 19, .k (.bool false)])) (.skip))) (.seq (.rg []) (.ret [.v 9, .v 10, .v 14, .k (.bool true)]))))))
theorem impl_AddPin_L_sh (Q : QT) (x0 x1 x2 x3 x4 : V) : shL impl_AddPin_L Q [x0, x1, x2, x3, x4] = (
  P1 (.call F_CylinderOk 0 1) [x0, x1, x2] fun v0 =>
  P1 (.un .not) [v0] fun v1 =>
  ifB v1 (
    P3 (.call F_copyCylinder 0 3) [x0, x1, x2] fun v2 v3 v4 =>
    Q .ret [v2, v3, v4, .bool false]) (
    P1 (.call F_hasPin 0 1) [x2, x3, x4] fun v5 =>
    ifB v5 (
      P3 (.call F_copyCylinder 0 3) [x0, x1, x2] fun v6 v7 v8 =>
      Q .ret [v6, v7, v8, .bool false]) (
      P3 (.call F_copyCylinder 0 3) [x0, x1, x2] fun v9 v10 v11 =>
      P1 (.lst [.sc, .sc] true 1) [x3, x4] fun v12 =>
      P1 (.app [.sc, .sc] 16) [v11, v12] fun v13 =>
      P1 (.call F_sortedPins 0 1) [v13] fun v14 =>
      P1 (.call F_CylinderOk 0 1) [v9, v10, v14] fun v15 =>
      P1 (.un .not) [v15] fun v16 =>
      ifB v16 (
        P3 (.call F_copyCylinder 0 3) [x0, x1, x2] fun v17 v18 v19 =>
        Q .ret [v17, v18, v19, .bool false]) (
        Q .ret [v9, v10, v14, .bool true])))) := by kernel_rfl
def impl_AddPin_S : Sig := ⟨[.val true [.sc, .sc, .sl [.sc, .sc]], .val true [.sc, .sc]], [(true, [.sc, .sc, .sl [.sc, .sc]]), (false, [.sc])], F_AddPin⟩
def impl_AddPin_hs : List NF := []

def impl_SetPin_L : L := .seq (.rg []) (.seq (.rg [⟨[], .call F_AddPin 0 4, [.v 0, .v 1, .v 2, .v 4, .v 5], 4⟩]) (.seq (.rg [⟨[], .call F_replaced 0 5, [.v 0, .v 1, .v 2, .v 3, .v 6, .v 7, .v 8, .v 9], 5⟩]) (.ret [.v 10, .v 11, .v 12, .v 13, .v 14])))
theorem impl_SetPin_L_sh (Q : QT) (x0 x1 x2 x3 x4 x5 : V) : shL impl_SetPin_L Q [x0, x1, x2, x3, x4, x5] = (
  P4 (.call F_AddPin 0 4) [x0, x1, x2, x4, x5] fun v0 v1 v2 v3 =>
  P5 (.call F_replaced 0 5) [x0, x1, x2, x3, v0, v1, v2, v3] fun v4 v5 v6 v7 v8 =>
  Q .ret [v4, v5, v6, v7, v8]) := by kernel_rfl
def impl_SetPin_S : Sig := ⟨[.val true [.sc, .sc, .sl [.sc, .sc], .sl [.sl [.sc, .sc]]], .val true [.sc, .sc]], [(true, [.sc, .sc, .sl [.sc, .sc], .sl [.sl [.sc, .sc]]]), (false, [.sc])], F_SetPin⟩
def impl_SetPin_hs : List NF := []

end
end Go.Mw

/- Sorting pins; setting a pin. -/
namespace Go.Mw
def leP (x y : T2) : Bool := !pinLess y x
theorem leP_iff {x y : T2} : leP x y = true ↔ x.b < y.b ∨ x.b = y.b ∧ x.a ≤ y.a := by
  simp only [leP, pinLess, Bool.not_eq_true', decide_eq_false_iff_not]; omega
theorem leP_trans (x y z : T2) (h1 : leP x y = true) (h2 : leP y z = true) : leP x z = true := by
  rw [leP_iff] at *; omega
theorem leP_total (x y : T2) : (leP x y || leP y x) = true := by
  rw [Bool.or_eq_true, leP_iff, leP_iff]; omega
theorem leP_anti {x y : T2} (h1 : leP x y = true) (h2 : leP y x = true) : x = y := by
  cases x; cases y
  rw [leP_iff] at *
  simp only [T2.mk.injEq] at *
  omega
theorem perm_one : ∀ {l m : List T2}, l.Pairwise (fun x y => leP x y = true) → m.Pairwise (fun x y => leP x y = true) → l.Perm m → l = m
  | [], m, _, _, h => by simpa using h.symm.eq_nil
  | a :: r, [], _, _, h => by simpa using h.eq_nil
  | a :: r, b :: s, h1, h2, h => by
    have hab : a = b := by
      have ha : a ∈ b :: s := h.subset (by simp)
      have hb : b ∈ a :: r := h.symm.subset (by simp)
      rcases List.mem_cons.1 ha with e | ha
      · exact e
      · rcases List.mem_cons.1 hb with e | hb
        · exact e.symm
        · exact leP_anti (List.rel_of_pairwise_cons h1 hb) (List.rel_of_pairwise_cons h2 ha)
    subst hab
    rw [perm_one h1.of_cons h2.of_cons (List.Perm.cons_inv h)]
theorem pinLess_trans {a b c : T2} (h1 : pinLess a b = true) (h2 : pinLess b c = true) : pinLess a c = true := by
  simp only [pinLess, decide_eq_true_eq] at *; omega
theorem pinLess_irrefl (a : T2) : pinLess a a = false := by simp [pinLess]
theorem rising_less {a : T2} : ∀ {l : List T2}, rising (a :: l) = true → ∀ b ∈ l, pinLess a b = true
  | [], _, b, hb => by simp at hb
  | c :: r, h, b, hb => by
    have h1 := rising_cons.1 h
    have h2 : pinLess a c = true := h1.1 c rfl
    rcases List.mem_cons.1 hb with rfl | hb
    · exact h2
    · exact pinLess_trans h2 (rising_less h1.2 b hb)
theorem rising_sorted : ∀ {l : List T2}, rising l = true → l.Pairwise (fun x y => leP x y = true)
  | [], _ => .nil
  | a :: r, h => by
    refine .cons (fun b hb => ?_) (rising_sorted (rising_cons.1 h).2)
    have := rising_less h b hb
    rw [leP_iff]; simp only [pinLess, decide_eq_true_eq] at this; omega
theorem putPin_perm : ∀ {l : List T2} {y : T2}, y ∉ l → (putPin l y).Perm (l ++ [y])
  | [], y, _ => by simp [putPin]
  | a :: r, y, h => by
    simp only [List.mem_cons, not_or] at h
    unfold putPin
    split
    · exact .cons _ (putPin_perm h.2)
    · rw [if_neg (fun e => h.1 e.symm)]
      exact (List.perm_append_singleton y (a :: r)).symm
theorem sort_put {l : List T2} {y : T2} (h : rising l = true) (hy : y ∉ l) : sortPins (l ++ [y]) = putPin l y := by
  refine perm_one ?_ (rising_sorted (putPin_rising h)) ((List.mergeSort_perm _ _).trans (putPin_perm hy).symm)
  exact List.pairwise_mergeSort leP_trans leP_total _
theorem putNew_iff : ∀ {l : List T2} {y : T2}, rising l = true → putNew l y = !decide (y ∈ l)
  | [], y, _ => by simp [putNew]
  | a :: r, y, h => by
    have h1 := rising_cons.1 h
    unfold putNew
    by_cases h2 : pinLess a y = true
    · rw [if_pos h2, putNew_iff h1.2]
      have : y ≠ a := by rintro rfl; rw [pinLess_irrefl] at h2; cases h2
      simp [this]
    · rw [if_neg h2]
      by_cases h3 : a = y
      · simp [h3]
      · have h4 : y ∉ r := fun hr => h2 (rising_less h y hr)
        have h5 : ¬ y = a := fun e => h3 e.symm
        simp [h3, h4, h5]
theorem cylOk_rising {c : Cyl} (h : cylOk c = true) : rising c.p = true := by
  simp only [cylOk, Bool.and_eq_true] at h; exact h.2.2

theorem impl_sortedPins_ok : ∀ ds outs, F_sortedPins ds = some outs → shL impl_sortedPins_L (qRet outs) ds := F_sortedPins_elim fun l hp => by
  rw [impl_sortedPins_L_sh, p_copyPins (by omega), p_slices_SortFunc_Limpl_Pin_impl_Pin hp]
  simp
theorem spec_AddPin_ok : ∀ ds outs, F_AddPin ds = some outs → shL spec_AddPin_L (qRet outs) ds := F_AddPin_elim fun x y hp => by
  have hp4 : x.p.length ≤ 4194304 := by omega
  rw [spec_AddPin_L_sh, p_l06Copy (x_p := x.p) hp4]
  simp only [p_CylinderOk (x_p := x.p) hp, Cyl.eta, p_l06Copy (x_p := x.p) hp4]
  cases h : cylOk x with
  | false => simp [h, addTo, addOk]
  | true =>
    have hl := (cylOk_bounds h).2.2
    have h1 := putPin_len x.p y
    rw [P1_not, p_l06Put hp, putNew_iff (cylOk_rising h)]
    simp only [p_CylinderOk (x_p := putPin x.p y) (show _ ≤ 1048576 by show (putPin x.p y).length ≤ _; omega)]
    by_cases h2 : y ∈ x.p
    · simp [h, h2, addTo, addOk]
    · cases h3 : cylOk ⟨x.s, x.t, putPin x.p y⟩ <;> simp [h, h2, h3, addTo, addOk]
theorem impl_AddPin_ok : ∀ ds outs, F_AddPin ds = some outs → shL impl_AddPin_L (qRet outs) ds := F_AddPin_elim fun x y hp => by
  have hp4 : x.p.length ≤ 4194304 := by omega
  rw [impl_AddPin_L_sh]
  simp only [p_CylinderOk (x_p := x.p) hp, Cyl.eta, p_copyCylinder (x_p := x.p) hp4, p_hasPin hp]
  cases h : cylOk x with
  | false => simp [h, addTo, addOk]
  | true =>
    have hl := (cylOk_bounds h).2.2
    have h1 := putPin_len x.p y
    by_cases h2 : y ∈ x.p
    · simp [h, h2, addTo, addOk]
    · have e := sort_put (cylOk_rising h) h2
      have h5 : (x.p ++ [y]).length ≤ 1048576 := by simp; omega
      have h6 : (x.p.length + 1) * 16 ≤ 140737488355328 ∧ x.p.length ≤ 140737488355327 := by omega
      have h7 := fun (nr_ : Nat) (kk_ : V → Prop) => p_sortedPins (nr_ := nr_) (kk_ := kk_) h5
      rw [e] at h7
      simp [h2, h6, h7]
      rw [p_CylinderOk (x_p := putPin x.p y) (show _ ≤ 1048576 by show (putPin x.p y).length ≤ _; omega)]
      cases h3 : cylOk ⟨x.s, x.t, putPin x.p y⟩ <;> simp [h, h2, h3, addTo, addOk]
theorem addTo_len {c : Cyl} {p : T2} (h : c.p.length ≤ 1048576) : (addTo c p).p.length ≤ 1048576 := by
  unfold addTo
  cases h2 : addOk c p with
  | false => simpa using h
  | true =>
    simp only [addOk, Bool.and_eq_true] at h2
    have := (cylOk_bounds h2.2.2).2.2
    simp only [if_true]
    dsimp only at this ⊢
    omega
theorem spec_SetPin_ok : ∀ ds outs, F_SetPin ds = some outs → shL spec_SetPin_L (qRet outs) ds := F_SetPin_elim fun x y hp => by
  rw [spec_SetPin_L_sh, p_AddPin (x_p := x.p) hp.1]
  have e0 : (⟨x.s, x.t, x.p⟩ : Cyl) = x.cyl := rfl
  have e1 : (⟨x.s, x.t, x.p, x.o⟩ : Bench) = x := rfl
  have e2 : (⟨y.a, y.b⟩ : T2) = y := rfl
  have hl := addTo_len (p := y) (show x.cyl.p.length ≤ 1048576 from hp.1)
  simp only [e0, e2]
  cases h : addOk x.cyl y with
  | false =>
    simp only [p_l37Copy (x_p := x.p) (x_o := x.o) hp]
    simp [setPin, stepTo, h]
  | true =>
    unfold setPin
    rw [h]
    generalize addTo x.cyl y = c at *
    simp only [p_l37Step (x_p := x.p) (x_o := x.o) (y_p := c.p) ⟨hp.1, hp.2, hl⟩]
    simp
theorem impl_SetPin_ok : ∀ ds outs, F_SetPin ds = some outs → shL impl_SetPin_L (qRet outs) ds := F_SetPin_elim fun x y hp => by
  rw [impl_SetPin_L_sh, p_AddPin (x_p := x.p) hp.1]
  have e0 : (⟨x.s, x.t, x.p⟩ : Cyl) = x.cyl := rfl
  have e2 : (⟨y.a, y.b⟩ : T2) = y := rfl
  have hl := addTo_len (p := y) (show x.cyl.p.length ≤ 1048576 from hp.1)
  simp only [e0, e2]
  unfold setPin
  generalize addTo x.cyl y = c at *
  rw [p_replaced (x_p := x.p) (x_o := x.o) (y_p := c.p) ⟨hp.1, hp.2, hl⟩]
  simp
theorem setPin_small {b : Bench} {p : T2} (h : bSmall b) : bSmall (setPin b p) := stepTo_small h
end Go.Mw

/- What functions compute, in plain terms: acts. -/
namespace Go.Mw
def canSet (b : Bench) (p : T2) : Bool := addOk b.cyl p && stepOk b (addTo b.cyl p)
def E_PutPin : Shop × Int × Int → List V := fun (x, t, a) => [.int .i64 x.s, .int .i64 x.t, vL I2 v2 x.p, vL IL2 vLL2 x.o, vL I1 v1 x.c, .int .i64 x.u, .int .i64 x.m, .int .i64 x.f, .int .i64 x.y, .int .i64 x.d, .int .i64 t, .int .i64 a]
noncomputable def F_PutPin : List V → Option (List V) := mkF E_PutPin (fun (x, _, _) => x.p.length ≤ 1048576 ∧ fitLL x.o ∧ x.c.length ≤ 1048576) (fun (x, t, a) => [.int .i64 (withBench x (setPin x.bench ⟨t, a⟩) 1 (canSet x.bench ⟨t, a⟩)).s, .int .i64 (withBench x (setPin x.bench ⟨t, a⟩) 1 (canSet x.bench ⟨t, a⟩)).t, vL I2 v2 (withBench x (setPin x.bench ⟨t, a⟩) 1 (canSet x.bench ⟨t, a⟩)).p, vL IL2 vLL2 (withBench x (setPin x.bench ⟨t, a⟩) 1 (canSet x.bench ⟨t, a⟩)).o, vL I1 v1 (withBench x (setPin x.bench ⟨t, a⟩) 1 (canSet x.bench ⟨t, a⟩)).c, .int .i64 (withBench x (setPin x.bench ⟨t, a⟩) 1 (canSet x.bench ⟨t, a⟩)).u, .int .i64 (withBench x (setPin x.bench ⟨t, a⟩) 1 (canSet x.bench ⟨t, a⟩)).m, .int .i64 (withBench x (setPin x.bench ⟨t, a⟩) 1 (canSet x.bench ⟨t, a⟩)).f, .int .i64 (withBench x (setPin x.bench ⟨t, a⟩) 1 (canSet x.bench ⟨t, a⟩)).y, .int .i64 (withBench x (setPin x.bench ⟨t, a⟩) 1 (canSet x.bench ⟨t, a⟩)).d, .bool (benchFits x (setPin x.bench ⟨t, a⟩) 1 (canSet x.bench ⟨t, a⟩))])
theorem F_PutPin_inj : ∀ x y, E_PutPin x = E_PutPin y → x = y := by
  rintro ⟨⟨xs, xt, xp, xo, xc, xu, xm, xf, xy, xd⟩, t, a⟩ ⟨⟨xs', xt', xp', xo', xc', xu', xm', xf', xy', xd'⟩, t', a'⟩ h
  simpa [E_PutPin, and_assoc] using h
theorem F_PutPin_elim {P : List V → List V → Prop} (h : ∀ (x : Shop) (t : Int) (a : Int), (x.p.length ≤ 1048576 ∧ fitLL x.o ∧ x.c.length ≤ 1048576) → P [.int .i64 x.s, .int .i64 x.t, vL I2 v2 x.p, vL IL2 vLL2 x.o, vL I1 v1 x.c, .int .i64 x.u, .int .i64 x.m, .int .i64 x.f, .int .i64 x.y, .int .i64 x.d, .int .i64 t, .int .i64 a] [.int .i64 (withBench x (setPin x.bench ⟨t, a⟩) 1 (canSet x.bench ⟨t, a⟩)).s, .int .i64 (withBench x (setPin x.bench ⟨t, a⟩) 1 (canSet x.bench ⟨t, a⟩)).t, vL I2 v2 (withBench x (setPin x.bench ⟨t, a⟩) 1 (canSet x.bench ⟨t, a⟩)).p, vL IL2 vLL2 (withBench x (setPin x.bench ⟨t, a⟩) 1 (canSet x.bench ⟨t, a⟩)).o, vL I1 v1 (withBench x (setPin x.bench ⟨t, a⟩) 1 (canSet x.bench ⟨t, a⟩)).c, .int .i64 (withBench x (setPin x.bench ⟨t, a⟩) 1 (canSet x.bench ⟨t, a⟩)).u, .int .i64 (withBench x (setPin x.bench ⟨t, a⟩) 1 (canSet x.bench ⟨t, a⟩)).m, .int .i64 (withBench x (setPin x.bench ⟨t, a⟩) 1 (canSet x.bench ⟨t, a⟩)).f, .int .i64 (withBench x (setPin x.bench ⟨t, a⟩) 1 (canSet x.bench ⟨t, a⟩)).y, .int .i64 (withBench x (setPin x.bench ⟨t, a⟩) 1 (canSet x.bench ⟨t, a⟩)).d, .bool (benchFits x (setPin x.bench ⟨t, a⟩) 1 (canSet x.bench ⟨t, a⟩))]) : ∀ ds outs, F_PutPin ds = some outs → P ds outs := by
  intro ds outs hh
  obtain ⟨⟨x, t, a⟩, rfl, hp, rfl⟩ := mkF_inv hh
  exact h x t a hp
theorem p_PutPin {x_s : Int} {x_t : Int} {x_p : List T2} {x_o : List (List T2)} {x_c : List Int} {x_u : Int} {x_m : Int} {x_f : Int} {x_y : Int} {x_d : Int} {t : Int} {a : Int} {nr_ : Nat} {kk_ : V → V → V → V → V → V → V → V → V → V → V → Prop} (hp : (⟨x_s, x_t, x_p, x_o, x_c, x_u, x_m, x_f, x_y, x_d⟩ : Shop).p.length ≤ 1048576 ∧ fitLL (⟨x_s, x_t, x_p, x_o, x_c, x_u, x_m, x_f, x_y, x_d⟩ : Shop).o ∧ (⟨x_s, x_t, x_p, x_o, x_c, x_u, x_m, x_f, x_y, x_d⟩ : Shop).c.length ≤ 1048576) : P11 (.call F_PutPin 0 nr_) [.int .i64 x_s, .int .i64 x_t, vL I2 v2 x_p, vL IL2 vLL2 x_o, vL I1 v1 x_c, .int .i64 x_u, .int .i64 x_m, .int .i64 x_f, .int .i64 x_y, .int .i64 x_d, .int .i64 t, .int .i64 a] kk_ ↔ kk_ (.int .i64 (withBench (⟨x_s, x_t, x_p, x_o, x_c, x_u, x_m, x_f, x_y, x_d⟩ : Shop) (setPin (⟨x_s, x_t, x_p, x_o, x_c, x_u, x_m, x_f, x_y, x_d⟩ : Shop).bench ⟨t, a⟩) 1 (canSet (⟨x_s, x_t, x_p, x_o, x_c, x_u, x_m, x_f, x_y, x_d⟩ : Shop).bench ⟨t, a⟩)).s) (.int .i64 (withBench (⟨x_s, x_t, x_p, x_o, x_c, x_u, x_m, x_f, x_y, x_d⟩ : Shop) (setPin (⟨x_s, x_t, x_p, x_o, x_c, x_u, x_m, x_f, x_y, x_d⟩ : Shop).bench ⟨t, a⟩) 1 (canSet (⟨x_s, x_t, x_p, x_o, x_c, x_u, x_m, x_f, x_y, x_d⟩ : Shop).bench ⟨t, a⟩)).t) (vL I2 v2 (withBench (⟨x_s, x_t, x_p, x_o, x_c, x_u, x_m, x_f, x_y, x_d⟩ : Shop) (setPin (⟨x_s, x_t, x_p, x_o, x_c, x_u, x_m, x_f, x_y, x_d⟩ : Shop).bench ⟨t, a⟩) 1 (canSet (⟨x_s, x_t, x_p, x_o, x_c, x_u, x_m, x_f, x_y, x_d⟩ : Shop).bench ⟨t, a⟩)).p) (vL IL2 vLL2 (withBench (⟨x_s, x_t, x_p, x_o, x_c, x_u, x_m, x_f, x_y, x_d⟩ : Shop) (setPin (⟨x_s, x_t, x_p, x_o, x_c, x_u, x_m, x_f, x_y, x_d⟩ : Shop).bench ⟨t, a⟩) 1 (canSet (⟨x_s, x_t, x_p, x_o, x_c, x_u, x_m, x_f, x_y, x_d⟩ : Shop).bench ⟨t, a⟩)).o) (vL I1 v1 (withBench (⟨x_s, x_t, x_p, x_o, x_c, x_u, x_m, x_f, x_y, x_d⟩ : Shop) (setPin (⟨x_s, x_t, x_p, x_o, x_c, x_u, x_m, x_f, x_y, x_d⟩ : Shop).bench ⟨t, a⟩) 1 (canSet (⟨x_s, x_t, x_p, x_o, x_c, x_u, x_m, x_f, x_y, x_d⟩ : Shop).bench ⟨t, a⟩)).c) (.int .i64 (withBench (⟨x_s, x_t, x_p, x_o, x_c, x_u, x_m, x_f, x_y, x_d⟩ : Shop) (setPin (⟨x_s, x_t, x_p, x_o, x_c, x_u, x_m, x_f, x_y, x_d⟩ : Shop).bench ⟨t, a⟩) 1 (canSet (⟨x_s, x_t, x_p, x_o, x_c, x_u, x_m, x_f, x_y, x_d⟩ : Shop).bench ⟨t, a⟩)).u) (.int .i64 (withBench (⟨x_s, x_t, x_p, x_o, x_c, x_u, x_m, x_f, x_y, x_d⟩ : Shop) (setPin (⟨x_s, x_t, x_p, x_o, x_c, x_u, x_m, x_f, x_y, x_d⟩ : Shop).bench ⟨t, a⟩) 1 (canSet (⟨x_s, x_t, x_p, x_o, x_c, x_u, x_m, x_f, x_y, x_d⟩ : Shop).bench ⟨t, a⟩)).m) (.int .i64 (withBench (⟨x_s, x_t, x_p, x_o, x_c, x_u, x_m, x_f, x_y, x_d⟩ : Shop) (setPin (⟨x_s, x_t, x_p, x_o, x_c, x_u, x_m, x_f, x_y, x_d⟩ : Shop).bench ⟨t, a⟩) 1 (canSet (⟨x_s, x_t, x_p, x_o, x_c, x_u, x_m, x_f, x_y, x_d⟩ : Shop).bench ⟨t, a⟩)).f) (.int .i64 (withBench (⟨x_s, x_t, x_p, x_o, x_c, x_u, x_m, x_f, x_y, x_d⟩ : Shop) (setPin (⟨x_s, x_t, x_p, x_o, x_c, x_u, x_m, x_f, x_y, x_d⟩ : Shop).bench ⟨t, a⟩) 1 (canSet (⟨x_s, x_t, x_p, x_o, x_c, x_u, x_m, x_f, x_y, x_d⟩ : Shop).bench ⟨t, a⟩)).y) (.int .i64 (withBench (⟨x_s, x_t, x_p, x_o, x_c, x_u, x_m, x_f, x_y, x_d⟩ : Shop) (setPin (⟨x_s, x_t, x_p, x_o, x_c, x_u, x_m, x_f, x_y, x_d⟩ : Shop).bench ⟨t, a⟩) 1 (canSet (⟨x_s, x_t, x_p, x_o, x_c, x_u, x_m, x_f, x_y, x_d⟩ : Shop).bench ⟨t, a⟩)).d) (.bool (benchFits (⟨x_s, x_t, x_p, x_o, x_c, x_u, x_m, x_f, x_y, x_d⟩ : Shop) (setPin (⟨x_s, x_t, x_p, x_o, x_c, x_u, x_m, x_f, x_y, x_d⟩ : Shop).bench ⟨t, a⟩) 1 (canSet (⟨x_s, x_t, x_p, x_o, x_c, x_u, x_m, x_f, x_y, x_d⟩ : Shop).bench ⟨t, a⟩))) :=
  P11_callF (by unfold F_PutPin; exact mkF_eq F_PutPin_inj ((⟨x_s, x_t, x_p, x_o, x_c, x_u, x_m, x_f, x_y, x_d⟩ : Shop), t, a) hp)

def num (b : Bool) : Int := if b then 1 else 0
def E_numberOf (n : Bool) : List V := [.bool n]
noncomputable def F_numberOf : List V → Option (List V) := mkF E_numberOf (fun _ => True) (fun n => [.int .i64 (num n)])
theorem F_numberOf_inj : ∀ x y, E_numberOf x = E_numberOf y → x = y := by
  rintro n n' h
  simpa [E_numberOf] using h
theorem F_numberOf_elim {P : List V → List V → Prop} (h : ∀ (n : Bool), P [.bool n] [.int .i64 (num n)]) : ∀ ds outs, F_numberOf ds = some outs → P ds outs := by
  intro ds outs hh
  obtain ⟨n, rfl, -, rfl⟩ := mkF_inv hh
  exact h n
@[simp] theorem p_numberOf {n : Bool} {nr_ : Nat} {kk_ : V → Prop} : P1 (.call F_numberOf 0 nr_) [.bool n] kk_ ↔ kk_ (.int .i64 (num n)) :=
  P1_callF (by unfold F_numberOf; exact mkF_eq F_numberOf_inj (n) trivial)

noncomputable abbrev F_l39Bool := F_numberOf
/-- The least gap of the i-th pin to those before it, below the k-th. -/
def cmRow (c : Cyl) (i : Nat) : Nat → Int → Int
  | 0, b => b
  | k + 1, b => match c.p[i]?, c.p[k]? with
    | some x, some y => if x.a = y.a then min (cmRow c i k b) (gap x.b y.b c.s) else cmRow c i k b
    | _, _ => cmRow c i k b
def cmTo (c : Cyl) : Nat → Int
  | 0 => c.s
  | i + 1 => cmRow c i i (cmTo c i)
def closest (c : Cyl) : Int := if cylOk c then cmTo c c.p.length else -1
def E_ClosestPins (x : Cyl) : List V := [.int .i64 x.s, .int .i64 x.t, vL I2 v2 x.p]
noncomputable def F_ClosestPins : List V → Option (List V) := mkF E_ClosestPins (fun x => x.p.length ≤ 1048576) (fun x => [.int .i64 (closest x)])
theorem F_ClosestPins_inj : ∀ x y, E_ClosestPins x = E_ClosestPins y → x = y := by
  rintro ⟨xs, xt, xp⟩ ⟨xs', xt', xp'⟩ h
  simpa [E_ClosestPins] using h
theorem F_ClosestPins_elim {P : List V → List V → Prop} (h : ∀ (x : Cyl), (x.p.length ≤ 1048576) → P [.int .i64 x.s, .int .i64 x.t, vL I2 v2 x.p] [.int .i64 (closest x)]) : ∀ ds outs, F_ClosestPins ds = some outs → P ds outs := by
  intro ds outs hh
  obtain ⟨x, rfl, hp, rfl⟩ := mkF_inv hh
  exact h x hp
theorem p_ClosestPins {x_s : Int} {x_t : Int} {x_p : List T2} {nr_ : Nat} {kk_ : V → Prop} (hp : (⟨x_s, x_t, x_p⟩ : Cyl).p.length ≤ 1048576) : P1 (.call F_ClosestPins 0 nr_) [.int .i64 x_s, .int .i64 x_t, vL I2 v2 x_p] kk_ ↔ kk_ (.int .i64 (closest (⟨x_s, x_t, x_p⟩ : Cyl))) :=
  P1_callF (by unfold F_ClosestPins; exact mkF_eq F_ClosestPins_inj ((⟨x_s, x_t, x_p⟩ : Cyl)) hp)

def removeW (w : Shop) (k : Int) : Shop := withBench w (takePin w.bench k) 0 (canTake w.bench k)
def removeOk (w : Shop) (k : Int) : Bool := benchFits w (takePin w.bench k) 0 (canTake w.bench k)
def putW (w : Shop) (p : T2) : Shop := withBench w (setPin w.bench p) 1 (canSet w.bench p)
def putOk (w : Shop) (p : T2) : Bool := benchFits w (setPin w.bench p) 1 (canSet w.bench p)
def backW (w : Shop) : Shop := withBench w (takeBack w.bench) 0 (takeOk w.bench)
def backOk (w : Shop) : Bool := benchFits w (takeBack w.bench) 0 (takeOk w.bench)
def canAct (w : Shop) (a : T3) : Bool := shopOk w && actOk a
def actW (w : Shop) (a : T3) : Shop :=
  if canAct w a then (if a.a = 1 then putW w ⟨a.b, a.c⟩ else if a.a = 2 then removeW w a.b else if a.a = 3 then backW w else if a.a = 4 then crank w a.b else if a.a = 5 then playOnce w else w) else w
def actN (w : Shop) (a : T3) : Int :=
  if canAct w a then (if a.a = 1 then num (putOk w ⟨a.b, a.c⟩) else if a.a = 2 then num (removeOk w a.b) else if a.a = 3 then num (backOk w) else if a.a = 4 then (if shopOk w then windBy w.spring a.b else -1) else if a.a = 5 then num (canPlay w) else closest w.bench.cyl) else -1
def E_DoAct : Shop × T3 → List V := fun (x, y) => [.int .i64 x.s, .int .i64 x.t, vL I2 v2 x.p, vL IL2 vLL2 x.o, vL I1 v1 x.c, .int .i64 x.u, .int .i64 x.m, .int .i64 x.f, .int .i64 x.y, .int .i64 x.d, .int .i64 y.a, .int .i64 y.b, .int .i64 y.c]
noncomputable def F_DoAct : List V → Option (List V) := mkF E_DoAct (fun (x, _) => x.p.length ≤ 1048576 ∧ fitLL x.o ∧ x.c.length ≤ 1048576) (fun (x, y) => [.int .i64 (actW x y).s, .int .i64 (actW x y).t, vL I2 v2 (actW x y).p, vL IL2 vLL2 (actW x y).o, vL I1 v1 (actW x y).c, .int .i64 (actW x y).u, .int .i64 (actW x y).m, .int .i64 (actW x y).f, .int .i64 (actW x y).y, .int .i64 (actW x y).d, .int .i64 (actN x y)])
theorem F_DoAct_inj : ∀ x y, E_DoAct x = E_DoAct y → x = y := by
  rintro ⟨⟨xs, xt, xp, xo, xc, xu, xm, xf, xy, xd⟩, ⟨ya, yb, yc⟩⟩ ⟨⟨xs', xt', xp', xo', xc', xu', xm', xf', xy', xd'⟩, ⟨ya', yb', yc'⟩⟩ h
  simpa [E_DoAct, and_assoc] using h
theorem F_DoAct_elim {P : List V → List V → Prop} (h : ∀ (x : Shop) (y : T3), (x.p.length ≤ 1048576 ∧ fitLL x.o ∧ x.c.length ≤ 1048576) → P [.int .i64 x.s, .int .i64 x.t, vL I2 v2 x.p, vL IL2 vLL2 x.o, vL I1 v1 x.c, .int .i64 x.u, .int .i64 x.m, .int .i64 x.f, .int .i64 x.y, .int .i64 x.d, .int .i64 y.a, .int .i64 y.b, .int .i64 y.c] [.int .i64 (actW x y).s, .int .i64 (actW x y).t, vL I2 v2 (actW x y).p, vL IL2 vLL2 (actW x y).o, vL I1 v1 (actW x y).c, .int .i64 (actW x y).u, .int .i64 (actW x y).m, .int .i64 (actW x y).f, .int .i64 (actW x y).y, .int .i64 (actW x y).d, .int .i64 (actN x y)]) : ∀ ds outs, F_DoAct ds = some outs → P ds outs := by
  intro ds outs hh
  obtain ⟨⟨x, y⟩, rfl, hp, rfl⟩ := mkF_inv hh
  exact h x y hp
theorem p_DoAct {x_s : Int} {x_t : Int} {x_p : List T2} {x_o : List (List T2)} {x_c : List Int} {x_u : Int} {x_m : Int} {x_f : Int} {x_y : Int} {x_d : Int} {y_a : Int} {y_b : Int} {y_c : Int} {nr_ : Nat} {kk_ : V → V → V → V → V → V → V → V → V → V → V → Prop} (hp : (⟨x_s, x_t, x_p, x_o, x_c, x_u, x_m, x_f, x_y, x_d⟩ : Shop).p.length ≤ 1048576 ∧ fitLL (⟨x_s, x_t, x_p, x_o, x_c, x_u, x_m, x_f, x_y, x_d⟩ : Shop).o ∧ (⟨x_s, x_t, x_p, x_o, x_c, x_u, x_m, x_f, x_y, x_d⟩ : Shop).c.length ≤ 1048576) : P11 (.call F_DoAct 0 nr_) [.int .i64 x_s, .int .i64 x_t, vL I2 v2 x_p, vL IL2 vLL2 x_o, vL I1 v1 x_c, .int .i64 x_u, .int .i64 x_m, .int .i64 x_f, .int .i64 x_y, .int .i64 x_d, .int .i64 y_a, .int .i64 y_b, .int .i64 y_c] kk_ ↔ kk_ (.int .i64 (actW (⟨x_s, x_t, x_p, x_o, x_c, x_u, x_m, x_f, x_y, x_d⟩ : Shop) (⟨y_a, y_b, y_c⟩ : T3)).s) (.int .i64 (actW (⟨x_s, x_t, x_p, x_o, x_c, x_u, x_m, x_f, x_y, x_d⟩ : Shop) (⟨y_a, y_b, y_c⟩ : T3)).t) (vL I2 v2 (actW (⟨x_s, x_t, x_p, x_o, x_c, x_u, x_m, x_f, x_y, x_d⟩ : Shop) (⟨y_a, y_b, y_c⟩ : T3)).p) (vL IL2 vLL2 (actW (⟨x_s, x_t, x_p, x_o, x_c, x_u, x_m, x_f, x_y, x_d⟩ : Shop) (⟨y_a, y_b, y_c⟩ : T3)).o) (vL I1 v1 (actW (⟨x_s, x_t, x_p, x_o, x_c, x_u, x_m, x_f, x_y, x_d⟩ : Shop) (⟨y_a, y_b, y_c⟩ : T3)).c) (.int .i64 (actW (⟨x_s, x_t, x_p, x_o, x_c, x_u, x_m, x_f, x_y, x_d⟩ : Shop) (⟨y_a, y_b, y_c⟩ : T3)).u) (.int .i64 (actW (⟨x_s, x_t, x_p, x_o, x_c, x_u, x_m, x_f, x_y, x_d⟩ : Shop) (⟨y_a, y_b, y_c⟩ : T3)).m) (.int .i64 (actW (⟨x_s, x_t, x_p, x_o, x_c, x_u, x_m, x_f, x_y, x_d⟩ : Shop) (⟨y_a, y_b, y_c⟩ : T3)).f) (.int .i64 (actW (⟨x_s, x_t, x_p, x_o, x_c, x_u, x_m, x_f, x_y, x_d⟩ : Shop) (⟨y_a, y_b, y_c⟩ : T3)).y) (.int .i64 (actW (⟨x_s, x_t, x_p, x_o, x_c, x_u, x_m, x_f, x_y, x_d⟩ : Shop) (⟨y_a, y_b, y_c⟩ : T3)).d) (.int .i64 (actN (⟨x_s, x_t, x_p, x_o, x_c, x_u, x_m, x_f, x_y, x_d⟩ : Shop) (⟨y_a, y_b, y_c⟩ : T3))) :=
  P11_callF (by unfold F_DoAct; exact mkF_eq F_DoAct_inj ((⟨x_s, x_t, x_p, x_o, x_c, x_u, x_m, x_f, x_y, x_d⟩ : Shop), (⟨y_a, y_b, y_c⟩ : T3)) hp)

end Go.Mw

/- Functions of the program, as small pure programs (printed by a program of ours). -/
namespace Go.Mw
noncomputable section
def spec_PutPin_L : L := .seq (.rg []) (.seq (.rg [⟨[], .call F_l38Copy 0 10, [.v 0, .v 1, .v 2, .v 3, .v 4, .v 5, .v 6, .v 7, .v 8, .v 9], 10⟩]) (.seq (.rg [⟨[], .call F_SetPin 0 5, [.v 0, .v 1, .v 2, .v 3, .v 10, .v 11], 5⟩]) (.seq (.rg []) (.seq (.rg [⟨[], .bin .sub, [.v 8, .k (.int .i64 1)], 1⟩]) (.seq (.seq (.rg [⟨[], .call F_WorkshopOk 0 1, [.v 0, .v 1, .v 2, .v 3, .v 4, .v 5, .v 6, .v 7, .v 8, .v 9], 1⟩, ⟨[], .un .not, [.v 28], 1⟩, ⟨[(.v 29, false)], .un .not, [.v 26], 1⟩, ⟨[], .pick, [.v 29, .k (.bool true), .v 30], 1⟩, ⟨[(.v 31, false)], .call F_WorkshopOk 0 1, [.v 22, .v 23, .v 24, .v 25, .v 16, .v 17, .v 18, .v 19, .v 27, .v 21], 1⟩, ⟨[(.v 31, false)], .un .not, [.v 32], 1⟩, ⟨[], .pick, [.v 31, .k (.bool true), .v 33], 1⟩]) (.ite (.v 34) (.seq (.rg [⟨[], .call F_l38Copy 0 10, [.v 0, .v 1, .v 2, .v 3, .v 4, .v 5, .v 6, .v 7, .v 8, .v 9], 10⟩]) (.ret [.v 35, .v 36, .v 37, .v 38, .v 39, .v 40, .v 41, .v 42, .v 43, .v 44, .k (.bool false)])) (.skip))) (.seq (.rg []) (.ret [.v 22, .v 23, .v 24, .v 25, .v 16, .v 17, .v 18, .v 19, .v 27, .v 21, .k (.bool true)])))))))
theorem spec_PutPin_L_sh (Q : QT) (x0 x1 x2 x3 x4 x5 x6 x7 x8 x9 x10 x11 : V) : shL spec_PutPin_L Q [x0, x1, x2, x3, x4, x5, x6, x7, x8, x9, x10, x11] = (
  P10 (.call F_l38Copy 0 10) [x0, x1, x2, x3, x4, x5, x6, x7, x8, x9] fun _ _ _ _ v4 v5 v6 v7 _ v9 =>
  P5 (.call F_SetPin 0 5) [x0, x1, x2, x3, x10, x11] fun v10 v11 v12 v13 v14 =>
  P1 (.bin .sub) [x8, .int .i64 1] fun v15 =>
  P1 (.call F_WorkshopOk 0 1) [x0, x1, x2, x3, x4, x5, x6, x7, x8, x9] fun v16 =>
  P1 (.un .not) [v16] fun v17 =>
  ifB v17 (
    P10 (.call F_l38Copy 0 10) [x0, x1, x2, x3, x4, x5, x6, x7, x8, x9] fun v18 v19 v20 v21 v22 v23 v24 v25 v26 v27 =>
    Q .ret [v18, v19, v20, v21, v22, v23, v24, v25, v26, v27, .bool false]) (
    P1 (.un .not) [v14] fun v28 =>
    ifB v28 (
      P10 (.call F_l38Copy 0 10) [x0, x1, x2, x3, x4, x5, x6, x7, x8, x9] fun v29 v30 v31 v32 v33 v34 v35 v36 v37 v38 =>
      Q .ret [v29, v30, v31, v32, v33, v34, v35, v36, v37, v38, .bool false]) (
      P1 (.call F_WorkshopOk 0 1) [v10, v11, v12, v13, v4, v5, v6, v7, v15, v9] fun v39 =>
      P1 (.un .not) [v39] fun v40 =>
      ifB v40 (
        P10 (.call F_l38Copy 0 10) [x0, x1, x2, x3, x4, x5, x6, x7, x8, x9] fun v41 v42 v43 v44 v45 v46 v47 v48 v49 v50 =>
        Q .ret [v41, v42, v43, v44, v45, v46, v47, v48, v49, v50, .bool false]) (
        Q .ret [v10, v11, v12, v13, v4, v5, v6, v7, v15, v9, .bool true])))) := by kernel_rfl
def spec_PutPin_S : Sig := ⟨[.val true [.sc, .sc, .sl [.sc, .sc], .sl [.sl [.sc, .sc]], .sl [.sc], .sc, .sc, .sc, .sc, .sc], .val false [.sc], .val false [.sc]], [(true, [.sc, .sc, .sl [.sc, .sc], .sl [.sl [.sc, .sc]], .sl [.sc], .sc, .sc, .sc, .sc, .sc]), (false, [.sc])], F_PutPin⟩
def spec_PutPin_hs : List NF := []

def impl_PutPin_L : L := .seq (.rg []) (.seq (.rg [⟨[], .call F_SetPin 0 5, [.v 0, .v 1, .v 2, .v 3, .v 10, .v 11], 5⟩]) (.seq (.rg [⟨[], .call F_withBench 0 11, [.v 0, .v 1, .v 2, .v 3, .v 4, .v 5, .v 6, .v 7, .v 8, .v 9, .v 12, .v 13, .v 14, .v 15, .k (.int .i64 1), .v 16], 11⟩]) (.ret [.v 17, .v 18, .v 19, .v 20, .v 21, .v 22, .v 23, .v 24, .v 25, .v 26, .v 27])))
theorem impl_PutPin_L_sh (Q : QT) (x0 x1 x2 x3 x4 x5 x6 x7 x8 x9 x10 x11 : V) : shL impl_PutPin_L Q [x0, x1, x2, x3, x4, x5, x6, x7, x8, x9, x10, x11] = (
  P5 (.call F_SetPin 0 5) [x0, x1, x2, x3, x10, x11] fun v0 v1 v2 v3 v4 =>
  P11 (.call F_withBench 0 11) [x0, x1, x2, x3, x4, x5, x6, x7, x8, x9, v0, v1, v2, v3, .int .i64 1, v4] fun v5 v6 v7 v8 v9 v10 v11 v12 v13 v14 v15 =>
  Q .ret [v5, v6, v7, v8, v9, v10, v11, v12, v13, v14, v15]) := by kernel_rfl
def impl_PutPin_S : Sig := ⟨[.val true [.sc, .sc, .sl [.sc, .sc], .sl [.sl [.sc, .sc]], .sl [.sc], .sc, .sc, .sc, .sc, .sc], .val false [.sc], .val false [.sc]], [(true, [.sc, .sc, .sl [.sc, .sc], .sl [.sl [.sc, .sc]], .sl [.sc], .sc, .sc, .sc, .sc, .sc]), (false, [.sc])], F_PutPin⟩
def impl_PutPin_hs : List NF := []

end
end Go.Mw

/- Putting a pin into a workshop. -/
namespace Go.Mw
theorem setPin_no {b : Bench} {p : T2} (h : canSet b p = false) : setPin b p = b := by
  unfold canSet at h; unfold setPin stepTo; rw [h]; simp
theorem setPin_fit {x : Shop} {p : T2} (hb : x.p.length ≤ 1048576 ∧ fitLL x.o) : (setPin x.bench p).p.length ≤ 1048576 ∧ fitLL (setPin x.bench p).o := by
  cases h2 : canSet x.bench p with
  | false => rw [setPin_no h2]; exact hb
  | true =>
    have : stepOk x.bench (addTo x.bench.cyl p) = true := by simp [canSet] at h2; exact h2.2
    have hs : benchOk x.bench = true := by simp [stepOk] at this; exact this.1
    have := setPin_small (p := p) (bSmall_of_ok hs)
    exact ⟨this.1, this.2.1⟩
theorem spec_PutPin_ok : ∀ ds outs, F_PutPin ds = some outs → shL spec_PutPin_L (qRet outs) ds := F_PutPin_elim fun x t a hp => by
  have hb : x.p.length ≤ 1048576 ∧ fitLL x.o := ⟨hp.1, hp.2.1⟩
  have hf := setPin_fit (p := ⟨t, a⟩) hb
  have hf3 : (setPin x.bench ⟨t, a⟩).p.length ≤ 1048576 ∧ fitLL (setPin x.bench ⟨t, a⟩).o ∧ x.c.length ≤ 1048576 := ⟨hf.1, hf.2, hp.2.2⟩
  have e0 : (⟨x.s, x.t, x.p, x.o⟩ : Bench) = x.bench := rfl
  have e1 : (addOk x.bench.cyl ⟨t, a⟩ && stepOk x.bench (addTo x.bench.cyl ⟨t, a⟩)) = canSet x.bench ⟨t, a⟩ := rfl
  rw [spec_PutPin_L_sh, p_l38Copy (x_p := x.p) (x_o := x.o) (x_c := x.c) hp]
  simp only [p_l38Copy (x_p := x.p) (x_o := x.o) (x_c := x.c) hp, p_SetPin (x_p := x.p) (x_o := x.o) hb, p_WorkshopOk (x_p := x.p) (x_o := x.o) (x_c := x.c) hp, e0, e1]
  generalize setPin x.bench ⟨t, a⟩ = B at *
  generalize canSet x.bench ⟨t, a⟩ = ok at *
  cases h : shopOk x with
  | false => simp [h, withBench, benchFits]
  | true =>
    cases ok with
    | false => simp [h, withBench, benchFits]
    | true =>
      have hy := within_iff.1 ((shopOk_iff x).1 h).2.2.2.2.1
      have hw : IntKind.i64.wrap (x.y - 1) = x.y - 1 := wrap_id (by omega) (by omega)
      have e : (⟨B.s, B.t, B.p, B.o, x.c, x.u, x.m, x.f, x.y - 1, x.d⟩ : Shop) = withB x B 1 := rfl
      simp only [P1_sub, hw, p_WorkshopOk (x_p := B.p) (x_o := B.o) (x_c := x.c) hf3, e]
      cases h3 : shopOk (withB x B 1) <;> simp [h, h3, withBench, benchFits]
      simp [withB]
theorem impl_PutPin_ok : ∀ ds outs, F_PutPin ds = some outs → shL impl_PutPin_L (qRet outs) ds := F_PutPin_elim fun x t a hp => by
  have hb : x.p.length ≤ 1048576 ∧ fitLL x.o := ⟨hp.1, hp.2.1⟩
  have hf := setPin_fit (p := ⟨t, a⟩) hb
  have e0 : (⟨x.s, x.t, x.p, x.o⟩ : Bench) = x.bench := rfl
  have e1 : (addOk x.bench.cyl ⟨t, a⟩ && stepOk x.bench (addTo x.bench.cyl ⟨t, a⟩)) = canSet x.bench ⟨t, a⟩ := rfl
  rw [impl_PutPin_L_sh, p_SetPin (x_p := x.p) (x_o := x.o) hb]
  simp only [e0, e1]
  generalize setPin x.bench ⟨t, a⟩ = B at *
  rw [p_withBench (x_p := x.p) (x_o := x.o) (x_c := x.c) (y_p := B.p) (y_o := B.o) ⟨hp.1, hp.2.1, hp.2.2, hf.1, hf.2, by omega, by omega⟩]
  simp
end Go.Mw

/- What functions compute, in plain terms: runs of acts. -/
namespace Go.Mw
def E_szActS : List T3 × Int → List V := fun (l, n) => [vL I3 v3 l, .int .i64 n]
noncomputable def F_szActS : List V → Option (List V) := mkF E_szActS (fun (l, n) => l.length ≤ 9223372036854775807 ∧ 0 ≤ n ∧ n ≤ 1048576) (fun (l, n) => [.int .i64 (if (l.length : Int) ≤ n then n - l.length else -1)])
theorem F_szActS_inj : ∀ x y, E_szActS x = E_szActS y → x = y := by
  rintro ⟨l, n⟩ ⟨l', n'⟩ h
  simpa [E_szActS] using h
theorem F_szActS_elim {P : List V → List V → Prop} (h : ∀ (l : List T3) (n : Int), (l.length ≤ 9223372036854775807 ∧ 0 ≤ n ∧ n ≤ 1048576) → P [vL I3 v3 l, .int .i64 n] [.int .i64 (if (l.length : Int) ≤ n then n - l.length else -1)]) : ∀ ds outs, F_szActS ds = some outs → P ds outs := by
  intro ds outs hh
  obtain ⟨⟨l, n⟩, rfl, hp, rfl⟩ := mkF_inv hh
  exact h l n hp
theorem p_szActS {l : List T3} {n : Int} {nr_ : Nat} {kk_ : V → Prop} (hp : l.length ≤ 9223372036854775807 ∧ 0 ≤ n ∧ n ≤ 1048576) : P1 (.call F_szActS 0 nr_) [vL I3 v3 l, .int .i64 n] kk_ ↔ kk_ (.int .i64 (if (l.length : Int) ≤ n then n - l.length else -1)) :=
  P1_callF (by unfold F_szActS; exact mkF_eq F_szActS_inj (l, n) hp)

def E_toActS (l : List T3) : List V := [vL I3 v3 l]
noncomputable def F_toActS : List V → Option (List V) := mkF E_toActS (fun l => l.length ≤ 1048576) (fun l => [vL I3 v3 l])
theorem F_toActS_inj : ∀ x y, E_toActS x = E_toActS y → x = y := by
  rintro l l' h
  simpa [E_toActS] using h
theorem F_toActS_elim {P : List V → List V → Prop} (h : ∀ (l : List T3), (l.length ≤ 1048576) → P [vL I3 v3 l] [vL I3 v3 l]) : ∀ ds outs, F_toActS ds = some outs → P ds outs := by
  intro ds outs hh
  obtain ⟨l, rfl, hp, rfl⟩ := mkF_inv hh
  exact h l hp
theorem p_toActS {l : List T3} {nr_ : Nat} {kk_ : V → Prop} (hp : l.length ≤ 1048576) : P1 (.call F_toActS 0 nr_) [vL I3 v3 l] kk_ ↔ kk_ (vL I3 v3 l) :=
  P1_callF (by unfold F_toActS; exact mkF_eq F_toActS_inj (l) hp)

def E_eqActS : List T3 × List T3 → List V := fun (l, m) => [vL I3 v3 l, vL I3 v3 m]
noncomputable def F_eqActS : List V → Option (List V) := mkF E_eqActS (fun (l, m) => l.length ≤ 1048576 ∧ m.length ≤ 1048576) (fun (l, m) => [.bool (decide (l = m))])
theorem F_eqActS_inj : ∀ x y, E_eqActS x = E_eqActS y → x = y := by
  rintro ⟨l, m⟩ ⟨l', m'⟩ h
  simpa [E_eqActS] using h
theorem F_eqActS_elim {P : List V → List V → Prop} (h : ∀ (l : List T3) (m : List T3), (l.length ≤ 1048576 ∧ m.length ≤ 1048576) → P [vL I3 v3 l, vL I3 v3 m] [.bool (decide (l = m))]) : ∀ ds outs, F_eqActS ds = some outs → P ds outs := by
  intro ds outs hh
  obtain ⟨⟨l, m⟩, rfl, hp, rfl⟩ := mkF_inv hh
  exact h l m hp
theorem p_eqActS {l : List T3} {m : List T3} {nr_ : Nat} {kk_ : V → Prop} (hp : l.length ≤ 1048576 ∧ m.length ≤ 1048576) : P1 (.call F_eqActS 0 nr_) [vL I3 v3 l, vL I3 v3 m] kk_ ↔ kk_ (.bool (decide (l = m))) :=
  P1_callF (by unfold F_eqActS; exact mkF_eq F_eqActS_inj (l, m) hp)

def E_markActS : List T3 × Int → List V := fun (l, k) => [vL I3 v3 l, .int .i64 k]
noncomputable def F_markActS : List V → Option (List V) := mkF E_markActS (fun (l, k) => l.length ≤ 4194304 ∧ 0 ≤ k ∧ k ≤ 1099511627776) (fun (l, k) => [.int .i64 (k + 3 * l.length), vL I3 v3 (markL3 l.length k)])
theorem F_markActS_inj : ∀ x y, E_markActS x = E_markActS y → x = y := by
  rintro ⟨l, k⟩ ⟨l', k'⟩ h
  simpa [E_markActS] using h
theorem F_markActS_elim {P : List V → List V → Prop} (h : ∀ (l : List T3) (k : Int), (l.length ≤ 4194304 ∧ 0 ≤ k ∧ k ≤ 1099511627776) → P [vL I3 v3 l, .int .i64 k] [.int .i64 (k + 3 * l.length), vL I3 v3 (markL3 l.length k)]) : ∀ ds outs, F_markActS ds = some outs → P ds outs := by
  intro ds outs hh
  obtain ⟨⟨l, k⟩, rfl, hp, rfl⟩ := mkF_inv hh
  exact h l k hp
theorem p_markActS {l : List T3} {k : Int} {kk_ : V → V → Prop} (hp : l.length ≤ 4194304 ∧ 0 ≤ k ∧ k ≤ 1099511627776) : P2 (.call F_markActS 1 1) [vL I3 v3 l, .int .i64 k, vL I3 v3 l] kk_ ↔ kk_ (.int .i64 (k + 3 * l.length)) (vL I3 v3 (markL3 l.length k)) :=
  P2_of (callIo_run (as := [vL I3 v3 l, .int .i64 k]) (rs := [vL I3 v3 l]) (n := 1) (nr := 1) rfl (by simp) (by unfold F_markActS; exact mkF_eq F_markActS_inj (l, k) hp) (by simp [ksAll, vL, AK.eqs_refl]) rfl)

def E_eqAct : T3 × T3 → List V := fun (x, y) => [.int .i64 x.a, .int .i64 x.b, .int .i64 x.c, .int .i64 y.a, .int .i64 y.b, .int .i64 y.c]
noncomputable def F_eqAct : List V → Option (List V) := mkF E_eqAct (fun (_, _) => True) (fun (x, y) => [.bool (decide (x = y))])
theorem F_eqAct_inj : ∀ x y, E_eqAct x = E_eqAct y → x = y := by
  rintro ⟨⟨xa, xb, xc⟩, ⟨ya, yb, yc⟩⟩ ⟨⟨xa', xb', xc'⟩, ⟨ya', yb', yc'⟩⟩ h
  simpa [E_eqAct, and_assoc] using h
theorem F_eqAct_elim {P : List V → List V → Prop} (h : ∀ (x : T3) (y : T3), P [.int .i64 x.a, .int .i64 x.b, .int .i64 x.c, .int .i64 y.a, .int .i64 y.b, .int .i64 y.c] [.bool (decide (x = y))]) : ∀ ds outs, F_eqAct ds = some outs → P ds outs := by
  intro ds outs hh
  obtain ⟨⟨x, y⟩, rfl, -, rfl⟩ := mkF_inv hh
  exact h x y
@[simp] theorem p_eqAct {x_a : Int} {x_b : Int} {x_c : Int} {y_a : Int} {y_b : Int} {y_c : Int} {nr_ : Nat} {kk_ : V → Prop} : P1 (.call F_eqAct 0 nr_) [.int .i64 x_a, .int .i64 x_b, .int .i64 x_c, .int .i64 y_a, .int .i64 y_b, .int .i64 y_c] kk_ ↔ kk_ (.bool (decide ((⟨x_a, x_b, x_c⟩ : T3) = (⟨y_a, y_b, y_c⟩ : T3)))) :=
  P1_callF (by unfold F_eqAct; exact mkF_eq F_eqAct_inj ((⟨x_a, x_b, x_c⟩ : T3), (⟨y_a, y_b, y_c⟩ : T3)) trivial)

noncomputable abbrev F_l39Ints := F_sameInts
def runTo (w : Shop) (l : List T3) : Nat → Shop × List Int
  | 0 => (w, [])
  | k + 1 => match l[k]? with
    | some a => (actW (runTo w l k).1 a, (runTo w l k).2 ++ [actN (runTo w l k).1 a])
    | none => runTo w l k
def actsOk (w : Shop) (l : List T3) : Bool := shopOk w && decide (l.length ≤ 40)
def runW (w : Shop) (l : List T3) : Shop := if actsOk w l then (runTo w l l.length).1 else w
def runN' (w : Shop) (l : List T3) : List Int := if actsOk w l then (runTo w l l.length).2 else []
def E_RunActs : Shop × List T3 → List V := fun (x, l) => [.int .i64 x.s, .int .i64 x.t, vL I2 v2 x.p, vL IL2 vLL2 x.o, vL I1 v1 x.c, .int .i64 x.u, .int .i64 x.m, .int .i64 x.f, .int .i64 x.y, .int .i64 x.d, vL I3 v3 l]
noncomputable def F_RunActs : List V → Option (List V) := mkF E_RunActs (fun (x, l) => x.p.length ≤ 1048576 ∧ fitLL x.o ∧ x.c.length ≤ 1048576 ∧ l.length ≤ 1048576) (fun (x, l) => [.int .i64 (runW x l).s, .int .i64 (runW x l).t, vL I2 v2 (runW x l).p, vL IL2 vLL2 (runW x l).o, vL I1 v1 (runW x l).c, .int .i64 (runW x l).u, .int .i64 (runW x l).m, .int .i64 (runW x l).f, .int .i64 (runW x l).y, .int .i64 (runW x l).d, vL I1 v1 (runN' x l)])
theorem F_RunActs_inj : ∀ x y, E_RunActs x = E_RunActs y → x = y := by
  rintro ⟨⟨xs, xt, xp, xo, xc, xu, xm, xf, xy, xd⟩, l⟩ ⟨⟨xs', xt', xp', xo', xc', xu', xm', xf', xy', xd'⟩, l'⟩ h
  simpa [E_RunActs, and_assoc] using h
theorem F_RunActs_elim {P : List V → List V → Prop} (h : ∀ (x : Shop) (l : List T3), (x.p.length ≤ 1048576 ∧ fitLL x.o ∧ x.c.length ≤ 1048576 ∧ l.length ≤ 1048576) → P [.int .i64 x.s, .int .i64 x.t, vL I2 v2 x.p, vL IL2 vLL2 x.o, vL I1 v1 x.c, .int .i64 x.u, .int .i64 x.m, .int .i64 x.f, .int .i64 x.y, .int .i64 x.d, vL I3 v3 l] [.int .i64 (runW x l).s, .int .i64 (runW x l).t, vL I2 v2 (runW x l).p, vL IL2 vLL2 (runW x l).o, vL I1 v1 (runW x l).c, .int .i64 (runW x l).u, .int .i64 (runW x l).m, .int .i64 (runW x l).f, .int .i64 (runW x l).y, .int .i64 (runW x l).d, vL I1 v1 (runN' x l)]) : ∀ ds outs, F_RunActs ds = some outs → P ds outs := by
  intro ds outs hh
  obtain ⟨⟨x, l⟩, rfl, hp, rfl⟩ := mkF_inv hh
  exact h x l hp
theorem p_RunActs {x_s : Int} {x_t : Int} {x_p : List T2} {x_o : List (List T2)} {x_c : List Int} {x_u : Int} {x_m : Int} {x_f : Int} {x_y : Int} {x_d : Int} {l : List T3} {nr_ : Nat} {kk_ : V → V → V → V → V → V → V → V → V → V → V → Prop} (hp : (⟨x_s, x_t, x_p, x_o, x_c, x_u, x_m, x_f, x_y, x_d⟩ : Shop).p.length ≤ 1048576 ∧ fitLL (⟨x_s, x_t, x_p, x_o, x_c, x_u, x_m, x_f, x_y, x_d⟩ : Shop).o ∧ (⟨x_s, x_t, x_p, x_o, x_c, x_u, x_m, x_f, x_y, x_d⟩ : Shop).c.length ≤ 1048576 ∧ l.length ≤ 1048576) : P11 (.call F_RunActs 0 nr_) [.int .i64 x_s, .int .i64 x_t, vL I2 v2 x_p, vL IL2 vLL2 x_o, vL I1 v1 x_c, .int .i64 x_u, .int .i64 x_m, .int .i64 x_f, .int .i64 x_y, .int .i64 x_d, vL I3 v3 l] kk_ ↔ kk_ (.int .i64 (runW (⟨x_s, x_t, x_p, x_o, x_c, x_u, x_m, x_f, x_y, x_d⟩ : Shop) l).s) (.int .i64 (runW (⟨x_s, x_t, x_p, x_o, x_c, x_u, x_m, x_f, x_y, x_d⟩ : Shop) l).t) (vL I2 v2 (runW (⟨x_s, x_t, x_p, x_o, x_c, x_u, x_m, x_f, x_y, x_d⟩ : Shop) l).p) (vL IL2 vLL2 (runW (⟨x_s, x_t, x_p, x_o, x_c, x_u, x_m, x_f, x_y, x_d⟩ : Shop) l).o) (vL I1 v1 (runW (⟨x_s, x_t, x_p, x_o, x_c, x_u, x_m, x_f, x_y, x_d⟩ : Shop) l).c) (.int .i64 (runW (⟨x_s, x_t, x_p, x_o, x_c, x_u, x_m, x_f, x_y, x_d⟩ : Shop) l).u) (.int .i64 (runW (⟨x_s, x_t, x_p, x_o, x_c, x_u, x_m, x_f, x_y, x_d⟩ : Shop) l).m) (.int .i64 (runW (⟨x_s, x_t, x_p, x_o, x_c, x_u, x_m, x_f, x_y, x_d⟩ : Shop) l).f) (.int .i64 (runW (⟨x_s, x_t, x_p, x_o, x_c, x_u, x_m, x_f, x_y, x_d⟩ : Shop) l).y) (.int .i64 (runW (⟨x_s, x_t, x_p, x_o, x_c, x_u, x_m, x_f, x_y, x_d⟩ : Shop) l).d) (vL I1 v1 (runN' (⟨x_s, x_t, x_p, x_o, x_c, x_u, x_m, x_f, x_y, x_d⟩ : Shop) l)) :=
  P11_callF (by unfold F_RunActs; exact mkF_eq F_RunActs_inj ((⟨x_s, x_t, x_p, x_o, x_c, x_u, x_m, x_f, x_y, x_d⟩ : Shop), l) hp)

def E_IsReplay : Shop × List T3 × List Int → List V := fun (x, l, m) => [.int .i64 x.s, .int .i64 x.t, vL I2 v2 x.p, vL IL2 vLL2 x.o, vL I1 v1 x.c, .int .i64 x.u, .int .i64 x.m, .int .i64 x.f, .int .i64 x.y, .int .i64 x.d, vL I3 v3 l, vL I1 v1 m]
noncomputable def F_IsReplay : List V → Option (List V) := mkF E_IsReplay (fun (x, l, m) => x.p.length ≤ 1048576 ∧ fitLL x.o ∧ x.c.length ≤ 1048576 ∧ l.length ≤ 1048576 ∧ m.length ≤ 1048576) (fun (x, l, m) => [.bool (actsOk x l && decide (runN' x l = m))])
theorem F_IsReplay_inj : ∀ x y, E_IsReplay x = E_IsReplay y → x = y := by
  rintro ⟨⟨xs, xt, xp, xo, xc, xu, xm, xf, xy, xd⟩, l, m⟩ ⟨⟨xs', xt', xp', xo', xc', xu', xm', xf', xy', xd'⟩, l', m'⟩ h
  simpa [E_IsReplay, and_assoc] using h
theorem F_IsReplay_elim {P : List V → List V → Prop} (h : ∀ (x : Shop) (l : List T3) (m : List Int), (x.p.length ≤ 1048576 ∧ fitLL x.o ∧ x.c.length ≤ 1048576 ∧ l.length ≤ 1048576 ∧ m.length ≤ 1048576) → P [.int .i64 x.s, .int .i64 x.t, vL I2 v2 x.p, vL IL2 vLL2 x.o, vL I1 v1 x.c, .int .i64 x.u, .int .i64 x.m, .int .i64 x.f, .int .i64 x.y, .int .i64 x.d, vL I3 v3 l, vL I1 v1 m] [.bool (actsOk x l && decide (runN' x l = m))]) : ∀ ds outs, F_IsReplay ds = some outs → P ds outs := by
  intro ds outs hh
  obtain ⟨⟨x, l, m⟩, rfl, hp, rfl⟩ := mkF_inv hh
  exact h x l m hp
theorem p_IsReplay {x_s : Int} {x_t : Int} {x_p : List T2} {x_o : List (List T2)} {x_c : List Int} {x_u : Int} {x_m : Int} {x_f : Int} {x_y : Int} {x_d : Int} {l : List T3} {m : List Int} {nr_ : Nat} {kk_ : V → Prop} (hp : (⟨x_s, x_t, x_p, x_o, x_c, x_u, x_m, x_f, x_y, x_d⟩ : Shop).p.length ≤ 1048576 ∧ fitLL (⟨x_s, x_t, x_p, x_o, x_c, x_u, x_m, x_f, x_y, x_d⟩ : Shop).o ∧ (⟨x_s, x_t, x_p, x_o, x_c, x_u, x_m, x_f, x_y, x_d⟩ : Shop).c.length ≤ 1048576 ∧ l.length ≤ 1048576 ∧ m.length ≤ 1048576) : P1 (.call F_IsReplay 0 nr_) [.int .i64 x_s, .int .i64 x_t, vL I2 v2 x_p, vL IL2 vLL2 x_o, vL I1 v1 x_c, .int .i64 x_u, .int .i64 x_m, .int .i64 x_f, .int .i64 x_y, .int .i64 x_d, vL I3 v3 l, vL I1 v1 m] kk_ ↔ kk_ (.bool (actsOk (⟨x_s, x_t, x_p, x_o, x_c, x_u, x_m, x_f, x_y, x_d⟩ : Shop) l && decide (runN' (⟨x_s, x_t, x_p, x_o, x_c, x_u, x_m, x_f, x_y, x_d⟩ : Shop) l = m))) :=
  P1_callF (by unfold F_IsReplay; exact mkF_eq F_IsReplay_inj ((⟨x_s, x_t, x_p, x_o, x_c, x_u, x_m, x_f, x_y, x_d⟩ : Shop), l, m) hp)

def E_FnExactDoAct : Shop × T3 → List V := fun (x, y) => [.int .i64 x.s, .int .i64 x.t, vL I2 v2 x.p, vL IL2 vLL2 x.o, vL I1 v1 x.c, .int .i64 x.u, .int .i64 x.m, .int .i64 x.f, .int .i64 x.y, .int .i64 x.d, .int .i64 y.a, .int .i64 y.b, .int .i64 y.c]
noncomputable def F_FnExactDoAct : List V → Option (List V) := mkF E_FnExactDoAct (fun (x, y) => wfI x.s ∧ wfI x.t ∧ wfL2 x.p ∧ wfLL2 x.o ∧ wfL1 x.c ∧ wfI x.u ∧ wfI x.m ∧ wfI x.f ∧ wfI x.y ∧ wfI x.d ∧ wfI y.a ∧ wfI y.b ∧ wfI y.c) (fun (_, _) => [.bool true])
theorem F_FnExactDoAct_inj : ∀ x y, E_FnExactDoAct x = E_FnExactDoAct y → x = y := by
  rintro ⟨⟨xs, xt, xp, xo, xc, xu, xm, xf, xy, xd⟩, ⟨ya, yb, yc⟩⟩ ⟨⟨xs', xt', xp', xo', xc', xu', xm', xf', xy', xd'⟩, ⟨ya', yb', yc'⟩⟩ h
  simpa [E_FnExactDoAct, and_assoc] using h
theorem F_FnExactDoAct_elim {P : List V → List V → Prop} (h : ∀ (x : Shop) (y : T3), (wfI x.s ∧ wfI x.t ∧ wfL2 x.p ∧ wfLL2 x.o ∧ wfL1 x.c ∧ wfI x.u ∧ wfI x.m ∧ wfI x.f ∧ wfI x.y ∧ wfI x.d ∧ wfI y.a ∧ wfI y.b ∧ wfI y.c) → P [.int .i64 x.s, .int .i64 x.t, vL I2 v2 x.p, vL IL2 vLL2 x.o, vL I1 v1 x.c, .int .i64 x.u, .int .i64 x.m, .int .i64 x.f, .int .i64 x.y, .int .i64 x.d, .int .i64 y.a, .int .i64 y.b, .int .i64 y.c] [.bool true]) : ∀ ds outs, F_FnExactDoAct ds = some outs → P ds outs := by
  intro ds outs hh
  obtain ⟨⟨x, y⟩, rfl, hp, rfl⟩ := mkF_inv hh
  exact h x y hp
theorem F_FnExactDoAct_law : ∀ ds, okTKs [.int .i64, .int .i64, .list true [.int .i64, .int .i64], .list false [.list true [.int .i64, .int .i64]], .list false [.int .i64], .int .i64, .int .i64, .int .i64, .int .i64, .int .i64, .int .i64, .int .i64, .int .i64] ds → F_FnExactDoAct ds = some [.bool true] := by
  intro ds g0
  obtain ⟨_, _, rfl, h0, g1⟩ := okTKs_cons g0
  obtain ⟨x_s, rfl, r0⟩ := dec_I h0
  obtain ⟨_, _, rfl, h1, g2⟩ := okTKs_cons g1
  obtain ⟨x_t, rfl, r1⟩ := dec_I h1
  obtain ⟨_, _, rfl, h2, g3⟩ := okTKs_cons g2
  obtain ⟨x_p, rfl, r2⟩ := dec_L2 h2
  obtain ⟨_, _, rfl, h3, g4⟩ := okTKs_cons g3
  obtain ⟨x_o, rfl, r3⟩ := dec_LL2 h3
  obtain ⟨_, _, rfl, h4, g5⟩ := okTKs_cons g4
  obtain ⟨x_c, rfl, r4⟩ := dec_L1 h4
  obtain ⟨_, _, rfl, h5, g6⟩ := okTKs_cons g5
  obtain ⟨x_u, rfl, r5⟩ := dec_I h5
  obtain ⟨_, _, rfl, h6, g7⟩ := okTKs_cons g6
  obtain ⟨x_m, rfl, r6⟩ := dec_I h6
  obtain ⟨_, _, rfl, h7, g8⟩ := okTKs_cons g7
  obtain ⟨x_f, rfl, r7⟩ := dec_I h7
  obtain ⟨_, _, rfl, h8, g9⟩ := okTKs_cons g8
  obtain ⟨x_y, rfl, r8⟩ := dec_I h8
  obtain ⟨_, _, rfl, h9, g10⟩ := okTKs_cons g9
  obtain ⟨x_d, rfl, r9⟩ := dec_I h9
  obtain ⟨_, _, rfl, h10, g11⟩ := okTKs_cons g10
  obtain ⟨y_a, rfl, r10⟩ := dec_I h10
  obtain ⟨_, _, rfl, h11, g12⟩ := okTKs_cons g11
  obtain ⟨y_b, rfl, r11⟩ := dec_I h11
  obtain ⟨_, _, rfl, h12, g13⟩ := okTKs_cons g12
  obtain ⟨y_c, rfl, r12⟩ := dec_I h12
  obtain rfl := okTKs_nil g13
  exact mkF_eq F_FnExactDoAct_inj ((⟨x_s, x_t, x_p, x_o, x_c, x_u, x_m, x_f, x_y, x_d⟩ : Shop), (⟨y_a, y_b, y_c⟩ : T3)) ⟨r0, r1, r2, r3, r4, r5, r6, r7, r8, r9, r10, r11, r12⟩

def E_FnExactRunActs : Shop × List T3 → List V := fun (x, l) => [.int .i64 x.s, .int .i64 x.t, vL I2 v2 x.p, vL IL2 vLL2 x.o, vL I1 v1 x.c, .int .i64 x.u, .int .i64 x.m, .int .i64 x.f, .int .i64 x.y, .int .i64 x.d, vL I3 v3 l]
noncomputable def F_FnExactRunActs : List V → Option (List V) := mkF E_FnExactRunActs (fun (x, l) => wfI x.s ∧ wfI x.t ∧ wfL2 x.p ∧ wfLL2 x.o ∧ wfL1 x.c ∧ wfI x.u ∧ wfI x.m ∧ wfI x.f ∧ wfI x.y ∧ wfI x.d ∧ wfL3 l) (fun (_, _) => [.bool true])
theorem F_FnExactRunActs_inj : ∀ x y, E_FnExactRunActs x = E_FnExactRunActs y → x = y := by
  rintro ⟨⟨xs, xt, xp, xo, xc, xu, xm, xf, xy, xd⟩, l⟩ ⟨⟨xs', xt', xp', xo', xc', xu', xm', xf', xy', xd'⟩, l'⟩ h
  simpa [E_FnExactRunActs, and_assoc] using h
theorem F_FnExactRunActs_elim {P : List V → List V → Prop} (h : ∀ (x : Shop) (l : List T3), (wfI x.s ∧ wfI x.t ∧ wfL2 x.p ∧ wfLL2 x.o ∧ wfL1 x.c ∧ wfI x.u ∧ wfI x.m ∧ wfI x.f ∧ wfI x.y ∧ wfI x.d ∧ wfL3 l) → P [.int .i64 x.s, .int .i64 x.t, vL I2 v2 x.p, vL IL2 vLL2 x.o, vL I1 v1 x.c, .int .i64 x.u, .int .i64 x.m, .int .i64 x.f, .int .i64 x.y, .int .i64 x.d, vL I3 v3 l] [.bool true]) : ∀ ds outs, F_FnExactRunActs ds = some outs → P ds outs := by
  intro ds outs hh
  obtain ⟨⟨x, l⟩, rfl, hp, rfl⟩ := mkF_inv hh
  exact h x l hp
theorem F_FnExactRunActs_law : ∀ ds, okTKs [.int .i64, .int .i64, .list true [.int .i64, .int .i64], .list false [.list true [.int .i64, .int .i64]], .list false [.int .i64], .int .i64, .int .i64, .int .i64, .int .i64, .int .i64, .list true [.int .i64, .int .i64, .int .i64]] ds → F_FnExactRunActs ds = some [.bool true] := by
  intro ds g0
  obtain ⟨_, _, rfl, h0, g1⟩ := okTKs_cons g0
  obtain ⟨x_s, rfl, r0⟩ := dec_I h0
  obtain ⟨_, _, rfl, h1, g2⟩ := okTKs_cons g1
  obtain ⟨x_t, rfl, r1⟩ := dec_I h1
  obtain ⟨_, _, rfl, h2, g3⟩ := okTKs_cons g2
  obtain ⟨x_p, rfl, r2⟩ := dec_L2 h2
  obtain ⟨_, _, rfl, h3, g4⟩ := okTKs_cons g3
  obtain ⟨x_o, rfl, r3⟩ := dec_LL2 h3
  obtain ⟨_, _, rfl, h4, g5⟩ := okTKs_cons g4
  obtain ⟨x_c, rfl, r4⟩ := dec_L1 h4
  obtain ⟨_, _, rfl, h5, g6⟩ := okTKs_cons g5
  obtain ⟨x_u, rfl, r5⟩ := dec_I h5
  obtain ⟨_, _, rfl, h6, g7⟩ := okTKs_cons g6
  obtain ⟨x_m, rfl, r6⟩ := dec_I h6
  obtain ⟨_, _, rfl, h7, g8⟩ := okTKs_cons g7
  obtain ⟨x_f, rfl, r7⟩ := dec_I h7
  obtain ⟨_, _, rfl, h8, g9⟩ := okTKs_cons g8
  obtain ⟨x_y, rfl, r8⟩ := dec_I h8
  obtain ⟨_, _, rfl, h9, g10⟩ := okTKs_cons g9
  obtain ⟨x_d, rfl, r9⟩ := dec_I h9
  obtain ⟨_, _, rfl, h10, g11⟩ := okTKs_cons g10
  obtain ⟨l, rfl, r10⟩ := dec_L3 h10
  obtain rfl := okTKs_nil g11
  exact mkF_eq F_FnExactRunActs_inj ((⟨x_s, x_t, x_p, x_o, x_c, x_u, x_m, x_f, x_y, x_d⟩ : Shop), l) ⟨r0, r1, r2, r3, r4, r5, r6, r7, r8, r9, r10⟩

def E_FnExactIsReplay : Shop × List T3 × List Int → List V := fun (x, l, m) => [.int .i64 x.s, .int .i64 x.t, vL I2 v2 x.p, vL IL2 vLL2 x.o, vL I1 v1 x.c, .int .i64 x.u, .int .i64 x.m, .int .i64 x.f, .int .i64 x.y, .int .i64 x.d, vL I3 v3 l, vL I1 v1 m]
noncomputable def F_FnExactIsReplay : List V → Option (List V) := mkF E_FnExactIsReplay (fun (x, l, m) => wfI x.s ∧ wfI x.t ∧ wfL2 x.p ∧ wfLL2 x.o ∧ wfL1 x.c ∧ wfI x.u ∧ wfI x.m ∧ wfI x.f ∧ wfI x.y ∧ wfI x.d ∧ wfL3 l ∧ wfL1 m) (fun (_, _, _) => [.bool true])
theorem F_FnExactIsReplay_inj : ∀ x y, E_FnExactIsReplay x = E_FnExactIsReplay y → x = y := by
  rintro ⟨⟨xs, xt, xp, xo, xc, xu, xm, xf, xy, xd⟩, l, m⟩ ⟨⟨xs', xt', xp', xo', xc', xu', xm', xf', xy', xd'⟩, l', m'⟩ h
  simpa [E_FnExactIsReplay, and_assoc] using h
theorem F_FnExactIsReplay_elim {P : List V → List V → Prop} (h : ∀ (x : Shop) (l : List T3) (m : List Int), (wfI x.s ∧ wfI x.t ∧ wfL2 x.p ∧ wfLL2 x.o ∧ wfL1 x.c ∧ wfI x.u ∧ wfI x.m ∧ wfI x.f ∧ wfI x.y ∧ wfI x.d ∧ wfL3 l ∧ wfL1 m) → P [.int .i64 x.s, .int .i64 x.t, vL I2 v2 x.p, vL IL2 vLL2 x.o, vL I1 v1 x.c, .int .i64 x.u, .int .i64 x.m, .int .i64 x.f, .int .i64 x.y, .int .i64 x.d, vL I3 v3 l, vL I1 v1 m] [.bool true]) : ∀ ds outs, F_FnExactIsReplay ds = some outs → P ds outs := by
  intro ds outs hh
  obtain ⟨⟨x, l, m⟩, rfl, hp, rfl⟩ := mkF_inv hh
  exact h x l m hp
theorem F_FnExactIsReplay_law : ∀ ds, okTKs [.int .i64, .int .i64, .list true [.int .i64, .int .i64], .list false [.list true [.int .i64, .int .i64]], .list false [.int .i64], .int .i64, .int .i64, .int .i64, .int .i64, .int .i64, .list true [.int .i64, .int .i64, .int .i64], .list false [.int .i64]] ds → F_FnExactIsReplay ds = some [.bool true] := by
  intro ds g0
  obtain ⟨_, _, rfl, h0, g1⟩ := okTKs_cons g0
  obtain ⟨x_s, rfl, r0⟩ := dec_I h0
  obtain ⟨_, _, rfl, h1, g2⟩ := okTKs_cons g1
  obtain ⟨x_t, rfl, r1⟩ := dec_I h1
  obtain ⟨_, _, rfl, h2, g3⟩ := okTKs_cons g2
  obtain ⟨x_p, rfl, r2⟩ := dec_L2 h2
  obtain ⟨_, _, rfl, h3, g4⟩ := okTKs_cons g3
  obtain ⟨x_o, rfl, r3⟩ := dec_LL2 h3
  obtain ⟨_, _, rfl, h4, g5⟩ := okTKs_cons g4
  obtain ⟨x_c, rfl, r4⟩ := dec_L1 h4
  obtain ⟨_, _, rfl, h5, g6⟩ := okTKs_cons g5
  obtain ⟨x_u, rfl, r5⟩ := dec_I h5
  obtain ⟨_, _, rfl, h6, g7⟩ := okTKs_cons g6
  obtain ⟨x_m, rfl, r6⟩ := dec_I h6
  obtain ⟨_, _, rfl, h7, g8⟩ := okTKs_cons g7
  obtain ⟨x_f, rfl, r7⟩ := dec_I h7
  obtain ⟨_, _, rfl, h8, g9⟩ := okTKs_cons g8
  obtain ⟨x_y, rfl, r8⟩ := dec_I h8
  obtain ⟨_, _, rfl, h9, g10⟩ := okTKs_cons g9
  obtain ⟨x_d, rfl, r9⟩ := dec_I h9
  obtain ⟨_, _, rfl, h10, g11⟩ := okTKs_cons g10
  obtain ⟨l, rfl, r10⟩ := dec_L3 h10
  obtain ⟨_, _, rfl, h11, g12⟩ := okTKs_cons g11
  obtain ⟨m, rfl, r11⟩ := dec_L1 h11
  obtain rfl := okTKs_nil g12
  exact mkF_eq F_FnExactIsReplay_inj ((⟨x_s, x_t, x_p, x_o, x_c, x_u, x_m, x_f, x_y, x_d⟩ : Shop), l, m) ⟨r0, r1, r2, r3, r4, r5, r6, r7, r8, r9, r10, r11⟩


end Go.Mw

