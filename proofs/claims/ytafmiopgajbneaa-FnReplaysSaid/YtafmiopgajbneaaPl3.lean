/- What functions of the program compute, as small pure programs, shown against plain Lean functions: no condition. -/
import Derived.KernelRfl
import Derived.Test.YtafmiopgajbneaaPl2
/- What functions compute, in plain terms: drawn benches, workshops and acts; laws on scenarios. -/
namespace Go.Mw
def E_l01Once : Cur × Int → List V := fun (x, n) => [vL I1 vY x.b, .int .i64 x.i, .int .i64 x.h, .int .i64 n]
noncomputable def F_l01Once : List V → Option (List V) := mkF E_l01Once (fun (x, _) => 0 ≤ x.i ∧ x.b.length ≤ 1048576) (fun (x, n) => [.bool (decide (cBelow x n = 0)), .int .i64 ((cAfter x n).i), .int .i64 ((cAfter x n).h)])
theorem F_l01Once_inj : ∀ x y, E_l01Once x = E_l01Once y → x = y := by
  rintro ⟨⟨xb, xi, xh⟩, n⟩ ⟨⟨xb', xi', xh'⟩, n'⟩ h
  simpa [E_l01Once, and_assoc] using h
theorem F_l01Once_elim {P : List V → List V → Prop} (h : ∀ (x : Cur) (n : Int), (0 ≤ x.i ∧ x.b.length ≤ 1048576) → P [vL I1 vY x.b, .int .i64 x.i, .int .i64 x.h, .int .i64 n] [.bool (decide (cBelow x n = 0)), .int .i64 ((cAfter x n).i), .int .i64 ((cAfter x n).h)]) : ∀ ds outs, F_l01Once ds = some outs → P ds outs := by
  intro ds outs hh
  obtain ⟨⟨x, n⟩, rfl, hp, rfl⟩ := mkF_inv hh
  exact h x n hp
theorem p_l01Once {x_b : List UInt8} {x_i : Int} {x_h : Int} {n : Int} {nr_ : Nat} {kk_ : V → V → V → Prop} (hp : 0 ≤ (⟨x_b, x_i, x_h⟩ : Cur).i ∧ (⟨x_b, x_i, x_h⟩ : Cur).b.length ≤ 1048576) : P3 (.call F_l01Once 0 nr_) [vL I1 vY x_b, .int .i64 x_i, .int .i64 x_h, .int .i64 n] kk_ ↔ kk_ (.bool (decide (cBelow (⟨x_b, x_i, x_h⟩ : Cur) n = 0))) (.int .i64 ((cAfter (⟨x_b, x_i, x_h⟩ : Cur) n).i)) (.int .i64 ((cAfter (⟨x_b, x_i, x_h⟩ : Cur) n).h)) :=
  P3_callF (by unfold F_l01Once; exact mkF_eq F_l01Once_inj ((⟨x_b, x_i, x_h⟩ : Cur), n) hp)

def benchStep (b : Bench) (x : Cur) : Bench × Cur :=
  if cBelow x 3 = 0 then (takePin b (cBelow (cAfter x 3) 6), cAfter (cAfter x 3) 6)
  else (setPin b ⟨cBelow (cAfter x 3) b.t, cBelow (cAfter (cAfter x 3) b.t) b.s⟩, cAfter (cAfter (cAfter x 3) b.t) b.s)
def benchTo (x : Cur) : Nat → Bench × Cur
  | 0 => (⟨(cylOf x).s, (cylOf x).t, (cylOf x).p, []⟩, cAfter (cylEnd x) 7)
  | k + 1 => benchStep (benchTo x k).1 (benchTo x k).2
def benchN (x : Cur) : Nat := (cBelow (cylEnd x) 7).toNat
def benchOf (x : Cur) : Bench := (benchTo x (benchN x)).1
def benchEnd (x : Cur) : Cur := (benchTo x (benchN x)).2
def E_l37Bench (x : Cur) : List V := [vL I1 vY x.b, .int .i64 x.i, .int .i64 x.h]
noncomputable def F_l37Bench : List V → Option (List V) := mkF E_l37Bench (fun x => 0 ≤ x.i ∧ x.b.length ≤ 1048576) (fun x => [.int .i64 (benchOf x).s, .int .i64 (benchOf x).t, vL I2 v2 (benchOf x).p, vL IL2 vLL2 (benchOf x).o, .int .i64 ((benchEnd x).i), .int .i64 ((benchEnd x).h)])
theorem F_l37Bench_inj : ∀ x y, E_l37Bench x = E_l37Bench y → x = y := by
  rintro ⟨xb, xi, xh⟩ ⟨xb', xi', xh'⟩ h
  simpa [E_l37Bench] using h
theorem F_l37Bench_elim {P : List V → List V → Prop} (h : ∀ (x : Cur), (0 ≤ x.i ∧ x.b.length ≤ 1048576) → P [vL I1 vY x.b, .int .i64 x.i, .int .i64 x.h] [.int .i64 (benchOf x).s, .int .i64 (benchOf x).t, vL I2 v2 (benchOf x).p, vL IL2 vLL2 (benchOf x).o, .int .i64 ((benchEnd x).i), .int .i64 ((benchEnd x).h)]) : ∀ ds outs, F_l37Bench ds = some outs → P ds outs := by
  intro ds outs hh
  obtain ⟨x, rfl, hp, rfl⟩ := mkF_inv hh
  exact h x hp
theorem p_l37Bench {x_b : List UInt8} {x_i : Int} {x_h : Int} {nr_ : Nat} {kk_ : V → V → V → V → V → V → Prop} (hp : 0 ≤ (⟨x_b, x_i, x_h⟩ : Cur).i ∧ (⟨x_b, x_i, x_h⟩ : Cur).b.length ≤ 1048576) : P6 (.call F_l37Bench 0 nr_) [vL I1 vY x_b, .int .i64 x_i, .int .i64 x_h] kk_ ↔ kk_ (.int .i64 (benchOf (⟨x_b, x_i, x_h⟩ : Cur)).s) (.int .i64 (benchOf (⟨x_b, x_i, x_h⟩ : Cur)).t) (vL I2 v2 (benchOf (⟨x_b, x_i, x_h⟩ : Cur)).p) (vL IL2 vLL2 (benchOf (⟨x_b, x_i, x_h⟩ : Cur)).o) (.int .i64 ((benchEnd (⟨x_b, x_i, x_h⟩ : Cur)).i)) (.int .i64 ((benchEnd (⟨x_b, x_i, x_h⟩ : Cur)).h)) :=
  P6_callF (by unfold F_l37Bench; exact mkF_eq F_l37Bench_inj ((⟨x_b, x_i, x_h⟩ : Cur)) hp)

def E_DrawBench (l : List UInt8) : List V := [vL I1 vY l]
noncomputable def F_DrawBench : List V → Option (List V) := mkF E_DrawBench (fun l => l.length ≤ 1048576) (fun l => [.int .i64 (benchOf (cur0 l)).s, .int .i64 (benchOf (cur0 l)).t, vL I2 v2 (benchOf (cur0 l)).p, vL IL2 vLL2 (benchOf (cur0 l)).o])
theorem F_DrawBench_inj : ∀ x y, E_DrawBench x = E_DrawBench y → x = y := by
  rintro l l' h
  simpa [E_DrawBench] using h
theorem F_DrawBench_elim {P : List V → List V → Prop} (h : ∀ (l : List UInt8), (l.length ≤ 1048576) → P [vL I1 vY l] [.int .i64 (benchOf (cur0 l)).s, .int .i64 (benchOf (cur0 l)).t, vL I2 v2 (benchOf (cur0 l)).p, vL IL2 vLL2 (benchOf (cur0 l)).o]) : ∀ ds outs, F_DrawBench ds = some outs → P ds outs := by
  intro ds outs hh
  obtain ⟨l, rfl, hp, rfl⟩ := mkF_inv hh
  exact h l hp
theorem p_DrawBench {l : List UInt8} {nr_ : Nat} {kk_ : V → V → V → V → Prop} (hp : l.length ≤ 1048576) : P4 (.call F_DrawBench 0 nr_) [vL I1 vY l] kk_ ↔ kk_ (.int .i64 (benchOf (cur0 l)).s) (.int .i64 (benchOf (cur0 l)).t) (vL I2 v2 (benchOf (cur0 l)).p) (vL IL2 vLL2 (benchOf (cur0 l)).o) :=
  P4_callF (by unfold F_DrawBench; exact mkF_eq F_DrawBench_inj (l) hp)

def springMost (x : Cur) : Int := 1 + cBelow x 20
def springOf (x : Cur) : T3 := ⟨cBelow (cAfter x 20) (springMost x + 1), springMost x, 1 + 3 * cBelow (cAfter (cAfter x 20) (springMost x + 1)) 200⟩
def springEnd (x : Cur) : Cur := cAfter (cAfter (cAfter x 20) (springMost x + 1)) 200
def E_l12Spring (x : Cur) : List V := [vL I1 vY x.b, .int .i64 x.i, .int .i64 x.h]
noncomputable def F_l12Spring : List V → Option (List V) := mkF E_l12Spring (fun x => 0 ≤ x.i ∧ x.b.length ≤ 1048576) (fun x => [.int .i64 (springOf x).a, .int .i64 (springOf x).b, .int .i64 (springOf x).c, .int .i64 ((springEnd x).i), .int .i64 ((springEnd x).h)])
theorem F_l12Spring_inj : ∀ x y, E_l12Spring x = E_l12Spring y → x = y := by
  rintro ⟨xb, xi, xh⟩ ⟨xb', xi', xh'⟩ h
  simpa [E_l12Spring] using h
theorem F_l12Spring_elim {P : List V → List V → Prop} (h : ∀ (x : Cur), (0 ≤ x.i ∧ x.b.length ≤ 1048576) → P [vL I1 vY x.b, .int .i64 x.i, .int .i64 x.h] [.int .i64 (springOf x).a, .int .i64 (springOf x).b, .int .i64 (springOf x).c, .int .i64 ((springEnd x).i), .int .i64 ((springEnd x).h)]) : ∀ ds outs, F_l12Spring ds = some outs → P ds outs := by
  intro ds outs hh
  obtain ⟨x, rfl, hp, rfl⟩ := mkF_inv hh
  exact h x hp
theorem p_l12Spring {x_b : List UInt8} {x_i : Int} {x_h : Int} {nr_ : Nat} {kk_ : V → V → V → V → V → Prop} (hp : 0 ≤ (⟨x_b, x_i, x_h⟩ : Cur).i ∧ (⟨x_b, x_i, x_h⟩ : Cur).b.length ≤ 1048576) : P5 (.call F_l12Spring 0 nr_) [vL I1 vY x_b, .int .i64 x_i, .int .i64 x_h] kk_ ↔ kk_ (.int .i64 (springOf (⟨x_b, x_i, x_h⟩ : Cur)).a) (.int .i64 (springOf (⟨x_b, x_i, x_h⟩ : Cur)).b) (.int .i64 (springOf (⟨x_b, x_i, x_h⟩ : Cur)).c) (.int .i64 ((springEnd (⟨x_b, x_i, x_h⟩ : Cur)).i)) (.int .i64 ((springEnd (⟨x_b, x_i, x_h⟩ : Cur)).h)) :=
  P5_callF (by unfold F_l12Spring; exact mkF_eq F_l12Spring_inj ((⟨x_b, x_i, x_h⟩ : Cur)) hp)

def combTo (x : Cur) : Nat → (List Int × Int) × Cur
  | 0 => (([], 10), x)
  | k + 1 => (((combTo x k).1.1 ++ [(combTo x k).1.2], (combTo x k).1.2 + (([0, 1, 2, 4] : List Int)[(cBelow (combTo x k).2 4).toNat]?).getD 0), cAfter (combTo x k).2 4)
def shopMoney (x : Cur) : Int := (([0, 1, 30, 999] : List Int)[(cBelow (springEnd (benchEnd x)) 4).toNat]?).getD 0
def shopPlayed (x : Cur) : Int := (([0, 12, 999999] : List Int)[(cBelow (cAfter (springEnd (benchEnd x)) 4) 3).toNat]?).getD 0
def shopCur (x : Cur) : Cur := cAfter (cAfter (springEnd (benchEnd x)) 4) 3
def shopOf (x : Cur) : Shop := ⟨(benchOf x).s, (benchOf x).t, (benchOf x).p, (benchOf x).o, (combTo (shopCur x) (benchOf x).t.toNat).1.1,
  (springOf (benchEnd x)).a, (springOf (benchEnd x)).b, (springOf (benchEnd x)).c, shopMoney x, shopPlayed x⟩
def shopEnd (x : Cur) : Cur := (combTo (shopCur x) (benchOf x).t.toNat).2
def E_l38Workshop (x : Cur) : List V := [vL I1 vY x.b, .int .i64 x.i, .int .i64 x.h]
noncomputable def F_l38Workshop : List V → Option (List V) := mkF E_l38Workshop (fun x => 0 ≤ x.i ∧ x.b.length ≤ 1048576) (fun x => [.int .i64 (shopOf x).s, .int .i64 (shopOf x).t, vL I2 v2 (shopOf x).p, vL IL2 vLL2 (shopOf x).o, vL I1 v1 (shopOf x).c, .int .i64 (shopOf x).u, .int .i64 (shopOf x).m, .int .i64 (shopOf x).f, .int .i64 (shopOf x).y, .int .i64 (shopOf x).d, .int .i64 ((shopEnd x).i), .int .i64 ((shopEnd x).h)])
theorem F_l38Workshop_inj : ∀ x y, E_l38Workshop x = E_l38Workshop y → x = y := by
  rintro ⟨xb, xi, xh⟩ ⟨xb', xi', xh'⟩ h
  simpa [E_l38Workshop] using h
theorem F_l38Workshop_elim {P : List V → List V → Prop} (h : ∀ (x : Cur), (0 ≤ x.i ∧ x.b.length ≤ 1048576) → P [vL I1 vY x.b, .int .i64 x.i, .int .i64 x.h] [.int .i64 (shopOf x).s, .int .i64 (shopOf x).t, vL I2 v2 (shopOf x).p, vL IL2 vLL2 (shopOf x).o, vL I1 v1 (shopOf x).c, .int .i64 (shopOf x).u, .int .i64 (shopOf x).m, .int .i64 (shopOf x).f, .int .i64 (shopOf x).y, .int .i64 (shopOf x).d, .int .i64 ((shopEnd x).i), .int .i64 ((shopEnd x).h)]) : ∀ ds outs, F_l38Workshop ds = some outs → P ds outs := by
  intro ds outs hh
  obtain ⟨x, rfl, hp, rfl⟩ := mkF_inv hh
  exact h x hp
theorem p_l38Workshop {x_b : List UInt8} {x_i : Int} {x_h : Int} {nr_ : Nat} {kk_ : V → V → V → V → V → V → V → V → V → V → V → V → Prop} (hp : 0 ≤ (⟨x_b, x_i, x_h⟩ : Cur).i ∧ (⟨x_b, x_i, x_h⟩ : Cur).b.length ≤ 1048576) : P12 (.call F_l38Workshop 0 nr_) [vL I1 vY x_b, .int .i64 x_i, .int .i64 x_h] kk_ ↔ kk_ (.int .i64 (shopOf (⟨x_b, x_i, x_h⟩ : Cur)).s) (.int .i64 (shopOf (⟨x_b, x_i, x_h⟩ : Cur)).t) (vL I2 v2 (shopOf (⟨x_b, x_i, x_h⟩ : Cur)).p) (vL IL2 vLL2 (shopOf (⟨x_b, x_i, x_h⟩ : Cur)).o) (vL I1 v1 (shopOf (⟨x_b, x_i, x_h⟩ : Cur)).c) (.int .i64 (shopOf (⟨x_b, x_i, x_h⟩ : Cur)).u) (.int .i64 (shopOf (⟨x_b, x_i, x_h⟩ : Cur)).m) (.int .i64 (shopOf (⟨x_b, x_i, x_h⟩ : Cur)).f) (.int .i64 (shopOf (⟨x_b, x_i, x_h⟩ : Cur)).y) (.int .i64 (shopOf (⟨x_b, x_i, x_h⟩ : Cur)).d) (.int .i64 ((shopEnd (⟨x_b, x_i, x_h⟩ : Cur)).i)) (.int .i64 ((shopEnd (⟨x_b, x_i, x_h⟩ : Cur)).h)) :=
  P12_callF (by unfold F_l38Workshop; exact mkF_eq F_l38Workshop_inj ((⟨x_b, x_i, x_h⟩ : Cur)) hp)

def actDraw (x : Cur) : T3 × Cur :=
  if cBelow x 9 ≤ 2 then (⟨1, cBelow (cAfter x 9) 4, cBelow (cAfter (cAfter x 9) 4) 16⟩, cAfter (cAfter (cAfter x 9) 4) 16)
  else if cBelow x 9 = 3 then (⟨2, cBelow (cAfter x 9) 5, 0⟩, cAfter (cAfter x 9) 5)
  else if cBelow x 9 = 4 then (⟨3, 0, 0⟩, cAfter x 9)
  else if cBelow x 9 = 5 then (⟨4, cBelow (cAfter x 9) 8, 0⟩, cAfter (cAfter x 9) 8)
  else if cBelow x 9 ≤ 7 then (⟨5, 0, 0⟩, cAfter x 9)
  else (⟨6, 0, 0⟩, cAfter x 9)
def E_l39Act (x : Cur) : List V := [vL I1 vY x.b, .int .i64 x.i, .int .i64 x.h]
noncomputable def F_l39Act : List V → Option (List V) := mkF E_l39Act (fun x => 0 ≤ x.i ∧ x.b.length ≤ 1048576) (fun x => [.int .i64 ((actDraw x).1).a, .int .i64 ((actDraw x).1).b, .int .i64 ((actDraw x).1).c, .int .i64 ((actDraw x).2.i), .int .i64 ((actDraw x).2.h)])
theorem F_l39Act_inj : ∀ x y, E_l39Act x = E_l39Act y → x = y := by
  rintro ⟨xb, xi, xh⟩ ⟨xb', xi', xh'⟩ h
  simpa [E_l39Act] using h
theorem F_l39Act_elim {P : List V → List V → Prop} (h : ∀ (x : Cur), (0 ≤ x.i ∧ x.b.length ≤ 1048576) → P [vL I1 vY x.b, .int .i64 x.i, .int .i64 x.h] [.int .i64 ((actDraw x).1).a, .int .i64 ((actDraw x).1).b, .int .i64 ((actDraw x).1).c, .int .i64 ((actDraw x).2.i), .int .i64 ((actDraw x).2.h)]) : ∀ ds outs, F_l39Act ds = some outs → P ds outs := by
  intro ds outs hh
  obtain ⟨x, rfl, hp, rfl⟩ := mkF_inv hh
  exact h x hp
theorem p_l39Act {x_b : List UInt8} {x_i : Int} {x_h : Int} {nr_ : Nat} {kk_ : V → V → V → V → V → Prop} (hp : 0 ≤ (⟨x_b, x_i, x_h⟩ : Cur).i ∧ (⟨x_b, x_i, x_h⟩ : Cur).b.length ≤ 1048576) : P5 (.call F_l39Act 0 nr_) [vL I1 vY x_b, .int .i64 x_i, .int .i64 x_h] kk_ ↔ kk_ (.int .i64 ((actDraw (⟨x_b, x_i, x_h⟩ : Cur)).1).a) (.int .i64 ((actDraw (⟨x_b, x_i, x_h⟩ : Cur)).1).b) (.int .i64 ((actDraw (⟨x_b, x_i, x_h⟩ : Cur)).1).c) (.int .i64 ((actDraw (⟨x_b, x_i, x_h⟩ : Cur)).2.i)) (.int .i64 ((actDraw (⟨x_b, x_i, x_h⟩ : Cur)).2.h)) :=
  P5_callF (by unfold F_l39Act; exact mkF_eq F_l39Act_inj ((⟨x_b, x_i, x_h⟩ : Cur)) hp)

def actTo (x : Cur) : Nat → List T3 × Cur
  | 0 => ([], x)
  | k + 1 => ((actTo x k).1 ++ [(actDraw (actTo x k).2).1], (actDraw (actTo x k).2).2)
def actCnt (x : Cur) : Nat := (cBelow x 14).toNat
def actsOf (x : Cur) : List T3 := (actTo (cAfter x 14) (actCnt x)).1
def actsEnd (x : Cur) : Cur := (actTo (cAfter x 14) (actCnt x)).2
def E_l39List (x : Cur) : List V := [vL I1 vY x.b, .int .i64 x.i, .int .i64 x.h]
noncomputable def F_l39List : List V → Option (List V) := mkF E_l39List (fun x => 0 ≤ x.i ∧ x.b.length ≤ 1048576) (fun x => [vL I3 v3 (actsOf x), .int .i64 ((actsEnd x).i), .int .i64 ((actsEnd x).h)])
theorem F_l39List_inj : ∀ x y, E_l39List x = E_l39List y → x = y := by
  rintro ⟨xb, xi, xh⟩ ⟨xb', xi', xh'⟩ h
  simpa [E_l39List] using h
theorem F_l39List_elim {P : List V → List V → Prop} (h : ∀ (x : Cur), (0 ≤ x.i ∧ x.b.length ≤ 1048576) → P [vL I1 vY x.b, .int .i64 x.i, .int .i64 x.h] [vL I3 v3 (actsOf x), .int .i64 ((actsEnd x).i), .int .i64 ((actsEnd x).h)]) : ∀ ds outs, F_l39List ds = some outs → P ds outs := by
  intro ds outs hh
  obtain ⟨x, rfl, hp, rfl⟩ := mkF_inv hh
  exact h x hp
theorem p_l39List {x_b : List UInt8} {x_i : Int} {x_h : Int} {nr_ : Nat} {kk_ : V → V → V → Prop} (hp : 0 ≤ (⟨x_b, x_i, x_h⟩ : Cur).i ∧ (⟨x_b, x_i, x_h⟩ : Cur).b.length ≤ 1048576) : P3 (.call F_l39List 0 nr_) [vL I1 vY x_b, .int .i64 x_i, .int .i64 x_h] kk_ ↔ kk_ (vL I3 v3 (actsOf (⟨x_b, x_i, x_h⟩ : Cur))) (.int .i64 ((actsEnd (⟨x_b, x_i, x_h⟩ : Cur)).i)) (.int .i64 ((actsEnd (⟨x_b, x_i, x_h⟩ : Cur)).h)) :=
  P3_callF (by unfold F_l39List; exact mkF_eq F_l39List_inj ((⟨x_b, x_i, x_h⟩ : Cur)) hp)

def sample : Shop := openShop 16 [12, 12, 16, 19] 40
def sceneOf (x : Cur) : Shop := if cBelow x 2 = 0 then sample else shopOf (cAfter x 2)
def sceneEnd (x : Cur) : Cur := if cBelow x 2 = 0 then cAfter x 2 else shopEnd (cAfter x 2)
def E_l39Workshop (x : Cur) : List V := [vL I1 vY x.b, .int .i64 x.i, .int .i64 x.h]
noncomputable def F_l39Workshop : List V → Option (List V) := mkF E_l39Workshop (fun x => 0 ≤ x.i ∧ x.b.length ≤ 1048576) (fun x => [.int .i64 (sceneOf x).s, .int .i64 (sceneOf x).t, vL I2 v2 (sceneOf x).p, vL IL2 vLL2 (sceneOf x).o, vL I1 v1 (sceneOf x).c, .int .i64 (sceneOf x).u, .int .i64 (sceneOf x).m, .int .i64 (sceneOf x).f, .int .i64 (sceneOf x).y, .int .i64 (sceneOf x).d, .int .i64 ((sceneEnd x).i), .int .i64 ((sceneEnd x).h)])
theorem F_l39Workshop_inj : ∀ x y, E_l39Workshop x = E_l39Workshop y → x = y := by
  rintro ⟨xb, xi, xh⟩ ⟨xb', xi', xh'⟩ h
  simpa [E_l39Workshop] using h
theorem F_l39Workshop_elim {P : List V → List V → Prop} (h : ∀ (x : Cur), (0 ≤ x.i ∧ x.b.length ≤ 1048576) → P [vL I1 vY x.b, .int .i64 x.i, .int .i64 x.h] [.int .i64 (sceneOf x).s, .int .i64 (sceneOf x).t, vL I2 v2 (sceneOf x).p, vL IL2 vLL2 (sceneOf x).o, vL I1 v1 (sceneOf x).c, .int .i64 (sceneOf x).u, .int .i64 (sceneOf x).m, .int .i64 (sceneOf x).f, .int .i64 (sceneOf x).y, .int .i64 (sceneOf x).d, .int .i64 ((sceneEnd x).i), .int .i64 ((sceneEnd x).h)]) : ∀ ds outs, F_l39Workshop ds = some outs → P ds outs := by
  intro ds outs hh
  obtain ⟨x, rfl, hp, rfl⟩ := mkF_inv hh
  exact h x hp
theorem p_l39Workshop {x_b : List UInt8} {x_i : Int} {x_h : Int} {nr_ : Nat} {kk_ : V → V → V → V → V → V → V → V → V → V → V → V → Prop} (hp : 0 ≤ (⟨x_b, x_i, x_h⟩ : Cur).i ∧ (⟨x_b, x_i, x_h⟩ : Cur).b.length ≤ 1048576) : P12 (.call F_l39Workshop 0 nr_) [vL I1 vY x_b, .int .i64 x_i, .int .i64 x_h] kk_ ↔ kk_ (.int .i64 (sceneOf (⟨x_b, x_i, x_h⟩ : Cur)).s) (.int .i64 (sceneOf (⟨x_b, x_i, x_h⟩ : Cur)).t) (vL I2 v2 (sceneOf (⟨x_b, x_i, x_h⟩ : Cur)).p) (vL IL2 vLL2 (sceneOf (⟨x_b, x_i, x_h⟩ : Cur)).o) (vL I1 v1 (sceneOf (⟨x_b, x_i, x_h⟩ : Cur)).c) (.int .i64 (sceneOf (⟨x_b, x_i, x_h⟩ : Cur)).u) (.int .i64 (sceneOf (⟨x_b, x_i, x_h⟩ : Cur)).m) (.int .i64 (sceneOf (⟨x_b, x_i, x_h⟩ : Cur)).f) (.int .i64 (sceneOf (⟨x_b, x_i, x_h⟩ : Cur)).y) (.int .i64 (sceneOf (⟨x_b, x_i, x_h⟩ : Cur)).d) (.int .i64 ((sceneEnd (⟨x_b, x_i, x_h⟩ : Cur)).i)) (.int .i64 ((sceneEnd (⟨x_b, x_i, x_h⟩ : Cur)).h)) :=
  P12_callF (by unfold F_l39Workshop; exact mkF_eq F_l39Workshop_inj ((⟨x_b, x_i, x_h⟩ : Cur)) hp)

def drawW (l : List UInt8) : Shop := sceneOf (cur0 l)
def drawA (l : List UInt8) : List T3 := actsOf (sceneEnd (cur0 l))
def E_DrawActs (l : List UInt8) : List V := [vL I1 vY l]
noncomputable def F_DrawActs : List V → Option (List V) := mkF E_DrawActs (fun l => l.length ≤ 1048576) (fun l => [.int .i64 (drawW l).s, .int .i64 (drawW l).t, vL I2 v2 (drawW l).p, vL IL2 vLL2 (drawW l).o, vL I1 v1 (drawW l).c, .int .i64 (drawW l).u, .int .i64 (drawW l).m, .int .i64 (drawW l).f, .int .i64 (drawW l).y, .int .i64 (drawW l).d, vL I3 v3 (drawA l)])
theorem F_DrawActs_inj : ∀ x y, E_DrawActs x = E_DrawActs y → x = y := by
  rintro l l' h
  simpa [E_DrawActs] using h
theorem F_DrawActs_elim {P : List V → List V → Prop} (h : ∀ (l : List UInt8), (l.length ≤ 1048576) → P [vL I1 vY l] [.int .i64 (drawW l).s, .int .i64 (drawW l).t, vL I2 v2 (drawW l).p, vL IL2 vLL2 (drawW l).o, vL I1 v1 (drawW l).c, .int .i64 (drawW l).u, .int .i64 (drawW l).m, .int .i64 (drawW l).f, .int .i64 (drawW l).y, .int .i64 (drawW l).d, vL I3 v3 (drawA l)]) : ∀ ds outs, F_DrawActs ds = some outs → P ds outs := by
  intro ds outs hh
  obtain ⟨l, rfl, hp, rfl⟩ := mkF_inv hh
  exact h l hp
theorem p_DrawActs {l : List UInt8} {nr_ : Nat} {kk_ : V → V → V → V → V → V → V → V → V → V → V → Prop} (hp : l.length ≤ 1048576) : P11 (.call F_DrawActs 0 nr_) [vL I1 vY l] kk_ ↔ kk_ (.int .i64 (drawW l).s) (.int .i64 (drawW l).t) (vL I2 v2 (drawW l).p) (vL IL2 vLL2 (drawW l).o) (vL I1 v1 (drawW l).c) (.int .i64 (drawW l).u) (.int .i64 (drawW l).m) (.int .i64 (drawW l).f) (.int .i64 (drawW l).y) (.int .i64 (drawW l).d) (vL I3 v3 (drawA l)) :=
  P11_callF (by unfold F_DrawActs; exact mkF_eq F_DrawActs_inj (l) hp)

def placeTo (x : Cur) : Nat → List Int × Cur
  | 0 => ([], x)
  | k + 1 => ((placeTo x k).1 ++ [cBelow (placeTo x k).2 10000], cAfter (placeTo x k).2 10000)
def E_DrawPlaces (l : List UInt8) : List V := [vL I1 vY l]
noncomputable def F_DrawPlaces : List V → Option (List V) := mkF E_DrawPlaces (fun l => l.length ≤ 1048576) (fun l => [vL I1 v1 ((placeTo (cur0 l) 12).1)])
theorem F_DrawPlaces_inj : ∀ x y, E_DrawPlaces x = E_DrawPlaces y → x = y := by
  rintro l l' h
  simpa [E_DrawPlaces] using h
theorem F_DrawPlaces_elim {P : List V → List V → Prop} (h : ∀ (l : List UInt8), (l.length ≤ 1048576) → P [vL I1 vY l] [vL I1 v1 ((placeTo (cur0 l) 12).1)]) : ∀ ds outs, F_DrawPlaces ds = some outs → P ds outs := by
  intro ds outs hh
  obtain ⟨l, rfl, hp, rfl⟩ := mkF_inv hh
  exact h l hp
theorem p_DrawPlaces {l : List UInt8} {nr_ : Nat} {kk_ : V → Prop} (hp : l.length ≤ 1048576) : P1 (.call F_DrawPlaces 0 nr_) [vL I1 vY l] kk_ ↔ kk_ (vL I1 v1 ((placeTo (cur0 l) 12).1)) :=
  P1_callF (by unfold F_DrawPlaces; exact mkF_eq F_DrawPlaces_inj (l) hp)

def E_FnBenches (l : List UInt8) : List V := [vL I1 vY l]
noncomputable def F_FnBenches : List V → Option (List V) := mkF E_FnBenches (fun l => wfLY l) (fun _ => [.bool true])
theorem F_FnBenches_inj : ∀ x y, E_FnBenches x = E_FnBenches y → x = y := by
  rintro l l' h
  simpa [E_FnBenches] using h
theorem F_FnBenches_elim {P : List V → List V → Prop} (h : ∀ (l : List UInt8), (wfLY l) → P [vL I1 vY l] [.bool true]) : ∀ ds outs, F_FnBenches ds = some outs → P ds outs := by
  intro ds outs hh
  obtain ⟨l, rfl, hp, rfl⟩ := mkF_inv hh
  exact h l hp
theorem F_FnBenches_law : ∀ ds, okTKs [.list false [.int .u8]] ds → F_FnBenches ds = some [.bool true] := by
  intro ds g0
  obtain ⟨_, _, rfl, h0, g1⟩ := okTKs_cons g0
  obtain ⟨l, rfl, r0⟩ := dec_LY h0
  obtain rfl := okTKs_nil g1
  exact mkF_eq F_FnBenches_inj (l) r0

def E_FnScenarios (l : List UInt8) : List V := [vL I1 vY l]
noncomputable def F_FnScenarios : List V → Option (List V) := mkF E_FnScenarios (fun l => wfLY l) (fun _ => [.bool true])
theorem F_FnScenarios_inj : ∀ x y, E_FnScenarios x = E_FnScenarios y → x = y := by
  rintro l l' h
  simpa [E_FnScenarios] using h
theorem F_FnScenarios_elim {P : List V → List V → Prop} (h : ∀ (l : List UInt8), (wfLY l) → P [vL I1 vY l] [.bool true]) : ∀ ds outs, F_FnScenarios ds = some outs → P ds outs := by
  intro ds outs hh
  obtain ⟨l, rfl, hp, rfl⟩ := mkF_inv hh
  exact h l hp
theorem F_FnScenarios_law : ∀ ds, okTKs [.list false [.int .u8]] ds → F_FnScenarios ds = some [.bool true] := by
  intro ds g0
  obtain ⟨_, _, rfl, h0, g1⟩ := okTKs_cons g0
  obtain ⟨l, rfl, r0⟩ := dec_LY h0
  obtain rfl := okTKs_nil g1
  exact mkF_eq F_FnScenarios_inj (l) r0

def E_FnReplays (l : List UInt8) : List V := [vL I1 vY l]
noncomputable def F_FnReplays : List V → Option (List V) := mkF E_FnReplays (fun l => wfLY l) (fun _ => [.bool true])
theorem F_FnReplays_inj : ∀ x y, E_FnReplays x = E_FnReplays y → x = y := by
  rintro l l' h
  simpa [E_FnReplays] using h
theorem F_FnReplays_elim {P : List V → List V → Prop} (h : ∀ (l : List UInt8), (wfLY l) → P [vL I1 vY l] [.bool true]) : ∀ ds outs, F_FnReplays ds = some outs → P ds outs := by
  intro ds outs hh
  obtain ⟨l, rfl, hp, rfl⟩ := mkF_inv hh
  exact h l hp
theorem F_FnReplays_law : ∀ ds, okTKs [.list false [.int .u8]] ds → F_FnReplays ds = some [.bool true] := by
  intro ds g0
  obtain ⟨_, _, rfl, h0, g1⟩ := okTKs_cons g0
  obtain ⟨l, rfl, r0⟩ := dec_LY h0
  obtain rfl := okTKs_nil g1
  exact mkF_eq F_FnReplays_inj (l) r0

def E_FnTop (l : List UInt8) : List V := [vL I1 vY l]
noncomputable def F_FnTop : List V → Option (List V) := mkF E_FnTop (fun l => wfLY l) (fun _ => [.bool true])
theorem F_FnTop_inj : ∀ x y, E_FnTop x = E_FnTop y → x = y := by
  rintro l l' h
  simpa [E_FnTop] using h
theorem F_FnTop_elim {P : List V → List V → Prop} (h : ∀ (l : List UInt8), (wfLY l) → P [vL I1 vY l] [.bool true]) : ∀ ds outs, F_FnTop ds = some outs → P ds outs := by
  intro ds outs hh
  obtain ⟨l, rfl, hp, rfl⟩ := mkF_inv hh
  exact h l hp
theorem F_FnTop_law : ∀ ds, okTKs [.list false [.int .u8]] ds → F_FnTop ds = some [.bool true] := by
  intro ds g0
  obtain ⟨_, _, rfl, h0, g1⟩ := okTKs_cons g0
  obtain ⟨l, rfl, r0⟩ := dec_LY h0
  obtain rfl := okTKs_nil g1
  exact mkF_eq F_FnTop_inj (l) r0


end Go.Mw

/- Functions of the program, as small pure programs (printed by a program of ours). -/
namespace Go.Mw
noncomputable section
def spec_l01Once_L : L := .seq (.rg []) (.seq (.rg [⟨[], .call F_l01Below 0 1, [.v 0, .v 1, .v 2, .v 3], 3⟩, ⟨[], .bin .eql, [.v 4, .k (.int .i64 0)], 1⟩]) (.ret [.v 7, .v 5, .v 6]))
theorem spec_l01Once_L_sh (Q : QT) (x0 x1 x2 x3 : V) : shL spec_l01Once_L Q [x0, x1, x2, x3] = (
  P3 (.call F_l01Below 0 1) [x0, x1, x2, x3] fun v0 v1 v2 =>
  P1 (.bin .eql) [v0, .int .i64 0] fun v3 =>
  Q .ret [v3, v1, v2]) := by kernel_rfl
def spec_l01Once_S : Sig := ⟨[.ptr [.sl [.sc], .sc, .sc], .val false [.sc]], [(false, [.sc])], F_l01Once⟩
def spec_l01Once_hs : List NF := []

def spec_l37Bench_b0 : L := .seq (.seq (.seq (.rg [⟨[], .bin .gtr, [.v 0, .k (.int .i64 0)], 1⟩]) (.ite (.v 10) (.skip) (.seq (.tup [.v 1, .v 2, .v 3, .v 4, .v 5, .v 6, .v 7, .v 8, .v 9]) (.exit 0)))) (.seq (.block 1 (.seq (.seq (.rg [⟨[], .call F_l01Once 0 1, [.v 3, .v 4, .v 5, .k (.int .i64 3)], 3⟩]) (.ite (.v 11) (.seq (.rg [⟨[], .call F_l01Below 0 1, [.v 3, .v 12, .v 13, .k (.int .i64 6)], 3⟩, ⟨[], .call F_TakePin 0 5, [.v 8, .v 9, .v 1, .v 2, .v 14], 5⟩]) (.tup [.v 0, .v 19, .v 20, .v 3, .v 15, .v 16, .v 6, .v 7, .v 17, .v 18])) (.seq (.rg [⟨[], .call F_l01Below 0 1, [.v 3, .v 12, .v 13, .v 9], 3⟩, ⟨[], .call F_l01Below 0 1, [.v 3, .v 15, .v 16, .v 8], 3⟩, ⟨[], .call F_SetPin 0 5, [.v 8, .v 9, .v 1, .v 2, .v 14, .v 17], 5⟩]) (.tup [.v 0, .v 22, .v 23, .v 3, .v 18, .v 19, .v 6, .v 7, .v 20, .v 21])))) (.tup [.v 0, .v 1, .v 2, .v 3, .v 4, .v 5, .v 6, .v 7, .v 8, .v 9]))) (.rg [⟨[], .bin .sub, [.v 0, .k (.int .i64 1)], 1⟩]))) (.tup [.v 10, .v 1, .v 2, .v 3, .v 4, .v 5, .v 6, .v 7, .v 8, .v 9])
theorem spec_l37Bench_b0_sh (Q : QT) (x0 x1 x2 x3 x4 x5 x6 x7 x8 x9 : V) : shL spec_l37Bench_b0 Q [x0, x1, x2, x3, x4, x5, x6, x7, x8, x9] = (
  P1 (.bin .gtr) [x0, .int .i64 0] fun v0 =>
  ifB v0 (
    P3 (.call F_l01Once 0 1) [x3, x4, x5, .int .i64 3] fun v1 v2 v3 =>
    ifB v1 (
      P3 (.call F_l01Below 0 1) [x3, v2, v3, .int .i64 6] fun v4 v5 v6 =>
      P5 (.call F_TakePin 0 5) [x8, x9, x1, x2, v4] fun v7 v8 v9 v10 _ =>
      P1 (.bin .sub) [x0, .int .i64 1] fun v12 =>
      Q .normal [v12, v9, v10, x3, v5, v6, x6, x7, v7, v8]) (
      P3 (.call F_l01Below 0 1) [x3, v2, v3, x9] fun v13 v14 v15 =>
      P3 (.call F_l01Below 0 1) [x3, v14, v15, x8] fun v16 v17 v18 =>
      P5 (.call F_SetPin 0 5) [x8, x9, x1, x2, v13, v16] fun v19 v20 v21 v22 _ =>
      P1 (.bin .sub) [x0, .int .i64 1] fun v24 =>
      Q .normal [v24, v21, v22, x3, v17, v18, x6, x7, v19, v20])) (
    Q (.exit 0) [x1, x2, x3, x4, x5, x6, x7, x8, x9])) := by kernel_rfl

def spec_l37Bench_r1 : L := .seq (.rg []) (.ret [.v 7, .v 8, .v 0, .v 1, .v 3, .v 4])
theorem spec_l37Bench_r1_sh (Q : QT) (x0 x1 x2 x3 x4 x5 x6 x7 x8 : V) : shL spec_l37Bench_r1 Q [x0, x1, x2, x3, x4, x5, x6, x7, x8] = (
  Q .ret [x7, x8, x0, x1, x3, x4]) := by kernel_rfl

def spec_l37Bench_L : L := .seq (.rg []) (.seq (.rg [⟨[], .call F_l06Cylinder 0 3, [.v 0, .v 1, .v 2], 5⟩]) (.seq (.seq (.rg [⟨[], .call F_l01Below 0 1, [.v 0, .v 6, .v 7, .k (.int .i64 7)], 3⟩]) (.block 0 (.seq (.tup [.v 8, .v 5, .k (.list [.sl [.sc, .sc]] []), .v 0, .v 9, .v 10, .k (.int .i64 0), .k (.int .i64 0), .v 3, .v 4]) (.loop (spec_l37Bench_b0))))) (spec_l37Bench_r1)))
theorem spec_l37Bench_L_sh (Q : QT) (x0 x1 x2 : V) : shL spec_l37Bench_L Q [x0, x1, x2] = (
  P5 (.call F_l06Cylinder 0 3) [x0, x1, x2] fun v0 v1 v2 v3 v4 =>
  P3 (.call F_l01Below 0 1) [x0, v3, v4, .int .i64 7] fun v5 v6 v7 =>
  shL (.loop spec_l37Bench_b0) (qB 0 (qS (shL spec_l37Bench_r1 Q) Q)) [v5, v2, .list [.sl [.sc, .sc]] [], x0, v6, v7, .int .i64 0, .int .i64 0, v0, v1]) := by kernel_rfl
def spec_l37Bench_S : Sig := ⟨[.ptr [.sl [.sc], .sc, .sc]], [(true, [.sc, .sc, .sl [.sc, .sc], .sl [.sl [.sc, .sc]]])], F_l37Bench⟩
def spec_l37Bench_hs : List NF := [⟨[(2, .ptr 64 0), (3, .ptr 65 0)], [(66, true, [.sc, .sc]), (67, true, [.sl [.sc, .sc]])], [(0, [.ro [.sc], .sc, .sc]), (64, [.sc, .sc, .nil, .nil]), (65, [.sc, .sc, .own 66, .own 67])], 68⟩, ⟨[(0, .ptr 0 0), (2, .ptr 64 0), (3, .ptr 65 0), (4, .sc false [.sc])], [(66, true, [.sc, .sc]), (67, true, [.sl [.sc, .sc]])], [(0, [.ro [.sc], .sc, .sc]), (64, [.sc, .sc, .nil, .nil]), (65, [.sc, .sc, .own 66, .own 67])], 68⟩, ⟨[(0, .ptr 0 0), (2, .ptr 64 0), (3, .ptr 65 0), (4, .sc false [.sc])], [(66, true, [.sc, .sc]), (67, true, [.sl [.sc, .sc]])], [(0, [.ro [.sc], .sc, .sc]), (64, [.sc, .sc, .nil, .nil]), (65, [.sc, .sc, .own 66, .own 67])], 68⟩, ⟨[(0, .ptr 0 0), (2, .ptr 64 0), (3, .ptr 65 0), (4, .sc false [.sc])], [(66, true, [.sc, .sc]), (67, true, [.sl [.sc, .sc]])], [(0, [.ro [.sc], .sc, .sc]), (64, [.sc, .sc, .nil, .nil]), (65, [.sc, .sc, .own 66, .own 67])], 68⟩]

def spec_DrawBench_L : L := .seq (.rg []) (.seq (.rg [⟨[], .call F_l01New 0 3, [.v 0], 3⟩, ⟨[], .call F_l37Bench 0 4, [.v 1, .v 2, .v 3], 6⟩]) (.ret [.v 4, .v 5, .v 6, .v 7]))
theorem spec_DrawBench_L_sh (Q : QT) (x0 : V) : shL spec_DrawBench_L Q [x0] = (
  P3 (.call F_l01New 0 3) [x0] fun v0 v1 v2 =>
  P6 (.call F_l37Bench 0 4) [v0, v1, v2] fun v3 v4 v5 v6 _ _ =>
  Q .ret [v3, v4, v5, v6]) := by kernel_rfl
def spec_DrawBench_S : Sig := ⟨[.val false [.sl [.sc]]], [(true, [.sc, .sc, .sl [.sc, .sc], .sl [.sl [.sc, .sc]]])], F_DrawBench⟩
def spec_DrawBench_hs : List NF := []

def laws_FnBenches_b1 : L := .seq (.seq (.seq (.rg [⟨[], .len, [.v 2], 1⟩, ⟨[], .bin .lss, [.v 1, .v 10], 1⟩]) (.ite (.v 11) (.skip) (.seq (.tup [.v 0, .v 2, .v 3, .v 6, .v 7]) (.exit 0)))) (.seq (.block 1 (.seq (.seq (.rg [⟨[], .idx [.sc, .sc], [.v 4, .v 1], 2⟩, ⟨[], .idx [.sc, .sc], [.v 2, .v 1], 2⟩, ⟨[], .eqa true [.i, .i], [.v 12, .v 13, .v 14, .v 15], 1⟩]) (.ite (.v 16) (.seq (.rg []) (.ret [.k (.bool false)])) (.skip))) (.tup [.v 0, .v 1, .v 2, .v 3, .v 4, .v 5, .v 6, .v 7, .v 8, .v 9]))) (.rg [⟨[], .bin .add, [.v 1, .k (.int .i64 1)], 1⟩]))) (.tup [.v 0, .v 10, .v 2, .v 3, .v 4, .v 5, .v 6, .v 7, .v 8, .v 9])
theorem laws_FnBenches_b1_sh (Q : QT) (x0 x1 x2 x3 x4 x5 x6 x7 x8 x9 : V) : shL laws_FnBenches_b1 Q [x0, x1, x2, x3, x4, x5, x6, x7, x8, x9] = (
  P1 (.len) [x2] fun v0 =>
  P1 (.bin .lss) [x1, v0] fun v1 =>
  ifB v1 (
    P2 (.idx [.sc, .sc]) [x4, x1] fun v2 v3 =>
    P2 (.idx [.sc, .sc]) [x2, x1] fun v4 v5 =>
    P1 (.eqa true [.i, .i]) [v2, v3, v4, v5] fun v6 =>
    ifB v6 (
      Q .ret [.bool false]) (
      P1 (.bin .add) [x1, .int .i64 1] fun v7 =>
      Q .normal [x0, v7, x2, x3, x4, x5, x6, x7, x8, x9])) (
    Q (.exit 0) [x0, x2, x3, x6, x7])) := by kernel_rfl

def laws_FnBenches_r2 : L := .tup [.v 0, .v 1, .v 2, .v 3, .v 4]
theorem laws_FnBenches_r2_sh (Q : QT) (x0 x1 x2 x3 x4 : V) : shL laws_FnBenches_r2 Q [x0, x1, x2, x3, x4] = (
  Q .normal [x0, x1, x2, x3, x4]) := by kernel_rfl

def laws_FnBenches_r4 : L := .seq (.rg [⟨[], .call F_ChangedPins 0 1, [.v 2, .v 3, .v 0, .v 1], 1⟩]) (.seq (.rg [⟨[], .call F_TakeBack 0 5, [.v 2, .v 3, .v 0, .v 1], 5⟩]) (.seq (.rg [⟨[], .call F_NewBench 0 5, [.k (.int .i64 12), .k (.int .i64 3)], 5⟩]) (.seq (.rg [⟨[], .call F_SetPin 0 5, [.v 10, .v 11, .v 12, .v 13, .k (.int .i64 1), .k (.int .i64 4)], 5⟩]) (.seq (.rg [⟨[], .bin .geq, [.v 4, .k (.int .i64 0)], 1⟩, ⟨[(.v 20, true)], .len, [.v 1], 1⟩, ⟨[(.v 20, true)], .bin .leq, [.v 4, .v 21], 1⟩, ⟨[], .pick, [.v 20, .v 22, .k (.bool false)], 1⟩, ⟨[(.v 23, true)], .len, [.v 1], 1⟩, ⟨[(.v 23, true)], .bin .gtr, [.v 24, .k (.int .i64 0)], 1⟩, ⟨[(.v 23, true)], .binb .eql, [.v 9, .v 25], 1⟩, ⟨[], .pick, [.v 23, .v 26, .k (.bool false)], 1⟩, ⟨[(.v 27, true)], .len, [.v 1], 1⟩, ⟨[(.v 27, true)], .bin .gtr, [.v 28, .k (.int .i64 0)], 1⟩, ⟨[(.v 27, true), (.v 29, false)], .bin .eql, [.v 4, .k (.int .i64 0)], 1⟩, ⟨[(.v 27, true)], .pick, [.v 29, .k (.bool true), .v 30], 1⟩, ⟨[], .pick, [.v 27, .v 31, .k (.bool false)], 1⟩, ⟨[], .pick, [.v 32, .v 14, .k (.bool false)], 1⟩, ⟨[], .pick, [.v 33, .v 19, .k (.bool false)], 1⟩, ⟨[(.v 34, true)], .call F_ChangedPins 0 1, [.v 15, .v 16, .v 17, .v 18], 1⟩, ⟨[(.v 34, true)], .bin .eql, [.v 35, .k (.int .i64 1)], 1⟩, ⟨[], .pick, [.v 34, .v 36, .k (.bool false)], 1⟩, ⟨[(.v 37, true)], .call F_BenchOk 0 1, [.v 2, .v 3, .v 0, .v 1], 1⟩, ⟨[], .pick, [.v 37, .v 38, .k (.bool false)], 1⟩]) (.ret [.v 39])))))
theorem laws_FnBenches_r4_sh (Q : QT) (x0 x1 x2 x3 : V) : shL laws_FnBenches_r4 Q [x0, x1, x2, x3] = (
  P1 (.call F_ChangedPins 0 1) [x2, x3, x0, x1] fun v0 =>
  P5 (.call F_TakeBack 0 5) [x2, x3, x0, x1] fun _ _ _ _ v5 =>
  P5 (.call F_NewBench 0 5) [.int .i64 12, .int .i64 3] fun v6 v7 v8 v9 v10 =>
  P5 (.call F_SetPin 0 5) [v6, v7, v8, v9, .int .i64 1, .int .i64 4] fun v11 v12 v13 v14 v15 =>
  P1 (.bin .geq) [v0, .int .i64 0] fun v16 =>
  ifB v16 (
    P1 (.len) [x1] fun v17 =>
    P1 (.bin .leq) [v0, v17] fun v18 =>
    ifB v18 (
      P1 (.len) [x1] fun v19 =>
      P1 (.bin .gtr) [v19, .int .i64 0] fun v20 =>
      P1 (.binb .eql) [v5, v20] fun v21 =>
      ifB v21 (
        P1 (.len) [x1] fun v22 =>
        P1 (.bin .gtr) [v22, .int .i64 0] fun v23 =>
        ifB v23 (
          P1 (.pick) [v10, v15, .bool false] fun v24 =>
          ifB v24 (
            P1 (.call F_ChangedPins 0 1) [v11, v12, v13, v14] fun v25 =>
            P1 (.bin .eql) [v25, .int .i64 1] fun v26 =>
            ifB v26 (
              P1 (.call F_BenchOk 0 1) [x2, x3, x0, x1] fun v27 =>
              Q .ret [v27]) (
              Q .ret [.bool false])) (
            Q .ret [.bool false])) (
          P1 (.bin .eql) [v0, .int .i64 0] fun v28 =>
          P1 (.pick) [v28, v10, .bool false] fun v29 =>
          P1 (.pick) [v29, v15, .bool false] fun v30 =>
          ifB v30 (
            P1 (.call F_ChangedPins 0 1) [v11, v12, v13, v14] fun v31 =>
            P1 (.bin .eql) [v31, .int .i64 1] fun v32 =>
            ifB v32 (
              P1 (.call F_BenchOk 0 1) [x2, x3, x0, x1] fun v33 =>
              Q .ret [v33]) (
              Q .ret [.bool false])) (
            Q .ret [.bool false]))) (
        Q .ret [.bool false])) (
      Q .ret [.bool false])) (
    Q .ret [.bool false])) := by kernel_rfl

def laws_FnBenches_r3 : L := .seq (.seq (.rg [⟨[], .len, [.v 1], 1⟩, ⟨[], .bin .gtr, [.v 5, .k (.int .i64 0)], 1⟩]) (.ite (.v 6) (.seq (.seq (.rg [⟨[], .call F_at 0 1, [.v 0, .k (.int .i64 2)], 1⟩, ⟨[], .len, [.v 1], 1⟩, ⟨[], .bin .rem, [.v 7, .v 8], 1⟩]) (.seq (.rg [⟨[], .call F_TakePin 0 5, [.v 3, .v 4, .v 1, .v 2, .v 9], 5⟩]) (.seq (.rg [⟨[], .len, [.v 2], 1⟩, ⟨[], .bin .lss, [.v 15, .k (.int .i64 30)], 1⟩, ⟨[], .binb .neq, [.v 14, .v 16], 1⟩, ⟨[(.v 17, false), (.v 14, true)], .len, [.v 12], 1⟩, ⟨[(.v 17, false), (.v 14, true)], .len, [.v 1], 1⟩, ⟨[(.v 17, false), (.v 14, true)], .bin .sub, [.v 19, .k (.int .i64 1)], 1⟩, ⟨[(.v 17, false), (.v 14, true)], .bin .neq, [.v 18, .v 20], 1⟩, ⟨[(.v 17, false), (.v 14, true), (.v 21, false)], .call F_ChangedPins 0 1, [.v 10, .v 11, .v 12, .v 13], 1⟩, ⟨[(.v 17, false), (.v 14, true), (.v 21, false)], .bin .lss, [.v 22, .k (.int .i64 0)], 1⟩, ⟨[(.v 17, false), (.v 14, true)], .pick, [.v 21, .k (.bool true), .v 23], 1⟩, ⟨[(.v 17, false)], .pick, [.v 14, .v 24, .k (.bool false)], 1⟩, ⟨[], .pick, [.v 17, .k (.bool true), .v 25], 1⟩]) (.ite (.v 26) (.seq (.rg []) (.ret [.k (.bool false)])) (.skip))))) (.tup [.v 1, .v 2, .v 3, .v 4])) (.seq (.skip) (.tup [.v 1, .v 2, .v 3, .v 4])))) (laws_FnBenches_r4)
theorem laws_FnBenches_r3_sh (Q : QT) (x0 x1 x2 x3 x4 : V) : shL laws_FnBenches_r3 Q [x0, x1, x2, x3, x4] = (
  P1 (.len) [x1] fun v0 =>
  P1 (.bin .gtr) [v0, .int .i64 0] fun v1 =>
  ifB v1 (
    P1 (.call F_at 0 1) [x0, .int .i64 2] fun v2 =>
    P1 (.len) [x1] fun v3 =>
    P1 (.bin .rem) [v2, v3] fun v4 =>
    P5 (.call F_TakePin 0 5) [x3, x4, x1, x2, v4] fun v5 v6 v7 v8 v9 =>
    P1 (.len) [x2] fun v10 =>
    P1 (.bin .lss) [v10, .int .i64 30] fun v11 =>
    P1 (.binb .neq) [v9, v11] fun v12 =>
    ifB v12 (
      Q .ret [.bool false]) (
      ifB v9 (
        P1 (.len) [v7] fun v13 =>
        P1 (.len) [x1] fun v14 =>
        P1 (.bin .sub) [v14, .int .i64 1] fun v15 =>
        P1 (.bin .neq) [v13, v15] fun v16 =>
        ifB v16 (
          Q .ret [.bool false]) (
          P1 (.call F_ChangedPins 0 1) [v5, v6, v7, v8] fun v17 =>
          P1 (.bin .lss) [v17, .int .i64 0] fun v18 =>
          ifB v18 (
            Q .ret [.bool false]) (
            shL laws_FnBenches_r4 Q [x1, x2, x3, x4]))) (
        shL laws_FnBenches_r4 Q [x1, x2, x3, x4]))) (
    shL laws_FnBenches_r4 Q [x1, x2, x3, x4])) := by kernel_rfl

def laws_FnBenches_r0 : L := .seq (.seq (.rg []) (.ite (.v 16) (.seq (.seq (.rg [⟨[], .call F_TakeBack 0 5, [.v 12, .v 13, .v 14, .v 15], 5⟩]) (.seq (.seq (.rg [⟨[], .un .not, [.v 26], 1⟩, ⟨[(.v 27, false)], .len, [.v 24], 1⟩, ⟨[(.v 27, false)], .len, [.v 4], 1⟩, ⟨[(.v 27, false)], .bin .neq, [.v 28, .v 29], 1⟩, ⟨[], .pick, [.v 27, .k (.bool true), .v 30], 1⟩, ⟨[(.v 31, false)], .len, [.v 25], 1⟩, ⟨[(.v 31, false)], .len, [.v 5], 1⟩, ⟨[(.v 31, false)], .bin .neq, [.v 32, .v 33], 1⟩, ⟨[], .pick, [.v 31, .k (.bool true), .v 34], 1⟩, ⟨[(.v 35, false)], .len, [.v 15], 1⟩, ⟨[(.v 35, false)], .len, [.v 5], 1⟩, ⟨[(.v 35, false)], .bin .add, [.v 37, .k (.int .i64 1)], 1⟩, ⟨[(.v 35, false)], .bin .neq, [.v 36, .v 38], 1⟩, ⟨[], .pick, [.v 35, .k (.bool true), .v 39], 1⟩, ⟨[(.v 40, false)], .call F_BenchOk 0 1, [.v 12, .v 13, .v 14, .v 15], 1⟩, ⟨[(.v 40, false)], .un .not, [.v 41], 1⟩, ⟨[], .pick, [.v 40, .k (.bool true), .v 42], 1⟩]) (.ite (.v 43) (.seq (.rg []) (.ret [.k (.bool false)])) (.skip))) (.seq (.rg []) (.block 0 (.seq (.tup [.v 0, .k (.int .i64 0), .v 4, .v 5, .v 24, .v 25, .v 2, .v 3, .v 22, .v 23]) (.loop (laws_FnBenches_b1))))))) (laws_FnBenches_r2)) (.seq (.skip) (.tup [.v 0, .v 4, .v 5, .v 2, .v 3])))) (laws_FnBenches_r3)
theorem laws_FnBenches_r0_sh (Q : QT) (x0 x1 x2 x3 x4 x5 x6 x7 x8 x9 x10 x11 x12 x13 x14 x15 x16 x17 x18 x19 x20 x21 : V) : shL laws_FnBenches_r0 Q [x0, x1, x2, x3, x4, x5, x6, x7, x8, x9, x10, x11, x12, x13, x14, x15, x16, x17, x18, x19, x20, x21] = (
  ifB x16 (
    P5 (.call F_TakeBack 0 5) [x12, x13, x14, x15] fun v0 v1 v2 v3 v4 =>
    P1 (.un .not) [v4] fun v5 =>
    ifB v5 (
      Q .ret [.bool false]) (
      P1 (.len) [v2] fun v6 =>
      P1 (.len) [x4] fun v7 =>
      P1 (.bin .neq) [v6, v7] fun v8 =>
      ifB v8 (
        Q .ret [.bool false]) (
        P1 (.len) [v3] fun v9 =>
        P1 (.len) [x5] fun v10 =>
        P1 (.bin .neq) [v9, v10] fun v11 =>
        ifB v11 (
          Q .ret [.bool false]) (
          P1 (.len) [x15] fun v12 =>
          P1 (.len) [x5] fun v13 =>
          P1 (.bin .add) [v13, .int .i64 1] fun v14 =>
          P1 (.bin .neq) [v12, v14] fun v15 =>
          ifB v15 (
            Q .ret [.bool false]) (
            P1 (.call F_BenchOk 0 1) [x12, x13, x14, x15] fun v16 =>
            P1 (.un .not) [v16] fun v17 =>
            ifB v17 (
              Q .ret [.bool false]) (
              shL (.loop laws_FnBenches_b1) (qB 0 (qS (shL laws_FnBenches_r2 (qS (shL laws_FnBenches_r3 Q) Q)) (qS (shL laws_FnBenches_r3 Q) Q))) [x0, .int .i64 0, x4, x5, v2, v3, x2, x3, v0, v1])))))) (
    shL laws_FnBenches_r3 Q [x0, x4, x5, x2, x3])) := by kernel_rfl

def laws_FnBenches_L : L := .seq (.rg []) (.seq (.seq (.rg [⟨[], .call F_big 0 1, [.v 0], 1⟩]) (.ite (.v 1) (.seq (.rg []) (.ret [.k (.bool true)])) (.skip))) (.seq (.rg [⟨[], .call F_DrawBench 0 4, [.v 0], 4⟩]) (.seq (.rg [⟨[], .call F_at 0 1, [.v 0, .k (.int .i64 0)], 1⟩, ⟨[], .bin .rem, [.v 6, .v 3], 1⟩, ⟨[], .call F_at 0 1, [.v 0, .k (.int .i64 1)], 1⟩, ⟨[], .bin .rem, [.v 8, .v 2], 1⟩]) (.seq (.rg [⟨[], .call F_PinsAt 0 1, [.v 2, .v 3, .v 4, .v 9], 1⟩, ⟨[], .call F_has 0 1, [.v 10, .v 7], 1⟩]) (.seq (.rg [⟨[], .call F_SetPin 0 5, [.v 2, .v 3, .v 4, .v 5, .v 7, .v 9], 5⟩]) (.seq (.seq (.rg [⟨[], .un .not, [.v 11], 1⟩, ⟨[(.v 17, true)], .len, [.v 5], 1⟩, ⟨[(.v 17, true)], .bin .lss, [.v 18, .k (.int .i64 30)], 1⟩, ⟨[], .pick, [.v 17, .v 19, .k (.bool false)], 1⟩, ⟨[], .binb .neq, [.v 16, .v 20], 1⟩]) (.ite (.v 21) (.seq (.rg []) (.ret [.k (.bool false)])) (.skip))) (laws_FnBenches_r0)))))))
theorem laws_FnBenches_L_sh (Q : QT) (x0 : V) : shL laws_FnBenches_L Q [x0] = (
  P1 (.call F_big 0 1) [x0] fun v0 =>
  ifB v0 (
    Q .ret [.bool true]) (
    P4 (.call F_DrawBench 0 4) [x0] fun v1 v2 v3 v4 =>
    P1 (.call F_at 0 1) [x0, .int .i64 0] fun v5 =>
    P1 (.bin .rem) [v5, v2] fun v6 =>
    P1 (.call F_at 0 1) [x0, .int .i64 1] fun v7 =>
    P1 (.bin .rem) [v7, v1] fun v8 =>
    P1 (.call F_PinsAt 0 1) [v1, v2, v3, v8] fun v9 =>
    P1 (.call F_has 0 1) [v9, v6] fun v10 =>
    P5 (.call F_SetPin 0 5) [v1, v2, v3, v4, v6, v8] fun v11 v12 v13 v14 v15 =>
    P1 (.un .not) [v10] fun v16 =>
    ifB v16 (
      P1 (.len) [v4] fun v17 =>
      P1 (.bin .lss) [v17, .int .i64 30] fun v18 =>
      P1 (.binb .neq) [v15, v18] fun v19 =>
      ifB v19 (
        Q .ret [.bool false]) (
        shL laws_FnBenches_r0 Q [x0, .bool false, v1, v2, v3, v4, v5, v6, v7, v8, v9, v10, v11, v12, v13, v14, v15, .bool true, v17, v18, v18, .bool false])) (
      P1 (.binb .neq) [v15, .bool false] fun v20 =>
      ifB v20 (
        Q .ret [.bool false]) (
        shL laws_FnBenches_r0 Q [x0, .bool false, v1, v2, v3, v4, v5, v6, v7, v8, v9, v10, v11, v12, v13, v14, v15, .bool false, .list [] [], .list [] [], .bool false, .bool false])))) := by kernel_rfl
def laws_FnBenches_S : Sig := ⟨[.val false [.sl [.sc]]], [(false, [.sc])], F_FnBenches⟩
def laws_FnBenches_hs : List NF := [⟨[(0, .sc false [.ro [.sc]]), (3, .ptr 64 0)], [(65, true, [.sc, .sc]), (66, true, [.sl [.sc, .sc]])], [(64, [.sc, .sc, .own 65, .own 66])], 67⟩, ⟨[(0, .sc false [.ro [.sc]]), (3, .ptr 64 0), (8, .ptr 65 0), (10, .sc false [.sc])], [(66, true, [.sc, .sc]), (67, true, [.sl [.sc, .sc]]), (68, true, [.sc, .sc]), (69, true, [.sl [.sc, .sc]])], [(64, [.sc, .sc, .own 66, .own 67]), (65, [.sc, .sc, .own 68, .own 69])], 70⟩, ⟨[(0, .sc false [.ro [.sc]]), (3, .ptr 64 0), (8, .ptr 65 0), (10, .sc false [.sc])], [(66, true, [.sc, .sc]), (67, true, [.sl [.sc, .sc]]), (68, true, [.sc, .sc]), (69, true, [.sl [.sc, .sc]])], [(64, [.sc, .sc, .own 66, .own 67]), (65, [.sc, .sc, .own 68, .own 69])], 70⟩, ⟨[(0, .sc false [.ro [.sc]]), (3, .ptr 64 0)], [(65, true, [.sc, .sc]), (66, true, [.sl [.sc, .sc]])], [(64, [.sc, .sc, .own 65, .own 66])], 67⟩, ⟨[(3, .ptr 64 0)], [(65, true, [.sc, .sc]), (66, true, [.sl [.sc, .sc]])], [(64, [.sc, .sc, .own 65, .own 66])], 67⟩]

def spec_l12Spring_L : L := .seq (.rg []) (.seq (.rg [⟨[], .call F_l01Below 0 1, [.v 0, .v 1, .v 2, .k (.int .i64 20)], 3⟩, ⟨[], .bin .add, [.k (.int .i64 1), .v 3], 1⟩]) (.seq (.rg [⟨[], .bin .add, [.v 6, .k (.int .i64 1)], 1⟩, ⟨[], .call F_l01Below 0 1, [.v 0, .v 4, .v 5, .v 7], 3⟩, ⟨[], .call F_l01Below 0 1, [.v 0, .v 9, .v 10, .k (.int .i64 200)], 3⟩, ⟨[], .bin .mul, [.k (.int .i64 3), .v 11], 1⟩, ⟨[], .bin .add, [.k (.int .i64 1), .v 14], 1⟩]) (.ret [.v 8, .v 6, .v 15, .v 12, .v 13])))
theorem spec_l12Spring_L_sh (Q : QT) (x0 x1 x2 : V) : shL spec_l12Spring_L Q [x0, x1, x2] = (
  P3 (.call F_l01Below 0 1) [x0, x1, x2, .int .i64 20] fun v0 v1 v2 =>
  P1 (.bin .add) [.int .i64 1, v0] fun v3 =>
  P1 (.bin .add) [v3, .int .i64 1] fun v4 =>
  P3 (.call F_l01Below 0 1) [x0, v1, v2, v4] fun v5 v6 v7 =>
  P3 (.call F_l01Below 0 1) [x0, v6, v7, .int .i64 200] fun v8 v9 v10 =>
  P1 (.bin .mul) [.int .i64 3, v8] fun v11 =>
  P1 (.bin .add) [.int .i64 1, v11] fun v12 =>
  Q .ret [v5, v3, v12, v9, v10]) := by kernel_rfl
def spec_l12Spring_S : Sig := ⟨[.ptr [.sl [.sc], .sc, .sc]], [(true, [.sc, .sc, .sc])], F_l12Spring⟩
def spec_l12Spring_hs : List NF := []

def spec_l38Workshop_b0 : L := .seq (.seq (.seq (.rg [⟨[], .bin .lss, [.v 1, .v 16], 1⟩]) (.ite (.v 22) (.skip) (.seq (.tup [.v 2, .v 3, .v 4, .v 5, .v 6, .v 7, .v 8, .v 9, .v 10, .v 11, .v 12, .v 13, .v 14, .v 15, .v 16, .v 17, .v 18, .v 19, .v 20, .v 21]) (.exit 0)))) (.seq (.block 1 (.seq (.seq (.rg [⟨[], .lst [.sc] false 1, [.v 0], 1⟩, ⟨[], .app [.sc] 8, [.v 4, .v 23], 1⟩]) (.rg [⟨[], .lst [.sc] false 4, [.k (.int .i64 0), .k (.int .i64 1), .k (.int .i64 2), .k (.int .i64 4)], 1⟩, ⟨[], .call F_l01PickInt 0 1, [.v 5, .v 6, .v 7, .v 25], 3⟩, ⟨[], .bin .add, [.v 0, .v 26], 1⟩])) (.tup [.v 29, .v 1, .v 2, .v 3, .v 24, .v 5, .v 27, .v 28, .v 8, .v 9, .v 10, .v 11, .v 12, .v 13, .v 14, .v 15, .v 16, .v 17, .v 18, .v 19, .v 20, .v 21]))) (.rg [⟨[], .bin .add, [.v 1, .k (.int .i64 1)], 1⟩]))) (.tup [.v 0, .v 22, .v 2, .v 3, .v 4, .v 5, .v 6, .v 7, .v 8, .v 9, .v 10, .v 11, .v 12, .v 13, .v 14, .v 15, .v 16, .v 17, .v 18, .v 19, .v 20, .v 21])
theorem spec_l38Workshop_b0_sh (Q : QT) (x0 x1 x2 x3 x4 x5 x6 x7 x8 x9 x10 x11 x12 x13 x14 x15 x16 x17 x18 x19 x20 x21 : V) : shL spec_l38Workshop_b0 Q [x0, x1, x2, x3, x4, x5, x6, x7, x8, x9, x10, x11, x12, x13, x14, x15, x16, x17, x18, x19, x20, x21] = (
  P1 (.bin .lss) [x1, x16] fun v0 =>
  ifB v0 (
    P1 (.lst [.sc] false 1) [x0] fun v1 =>
    P1 (.app [.sc] 8) [x4, v1] fun v2 =>
    P1 (.lst [.sc] false 4) [.int .i64 0, .int .i64 1, .int .i64 2, .int .i64 4] fun v3 =>
    P3 (.call F_l01PickInt 0 1) [x5, x6, x7, v3] fun v4 v5 v6 =>
    P1 (.bin .add) [x0, v4] fun v7 =>
    P1 (.bin .add) [x1, .int .i64 1] fun v8 =>
    Q .normal [v7, v8, x2, x3, v2, x5, v5, v6, x8, x9, x10, x11, x12, x13, x14, x15, x16, x17, x18, x19, x20, x21]) (
    Q (.exit 0) [x2, x3, x4, x5, x6, x7, x8, x9, x10, x11, x12, x13, x14, x15, x16, x17, x18, x19, x20, x21])) := by kernel_rfl

def spec_l38Workshop_r1 : L := .seq (.rg []) (.ret [.v 13, .v 14, .v 0, .v 1, .v 2, .v 15, .v 16, .v 17, .v 18, .v 19, .v 4, .v 5])
theorem spec_l38Workshop_r1_sh (Q : QT) (x0 x1 x2 x3 x4 x5 x6 x7 x8 x9 x10 x11 x12 x13 x14 x15 x16 x17 x18 x19 : V) : shL spec_l38Workshop_r1 Q [x0, x1, x2, x3, x4, x5, x6, x7, x8, x9, x10, x11, x12, x13, x14, x15, x16, x17, x18, x19] = (
  Q .ret [x13, x14, x0, x1, x2, x15, x16, x17, x18, x19, x4, x5]) := by kernel_rfl

def spec_l38Workshop_L : L := .seq (.rg []) (.seq (.rg [⟨[], .call F_l37Bench 0 4, [.v 0, .v 1, .v 2], 6⟩, ⟨[], .call F_l12Spring 0 3, [.v 0, .v 7, .v 8], 5⟩, ⟨[], .lst [.sc] false 4, [.k (.int .i64 0), .k (.int .i64 1), .k (.int .i64 30), .k (.int .i64 999)], 1⟩, ⟨[], .call F_l01PickInt 0 1, [.v 0, .v 12, .v 13, .v 14], 3⟩, ⟨[], .lst [.sc] false 3, [.k (.int .i64 0), .k (.int .i64 12), .k (.int .i64 999999)], 1⟩, ⟨[], .call F_l01PickInt 0 1, [.v 0, .v 16, .v 17, .v 18], 3⟩]) (.seq (.rg []) (.seq (.seq (.rg []) (.block 0 (.seq (.tup [.k (.int .i64 10), .k (.int .i64 0), .v 5, .v 6, .k (.list [.sc] []), .v 0, .v 20, .v 21, .k (.int .i64 0), .k (.int .i64 0), .k (.int .i64 0), .k (.int .i64 0), .k (.int .i64 0), .k (.int .i64 0), .k (.int .i64 0), .v 3, .v 4, .v 9, .v 10, .v 11, .v 15, .v 19]) (.loop (spec_l38Workshop_b0))))) (spec_l38Workshop_r1))))
theorem spec_l38Workshop_L_sh (Q : QT) (x0 x1 x2 : V) : shL spec_l38Workshop_L Q [x0, x1, x2] = (
  P6 (.call F_l37Bench 0 4) [x0, x1, x2] fun v0 v1 v2 v3 v4 v5 =>
  P5 (.call F_l12Spring 0 3) [x0, v4, v5] fun v6 v7 v8 v9 v10 =>
  P1 (.lst [.sc] false 4) [.int .i64 0, .int .i64 1, .int .i64 30, .int .i64 999] fun v11 =>
  P3 (.call F_l01PickInt 0 1) [x0, v9, v10, v11] fun v12 v13 v14 =>
  P1 (.lst [.sc] false 3) [.int .i64 0, .int .i64 12, .int .i64 999999] fun v15 =>
  P3 (.call F_l01PickInt 0 1) [x0, v13, v14, v15] fun v16 v17 v18 =>
  shL (.loop spec_l38Workshop_b0) (qB 0 (qS (shL spec_l38Workshop_r1 Q) Q)) [.int .i64 10, .int .i64 0, v2, v3, .list [.sc] [], x0, v17, v18, .int .i64 0, .int .i64 0, .int .i64 0, .int .i64 0, .int .i64 0, .int .i64 0, .int .i64 0, v0, v1, v6, v7, v8, v12, v16]) := by kernel_rfl
def spec_l38Workshop_S : Sig := ⟨[.ptr [.sl [.sc], .sc, .sc]], [(true, [.sc, .sc, .sl [.sc, .sc], .sl [.sl [.sc, .sc]], .sl [.sc], .sc, .sc, .sc, .sc, .sc])], F_l38Workshop⟩
def spec_l38Workshop_hs : List NF := [⟨[(2, .ptr 64 0), (3, .ptr 65 0)], [(66, true, [.sc, .sc]), (67, true, [.sl [.sc, .sc]]), (68, true, [.sc])], [(0, [.ro [.sc], .sc, .sc]), (64, [.sc, .sc, .nil, .nil, .nil, .sc, .sc, .sc, .sc, .sc]), (65, [.sc, .sc, .own 66, .own 67, .own 68, .sc, .sc, .sc, .sc, .sc])], 69⟩, ⟨[(0, .ptr 0 0), (2, .ptr 64 0), (3, .ptr 65 0), (4, .sc false [.sc]), (5, .sc false [.sc])], [(66, true, [.sc, .sc]), (67, true, [.sl [.sc, .sc]]), (68, true, [.sc])], [(0, [.ro [.sc], .sc, .sc]), (64, [.sc, .sc, .nil, .nil, .nil, .sc, .sc, .sc, .sc, .sc]), (65, [.sc, .sc, .own 66, .own 67, .own 68, .sc, .sc, .sc, .sc, .sc])], 69⟩, ⟨[(0, .ptr 0 0), (2, .ptr 64 0), (3, .ptr 65 0), (4, .sc false [.sc]), (5, .sc false [.sc])], [(66, true, [.sc, .sc]), (67, true, [.sl [.sc, .sc]]), (68, true, [.sc])], [(0, [.ro [.sc], .sc, .sc]), (64, [.sc, .sc, .nil, .nil, .nil, .sc, .sc, .sc, .sc, .sc]), (65, [.sc, .sc, .own 66, .own 67, .own 68, .sc, .sc, .sc, .sc, .sc])], 69⟩]

def spec_l39Workshop_L : L := .seq (.rg []) (.seq (.seq (.rg [⟨[], .call F_l01Once 0 1, [.v 0, .v 1, .v 2, .k (.int .i64 2)], 3⟩]) (.ite (.v 3) (.seq (.rg [⟨[], .call F_SampleWorkshop 0 10, [], 10⟩]) (.ret [.v 6, .v 7, .v 8, .v 9, .v 10, .v 11, .v 12, .v 13, .v 14, .v 15, .v 4, .v 5])) (.skip))) (.seq (.rg [⟨[], .call F_l38Workshop 0 10, [.v 0, .v 4, .v 5], 12⟩]) (.ret [.v 6, .v 7, .v 8, .v 9, .v 10, .v 11, .v 12, .v 13, .v 14, .v 15, .v 16, .v 17])))
theorem spec_l39Workshop_L_sh (Q : QT) (x0 x1 x2 : V) : shL spec_l39Workshop_L Q [x0, x1, x2] = (
  P3 (.call F_l01Once 0 1) [x0, x1, x2, .int .i64 2] fun v0 v1 v2 =>
  ifB v0 (
    P10 (.call F_SampleWorkshop 0 10) [] fun v3 v4 v5 v6 v7 v8 v9 v10 v11 v12 =>
    Q .ret [v3, v4, v5, v6, v7, v8, v9, v10, v11, v12, v1, v2]) (
    P12 (.call F_l38Workshop 0 10) [x0, v1, v2] fun v13 v14 v15 v16 v17 v18 v19 v20 v21 v22 v23 v24 =>
    Q .ret [v13, v14, v15, v16, v17, v18, v19, v20, v21, v22, v23, v24])) := by kernel_rfl
def spec_l39Workshop_S : Sig := ⟨[.ptr [.sl [.sc], .sc, .sc]], [(true, [.sc, .sc, .sl [.sc, .sc], .sl [.sl [.sc, .sc]], .sl [.sc], .sc, .sc, .sc, .sc, .sc])], F_l39Workshop⟩
def spec_l39Workshop_hs : List NF := []

def spec_l39Act_r0 : L := .ite (.v 1) (.seq (.rg [⟨[], .call F_l01Below 0 1, [.v 2, .v 3, .v 4, .k (.int .i64 4)], 3⟩, ⟨[], .call F_l01Below 0 1, [.v 2, .v 9, .v 10, .k (.int .i64 16)], 3⟩]) (.ret [.k (.int .i64 1), .v 8, .v 11, .v 12, .v 13])) (.seq (.rg [⟨[], .bin .eql, [.v 0, .k (.int .i64 3)], 1⟩]) (.ite (.v 8) (.seq (.rg [⟨[], .call F_l01Below 0 1, [.v 2, .v 3, .v 4, .k (.int .i64 5)], 3⟩]) (.ret [.k (.int .i64 2), .v 9, .k (.int .i64 0), .v 10, .v 11])) (.seq (.rg [⟨[], .bin .eql, [.v 0, .k (.int .i64 4)], 1⟩]) (.ite (.v 9) (.seq (.rg []) (.ret [.k (.int .i64 3), .k (.int .i64 0), .k (.int .i64 0), .v 3, .v 4])) (.seq (.rg [⟨[], .bin .eql, [.v 0, .k (.int .i64 5)], 1⟩]) (.ite (.v 10) (.seq (.rg [⟨[], .call F_l01Below 0 1, [.v 2, .v 3, .v 4, .k (.int .i64 8)], 3⟩]) (.ret [.k (.int .i64 4), .v 11, .k (.int .i64 0), .v 12, .v 13])) (.seq (.seq (.rg [⟨[], .bin .eql, [.v 0, .k (.int .i64 6)], 1⟩]) (.ite (.v 11) (.seq (.skip) (.tup [.v 11, .v 2, .v 3, .v 4, .v 5, .v 6, .v 7])) (.seq (.rg [⟨[], .bin .eql, [.v 0, .k (.int .i64 7)], 1⟩]) (.tup [.v 12, .v 2, .v 3, .v 4, .v 5, .v 6, .v 7])))) (.ite (.v 0) (.seq (.rg []) (.ret [.k (.int .i64 5), .k (.int .i64 0), .k (.int .i64 0), .v 2, .v 3])) (.skip)))))))))
theorem spec_l39Act_r0_sh (Q : QT) (x0 x1 x2 x3 x4 x5 x6 x7 : V) : shL spec_l39Act_r0 Q [x0, x1, x2, x3, x4, x5, x6, x7] = (
  ifB x1 (
    P3 (.call F_l01Below 0 1) [x2, x3, x4, .int .i64 4] fun v0 v1 v2 =>
    P3 (.call F_l01Below 0 1) [x2, v1, v2, .int .i64 16] fun v3 v4 v5 =>
    Q .ret [.int .i64 1, v0, v3, v4, v5]) (
    P1 (.bin .eql) [x0, .int .i64 3] fun v6 =>
    ifB v6 (
      P3 (.call F_l01Below 0 1) [x2, x3, x4, .int .i64 5] fun v7 v8 v9 =>
      Q .ret [.int .i64 2, v7, .int .i64 0, v8, v9]) (
      P1 (.bin .eql) [x0, .int .i64 4] fun v10 =>
      ifB v10 (
        Q .ret [.int .i64 3, .int .i64 0, .int .i64 0, x3, x4]) (
        P1 (.bin .eql) [x0, .int .i64 5] fun v11 =>
        ifB v11 (
          P3 (.call F_l01Below 0 1) [x2, x3, x4, .int .i64 8] fun v12 v13 v14 =>
          Q .ret [.int .i64 4, v12, .int .i64 0, v13, v14]) (
          P1 (.bin .eql) [x0, .int .i64 6] fun v15 =>
          ifB v15 (
            Q .ret [.int .i64 5, .int .i64 0, .int .i64 0, x3, x4]) (
            P1 (.bin .eql) [x0, .int .i64 7] fun v16 =>
            ifB v16 (
              Q .ret [.int .i64 5, .int .i64 0, .int .i64 0, x3, x4]) (
              Q .normal [.bool false, x2, x3, x4, x5, x6, x7]))))))) := by kernel_rfl

def spec_l39Act_r1 : L := .tup [.v 1, .v 2, .v 3, .v 4, .v 5, .v 6]
theorem spec_l39Act_r1_sh (Q : QT) (x0 x1 x2 x3 x4 x5 x6 : V) : shL spec_l39Act_r1 Q [x0, x1, x2, x3, x4, x5, x6] = (
  Q .normal [x1, x2, x3, x4, x5, x6]) := by kernel_rfl

def spec_l39Act_r2 : L := .seq (.rg []) (.ret [.k (.int .i64 6), .k (.int .i64 0), .k (.int .i64 0), .v 1, .v 2])
theorem spec_l39Act_r2_sh (Q : QT) (x0 x1 x2 x3 x4 x5 : V) : shL spec_l39Act_r2 Q [x0, x1, x2, x3, x4, x5] = (
  Q .ret [.int .i64 6, .int .i64 0, .int .i64 0, x1, x2]) := by kernel_rfl

def spec_l39Act_L : L := .seq (.rg []) (.seq (.seq (.rg [⟨[], .call F_l01Below 0 1, [.v 0, .v 1, .v 2, .k (.int .i64 9)], 3⟩]) (.block 0 (.seq (.seq (.seq (.rg [⟨[], .bin .eql, [.v 3, .k (.int .i64 0)], 1⟩]) (.ite (.v 6) (.seq (.skip) (.tup [.v 3, .v 6, .v 0, .v 4, .v 5, .k (.int .i64 0), .k (.int .i64 0), .k (.int .i64 0)])) (.seq (.seq (.rg [⟨[], .bin .eql, [.v 3, .k (.int .i64 1)], 1⟩]) (.ite (.v 7) (.seq (.skip) (.tup [.v 3, .v 7, .v 0, .v 4, .v 5, .k (.int .i64 0), .k (.int .i64 0), .k (.int .i64 0)])) (.seq (.rg [⟨[], .bin .eql, [.v 3, .k (.int .i64 2)], 1⟩]) (.tup [.v 3, .v 8, .v 0, .v 4, .v 5, .k (.int .i64 0), .k (.int .i64 0), .k (.int .i64 0)])))) (.tup [.v 0, .v 1, .v 2, .v 3, .v 4, .v 5, .v 6, .v 7])))) (spec_l39Act_r0)) (spec_l39Act_r1)))) (spec_l39Act_r2))
theorem spec_l39Act_L_sh (Q : QT) (x0 x1 x2 : V) : shL spec_l39Act_L Q [x0, x1, x2] = (
  P3 (.call F_l01Below 0 1) [x0, x1, x2, .int .i64 9] fun v0 v1 v2 =>
  P1 (.bin .eql) [v0, .int .i64 0] fun v3 =>
  ifB v3 (
    shL spec_l39Act_r0 (qS (shL spec_l39Act_r1 (qB 0 (qS (shL spec_l39Act_r2 Q) Q))) (qB 0 (qS (shL spec_l39Act_r2 Q) Q))) [v0, .bool true, x0, v1, v2, .int .i64 0, .int .i64 0, .int .i64 0]) (
    P1 (.bin .eql) [v0, .int .i64 1] fun v4 =>
    ifB v4 (
      shL spec_l39Act_r0 (qS (shL spec_l39Act_r1 (qB 0 (qS (shL spec_l39Act_r2 Q) Q))) (qB 0 (qS (shL spec_l39Act_r2 Q) Q))) [v0, .bool true, x0, v1, v2, .int .i64 0, .int .i64 0, .int .i64 0]) (
      P1 (.bin .eql) [v0, .int .i64 2] fun v5 =>
      shL spec_l39Act_r0 (qS (shL spec_l39Act_r1 (qB 0 (qS (shL spec_l39Act_r2 Q) Q))) (qB 0 (qS (shL spec_l39Act_r2 Q) Q))) [v0, v5, x0, v1, v2, .int .i64 0, .int .i64 0, .int .i64 0]))) := by kernel_rfl
def spec_l39Act_S : Sig := ⟨[.ptr [.sl [.sc], .sc, .sc]], [(true, [.sc, .sc, .sc])], F_l39Act⟩
def spec_l39Act_hs : List NF := [⟨[(2, .ptr 64 0)], [], [(0, [.ro [.sc], .sc, .sc]), (64, [.sc, .sc, .sc])], 65⟩, ⟨[(0, .ptr 0 0), (2, .ptr 64 0), (4, .sc false [.sc]), (5, .sc false [.sc])], [], [(0, [.ro [.sc], .sc, .sc]), (64, [.sc, .sc, .sc])], 65⟩, ⟨[(0, .ptr 0 0), (2, .ptr 64 0), (4, .sc false [.sc]), (5, .sc false [.sc])], [], [(0, [.ro [.sc], .sc, .sc]), (64, [.sc, .sc, .sc])], 65⟩, ⟨[(2, .ptr 64 0), (27, .sc false [.sc])], [], [(0, [.ro [.sc], .sc, .sc]), (64, [.sc, .sc, .sc])], 65⟩]

def spec_l39List_b0 : L := .seq (.seq (.seq (.rg [⟨[], .bin .lss, [.v 1, .v 0], 1⟩]) (.ite (.v 6) (.skip) (.seq (.tup [.v 2, .v 3, .v 4, .v 5]) (.exit 0)))) (.seq (.block 1 (.seq (.seq (.rg [⟨[], .call F_l39Act 0 3, [.v 3, .v 4, .v 5], 5⟩]) (.rg [⟨[], .lst [.sc, .sc, .sc] true 1, [.v 7, .v 8, .v 9], 1⟩, ⟨[], .app [.sc, .sc, .sc] 24, [.v 2, .v 12], 1⟩])) (.tup [.v 0, .v 1, .v 13, .v 3, .v 10, .v 11]))) (.rg [⟨[], .bin .add, [.v 1, .k (.int .i64 1)], 1⟩]))) (.tup [.v 0, .v 6, .v 2, .v 3, .v 4, .v 5])
theorem spec_l39List_b0_sh (Q : QT) (x0 x1 x2 x3 x4 x5 : V) : shL spec_l39List_b0 Q [x0, x1, x2, x3, x4, x5] = (
  P1 (.bin .lss) [x1, x0] fun v0 =>
  ifB v0 (
    P5 (.call F_l39Act 0 3) [x3, x4, x5] fun v1 v2 v3 v4 v5 =>
    P1 (.lst [.sc, .sc, .sc] true 1) [v1, v2, v3] fun v6 =>
    P1 (.app [.sc, .sc, .sc] 24) [x2, v6] fun v7 =>
    P1 (.bin .add) [x1, .int .i64 1] fun v8 =>
    Q .normal [x0, v8, v7, x3, v4, v5]) (
    Q (.exit 0) [x2, x3, x4, x5])) := by kernel_rfl

def spec_l39List_r1 : L := .seq (.rg []) (.ret [.v 0, .v 2, .v 3])
theorem spec_l39List_r1_sh (Q : QT) (x0 x1 x2 x3 : V) : shL spec_l39List_r1 Q [x0, x1, x2, x3] = (
  Q .ret [x0, x2, x3]) := by kernel_rfl

def spec_l39List_L : L := .seq (.rg []) (.seq (.rg [⟨[], .lst [.sc, .sc, .sc] true 0, [], 1⟩]) (.seq (.rg [⟨[], .call F_l01Below 0 1, [.v 0, .v 1, .v 2, .k (.int .i64 14)], 3⟩]) (.seq (.seq (.rg []) (.block 0 (.seq (.tup [.v 4, .k (.int .i64 0), .v 3, .v 0, .v 5, .v 6]) (.loop (spec_l39List_b0))))) (spec_l39List_r1))))
theorem spec_l39List_L_sh (Q : QT) (x0 x1 x2 : V) : shL spec_l39List_L Q [x0, x1, x2] = (
  P1 (.lst [.sc, .sc, .sc] true 0) [] fun v0 =>
  P3 (.call F_l01Below 0 1) [x0, x1, x2, .int .i64 14] fun v1 v2 v3 =>
  shL (.loop spec_l39List_b0) (qB 0 (qS (shL spec_l39List_r1 Q) Q)) [v1, .int .i64 0, v0, x0, v2, v3]) := by kernel_rfl
def spec_l39List_S : Sig := ⟨[.ptr [.sl [.sc], .sc, .sc]], [(false, [.sl [.sc, .sc, .sc]])], F_l39List⟩
def spec_l39List_hs : List NF := [⟨[(3, .sc false [.own 64])], [(64, true, [.sc, .sc, .sc])], [(0, [.ro [.sc], .sc, .sc])], 65⟩, ⟨[(0, .ptr 0 0), (3, .sc false [.own 64]), (4, .sc false [.sc]), (5, .sc false [.sc])], [(64, true, [.sc, .sc, .sc])], [(0, [.ro [.sc], .sc, .sc])], 65⟩, ⟨[(0, .ptr 0 0), (3, .sc false [.own 64]), (4, .sc false [.sc]), (5, .sc false [.sc])], [(64, true, [.sc, .sc, .sc])], [(0, [.ro [.sc], .sc, .sc])], 65⟩]

def spec_DrawActs_L : L := .seq (.rg []) (.seq (.rg [⟨[], .call F_l01New 0 3, [.v 0], 3⟩]) (.seq (.rg [⟨[], .call F_l39Workshop 0 10, [.v 1, .v 2, .v 3], 12⟩]) (.seq (.rg [⟨[], .call F_l39List 0 1, [.v 1, .v 14, .v 15], 3⟩]) (.ret [.v 4, .v 5, .v 6, .v 7, .v 8, .v 9, .v 10, .v 11, .v 12, .v 13, .v 16]))))
theorem spec_DrawActs_L_sh (Q : QT) (x0 : V) : shL spec_DrawActs_L Q [x0] = (
  P3 (.call F_l01New 0 3) [x0] fun v0 v1 v2 =>
  P12 (.call F_l39Workshop 0 10) [v0, v1, v2] fun v3 v4 v5 v6 v7 v8 v9 v10 v11 v12 v13 v14 =>
  P3 (.call F_l39List 0 1) [v0, v13, v14] fun v15 _ _ =>
  Q .ret [v3, v4, v5, v6, v7, v8, v9, v10, v11, v12, v15]) := by kernel_rfl
def spec_DrawActs_S : Sig := ⟨[.val false [.sl [.sc]]], [(true, [.sc, .sc, .sl [.sc, .sc], .sl [.sl [.sc, .sc]], .sl [.sc], .sc, .sc, .sc, .sc, .sc]), (false, [.sl [.sc, .sc, .sc]])], F_DrawActs⟩
def spec_DrawActs_hs : List NF := []

def spec_DrawPlaces_b0 : L := .seq (.seq (.seq (.rg [⟨[], .bin .lss, [.v 0, .k (.int .i64 12)], 1⟩]) (.ite (.v 5) (.skip) (.seq (.tup [.v 1]) (.exit 0)))) (.seq (.block 1 (.seq (.rg [⟨[], .call F_l01Below 0 1, [.v 2, .v 3, .v 4, .k (.int .i64 10000)], 3⟩, ⟨[], .lst [.sc] false 1, [.v 6], 1⟩, ⟨[], .app [.sc] 8, [.v 1, .v 9], 1⟩]) (.tup [.v 0, .v 10, .v 2, .v 7, .v 8]))) (.rg [⟨[], .bin .add, [.v 0, .k (.int .i64 1)], 1⟩]))) (.tup [.v 5, .v 1, .v 2, .v 3, .v 4])
theorem spec_DrawPlaces_b0_sh (Q : QT) (x0 x1 x2 x3 x4 : V) : shL spec_DrawPlaces_b0 Q [x0, x1, x2, x3, x4] = (
  P1 (.bin .lss) [x0, .int .i64 12] fun v0 =>
  ifB v0 (
    P3 (.call F_l01Below 0 1) [x2, x3, x4, .int .i64 10000] fun v1 v2 v3 =>
    P1 (.lst [.sc] false 1) [v1] fun v4 =>
    P1 (.app [.sc] 8) [x1, v4] fun v5 =>
    P1 (.bin .add) [x0, .int .i64 1] fun v6 =>
    Q .normal [v6, v5, x2, v2, v3]) (
    Q (.exit 0) [x1])) := by kernel_rfl

def spec_DrawPlaces_r1 : L := .seq (.rg []) (.ret [.v 0])
theorem spec_DrawPlaces_r1_sh (Q : QT) (x0 : V) : shL spec_DrawPlaces_r1 Q [x0] = (
  Q .ret [x0]) := by kernel_rfl

def spec_DrawPlaces_L : L := .seq (.rg []) (.seq (.rg [⟨[], .call F_l01New 0 3, [.v 0], 3⟩]) (.seq (.rg [⟨[], .lst [.sc] false 0, [], 1⟩]) (.seq (.seq (.rg []) (.block 0 (.seq (.tup [.k (.int .i64 0), .v 4, .v 1, .v 2, .v 3]) (.loop (spec_DrawPlaces_b0))))) (spec_DrawPlaces_r1))))
theorem spec_DrawPlaces_L_sh (Q : QT) (x0 : V) : shL spec_DrawPlaces_L Q [x0] = (
  P3 (.call F_l01New 0 3) [x0] fun v0 v1 v2 =>
  P1 (.lst [.sc] false 0) [] fun v3 =>
  shL (.loop spec_DrawPlaces_b0) (qB 0 (qS (shL spec_DrawPlaces_r1 Q) Q)) [.int .i64 0, v3, v0, v1, v2]) := by kernel_rfl
def spec_DrawPlaces_S : Sig := ⟨[.val false [.sl [.sc]]], [(false, [.sl [.sc]])], F_DrawPlaces⟩
def spec_DrawPlaces_hs : List NF := [⟨[(4, .sc false [.own 64])], [(64, true, [.sc])], [], 65⟩, ⟨[(3, .ptr 64 0), (4, .sc false [.own 65]), (5, .sc false [.sc])], [(65, true, [.sc])], [(64, [.ro [.sc], .sc, .sc])], 66⟩, ⟨[(3, .ptr 64 0), (4, .sc false [.own 65]), (5, .sc false [.sc])], [(65, true, [.sc])], [(64, [.ro [.sc], .sc, .sc])], 66⟩]

def laws_FnReplays_L : L := .seq (.rg []) (.seq (.seq (.rg [⟨[], .call F_big 0 1, [.v 0], 1⟩]) (.ite (.v 1) (.seq (.rg []) (.ret [.k (.bool true)])) (.skip))) (.seq (.rg [⟨[], .call F_DrawActs 0 11, [.v 0], 11⟩]) (.seq (.rg [⟨[], .call F_RunActs 0 11, [.v 2, .v 3, .v 4, .v 5, .v 6, .v 7, .v 8, .v 9, .v 10, .v 11, .v 12], 11⟩]) (.seq (.seq (.rg [⟨[], .call F_IsReplay 0 1, [.v 2, .v 3, .v 4, .v 5, .v 6, .v 7, .v 8, .v 9, .v 10, .v 11, .v 12, .v 23], 1⟩, ⟨[], .un .not, [.v 24], 1⟩]) (.ite (.v 25) (.seq (.rg []) (.ret [.k (.bool false)])) (.skip))) (.seq (.seq (.rg [⟨[], .len, [.v 23], 1⟩, ⟨[], .bin .eql, [.v 26, .k (.int .i64 0)], 1⟩]) (.ite (.v 27) (.seq (.rg [⟨[], .lst [.sc] false 1, [.k (.int .i64 1)], 1⟩, ⟨[], .call F_IsReplay 0 1, [.v 2, .v 3, .v 4, .v 5, .v 6, .v 7, .v 8, .v 9, .v 10, .v 11, .v 12, .v 28], 1⟩, ⟨[], .un .not, [.v 29], 1⟩]) (.ret [.v 30])) (.skip))) (.seq (.rg [⟨[], .call F_DrawPlaces 0 1, [.v 0], 1⟩]) (.seq (.rg [⟨[], .idx [.sc], [.v 28, .k (.int .i64 0)], 1⟩, ⟨[], .len, [.v 23], 1⟩, ⟨[], .bin .rem, [.v 29, .v 30], 1⟩]) (.seq (.rg [⟨[], .idx [.sc], [.v 23, .v 31], 1⟩, ⟨[], .bin .add, [.v 32, .k (.int .i64 1)], 1⟩, ⟨[], .idx [.sc], [.v 23, .v 31], 1⟩, ⟨[], .set [.sc] 0, [.v 23, .v 31, .v 33], 1⟩]) (.seq (.rg [⟨[], .call F_IsReplay 0 1, [.v 2, .v 3, .v 4, .v 5, .v 6, .v 7, .v 8, .v 9, .v 10, .v 11, .v 12, .v 35], 1⟩, ⟨[], .un .not, [.v 36], 1⟩]) (.ret [.v 37]))))))))))
theorem laws_FnReplays_L_sh (Q : QT) (x0 : V) : shL laws_FnReplays_L Q [x0] = (
  P1 (.call F_big 0 1) [x0] fun v0 =>
  ifB v0 (
    Q .ret [.bool true]) (
    P11 (.call F_DrawActs 0 11) [x0] fun v1 v2 v3 v4 v5 v6 v7 v8 v9 v10 v11 =>
    P11 (.call F_RunActs 0 11) [v1, v2, v3, v4, v5, v6, v7, v8, v9, v10, v11] fun _ _ _ _ _ _ _ _ _ _ v22 =>
    P1 (.call F_IsReplay 0 1) [v1, v2, v3, v4, v5, v6, v7, v8, v9, v10, v11, v22] fun v23 =>
    P1 (.un .not) [v23] fun v24 =>
    ifB v24 (
      Q .ret [.bool false]) (
      P1 (.len) [v22] fun v25 =>
      P1 (.bin .eql) [v25, .int .i64 0] fun v26 =>
      ifB v26 (
        P1 (.lst [.sc] false 1) [.int .i64 1] fun v27 =>
        P1 (.call F_IsReplay 0 1) [v1, v2, v3, v4, v5, v6, v7, v8, v9, v10, v11, v27] fun v28 =>
        P1 (.un .not) [v28] fun v29 =>
        Q .ret [v29]) (
        P1 (.call F_DrawPlaces 0 1) [x0] fun v30 =>
        P1 (.idx [.sc]) [v30, .int .i64 0] fun v31 =>
        P1 (.len) [v22] fun v32 =>
        P1 (.bin .rem) [v31, v32] fun v33 =>
        P1 (.idx [.sc]) [v22, v33] fun v34 =>
        P1 (.bin .add) [v34, .int .i64 1] fun v35 =>
        P1 (.idx [.sc]) [v22, v33] fun _ =>
        P1 (.set [.sc] 0) [v22, v33, v35] fun v37 =>
        P1 (.call F_IsReplay 0 1) [v1, v2, v3, v4, v5, v6, v7, v8, v9, v10, v11, v37] fun v38 =>
        P1 (.un .not) [v38] fun v39 =>
        Q .ret [v39])))) := by kernel_rfl
def laws_FnReplays_S : Sig := ⟨[.val false [.sl [.sc]]], [(false, [.sc])], F_FnReplays⟩
def laws_FnReplays_hs : List NF := []

def laws_FnTop_r1 : L := .ite (.v 62) (.seq (.rg []) (.ret [.k (.bool false)])) (.skip)
theorem laws_FnTop_r1_sh (Q : QT) (x0 x1 x2 x3 x4 x5 x6 x7 x8 x9 x10 x11 x12 x13 x14 x15 x16 x17 x18 x19 x20 x21 x22 x23 x24 x25 x26 x27 x28 x29 x30 x31 x32 x33 x34 x35 x36 x37 x38 x39 x40 x41 x42 x43 x44 x45 x46 x47 x48 x49 x50 x51 x52 x53 x54 x55 x56 x57 x58 x59 x60 x61 x62 : V) : shL laws_FnTop_r1 Q [x0, x1, x2, x3, x4, x5, x6, x7, x8, x9, x10, x11, x12, x13, x14, x15, x16, x17, x18, x19, x20, x21, x22, x23, x24, x25, x26, x27, x28, x29, x30, x31, x32, x33, x34, x35, x36, x37, x38, x39, x40, x41, x42, x43, x44, x45, x46, x47, x48, x49, x50, x51, x52, x53, x54, x55, x56, x57, x58, x59, x60, x61, x62] = (
  ifB x62 (
    Q .ret [.bool false]) (
    Q .normal [x0, x1, x2, x3, x4, x5, x6, x7, x8, x9, x10, x11, x12, x13, x14, x15, x16, x17, x18, x19, x20, x21, x22, x23, x24, x25, x26, x27, x28, x29, x30, x31, x32, x33, x34, x35, x36, x37, x38, x39, x40, x41, x42, x43, x44, x45, x46, x47, x48, x49, x50, x51, x52, x53, x54, x55, x56, x57, x58, x59, x60, x61, .bool false])) := by kernel_rfl

def laws_FnTop_b3 : L := .seq (.seq (.seq (.rg [⟨[], .len, [.v 14], 1⟩, ⟨[], .bin .lss, [.v 6, .v 41], 1⟩]) (.ite (.v 42) (.skip) (.seq (.tup [.v 0, .v 1, .v 2, .v 3, .v 4, .v 5, .v 7, .v 8, .v 9, .v 10, .v 11, .v 12, .v 13, .v 14, .v 15, .v 16, .v 17, .v 18, .v 19, .v 20, .v 21, .v 22, .v 23, .v 24, .v 25, .v 26, .v 27, .v 28, .v 29, .v 30, .v 31, .v 32, .v 33, .v 34, .v 35, .v 36, .v 37, .v 38, .v 39, .v 40]) (.exit 2)))) (.seq (.block 3 (.seq (.seq (.rg [⟨[], .idx [.sc, .sc], [.v 11, .v 6], 2⟩, ⟨[], .idx [.sc, .sc], [.v 14, .v 6], 2⟩, ⟨[], .eqa true [.i, .i], [.v 43, .v 44, .v 45, .v 46], 1⟩]) (.ite (.v 47) (.seq (.rg []) (.ret [.k (.bool false)])) (.skip))) (.tup [.v 0, .v 1, .v 2, .v 3, .v 4, .v 5, .v 6, .v 7, .v 8, .v 9, .v 10, .v 11, .v 12, .v 13, .v 14, .v 15, .v 16, .v 17, .v 18, .v 19, .v 20, .v 21, .v 22, .v 23, .v 24, .v 25, .v 26, .v 27, .v 28, .v 29, .v 30, .v 31, .v 32, .v 33, .v 34, .v 35, .v 36, .v 37, .v 38, .v 39, .v 40]))) (.rg [⟨[], .bin .add, [.v 6, .k (.int .i64 1)], 1⟩]))) (.tup [.v 0, .v 1, .v 2, .v 3, .v 4, .v 5, .v 41, .v 7, .v 8, .v 9, .v 10, .v 11, .v 12, .v 13, .v 14, .v 15, .v 16, .v 17, .v 18, .v 19, .v 20, .v 21, .v 22, .v 23, .v 24, .v 25, .v 26, .v 27, .v 28, .v 29, .v 30, .v 31, .v 32, .v 33, .v 34, .v 35, .v 36, .v 37, .v 38, .v 39, .v 40])
theorem laws_FnTop_b3_sh (Q : QT) (x0 x1 x2 x3 x4 x5 x6 x7 x8 x9 x10 x11 x12 x13 x14 x15 x16 x17 x18 x19 x20 x21 x22 x23 x24 x25 x26 x27 x28 x29 x30 x31 x32 x33 x34 x35 x36 x37 x38 x39 x40 : V) : shL laws_FnTop_b3 Q [x0, x1, x2, x3, x4, x5, x6, x7, x8, x9, x10, x11, x12, x13, x14, x15, x16, x17, x18, x19, x20, x21, x22, x23, x24, x25, x26, x27, x28, x29, x30, x31, x32, x33, x34, x35, x36, x37, x38, x39, x40] = (
  P1 (.len) [x14] fun v0 =>
  P1 (.bin .lss) [x6, v0] fun v1 =>
  ifB v1 (
    P2 (.idx [.sc, .sc]) [x11, x6] fun v2 v3 =>
    P2 (.idx [.sc, .sc]) [x14, x6] fun v4 v5 =>
    P1 (.eqa true [.i, .i]) [v2, v3, v4, v5] fun v6 =>
    ifB v6 (
      Q .ret [.bool false]) (
      P1 (.bin .add) [x6, .int .i64 1] fun v7 =>
      Q .normal [x0, x1, x2, x3, x4, x5, v7, x7, x8, x9, x10, x11, x12, x13, x14, x15, x16, x17, x18, x19, x20, x21, x22, x23, x24, x25, x26, x27, x28, x29, x30, x31, x32, x33, x34, x35, x36, x37, x38, x39, x40])) (
    Q (.exit 2) [x0, x1, x2, x3, x4, x5, x7, x8, x9, x10, x11, x12, x13, x14, x15, x16, x17, x18, x19, x20, x21, x22, x23, x24, x25, x26, x27, x28, x29, x30, x31, x32, x33, x34, x35, x36, x37, x38, x39, x40])) := by kernel_rfl

def laws_FnTop_r8 : L := .ite (.v 50) (.seq (.rg []) (.ret [.k (.bool false)])) (.skip)
theorem laws_FnTop_r8_sh (Q : QT) (x0 x1 x2 x3 x4 x5 x6 x7 x8 x9 x10 x11 x12 x13 x14 x15 x16 x17 x18 x19 x20 x21 x22 x23 x24 x25 x26 x27 x28 x29 x30 x31 x32 x33 x34 x35 x36 x37 x38 x39 x40 x41 x42 x43 x44 x45 x46 x47 x48 x49 x50 : V) : shL laws_FnTop_r8 Q [x0, x1, x2, x3, x4, x5, x6, x7, x8, x9, x10, x11, x12, x13, x14, x15, x16, x17, x18, x19, x20, x21, x22, x23, x24, x25, x26, x27, x28, x29, x30, x31, x32, x33, x34, x35, x36, x37, x38, x39, x40, x41, x42, x43, x44, x45, x46, x47, x48, x49, x50] = (
  ifB x50 (
    Q .ret [.bool false]) (
    Q .normal [x0, x1, x2, x3, x4, x5, x6, x7, x8, x9, x10, x11, x12, x13, x14, x15, x16, x17, x18, x19, x20, x21, x22, x23, x24, x25, x26, x27, x28, x29, x30, x31, x32, x33, x34, x35, x36, x37, x38, x39, x40, x41, x42, x43, x44, x45, x46, x47, x48, x49, .bool false])) := by kernel_rfl

def laws_FnTop_r9 : L := .rg []
theorem laws_FnTop_r9_sh (Q : QT) (x0 x1 x2 x3 x4 x5 x6 x7 x8 x9 x10 x11 x12 x13 x14 x15 x16 x17 x18 x19 x20 x21 x22 x23 x24 x25 x26 x27 x28 x29 x30 x31 x32 x33 x34 x35 x36 x37 x38 x39 x40 x41 x42 x43 x44 x45 x46 x47 x48 x49 x50 : V) : shL laws_FnTop_r9 Q [x0, x1, x2, x3, x4, x5, x6, x7, x8, x9, x10, x11, x12, x13, x14, x15, x16, x17, x18, x19, x20, x21, x22, x23, x24, x25, x26, x27, x28, x29, x30, x31, x32, x33, x34, x35, x36, x37, x38, x39, x40, x41, x42, x43, x44, x45, x46, x47, x48, x49, x50] = (
  Q .normal [x0, x1, x2, x3, x4, x5, x6, x7, x8, x9, x10, x11, x12, x13, x14, x15, x16, x17, x18, x19, x20, x21, x22, x23, x24, x25, x26, x27, x28, x29, x30, x31, x32, x33, x34, x35, x36, x37, x38, x39, x40, x41, x42, x43, x44, x45, x46, x47, x48, x49, x50]) := by kernel_rfl

def laws_FnTop_r7 : L := .seq (.seq (.rg [⟨[], .bin .neq, [.v 30, .v 0], 1⟩, ⟨[(.v 39, false)], .bin .neq, [.v 31, .v 1], 1⟩, ⟨[], .pick, [.v 39, .k (.bool true), .v 40], 1⟩, ⟨[(.v 41, false)], .bin .neq, [.v 27, .v 2], 1⟩, ⟨[], .pick, [.v 41, .k (.bool true), .v 42], 1⟩, ⟨[(.v 43, false)], .bin .lss, [.v 2, .k (.int .i64 0)], 1⟩, ⟨[], .pick, [.v 43, .k (.bool true), .v 44], 1⟩, ⟨[(.v 45, false)], .bin .eql, [.v 22, .k (.int .i64 6)], 1⟩, ⟨[(.v 45, false), (.v 46, true)], .call F_ClosestPins 0 1, [.v 32, .v 33, .v 12], 1⟩, ⟨[(.v 45, false), (.v 46, true)], .bin .neq, [.v 4, .v 47], 1⟩, ⟨[(.v 45, false)], .pick, [.v 46, .v 48, .k (.bool false)], 1⟩, ⟨[], .pick, [.v 45, .k (.bool true), .v 49], 1⟩]) (laws_FnTop_r8)) (laws_FnTop_r9)
theorem laws_FnTop_r7_sh (Q : QT) (x0 x1 x2 x3 x4 x5 x6 x7 x8 x9 x10 x11 x12 x13 x14 x15 x16 x17 x18 x19 x20 x21 x22 x23 x24 x25 x26 x27 x28 x29 x30 x31 x32 x33 x34 x35 x36 x37 x38 : V) : shL laws_FnTop_r7 Q [x0, x1, x2, x3, x4, x5, x6, x7, x8, x9, x10, x11, x12, x13, x14, x15, x16, x17, x18, x19, x20, x21, x22, x23, x24, x25, x26, x27, x28, x29, x30, x31, x32, x33, x34, x35, x36, x37, x38] = (
  P1 (.bin .neq) [x30, x0] fun v0 =>
  ifB v0 (
    shL laws_FnTop_r8 (qS (shL laws_FnTop_r9 Q) Q) [x0, x1, x2, x3, x4, x5, x6, x7, x8, x9, x10, x11, x12, x13, x14, x15, x16, x17, x18, x19, x20, x21, x22, x23, x24, x25, x26, x27, x28, x29, x30, x31, x32, x33, x34, x35, x36, x37, x38, .bool true, .list [] [], .bool true, .list [] [], .bool true, .list [] [], .bool true, .list [] [], .list [] [], .list [] [], .list [] [], .bool true]) (
    P1 (.bin .neq) [x31, x1] fun v1 =>
    ifB v1 (
      shL laws_FnTop_r8 (qS (shL laws_FnTop_r9 Q) Q) [x0, x1, x2, x3, x4, x5, x6, x7, x8, x9, x10, x11, x12, x13, x14, x15, x16, x17, x18, x19, x20, x21, x22, x23, x24, x25, x26, x27, x28, x29, x30, x31, x32, x33, x34, x35, x36, x37, x38, .bool false, v1, .bool true, .list [] [], .bool true, .list [] [], .bool true, .list [] [], .list [] [], .list [] [], .list [] [], .bool true]) (
      P1 (.bin .neq) [x27, x2] fun v2 =>
      ifB v2 (
        shL laws_FnTop_r8 (qS (shL laws_FnTop_r9 Q) Q) [x0, x1, x2, x3, x4, x5, x6, x7, x8, x9, x10, x11, x12, x13, x14, x15, x16, x17, x18, x19, x20, x21, x22, x23, x24, x25, x26, x27, x28, x29, x30, x31, x32, x33, x34, x35, x36, x37, x38, .bool false, v1, .bool false, v2, .bool true, .list [] [], .bool true, .list [] [], .list [] [], .list [] [], .list [] [], .bool true]) (
        P1 (.bin .lss) [x2, .int .i64 0] fun v3 =>
        ifB v3 (
          shL laws_FnTop_r8 (qS (shL laws_FnTop_r9 Q) Q) [x0, x1, x2, x3, x4, x5, x6, x7, x8, x9, x10, x11, x12, x13, x14, x15, x16, x17, x18, x19, x20, x21, x22, x23, x24, x25, x26, x27, x28, x29, x30, x31, x32, x33, x34, x35, x36, x37, x38, .bool false, v1, .bool false, v2, .bool false, v3, .bool true, .list [] [], .list [] [], .list [] [], .list [] [], .bool true]) (
          P1 (.bin .eql) [x22, .int .i64 6] fun v4 =>
          ifB v4 (
            P1 (.call F_ClosestPins 0 1) [x32, x33, x12] fun v5 =>
            P1 (.bin .neq) [x4, v5] fun v6 =>
            shL laws_FnTop_r8 (qS (shL laws_FnTop_r9 Q) Q) [x0, x1, x2, x3, x4, x5, x6, x7, x8, x9, x10, x11, x12, x13, x14, x15, x16, x17, x18, x19, x20, x21, x22, x23, x24, x25, x26, x27, x28, x29, x30, x31, x32, x33, x34, x35, x36, x37, x38, .bool false, v1, .bool false, v2, .bool false, v3, .bool false, .bool true, v5, v6, v6, v6]) (
            shL laws_FnTop_r8 (qS (shL laws_FnTop_r9 Q) Q) [x0, x1, x2, x3, x4, x5, x6, x7, x8, x9, x10, x11, x12, x13, x14, x15, x16, x17, x18, x19, x20, x21, x22, x23, x24, x25, x26, x27, x28, x29, x30, x31, x32, x33, x34, x35, x36, x37, x38, .bool false, v1, .bool false, v2, .bool false, v3, .bool false, .bool false, .list [] [], .list [] [], .bool false, .bool false])))))) := by kernel_rfl

def laws_FnTop_r6 : L := .seq (.seq (.rg [⟨[], .bin .eql, [.v 22, .k (.int .i64 4)], 1⟩]) (.ite (.v 39) (.seq (.rg [⟨[], .bin .add, [.v 2, .v 4], 1⟩]) (.tup [.v 0, .v 1, .v 40, .v 3, .v 4, .v 5, .v 6, .v 7, .v 8, .v 9, .v 10, .v 11, .v 12, .v 13, .v 14, .v 15, .v 16, .v 17, .v 18, .v 19, .v 20, .v 21, .v 22, .v 23, .v 24, .v 25, .v 26, .v 27, .v 28, .v 29, .v 30, .v 31, .v 32, .v 33, .v 34, .v 35, .v 36, .v 37, .v 38])) (.seq (.skip) (.tup [.v 0, .v 1, .v 2, .v 3, .v 4, .v 5, .v 6, .v 7, .v 8, .v 9, .v 10, .v 11, .v 12, .v 13, .v 14, .v 15, .v 16, .v 17, .v 18, .v 19, .v 20, .v 21, .v 22, .v 23, .v 24, .v 25, .v 26, .v 27, .v 28, .v 29, .v 30, .v 31, .v 32, .v 33, .v 34, .v 35, .v 36, .v 37, .v 38])))) (laws_FnTop_r7)
theorem laws_FnTop_r6_sh (Q : QT) (x0 x1 x2 x3 x4 x5 x6 x7 x8 x9 x10 x11 x12 x13 x14 x15 x16 x17 x18 x19 x20 x21 x22 x23 x24 x25 x26 x27 x28 x29 x30 x31 x32 x33 x34 x35 x36 x37 x38 : V) : shL laws_FnTop_r6 Q [x0, x1, x2, x3, x4, x5, x6, x7, x8, x9, x10, x11, x12, x13, x14, x15, x16, x17, x18, x19, x20, x21, x22, x23, x24, x25, x26, x27, x28, x29, x30, x31, x32, x33, x34, x35, x36, x37, x38] = (
  P1 (.bin .eql) [x22, .int .i64 4] fun v0 =>
  ifB v0 (
    P1 (.bin .add) [x2, x4] fun v1 =>
    shL laws_FnTop_r7 Q [x0, x1, v1, x3, x4, x5, x6, x7, x8, x9, x10, x11, x12, x13, x14, x15, x16, x17, x18, x19, x20, x21, x22, x23, x24, x25, x26, x27, x28, x29, x30, x31, x32, x33, x34, x35, x36, x37, x38]) (
    shL laws_FnTop_r7 Q [x0, x1, x2, x3, x4, x5, x6, x7, x8, x9, x10, x11, x12, x13, x14, x15, x16, x17, x18, x19, x20, x21, x22, x23, x24, x25, x26, x27, x28, x29, x30, x31, x32, x33, x34, x35, x36, x37, x38])) := by kernel_rfl

def laws_FnTop_r5 : L := .seq (.seq (.rg [⟨[], .bin .eql, [.v 5, .k (.int .i64 1)], 1⟩, ⟨[(.v 40, true)], .bin .eql, [.v 23, .k (.int .i64 5)], 1⟩, ⟨[], .pick, [.v 40, .v 41, .k (.bool false)], 1⟩]) (.ite (.v 42) (.seq (.seq (.rg [⟨[], .bin .sub, [.v 2, .k (.int .i64 1)], 1⟩]) (.seq (.rg [⟨[], .len, [.v 7], 1⟩, ⟨[], .bin .add, [.v 1, .v 44], 1⟩]) (.seq (.rg []) (.ite (.v 4) (.seq (.rg []) (.ret [.k (.bool false)])) (.skip))))) (.tup [.v 0, .v 45, .v 43, .v 3, .v 5, .v 6, .v 7, .v 8, .v 9, .v 10, .v 11, .v 12, .v 13, .v 14, .v 15, .v 16, .v 17, .v 18, .v 19, .v 20, .v 21, .v 22, .v 23, .v 24, .v 25, .v 26, .v 27, .v 28, .v 29, .v 30, .v 31, .v 32, .v 33, .v 34, .v 35, .v 36, .v 37, .v 38, .v 39])) (.seq (.skip) (.tup [.v 0, .v 1, .v 2, .v 3, .v 5, .v 6, .v 7, .v 8, .v 9, .v 10, .v 11, .v 12, .v 13, .v 14, .v 15, .v 16, .v 17, .v 18, .v 19, .v 20, .v 21, .v 22, .v 23, .v 24, .v 25, .v 26, .v 27, .v 28, .v 29, .v 30, .v 31, .v 32, .v 33, .v 34, .v 35, .v 36, .v 37, .v 38, .v 39])))) (laws_FnTop_r6)
theorem laws_FnTop_r5_sh (Q : QT) (x0 x1 x2 x3 x4 x5 x6 x7 x8 x9 x10 x11 x12 x13 x14 x15 x16 x17 x18 x19 x20 x21 x22 x23 x24 x25 x26 x27 x28 x29 x30 x31 x32 x33 x34 x35 x36 x37 x38 x39 : V) : shL laws_FnTop_r5 Q [x0, x1, x2, x3, x4, x5, x6, x7, x8, x9, x10, x11, x12, x13, x14, x15, x16, x17, x18, x19, x20, x21, x22, x23, x24, x25, x26, x27, x28, x29, x30, x31, x32, x33, x34, x35, x36, x37, x38, x39] = (
  P1 (.bin .eql) [x5, .int .i64 1] fun v0 =>
  ifB v0 (
    P1 (.bin .eql) [x23, .int .i64 5] fun v1 =>
    ifB v1 (
      P1 (.bin .sub) [x2, .int .i64 1] fun v2 =>
      P1 (.len) [x7] fun v3 =>
      P1 (.bin .add) [x1, v3] fun v4 =>
      ifB x4 (
        Q .ret [.bool false]) (
        shL laws_FnTop_r6 Q [x0, v4, v2, x3, x5, x6, x7, x8, x9, x10, x11, x12, x13, x14, x15, x16, x17, x18, x19, x20, x21, x22, x23, x24, x25, x26, x27, x28, x29, x30, x31, x32, x33, x34, x35, x36, x37, x38, x39])) (
      shL laws_FnTop_r6 Q [x0, x1, x2, x3, x5, x6, x7, x8, x9, x10, x11, x12, x13, x14, x15, x16, x17, x18, x19, x20, x21, x22, x23, x24, x25, x26, x27, x28, x29, x30, x31, x32, x33, x34, x35, x36, x37, x38, x39])) (
    shL laws_FnTop_r6 Q [x0, x1, x2, x3, x5, x6, x7, x8, x9, x10, x11, x12, x13, x14, x15, x16, x17, x18, x19, x20, x21, x22, x23, x24, x25, x26, x27, x28, x29, x30, x31, x32, x33, x34, x35, x36, x37, x38, x39])) := by kernel_rfl

def laws_FnTop_r4 : L := .seq (.seq (.rg [⟨[], .bin .eql, [.v 5, .k (.int .i64 1)], 1⟩, ⟨[(.v 40, true)], .bin .eql, [.v 23, .k (.int .i64 1)], 1⟩, ⟨[], .pick, [.v 40, .v 41, .k (.bool false)], 1⟩]) (.ite (.v 42) (.seq (.rg [⟨[], .bin .sub, [.v 0, .k (.int .i64 1)], 1⟩]) (.tup [.v 43, .v 1, .v 2, .v 3, .v 4, .v 5, .v 6, .v 7, .v 8, .v 9, .v 10, .v 11, .v 12, .v 13, .v 14, .v 15, .v 16, .v 17, .v 18, .v 19, .v 20, .v 21, .v 22, .v 23, .v 24, .v 25, .v 26, .v 27, .v 28, .v 29, .v 30, .v 31, .v 32, .v 33, .v 34, .v 35, .v 36, .v 37, .v 38, .v 39])) (.seq (.skip) (.tup [.v 0, .v 1, .v 2, .v 3, .v 4, .v 5, .v 6, .v 7, .v 8, .v 9, .v 10, .v 11, .v 12, .v 13, .v 14, .v 15, .v 16, .v 17, .v 18, .v 19, .v 20, .v 21, .v 22, .v 23, .v 24, .v 25, .v 26, .v 27, .v 28, .v 29, .v 30, .v 31, .v 32, .v 33, .v 34, .v 35, .v 36, .v 37, .v 38, .v 39])))) (laws_FnTop_r5)
theorem laws_FnTop_r4_sh (Q : QT) (x0 x1 x2 x3 x4 x5 x6 x7 x8 x9 x10 x11 x12 x13 x14 x15 x16 x17 x18 x19 x20 x21 x22 x23 x24 x25 x26 x27 x28 x29 x30 x31 x32 x33 x34 x35 x36 x37 x38 x39 : V) : shL laws_FnTop_r4 Q [x0, x1, x2, x3, x4, x5, x6, x7, x8, x9, x10, x11, x12, x13, x14, x15, x16, x17, x18, x19, x20, x21, x22, x23, x24, x25, x26, x27, x28, x29, x30, x31, x32, x33, x34, x35, x36, x37, x38, x39] = (
  P1 (.bin .eql) [x5, .int .i64 1] fun v0 =>
  ifB v0 (
    P1 (.bin .eql) [x23, .int .i64 1] fun v1 =>
    ifB v1 (
      P1 (.bin .sub) [x0, .int .i64 1] fun v2 =>
      shL laws_FnTop_r5 Q [v2, x1, x2, x3, x4, x5, x6, x7, x8, x9, x10, x11, x12, x13, x14, x15, x16, x17, x18, x19, x20, x21, x22, x23, x24, x25, x26, x27, x28, x29, x30, x31, x32, x33, x34, x35, x36, x37, x38, x39]) (
      shL laws_FnTop_r5 Q [x0, x1, x2, x3, x4, x5, x6, x7, x8, x9, x10, x11, x12, x13, x14, x15, x16, x17, x18, x19, x20, x21, x22, x23, x24, x25, x26, x27, x28, x29, x30, x31, x32, x33, x34, x35, x36, x37, x38, x39])) (
    shL laws_FnTop_r5 Q [x0, x1, x2, x3, x4, x5, x6, x7, x8, x9, x10, x11, x12, x13, x14, x15, x16, x17, x18, x19, x20, x21, x22, x23, x24, x25, x26, x27, x28, x29, x30, x31, x32, x33, x34, x35, x36, x37, x38, x39])) := by kernel_rfl

def laws_FnTop_r2 : L := .seq (.seq (.rg []) (.block 2 (.seq (.tup [.v 0, .v 1, .v 2, .v 3, .v 22, .v 33, .k (.int .i64 0), .v 4, .v 5, .v 6, .v 7, .v 25, .v 26, .v 27, .v 36, .v 37, .v 38, .v 8, .v 9, .v 10, .v 11, .v 12, .v 13, .v 14, .v 17, .v 18, .v 19, .v 23, .v 24, .v 28, .v 29, .v 30, .v 31, .v 32, .v 34, .v 35, .v 39, .v 40, .v 41, .v 42, .v 43]) (.loop (laws_FnTop_b3))))) (laws_FnTop_r4)
theorem laws_FnTop_r2_sh (Q : QT) (x0 x1 x2 x3 x4 x5 x6 x7 x8 x9 x10 x11 x12 x13 x14 x15 x16 x17 x18 x19 x20 x21 x22 x23 x24 x25 x26 x27 x28 x29 x30 x31 x32 x33 x34 x35 x36 x37 x38 x39 x40 x41 x42 x43 x44 x45 x46 x47 x48 x49 x50 x51 x52 x53 x54 x55 x56 x57 x58 x59 x60 x61 x62 : V) : shL laws_FnTop_r2 Q [x0, x1, x2, x3, x4, x5, x6, x7, x8, x9, x10, x11, x12, x13, x14, x15, x16, x17, x18, x19, x20, x21, x22, x23, x24, x25, x26, x27, x28, x29, x30, x31, x32, x33, x34, x35, x36, x37, x38, x39, x40, x41, x42, x43, x44, x45, x46, x47, x48, x49, x50, x51, x52, x53, x54, x55, x56, x57, x58, x59, x60, x61, x62] = (
  shL (.loop laws_FnTop_b3) (qB 2 (qS (shL laws_FnTop_r4 Q) Q)) [x0, x1, x2, x3, x22, x33, .int .i64 0, x4, x5, x6, x7, x25, x26, x27, x36, x37, x38, x8, x9, x10, x11, x12, x13, x14, x17, x18, x19, x23, x24, x28, x29, x30, x31, x32, x34, x35, x39, x40, x41, x42, x43]) := by kernel_rfl

def laws_FnTop_r10 : L := .tup [.v 0, .v 1, .v 2, .v 3, .v 5, .v 12, .v 13, .v 14, .v 32, .v 33, .v 34, .v 35, .v 36, .v 37, .v 38]
theorem laws_FnTop_r10_sh (Q : QT) (x0 x1 x2 x3 x4 x5 x6 x7 x8 x9 x10 x11 x12 x13 x14 x15 x16 x17 x18 x19 x20 x21 x22 x23 x24 x25 x26 x27 x28 x29 x30 x31 x32 x33 x34 x35 x36 x37 x38 x39 x40 x41 x42 x43 x44 x45 x46 x47 x48 x49 x50 : V) : shL laws_FnTop_r10 Q [x0, x1, x2, x3, x4, x5, x6, x7, x8, x9, x10, x11, x12, x13, x14, x15, x16, x17, x18, x19, x20, x21, x22, x23, x24, x25, x26, x27, x28, x29, x30, x31, x32, x33, x34, x35, x36, x37, x38, x39, x40, x41, x42, x43, x44, x45, x46, x47, x48, x49, x50] = (
  Q .normal [x0, x1, x2, x3, x5, x12, x13, x14, x32, x33, x34, x35, x36, x37, x38]) := by kernel_rfl

def laws_FnTop_r11 : L := .rg [⟨[], .bin .add, [.v 3, .k (.int .i64 1)], 1⟩]
theorem laws_FnTop_r11_sh (Q : QT) (x0 x1 x2 x3 x4 x5 x6 x7 x8 x9 x10 x11 x12 x13 x14 : V) : shL laws_FnTop_r11 Q [x0, x1, x2, x3, x4, x5, x6, x7, x8, x9, x10, x11, x12, x13, x14] = (
  P1 (.bin .add) [x3, .int .i64 1] fun v0 =>
  Q .normal [x0, x1, x2, x3, x4, x5, x6, x7, x8, x9, x10, x11, x12, x13, x14, v0]) := by kernel_rfl

def laws_FnTop_r12 : L := .tup [.v 0, .v 1, .v 2, .v 15, .v 4, .v 5, .v 6, .v 7, .v 8, .v 9, .v 10, .v 11, .v 12, .v 13, .v 14]
theorem laws_FnTop_r12_sh (Q : QT) (x0 x1 x2 x3 x4 x5 x6 x7 x8 x9 x10 x11 x12 x13 x14 x15 : V) : shL laws_FnTop_r12 Q [x0, x1, x2, x3, x4, x5, x6, x7, x8, x9, x10, x11, x12, x13, x14, x15] = (
  Q .normal [x0, x1, x2, x15, x4, x5, x6, x7, x8, x9, x10, x11, x12, x13, x14]) := by kernel_rfl

def laws_FnTop_b0 : L := .seq (.seq (.seq (.rg [⟨[], .len, [.v 4], 1⟩, ⟨[], .bin .lss, [.v 3, .v 15], 1⟩]) (.ite (.v 16) (.skip) (.seq (.tup [.v 5, .v 6, .v 7, .v 8, .v 9, .v 10, .v 11, .v 12, .v 13, .v 14]) (.exit 0)))) (.seq (.block 1 (.seq (.seq (.rg [⟨[], .idx [.sc, .sc, .sc], [.v 4, .v 3], 3⟩]) (.seq (.rg [⟨[], .call F_TooClose 0 1, [.v 8, .v 9, .v 5, .k (.int .i64 2)], 1⟩, ⟨[], .len, [.v 20], 1⟩, ⟨[], .bin .gtr, [.v 21, .k (.int .i64 0)], 1⟩]) (.seq (.rg [⟨[], .call F_DoAct 0 11, [.v 8, .v 9, .v 5, .v 6, .v 7, .v 10, .v 11, .v 12, .v 13, .v 14, .v 17, .v 18, .v 19], 11⟩]) (.seq (.rg [⟨[], .call F_DoAct 0 11, [.v 8, .v 9, .v 5, .v 6, .v 7, .v 10, .v 11, .v 12, .v 13, .v 14, .v 17, .v 18, .v 19], 11⟩]) (.seq (.seq (.rg [⟨[], .bin .neq, [.v 33, .v 44], 1⟩, ⟨[(.v 45, false)], .call F_WorkshopOk 0 1, [.v 23, .v 24, .v 25, .v 26, .v 27, .v 28, .v 29, .v 30, .v 31, .v 32], 1⟩, ⟨[(.v 45, false)], .un .not, [.v 46], 1⟩, ⟨[], .pick, [.v 45, .k (.bool true), .v 47], 1⟩, ⟨[(.v 48, false)], .bin .neq, [.v 31, .v 42], 1⟩, ⟨[], .pick, [.v 48, .k (.bool true), .v 49], 1⟩, ⟨[(.v 50, false)], .bin .neq, [.v 32, .v 43], 1⟩, ⟨[], .pick, [.v 50, .k (.bool true), .v 51], 1⟩, ⟨[(.v 52, false)], .eqa true [.i, .i, .i], [.v 28, .v 29, .v 30, .v 39, .v 40, .v 41], 1⟩, ⟨[], .pick, [.v 52, .k (.bool true), .v 53], 1⟩, ⟨[(.v 54, false)], .len, [.v 26], 1⟩, ⟨[(.v 54, false)], .len, [.v 37], 1⟩, ⟨[(.v 54, false)], .bin .neq, [.v 55, .v 56], 1⟩, ⟨[], .pick, [.v 54, .k (.bool true), .v 57], 1⟩, ⟨[(.v 58, false)], .len, [.v 25], 1⟩, ⟨[(.v 58, false)], .len, [.v 36], 1⟩, ⟨[(.v 58, false)], .bin .neq, [.v 59, .v 60], 1⟩, ⟨[], .pick, [.v 58, .k (.bool true), .v 61], 1⟩]) (laws_FnTop_r1)) (laws_FnTop_r2)))))) (laws_FnTop_r10))) (laws_FnTop_r11))) (laws_FnTop_r12)
theorem laws_FnTop_b0_sh (Q : QT) (x0 x1 x2 x3 x4 x5 x6 x7 x8 x9 x10 x11 x12 x13 x14 : V) : shL laws_FnTop_b0 Q [x0, x1, x2, x3, x4, x5, x6, x7, x8, x9, x10, x11, x12, x13, x14] = (
  P1 (.len) [x4] fun v0 =>
  P1 (.bin .lss) [x3, v0] fun v1 =>
  ifB v1 (
    P3 (.idx [.sc, .sc, .sc]) [x4, x3] fun v2 v3 v4 =>
    P1 (.call F_TooClose 0 1) [x8, x9, x5, .int .i64 2] fun v5 =>
    P1 (.len) [v5] fun v6 =>
    P1 (.bin .gtr) [v6, .int .i64 0] fun v7 =>
    P11 (.call F_DoAct 0 11) [x8, x9, x5, x6, x7, x10, x11, x12, x13, x14, v2, v3, v4] fun v8 v9 v10 v11 v12 v13 v14 v15 v16 v17 v18 =>
    P11 (.call F_DoAct 0 11) [x8, x9, x5, x6, x7, x10, x11, x12, x13, x14, v2, v3, v4] fun v19 v20 v21 v22 v23 v24 v25 v26 v27 v28 v29 =>
    P1 (.bin .neq) [v18, v29] fun v30 =>
    ifB v30 (
      shL laws_FnTop_r1 (qS (shL laws_FnTop_r2 (qS (shL laws_FnTop_r10 (qB 1 (qS (shL laws_FnTop_r11 (qS (shL laws_FnTop_r12 Q) Q)) (qS (shL laws_FnTop_r12 Q) Q)))) (qB 1 (qS (shL laws_FnTop_r11 (qS (shL laws_FnTop_r12 Q) Q)) (qS (shL laws_FnTop_r12 Q) Q))))) (qS (shL laws_FnTop_r10 (qB 1 (qS (shL laws_FnTop_r11 (qS (shL laws_FnTop_r12 Q) Q)) (qS (shL laws_FnTop_r12 Q) Q)))) (qB 1 (qS (shL laws_FnTop_r11 (qS (shL laws_FnTop_r12 Q) Q)) (qS (shL laws_FnTop_r12 Q) Q))))) [x0, x1, x2, x3, x4, x5, x6, x7, x8, x9, x10, x11, x12, x13, x14, v0, .bool true, v2, v3, v4, v5, v6, v7, v8, v9, v10, v11, v12, v13, v14, v15, v16, v17, v18, v19, v20, v21, v22, v23, v24, v25, v26, v27, v28, v29, .bool true, .list [] [], .list [] [], .bool true, .list [] [], .bool true, .list [] [], .bool true, .list [] [], .bool true, .list [] [], .list [] [], .list [] [], .bool true, .list [] [], .list [] [], .list [] [], .bool true]) (
      P1 (.call F_WorkshopOk 0 1) [v8, v9, v10, v11, v12, v13, v14, v15, v16, v17] fun v31 =>
      P1 (.un .not) [v31] fun v32 =>
      ifB v32 (
        shL laws_FnTop_r1 (qS (shL laws_FnTop_r2 (qS (shL laws_FnTop_r10 (qB 1 (qS (shL laws_FnTop_r11 (qS (shL laws_FnTop_r12 Q) Q)) (qS (shL laws_FnTop_r12 Q) Q)))) (qB 1 (qS (shL laws_FnTop_r11 (qS (shL laws_FnTop_r12 Q) Q)) (qS (shL laws_FnTop_r12 Q) Q))))) (qS (shL laws_FnTop_r10 (qB 1 (qS (shL laws_FnTop_r11 (qS (shL laws_FnTop_r12 Q) Q)) (qS (shL laws_FnTop_r12 Q) Q)))) (qB 1 (qS (shL laws_FnTop_r11 (qS (shL laws_FnTop_r12 Q) Q)) (qS (shL laws_FnTop_r12 Q) Q))))) [x0, x1, x2, x3, x4, x5, x6, x7, x8, x9, x10, x11, x12, x13, x14, v0, .bool true, v2, v3, v4, v5, v6, v7, v8, v9, v10, v11, v12, v13, v14, v15, v16, v17, v18, v19, v20, v21, v22, v23, v24, v25, v26, v27, v28, v29, .bool false, v31, v32, .bool true, .list [] [], .bool true, .list [] [], .bool true, .list [] [], .bool true, .list [] [], .list [] [], .list [] [], .bool true, .list [] [], .list [] [], .list [] [], .bool true]) (
        P1 (.bin .neq) [v16, v27] fun v33 =>
        ifB v33 (
          shL laws_FnTop_r1 (qS (shL laws_FnTop_r2 (qS (shL laws_FnTop_r10 (qB 1 (qS (shL laws_FnTop_r11 (qS (shL laws_FnTop_r12 Q) Q)) (qS (shL laws_FnTop_r12 Q) Q)))) (qB 1 (qS (shL laws_FnTop_r11 (qS (shL laws_FnTop_r12 Q) Q)) (qS (shL laws_FnTop_r12 Q) Q))))) (qS (shL laws_FnTop_r10 (qB 1 (qS (shL laws_FnTop_r11 (qS (shL laws_FnTop_r12 Q) Q)) (qS (shL laws_FnTop_r12 Q) Q)))) (qB 1 (qS (shL laws_FnTop_r11 (qS (shL laws_FnTop_r12 Q) Q)) (qS (shL laws_FnTop_r12 Q) Q))))) [x0, x1, x2, x3, x4, x5, x6, x7, x8, x9, x10, x11, x12, x13, x14, v0, .bool true, v2, v3, v4, v5, v6, v7, v8, v9, v10, v11, v12, v13, v14, v15, v16, v17, v18, v19, v20, v21, v22, v23, v24, v25, v26, v27, v28, v29, .bool false, v31, v32, .bool false, v33, .bool true, .list [] [], .bool true, .list [] [], .bool true, .list [] [], .list [] [], .list [] [], .bool true, .list [] [], .list [] [], .list [] [], .bool true]) (
          P1 (.bin .neq) [v17, v28] fun v34 =>
          ifB v34 (
            shL laws_FnTop_r1 (qS (shL laws_FnTop_r2 (qS (shL laws_FnTop_r10 (qB 1 (qS (shL laws_FnTop_r11 (qS (shL laws_FnTop_r12 Q) Q)) (qS (shL laws_FnTop_r12 Q) Q)))) (qB 1 (qS (shL laws_FnTop_r11 (qS (shL laws_FnTop_r12 Q) Q)) (qS (shL laws_FnTop_r12 Q) Q))))) (qS (shL laws_FnTop_r10 (qB 1 (qS (shL laws_FnTop_r11 (qS (shL laws_FnTop_r12 Q) Q)) (qS (shL laws_FnTop_r12 Q) Q)))) (qB 1 (qS (shL laws_FnTop_r11 (qS (shL laws_FnTop_r12 Q) Q)) (qS (shL laws_FnTop_r12 Q) Q))))) [x0, x1, x2, x3, x4, x5, x6, x7, x8, x9, x10, x11, x12, x13, x14, v0, .bool true, v2, v3, v4, v5, v6, v7, v8, v9, v10, v11, v12, v13, v14, v15, v16, v17, v18, v19, v20, v21, v22, v23, v24, v25, v26, v27, v28, v29, .bool false, v31, v32, .bool false, v33, .bool false, v34, .bool true, .list [] [], .bool true, .list [] [], .list [] [], .list [] [], .bool true, .list [] [], .list [] [], .list [] [], .bool true]) (
            P1 (.eqa true [.i, .i, .i]) [v13, v14, v15, v24, v25, v26] fun v35 =>
            ifB v35 (
              shL laws_FnTop_r1 (qS (shL laws_FnTop_r2 (qS (shL laws_FnTop_r10 (qB 1 (qS (shL laws_FnTop_r11 (qS (shL laws_FnTop_r12 Q) Q)) (qS (shL laws_FnTop_r12 Q) Q)))) (qB 1 (qS (shL laws_FnTop_r11 (qS (shL laws_FnTop_r12 Q) Q)) (qS (shL laws_FnTop_r12 Q) Q))))) (qS (shL laws_FnTop_r10 (qB 1 (qS (shL laws_FnTop_r11 (qS (shL laws_FnTop_r12 Q) Q)) (qS (shL laws_FnTop_r12 Q) Q)))) (qB 1 (qS (shL laws_FnTop_r11 (qS (shL laws_FnTop_r12 Q) Q)) (qS (shL laws_FnTop_r12 Q) Q))))) [x0, x1, x2, x3, x4, x5, x6, x7, x8, x9, x10, x11, x12, x13, x14, v0, .bool true, v2, v3, v4, v5, v6, v7, v8, v9, v10, v11, v12, v13, v14, v15, v16, v17, v18, v19, v20, v21, v22, v23, v24, v25, v26, v27, v28, v29, .bool false, v31, v32, .bool false, v33, .bool false, v34, .bool false, v35, .bool true, .list [] [], .list [] [], .list [] [], .bool true, .list [] [], .list [] [], .list [] [], .bool true]) (
              P1 (.len) [v11] fun v36 =>
              P1 (.len) [v22] fun v37 =>
              P1 (.bin .neq) [v36, v37] fun v38 =>
              ifB v38 (
                shL laws_FnTop_r1 (qS (shL laws_FnTop_r2 (qS (shL laws_FnTop_r10 (qB 1 (qS (shL laws_FnTop_r11 (qS (shL laws_FnTop_r12 Q) Q)) (qS (shL laws_FnTop_r12 Q) Q)))) (qB 1 (qS (shL laws_FnTop_r11 (qS (shL laws_FnTop_r12 Q) Q)) (qS (shL laws_FnTop_r12 Q) Q))))) (qS (shL laws_FnTop_r10 (qB 1 (qS (shL laws_FnTop_r11 (qS (shL laws_FnTop_r12 Q) Q)) (qS (shL laws_FnTop_r12 Q) Q)))) (qB 1 (qS (shL laws_FnTop_r11 (qS (shL laws_FnTop_r12 Q) Q)) (qS (shL laws_FnTop_r12 Q) Q))))) [x0, x1, x2, x3, x4, x5, x6, x7, x8, x9, x10, x11, x12, x13, x14, v0, .bool true, v2, v3, v4, v5, v6, v7, v8, v9, v10, v11, v12, v13, v14, v15, v16, v17, v18, v19, v20, v21, v22, v23, v24, v25, v26, v27, v28, v29, .bool false, v31, v32, .bool false, v33, .bool false, v34, .bool false, v35, .bool false, v36, v37, v38, .bool true, .list [] [], .list [] [], .list [] [], .bool true]) (
                P1 (.len) [v10] fun v39 =>
                P1 (.len) [v21] fun v40 =>
                P1 (.bin .neq) [v39, v40] fun v41 =>
                shL laws_FnTop_r1 (qS (shL laws_FnTop_r2 (qS (shL laws_FnTop_r10 (qB 1 (qS (shL laws_FnTop_r11 (qS (shL laws_FnTop_r12 Q) Q)) (qS (shL laws_FnTop_r12 Q) Q)))) (qB 1 (qS (shL laws_FnTop_r11 (qS (shL laws_FnTop_r12 Q) Q)) (qS (shL laws_FnTop_r12 Q) Q))))) (qS (shL laws_FnTop_r10 (qB 1 (qS (shL laws_FnTop_r11 (qS (shL laws_FnTop_r12 Q) Q)) (qS (shL laws_FnTop_r12 Q) Q)))) (qB 1 (qS (shL laws_FnTop_r11 (qS (shL laws_FnTop_r12 Q) Q)) (qS (shL laws_FnTop_r12 Q) Q))))) [x0, x1, x2, x3, x4, x5, x6, x7, x8, x9, x10, x11, x12, x13, x14, v0, .bool true, v2, v3, v4, v5, v6, v7, v8, v9, v10, v11, v12, v13, v14, v15, v16, v17, v18, v19, v20, v21, v22, v23, v24, v25, v26, v27, v28, v29, .bool false, v31, v32, .bool false, v33, .bool false, v34, .bool false, v35, .bool false, v36, v37, v38, .bool false, v39, v40, v41, v41]))))))) (
    Q (.exit 0) [x5, x6, x7, x8, x9, x10, x11, x12, x13, x14])) := by kernel_rfl

def laws_FnTop_r13 : L := .seq (.rg [⟨[], .call F_WorkshopOk 0 1, [.v 3, .v 4, .v 0, .v 1, .v 2, .v 5, .v 6, .v 7, .v 8, .v 9], 1⟩, ⟨[(.v 10, true)], .call F_BenchOk 0 1, [.v 3, .v 4, .v 0, .v 1], 1⟩, ⟨[], .pick, [.v 10, .v 11, .k (.bool false)], 1⟩]) (.ret [.v 12])
theorem laws_FnTop_r13_sh (Q : QT) (x0 x1 x2 x3 x4 x5 x6 x7 x8 x9 : V) : shL laws_FnTop_r13 Q [x0, x1, x2, x3, x4, x5, x6, x7, x8, x9] = (
  P1 (.call F_WorkshopOk 0 1) [x3, x4, x0, x1, x2, x5, x6, x7, x8, x9] fun v0 =>
  ifB v0 (
    P1 (.call F_BenchOk 0 1) [x3, x4, x0, x1] fun v1 =>
    Q .ret [v1]) (
    Q .ret [.bool false])) := by kernel_rfl

def laws_FnTop_L : L := .seq (.rg []) (.seq (.seq (.rg [⟨[], .call F_big 0 1, [.v 0], 1⟩]) (.ite (.v 1) (.seq (.rg []) (.ret [.k (.bool true)])) (.skip))) (.seq (.rg [⟨[], .call F_DrawActs 0 11, [.v 0], 11⟩]) (.seq (.rg []) (.seq (.rg []) (.seq (.rg []) (.seq (.seq (.rg []) (.block 0 (.seq (.tup [.v 10, .v 11, .v 7, .k (.int .i64 0), .v 12, .v 4, .v 5, .v 6, .v 2, .v 3, .v 7, .v 8, .v 9, .v 10, .v 11]) (.loop (laws_FnTop_b0))))) (laws_FnTop_r13)))))))
theorem laws_FnTop_L_sh (Q : QT) (x0 : V) : shL laws_FnTop_L Q [x0] = (
  P1 (.call F_big 0 1) [x0] fun v0 =>
  ifB v0 (
    Q .ret [.bool true]) (
    P11 (.call F_DrawActs 0 11) [x0] fun v1 v2 v3 v4 v5 v6 v7 v8 v9 v10 v11 =>
    shL (.loop laws_FnTop_b0) (qB 0 (qS (shL laws_FnTop_r13 Q) Q)) [v9, v10, v6, .int .i64 0, v11, v3, v4, v5, v1, v2, v6, v7, v8, v9, v10])) := by kernel_rfl
def laws_FnTop_S : Sig := ⟨[.val false [.sl [.sc]]], [(false, [.sc])], F_FnTop⟩
def laws_FnTop_hs : List NF := [⟨[(3, .ptr 64 0)], [(65, true, [.sc]), (66, true, [.sl [.sc, .sc]]), (67, true, [.sc])], [(64, [.sc, .sc, .own 65, .own 66, .own 67, .sc, .sc, .sc, .sc, .sc])], 68⟩, ⟨[(3, .ptr 64 0), (4, .sc false [.own 65]), (5, .sc false [.sc]), (6, .sc false [.sc]), (7, .sc false [.sc]), (8, .sc false [.sc])], [(65, true, [.sc, .sc, .sc]), (66, true, [.sc]), (67, true, [.sl [.sc, .sc]]), (68, true, [.sc])], [(64, [.sc, .sc, .own 66, .own 67, .own 68, .sc, .sc, .sc, .sc, .sc])], 69⟩, ⟨[(3, .ptr 64 0), (4, .sc false [.own 65]), (5, .sc false [.sc]), (6, .sc false [.sc]), (7, .sc false [.sc]), (8, .sc false [.sc])], [(65, true, [.sc, .sc, .sc]), (66, true, [.sc, .sc]), (67, true, [.sl [.sc, .sc]]), (68, true, [.sc])], [(64, [.sc, .sc, .own 66, .own 67, .own 68, .sc, .sc, .sc, .sc, .sc])], 69⟩, ⟨[(3, .ptr 64 0), (4, .sc false [.own 65]), (5, .sc false [.sc]), (6, .sc false [.sc]), (7, .sc false [.sc]), (8, .sc false [.sc]), (9, .ptr 66 0), (10, .sc false [.sc]), (11, .ptr 67 0), (12, .sc false [.sc]), (13, .ptr 68 0)], [(65, true, [.sc, .sc, .sc]), (69, true, [.sc]), (70, true, [.sl [.sc, .sc]]), (71, true, [.sc]), (72, true, [.sc, .sc]), (73, true, [.sl [.sc, .sc]]), (74, true, [.sc]), (75, true, [.sc, .sc]), (76, true, [.sl [.sc, .sc]]), (77, true, [.sc])], [(64, [.sc, .sc, .own 69, .own 70, .own 71, .sc, .sc, .sc, .sc, .sc]), (66, [.sc, .sc, .sc]), (67, [.sc, .sc, .own 72, .own 73, .own 74, .sc, .sc, .sc, .sc, .sc]), (68, [.sc, .sc, .own 75, .own 76, .own 77, .sc, .sc, .sc, .sc, .sc])], 78⟩, ⟨[(3, .ptr 64 0), (4, .sc false [.own 65]), (5, .sc false [.sc]), (6, .sc false [.sc]), (7, .sc false [.sc]), (8, .sc false [.sc]), (9, .ptr 66 0), (10, .sc false [.sc]), (11, .ptr 67 0), (12, .sc false [.sc]), (13, .ptr 68 0), (15, .sc false [.sc])], [(65, true, [.sc, .sc, .sc]), (69, true, [.sc]), (70, true, [.sl [.sc, .sc]]), (71, true, [.sc]), (72, true, [.sc, .sc]), (73, true, [.sl [.sc, .sc]]), (74, true, [.sc]), (75, true, [.sc, .sc]), (76, true, [.sl [.sc, .sc]]), (77, true, [.sc])], [(64, [.sc, .sc, .own 69, .own 70, .own 71, .sc, .sc, .sc, .sc, .sc]), (66, [.sc, .sc, .sc]), (67, [.sc, .sc, .own 72, .own 73, .own 74, .sc, .sc, .sc, .sc, .sc]), (68, [.sc, .sc, .own 75, .own 76, .own 77, .sc, .sc, .sc, .sc, .sc])], 78⟩, ⟨[(3, .ptr 64 0), (4, .sc false [.own 65]), (5, .sc false [.sc]), (6, .sc false [.sc]), (7, .sc false [.sc]), (8, .sc false [.sc]), (9, .ptr 66 0), (10, .sc false [.sc]), (11, .ptr 67 0), (12, .sc false [.sc]), (13, .ptr 68 0), (15, .sc false [.sc])], [(65, true, [.sc, .sc, .sc]), (69, true, [.sc]), (70, true, [.sl [.sc, .sc]]), (71, true, [.sc]), (72, true, [.sc, .sc]), (73, true, [.sl [.sc, .sc]]), (74, true, [.sc]), (75, true, [.sc, .sc]), (76, true, [.sl [.sc, .sc]]), (77, true, [.sc])], [(64, [.sc, .sc, .own 69, .own 70, .own 71, .sc, .sc, .sc, .sc, .sc]), (66, [.sc, .sc, .sc]), (67, [.sc, .sc, .own 72, .own 73, .own 74, .sc, .sc, .sc, .sc, .sc]), (68, [.sc, .sc, .own 75, .own 76, .own 77, .sc, .sc, .sc, .sc, .sc])], 78⟩, ⟨[(3, .ptr 64 0), (4, .sc false [.own 65]), (5, .sc false [.sc]), (6, .sc false [.sc]), (7, .sc false [.sc]), (8, .sc false [.sc]), (9, .ptr 66 0), (10, .sc false [.sc]), (11, .ptr 67 0), (12, .sc false [.sc]), (13, .ptr 68 0)], [(65, true, [.sc, .sc, .sc]), (69, true, [.sc]), (70, true, [.sl [.sc, .sc]]), (71, true, [.sc]), (72, true, [.sc, .sc]), (73, true, [.sl [.sc, .sc]]), (74, true, [.sc]), (75, true, [.sc, .sc]), (76, true, [.sl [.sc, .sc]]), (77, true, [.sc])], [(64, [.sc, .sc, .own 69, .own 70, .own 71, .sc, .sc, .sc, .sc, .sc]), (66, [.sc, .sc, .sc]), (67, [.sc, .sc, .own 72, .own 73, .own 74, .sc, .sc, .sc, .sc, .sc]), (68, [.sc, .sc, .own 75, .own 76, .own 77, .sc, .sc, .sc, .sc, .sc])], 78⟩, ⟨[(3, .ptr 64 0), (4, .sc false [.own 65]), (5, .sc false [.sc]), (6, .sc false [.sc]), (7, .sc false [.sc]), (8, .sc false [.sc]), (9, .ptr 66 0), (11, .ptr 67 0), (12, .sc false [.sc]), (13, .ptr 68 0)], [(65, true, [.sc, .sc, .sc]), (69, true, [.sc]), (70, true, [.sl [.sc, .sc]]), (71, true, [.sc]), (72, true, [.sc, .sc]), (73, true, [.sl [.sc, .sc]]), (74, true, [.sc]), (75, true, [.sc, .sc]), (76, true, [.sl [.sc, .sc]]), (77, true, [.sc])], [(64, [.sc, .sc, .own 69, .own 70, .own 71, .sc, .sc, .sc, .sc, .sc]), (66, [.sc, .sc, .sc]), (67, [.sc, .sc, .own 72, .own 73, .own 74, .sc, .sc, .sc, .sc, .sc]), (68, [.sc, .sc, .own 75, .own 76, .own 77, .sc, .sc, .sc, .sc, .sc])], 78⟩, ⟨[(3, .ptr 64 0), (4, .sc false [.own 65]), (5, .sc false [.sc]), (6, .sc false [.sc]), (7, .sc false [.sc]), (8, .sc false [.sc]), (9, .ptr 66 0), (11, .ptr 67 0), (12, .sc false [.sc]), (13, .ptr 68 0)], [(65, true, [.sc, .sc, .sc]), (69, true, [.sc]), (70, true, [.sl [.sc, .sc]]), (71, true, [.sc]), (72, true, [.sc, .sc]), (73, true, [.sl [.sc, .sc]]), (74, true, [.sc]), (75, true, [.sc, .sc]), (76, true, [.sl [.sc, .sc]]), (77, true, [.sc])], [(64, [.sc, .sc, .own 69, .own 70, .own 71, .sc, .sc, .sc, .sc, .sc]), (66, [.sc, .sc, .sc]), (67, [.sc, .sc, .own 72, .own 73, .own 74, .sc, .sc, .sc, .sc, .sc]), (68, [.sc, .sc, .own 75, .own 76, .own 77, .sc, .sc, .sc, .sc, .sc])], 78⟩]

end
end Go.Mw

/- Drawn benches, workshops, acts. -/
namespace Go.Mw
theorem spec_l01Once_ok : ∀ ds outs, F_l01Once ds = some outs → shL spec_l01Once_L (qRet outs) ds := F_l01Once_elim fun x n hp => by
  rw [spec_l01Once_L_sh, q_below (b := x.b) x rfl hp.1 hp.2]
  simp
  rfl
theorem q_once {b : List UInt8} (c : Cur) {n : Int} {m : Nat} {k : V → V → V → Prop} (hb : c.b = b) (h : 0 ≤ c.i) (hl : b.length ≤ 1048576) :
    P3 (.call F_l01Once 0 m) [vL I1 vY b, .int .i64 c.i, .int .i64 c.h, .int .i64 n] k ↔ k (.bool (decide (cBelow c n = 0))) (.int .i64 (cAfter c n).i) (.int .i64 (cAfter c n).h) := by
  subst hb; exact p_l01Once ⟨h, hl⟩

/-! benches -/
theorem stepTo_ok {b : Bench} {c : Cyl} {d : Bool} (h : benchOk b = true) : benchOk (stepTo b c d) = true := by
  unfold stepTo
  split
  · rename_i hk
    simp only [stepOk, Bool.and_eq_true] at hk
    exact hk.2.2
  · exact h
theorem stepTo_st {b : Bench} {c : Cyl} {d : Bool} (hs : c.s = b.s) (ht : c.t = b.t) : (stepTo b c d).s = b.s ∧ (stepTo b c d).t = b.t := by
  unfold stepTo
  split
  · exact ⟨hs, ht⟩
  · exact ⟨rfl, rfl⟩
theorem stepTo_len {b : Bench} {c : Cyl} {d : Bool} : (stepTo b c d).o.length ≤ b.o.length + 1 := by
  unfold stepTo
  split
  · simp [stepped]
  · omega
theorem stepTo_plen {b : Bench} {c : Cyl} {d : Bool} {n : Nat} (h1 : c.p.length ≤ n) (h2 : b.p.length ≤ n) : (stepTo b c d).p.length ≤ n := by
  unfold stepTo
  split
  · exact h1
  · exact h2
theorem addTo_eq {c : Cyl} {p : T2} : (addTo c p).s = c.s ∧ (addTo c p).t = c.t ∧ (addTo c p).p.length ≤ c.p.length + 1 := by
  unfold addTo
  split
  · exact ⟨rfl, rfl, putPin_len _ _⟩
  · exact ⟨rfl, rfl, by omega⟩

theorem missing_self (l : List T2) : missing l l = 0 := by
  unfold missing
  have : l.filter (fun p => decide (p ∉ l)) = [] := by simp
  rw [this]; rfl
theorem missing_nonneg (a b : List T2) : 0 ≤ missing a b := by unfold missing; omega
theorem missing_mono_r {q a b : List T2} (h : ∀ x ∈ a, x ∈ b) : missing q b ≤ missing q a := by
  unfold missing
  have : (q.filter fun p => decide (p ∉ b)).length ≤ (q.filter fun p => decide (p ∉ a)).length := by
    rw [← List.countP_eq_length_filter, ← List.countP_eq_length_filter]
    refine List.countP_mono_left fun x _ hx => ?_
    simp only [decide_eq_true_eq] at hx ⊢
    exact fun h2 => hx (h x h2)
  omega
theorem missing_perm {a b q : List T2} (h : a.Perm b) : missing a q = missing b q := by
  unfold missing
  rw [(h.filter _).length_eq]
theorem missing_append (a b q : List T2) : missing (a ++ b) q = missing a q + missing b q := by
  unfold missing
  rw [List.filter_append, List.length_append]; omega
theorem missing_one (x : T2) (q : List T2) : missing [x] q ≤ 1 := by
  unfold missing
  have := List.length_filter_le (fun p => decide (p ∉ q)) [x]
  simp only [List.length_singleton] at this
  omega
theorem missing_drop1 {q : List T2} (x : T2) (a b : List T2) (hq : q.Nodup) : missing q (a ++ b) ≤ missing q (a ++ x :: b) + 1 := by
  unfold missing
  induction q with
  | nil => simp
  | cons y r ih =>
    have hr := ih (List.nodup_cons.1 hq).2
    simp only [List.filter_cons]
    by_cases e : y = x
    · subst e
      have hy : y ∉ r := (List.nodup_cons.1 hq).1
      have h1 : decide (y ∉ a ++ y :: b) = false := by simp
      have h2 : r.filter (fun p => decide (p ∉ a ++ b)) = r.filter (fun p => decide (p ∉ a ++ y :: b)) := by
        refine List.filter_congr fun z hz => ?_
        have : z ≠ y := fun h => hy (h ▸ hz)
        simp [this]
      rw [h1, h2]
      simp only [Bool.false_eq_true, if_false]
      split
      · simp only [List.length_cons]; omega
      · omega
    · have h1 : decide (y ∉ a ++ x :: b) = decide (y ∉ a ++ b) := by simp [e]
      rw [h1]
      split
      · simp only [List.length_cons]; omega
      · exact hr
theorem rising_pair {l : List T2} (h : rising l = true) : l.Pairwise (fun x y => pinLess x y = true) := by
  induction l with
  | nil => exact .nil
  | cons a r ih => exact .cons (rising_less h) (ih (rising_cons.1 h).2)
theorem rising_of_pair {l : List T2} (h : l.Pairwise (fun x y => pinLess x y = true)) : rising l = true := by
  induction l with
  | nil => rfl
  | cons a r ih =>
    cases h with
    | cons h1 h2 =>
      rw [rising_cons]
      exact ⟨fun b hb => h1 b (List.mem_of_mem_head? hb), ih h2⟩
theorem rising_nodup {l : List T2} (h : rising l = true) : l.Nodup :=
  (rising_pair h).imp fun {a b} h e => by subst e; rw [pinLess_irrefl] at h; cases h
/-- Two pin lists that lie one change apart. -/
def Near (c b : List T2) : Prop := ∀ q : List T2, q.Nodup → missing c q + missing q c ≤ missing b q + missing q b + 1
theorem near_put {l : List T2} {y : T2} (hy : y ∉ l) : Near (putPin l y) l := by
  intro q hq
  have hp := putPin_perm hy
  rw [missing_perm hp, missing_append]
  have h1 := missing_one y q
  have h2 : missing q (putPin l y) ≤ missing q l := missing_mono_r fun x hx => (hp.mem_iff).2 (by simp [hx])
  omega
theorem near_pull {l : List T2} {k : Nat} (hk : k < l.length) : Near (l.take k ++ l.drop (k + 1)) l := by
  intro q hq
  have e : l = l.take k ++ l[k] :: l.drop (k + 1) := by rw [List.getElem_cons_drop hk, List.take_append_drop]
  have h1 := missing_drop1 l[k] (l.take k) (l.drop (k + 1)) hq
  rw [← e] at h1
  have h2 : missing (l.take k ++ l.drop (k + 1)) q ≤ missing l q := by
    have h3 : missing l q = missing (l.take k ++ l[k] :: l.drop (k + 1)) q := by rw [← e]
    have h4 : missing (l.take k ++ l[k] :: l.drop (k + 1)) q = missing (l.take k) q + (missing [l[k]] q + missing (l.drop (k + 1)) q) := by
      rw [← missing_append, ← missing_append]; rfl
    have h5 := missing_nonneg [l[k]] q
    rw [h3, h4, missing_append]; omega
  omega
/-- The pins have changed from the oldest list by at most as many as there are steps. -/
def Chg (b : Bench) : Prop := ∀ q, b.o.head? = some q → missing b.p q + missing q b.p ≤ b.o.length
theorem chg_stepped {b : Bench} {c : Cyl} (hb : benchOk b = true) (hn : Near c.p b.p) (h : Chg b) : Chg (stepped b c) := by
  intro q hq
  obtain ⟨h1, h2, h3⟩ := (benchOk_iff b).1 hb
  simp only [stepped] at hq ⊢
  cases ho : b.o with
  | nil =>
    rw [ho] at hq
    simp only [List.nil_append, List.head?_cons, Option.some.injEq] at hq
    subst hq
    have := hn b.p (rising_nodup (cylOk_rising h1))
    rw [missing_self] at this
    simp; omega
  | cons x r =>
    rw [ho] at hq
    simp only [List.cons_append, List.head?_cons, Option.some.injEq] at hq
    subst hq
    have h4 := h x (by rw [ho]; rfl)
    have h5 := hn x (rising_nodup (cylOk_rising (h3 x (by simp [ho]))))
    rw [ho] at h4
    simp only [List.length_cons, List.length_append, List.length_nil] at h4 ⊢
    omega
theorem chg_stepTo {b : Bench} {c : Cyl} {d : Bool} (hb : benchOk b = true) (hn : d = true → Near c.p b.p) (h : Chg b) : Chg (stepTo b c d) := by
  unfold stepTo
  split
  · rename_i hk
    simp only [Bool.and_eq_true] at hk
    exact chg_stepped hb (hn hk.1) h
  · exact h
theorem chg_set {b : Bench} {p : T2} (hb : benchOk b = true) (h : Chg b) : Chg (setPin b p) := by
  refine chg_stepTo hb (fun hd => ?_) h
  have hd' := hd
  simp only [addOk, Bool.and_eq_true, Bool.not_eq_true', decide_eq_false_iff_not] at hd'
  simp only [addTo, hd, if_true]
  exact near_put hd'.2.1
theorem chg_take {b : Bench} {k : Int} (hb : benchOk b = true) (h : Chg b) : Chg (takePin b k) := by
  refine chg_stepTo hb (fun hd => ?_) h
  have hd' := hd
  simp only [pullOk, Bool.and_eq_true, decide_eq_true_eq] at hd'
  have h1 : (cylOk b.cyl && (decide (0 ≤ k) && decide (k < b.cyl.p.length))) = true := hd
  simp only [pulled, pullPin, h1, if_true]
  exact near_pull (by simp only [Bench.cyl] at hd' ⊢; omega)

/-- What is known of a drawn bench behind k steps. -/
structure BenchInv (b : Bench) (s t : Int) (k : Nat) : Prop where
  ok : benchOk b = true
  st : b.s = s ∧ b.t = t
  len : b.p.length ≤ 9 + k
  old : b.o.length ≤ k
  chg : Chg b
theorem BenchInv.step {b : Bench} {s t : Int} {k : Nat} (h : BenchInv b s t k) (x : Cur) : BenchInv (benchStep b x).1 s t (k + 1) := by
  unfold benchStep
  split
  · have e := stepTo_st (b := b) (c := pulled b (cBelow (cAfter x 3) 6)) (d := pullOk b.cyl (cBelow (cAfter x 3) 6)) rfl rfl
    have h1 := pullPin_len b.cyl (cBelow (cAfter x 3) 6)
    have h2 := h.len
    have h3 := h.old
    exact ⟨stepTo_ok h.ok, ⟨e.1.trans h.st.1, e.2.trans h.st.2⟩, stepTo_plen (Nat.le_trans h1 (by simp only [Bench.cyl]; omega)) (by omega), Nat.le_trans stepTo_len (by omega), chg_take h.ok h.chg⟩
  · generalize (⟨cBelow (cAfter x 3) b.t, cBelow (cAfter (cAfter x 3) b.t) b.s⟩ : T2) = p
    have a := addTo_eq (c := b.cyl) (p := p)
    have e := stepTo_st (b := b) (c := addTo b.cyl p) (d := addOk b.cyl p) a.1 a.2.1
    have h2 := h.len
    have h3 := h.old
    exact ⟨stepTo_ok h.ok, ⟨e.1.trans h.st.1, e.2.trans h.st.2⟩, stepTo_plen (Nat.le_trans a.2.2 (by simp only [Bench.cyl]; omega)) (by omega), Nat.le_trans stepTo_len (by omega), chg_set h.ok h.chg⟩
theorem benchStep_b (b : Bench) (x : Cur) : (benchStep b x).2.b = x.b := by unfold benchStep; split <;> simp
theorem benchStep_i {b : Bench} {x : Cur} (h : 0 ≤ x.i) : 0 ≤ (benchStep b x).2.i := by
  unfold benchStep
  split
  · exact cAfter_i (cAfter_i h)
  · exact cAfter_i (cAfter_i (cAfter_i h))
theorem bench_inv {x : Cur} (hi : 0 ≤ x.i) : ∀ k, BenchInv (benchTo x k).1 (cylS x) (cylT x) k ∧ (benchTo x k).2.b = x.b ∧ 0 ≤ (benchTo x k).2.i
  | 0 => by
    have h := cylOf_ok hi
    have h2 := cylEnd_b hi
    refine ⟨⟨(benchOk_iff _).2 ⟨h.1, by simp [benchTo], by simp [benchTo]⟩, ⟨rfl, rfl⟩, h.2, by simp [benchTo], fun q hq => by simp [benchTo] at hq⟩, ?_, cAfter_i h2.2⟩
    show (cAfter (cylEnd x) 7).b = _
    rw [cAfter_b]; exact h2.1
  | k + 1 => by
    obtain ⟨h1, h2, h3⟩ := bench_inv hi k
    exact ⟨h1.step _, (benchStep_b _ _).trans h2, benchStep_i h3⟩
theorem benchN_le (x : Cur) : benchN x ≤ 6 := by
  have := cBelow_range (cylEnd x) (show (0 : Int) < 7 by omega)
  unfold benchN; omega
theorem benchOf_inv {x : Cur} (hi : 0 ≤ x.i) : BenchInv (benchOf x) (cylS x) (cylT x) 6 := by
  have h := (bench_inv hi (benchN x)).1
  have h2 := benchN_le x
  exact ⟨h.ok, h.st, by have := h.len; simp only [benchOf]; omega, by have := h.old; simp only [benchOf]; omega, h.chg⟩
theorem benchEnd_b {x : Cur} (hi : 0 ≤ x.i) : (benchEnd x).b = x.b ∧ 0 ≤ (benchEnd x).i := (bench_inv hi (benchN x)).2
theorem q_cyl {b : List UInt8} (c : Cur) {m : Nat} {k : V → V → V → V → V → Prop} (hb : c.b = b) (h : 0 ≤ c.i) (hl : b.length ≤ 1048576) :
    P5 (.call F_l06Cylinder 0 m) [vL I1 vY b, .int .i64 c.i, .int .i64 c.h] k ↔ k (.int .i64 (cylOf c).s) (.int .i64 (cylOf c).t) (vL I2 v2 (cylOf c).p) (.int .i64 (cylEnd c).i) (.int .i64 (cylEnd c).h) := by
  subst hb; exact p_l06Cylinder ⟨h, hl⟩
theorem spec_l37Bench_ok : ∀ ds outs, F_l37Bench ds = some outs → shL spec_l37Bench_L (qRet outs) ds := F_l37Bench_elim fun x hp => by
  obtain ⟨i0, hb⟩ := hp
  have hE := cylEnd_b i0
  have hr := cBelow_range (cylEnd x) (show (0 : Int) < 7 by omega)
  rw [spec_l37Bench_L_sh, q_cyl (b := x.b) x rfl i0 hb, q_below (b := x.b) (cylEnd x) hE.1 hE.2 hb]
  refine loop_upto (benchN x) (fun k => [.int .i64 (cBelow (cylEnd x) 7 - k), vL I2 v2 (benchTo x k).1.p, vL IL2 vLL2 (benchTo x k).1.o, vL I1 vY x.b, .int .i64 (benchTo x k).2.i, .int .i64 (benchTo x k).2.h, .int .i64 0, .int .i64 0, .int .i64 (benchTo x k).1.s, .int .i64 (benchTo x k).1.t])
    (by intro i j hi hj h; simp only [List.cons.injEq, V.int.injEq, true_and] at h; omega) (fun _ => True) (by simp [benchTo]; rfl) trivial ?_
  intro k hk _
  obtain ⟨g1, g2, g3⟩ := bench_inv i0 k
  have hf : (benchTo x k).1.p.length ≤ 1048576 ∧ fitLL (benchTo x k).1.o := ⟨(bSmall_of_ok g1.ok).1, (bSmall_of_ok g1.ok).2.1⟩
  have hN : (benchN x : Int) = cBelow (cylEnd x) 7 := by unfold benchN; omega
  have e4 : benchTo x (k + 1) = benchStep (benchTo x k).1 (benchTo x k).2 := rfl
  rw [spec_l37Bench_b0_sh]
  simp only [P1_gtr, ifB_bool, decide_eq_true_eq, decide_eq_false_iff_not]
  refine ⟨fun h => ?_, fun h => ?_⟩
  · rw [q_once (b := x.b) _ g2 g3 hb]
    have hw : IntKind.i64.wrap (cBelow (cylEnd x) 7 - (k : Int) - 1) = cBelow (cylEnd x) 7 - ((k + 1 : Nat) : Int) := by rw [wrap_id (by omega) (by omega)]; omega
    simp only [ifB_bool, decide_eq_true_eq, decide_eq_false_iff_not, P1_sub, hw]
    refine ⟨fun h3 => ?_, fun h3 => ?_⟩
    · rw [q_below (b := x.b) (cAfter _ _) (by simp [g2]) (cAfter_i g3) hb]
      rw [p_TakePin (x_s := (benchTo x k).1.s) (x_t := (benchTo x k).1.t) (x_p := (benchTo x k).1.p) (x_o := (benchTo x k).1.o) hf]
      rw [e4]
      simp only [benchStep, h3, if_true]
      exact ⟨by omega, rfl, trivial⟩
    · rw [q_below (b := x.b) (cAfter _ _) (by simp [g2]) (cAfter_i g3) hb, q_below (b := x.b) (cAfter (cAfter _ _) _) (by simp [g2]) (cAfter_i (cAfter_i g3)) hb]
      rw [p_SetPin (x_s := (benchTo x k).1.s) (x_t := (benchTo x k).1.t) (x_p := (benchTo x k).1.p) (x_o := (benchTo x k).1.o) (y_a := cBelow (cAfter (benchTo x k).2 3) (benchTo x k).1.t) (y_b := cBelow (cAfter (cAfter (benchTo x k).2 3) (benchTo x k).1.t) (benchTo x k).1.s) hf]
      rw [e4]
      simp only [benchStep, h3, if_false]
      exact ⟨by omega, rfl, trivial⟩
  · have e : k = benchN x := by omega
    subst e
    simp [spec_l37Bench_r1_sh, benchOf, benchEnd]
end Go.Mw

/- Drawn springs, workshops, acts. -/
namespace Go.Mw
theorem springMost_r (x : Cur) : 1 ≤ springMost x ∧ springMost x ≤ 20 := by
  have := cBelow_range x (show (0 : Int) < 20 by omega)
  unfold springMost; omega
theorem springEnd_b (x : Cur) : (springEnd x).b = x.b := by simp [springEnd]
theorem springEnd_i {x : Cur} (h : 0 ≤ x.i) : 0 ≤ (springEnd x).i := cAfter_i (cAfter_i (cAfter_i h))
theorem springOf_ok (x : Cur) : springOk (springOf x) = true := by
  have h1 := springMost_r x
  have h2 := cBelow_range (cAfter x 20) (show (0 : Int) < springMost x + 1 by omega)
  have h3 := cBelow_range (cAfter (cAfter x 20) (springMost x + 1)) (show (0 : Int) < 200 by omega)
  simp only [springOk, springOf, Bool.and_eq_true, within_iff']
  omega
theorem spec_l12Spring_ok : ∀ ds outs, F_l12Spring ds = some outs → shL spec_l12Spring_L (qRet outs) ds := F_l12Spring_elim fun x hp => by
  obtain ⟨i0, hb⟩ := hp
  have h1 := springMost_r x
  have h3 := cBelow_range (cAfter (cAfter x 20) (springMost x + 1)) (show (0 : Int) < 200 by omega)
  have w1 : IntKind.i64.wrap (1 + cBelow x 20) = springMost x := wrap_id (by unfold springMost at h1; omega) (by unfold springMost at h1; omega)
  have w2 : IntKind.i64.wrap (springMost x + 1) = springMost x + 1 := wrap_id (by omega) (by omega)
  rw [spec_l12Spring_L_sh, q_below (b := x.b) x rfl i0 hb]
  simp only [P1_add, w1, w2]
  rw [q_below (b := x.b) (cAfter x 20) (by simp) (cAfter_i i0) hb, q_below (b := x.b) (cAfter (cAfter x 20) _) (by simp) (cAfter_i (cAfter_i i0)) hb]
  have w3 : IntKind.i64.wrap (3 * cBelow (cAfter (cAfter x 20) (springMost x + 1)) 200) = 3 * cBelow (cAfter (cAfter x 20) (springMost x + 1)) 200 := wrap_id (by omega) (by omega)
  have w4 : IntKind.i64.wrap (1 + 3 * cBelow (cAfter (cAfter x 20) (springMost x + 1)) 200) = 1 + 3 * cBelow (cAfter (cAfter x 20) (springMost x + 1)) 200 := wrap_id (by omega) (by omega)
  simp [w3, w4, springOf, springEnd]

/-! combs -/
theorem combStep_r (x : Cur) : 0 ≤ (([0, 1, 2, 4] : List Int)[(cBelow x 4).toNat]?).getD 0 ∧ (([0, 1, 2, 4] : List Int)[(cBelow x 4).toNat]?).getD 0 ≤ 4 := by
  have h := cBelow_range x (show (0 : Int) < 4 by omega)
  generalize cBelow x 4 = v at *
  obtain rfl | rfl | rfl | rfl : v = 0 ∨ v = 1 ∨ v = 2 ∨ v = 3 := by omega
  all_goals simp
theorem upward_snoc {l : List Int} {y : Int} (h : upward l = true) (hl : ∀ x ∈ l, x ≤ y) : upward (l ++ [y]) = true := by
  induction l with
  | nil => rfl
  | cons a r ih =>
    cases r with
    | nil => simp [upward, hl a (by simp)]
    | cons b s =>
      simp only [upward, Bool.and_eq_true] at h
      have := ih h.2 (fun x hx => hl x (by simp [hx]))
      simp only [List.cons_append, upward, Bool.and_eq_true]
      exact ⟨h.1, this⟩
theorem comb_inv {x : Cur} (hi : 0 ≤ x.i) : ∀ k, (combTo x k).2.b = x.b ∧ 0 ≤ (combTo x k).2.i ∧ (combTo x k).1.1.length = k ∧ 10 ≤ (combTo x k).1.2 ∧ (combTo x k).1.2 ≤ 10 + 4 * k ∧
    (∀ y ∈ (combTo x k).1.1, 0 ≤ y ∧ y ≤ (combTo x k).1.2) ∧ upward (combTo x k).1.1 = true
  | 0 => ⟨rfl, hi, rfl, by simp [combTo], by simp [combTo], by simp [combTo], rfl⟩
  | k + 1 => by
    obtain ⟨h1, h2, h3, h4, h5, h6, h7⟩ := comb_inv hi k
    have r := combStep_r (combTo x k).2
    refine ⟨by simp [combTo, h1], cAfter_i h2, by simp [combTo, h3], ?_, ?_, ?_, upward_snoc h7 fun y hy => (h6 y hy).2⟩
    · simp only [combTo]; omega
    · simp only [combTo]; omega
    · intro y hy
      simp only [combTo, List.mem_append, List.mem_singleton] at hy ⊢
      rcases hy with hy | rfl
      · have := h6 y hy; omega
      · omega
theorem combTo_ok {x : Cur} (hi : 0 ≤ x.i) {k : Nat} (h1 : 1 ≤ k) (h2 : k ≤ 8) : combOk (combTo x k).1.1 = true := by
  obtain ⟨-, -, h3, h4, h5, h6, h7⟩ := comb_inv hi k
  simp only [combOk, Bool.and_eq_true, within_iff', List.all_eq_true, h3]
  refine ⟨by omega, fun y hy => ?_, h7⟩
  have := h6 y hy
  omega

/-! workshops -/
theorem shopMoney_r (x : Cur) : 0 ≤ shopMoney x ∧ shopMoney x ≤ 999 := by
  have h := cBelow_range (springEnd (benchEnd x)) (show (0 : Int) < 4 by omega)
  unfold shopMoney
  generalize cBelow (springEnd (benchEnd x)) 4 = v at *
  obtain rfl | rfl | rfl | rfl : v = 0 ∨ v = 1 ∨ v = 2 ∨ v = 3 := by omega
  all_goals simp
theorem shopPlayed_r (x : Cur) : 0 ≤ shopPlayed x ∧ shopPlayed x ≤ 999999 := by
  have h := cBelow_range (cAfter (springEnd (benchEnd x)) 4) (show (0 : Int) < 3 by omega)
  unfold shopPlayed
  generalize cBelow (cAfter (springEnd (benchEnd x)) 4) 3 = v at *
  obtain rfl | rfl | rfl : v = 0 ∨ v = 1 ∨ v = 2 := by omega
  all_goals simp
theorem shopCur_b {x : Cur} (hi : 0 ≤ x.i) : (shopCur x).b = x.b ∧ 0 ≤ (shopCur x).i := by
  have h := benchEnd_b hi
  exact ⟨by simp [shopCur, springEnd_b, h.1], cAfter_i (cAfter_i (springEnd_i h.2))⟩
theorem benchOf_t {x : Cur} (hi : 0 ≤ x.i) : (4 ≤ (benchOf x).s ∧ (benchOf x).s ≤ 24) ∧ (1 ≤ (benchOf x).t ∧ (benchOf x).t ≤ 8) := by
  have h := (benchOf_inv hi).st
  have r := cyl_r x
  omega
theorem shopEnd_b {x : Cur} (hi : 0 ≤ x.i) : (shopEnd x).b = x.b ∧ 0 ≤ (shopEnd x).i := by
  have h := shopCur_b hi
  have h2 := comb_inv h.2 (benchOf x).t.toNat
  exact ⟨h2.1.trans h.1, h2.2.1⟩
theorem shopOf_ok {x : Cur} (hi : 0 ≤ x.i) : shopOk (shopOf x) = true := by
  have h := benchOf_inv hi
  have ht := benchOf_t hi
  have hc := shopCur_b hi
  have h1 := shopMoney_r x
  have h2 := shopPlayed_r x
  have h3 := comb_inv hc.2 (benchOf x).t.toNat
  rw [shopOk_iff]
  refine ⟨h.ok, combTo_ok hc.2 (by omega) (by omega), springOf_ok _, ?_, ?_, ?_⟩
  · show (benchOf x).t = ((combTo (shopCur x) (benchOf x).t.toNat).1.1.length : Int)
    rw [h3.2.2.1]; omega
  · rw [within_iff']; show 0 ≤ shopMoney x ∧ shopMoney x ≤ 1000000; omega
  · rw [within_iff']; show 0 ≤ shopPlayed x ∧ shopPlayed x ≤ 1000000; omega
theorem q_bench {b : List UInt8} (c : Cur) {m : Nat} {k : V → V → V → V → V → V → Prop} (hb : c.b = b) (h : 0 ≤ c.i) (hl : b.length ≤ 1048576) :
    P6 (.call F_l37Bench 0 m) [vL I1 vY b, .int .i64 c.i, .int .i64 c.h] k ↔ k (.int .i64 (benchOf c).s) (.int .i64 (benchOf c).t) (vL I2 v2 (benchOf c).p) (vL IL2 vLL2 (benchOf c).o) (.int .i64 (benchEnd c).i) (.int .i64 (benchEnd c).h) := by
  subst hb; exact p_l37Bench ⟨h, hl⟩
theorem q_spring {b : List UInt8} (c : Cur) {m : Nat} {k : V → V → V → V → V → Prop} (hb : c.b = b) (h : 0 ≤ c.i) (hl : b.length ≤ 1048576) :
    P5 (.call F_l12Spring 0 m) [vL I1 vY b, .int .i64 c.i, .int .i64 c.h] k ↔ k (.int .i64 (springOf c).a) (.int .i64 (springOf c).b) (.int .i64 (springOf c).c) (.int .i64 (springEnd c).i) (.int .i64 (springEnd c).h) := by
  subst hb; exact p_l12Spring ⟨h, hl⟩
theorem spec_DrawBench_ok : ∀ ds outs, F_DrawBench ds = some outs → shL spec_DrawBench_L (qRet outs) ds := F_DrawBench_elim fun l hp => by
  rw [spec_DrawBench_L_sh, p_l01New hp]
  refine (p_l37Bench (x_b := (cur0 l).b) (x_i := (cur0 l).i) (x_h := (cur0 l).h) ⟨by simp [cur0], hp⟩).2 ?_
  show qRet _ .ret _
  simp
@[simp] theorem P1_lstI4 {a b c d : Int} {k : V → Prop} : P1 (.lst [.sc] false 4) [.int .i64 a, .int .i64 b, .int .i64 c, .int .i64 d] k ↔ k (vL I1 v1 [a, b, c, d]) := P1_of (by simp [Prim.run, aksOk, akOk, chunk, V.pack, vL, v1]) k
theorem spec_l38Workshop_ok : ∀ ds outs, F_l38Workshop ds = some outs → shL spec_l38Workshop_L (qRet outs) ds := F_l38Workshop_elim fun x hp => by
  obtain ⟨i0, hb⟩ := hp
  have hE := benchEnd_b i0
  have hS := springEnd_i hE.2
  have hC := shopCur_b i0
  have ht := benchOf_t i0
  rw [spec_l38Workshop_L_sh, q_bench (b := x.b) x rfl i0 hb, q_spring (b := x.b) _ hE.1 hE.2 hb]
  simp only [P1_lstI4, P1_lstI3]
  rw [q_pick (b := x.b) (springEnd (benchEnd x)) (by rw [springEnd_b, hE.1]) hS hb (by simp) (by simp)]
  rw [q_pick (b := x.b) (cAfter (springEnd (benchEnd x)) _) (by rw [cAfter_b, springEnd_b, hE.1]) (cAfter_i hS) hb (by simp) (by simp)]
  have e4 : (([0, 1, 30, 999] : List Int).length : Int) = 4 := rfl
  have e3 : (([0, 12, 999999] : List Int).length : Int) = 3 := rfl
  simp only [e4, e3]
  refine loop_upto (benchOf x).t.toNat (fun k => [.int .i64 (combTo (shopCur x) k).1.2, .int .i64 k, vL I2 v2 (benchOf x).p, vL IL2 vLL2 (benchOf x).o, vL I1 v1 (combTo (shopCur x) k).1.1, vL I1 vY x.b, .int .i64 (combTo (shopCur x) k).2.i, .int .i64 (combTo (shopCur x) k).2.h,
      .int .i64 0, .int .i64 0, .int .i64 0, .int .i64 0, .int .i64 0, .int .i64 0, .int .i64 0, .int .i64 (benchOf x).s, .int .i64 (benchOf x).t, .int .i64 (springOf (benchEnd x)).a, .int .i64 (springOf (benchEnd x)).b, .int .i64 (springOf (benchEnd x)).c, .int .i64 (shopMoney x), .int .i64 (shopPlayed x)])
    (by intro i j hi hj h; simp only [List.cons.injEq, V.int.injEq, true_and] at h; omega) (fun _ => True) (by simp [combTo]; exact ⟨rfl, rfl, rfl, rfl⟩) trivial ?_
  intro k hk _
  obtain ⟨g1, g2, g3, g4, g5, -, -⟩ := comb_inv hC.2 k
  have r := combStep_r (combTo (shopCur x) k).2
  rw [spec_l38Workshop_b0_sh]
  simp only [P1_lss, ifB_bool, decide_eq_true_eq, decide_eq_false_iff_not]
  refine ⟨fun h => ?_, fun h => ?_⟩
  · simp only [P1_lstI4]
    have hw : IntKind.i64.wrap ((k : Int) + 1) = ((k + 1 : Nat) : Int) := by rw [wrap_id (by omega) (by omega)]; omega
    have hw2 : IntKind.i64.wrap ((combTo (shopCur x) k).1.2 + (([0, 1, 2, 4] : List Int)[(cBelow (combTo (shopCur x) k).2 4).toNat]?).getD 0) = (combTo (shopCur x) (k + 1)).1.2 := wrap_id (by omega) (by omega)
    simp only [P1_lst1, P1_appI_, g3, List.length_singleton]
    refine ⟨by omega, ?_⟩
    rw [q_pick (b := x.b) _ (g1.trans hC.1) g2 hb (by simp) (by simp)]
    have e4' : (([0, 1, 2, 4] : List Int).length : Int) = 4 := rfl
    simp only [e4', P1_add, hw, hw2]
    simp [combTo, g3]
    omega
  · have e : k = (benchOf x).t.toNat := by omega
    subst e
    simp [spec_l38Workshop_r1_sh, shopOf, shopEnd]
end Go.Mw

/- Drawn acts and scenarios; replays. -/
namespace Go.Mw
theorem actDraw_b (x : Cur) : (actDraw x).2.b = x.b := by unfold actDraw; split <;> (try split) <;> (try split) <;> (try split) <;> (try split) <;> simp
theorem actDraw_i {x : Cur} (h : 0 ≤ x.i) : 0 ≤ (actDraw x).2.i := by
  unfold actDraw
  split
  · exact cAfter_i (cAfter_i (cAfter_i h))
  · split
    · exact cAfter_i (cAfter_i h)
    · split
      · exact cAfter_i h
      · split
        · exact cAfter_i (cAfter_i h)
        · split <;> exact cAfter_i h
theorem q_actB {b : List UInt8} (c : Cur) {n : Int} {m : Nat} {k : V → V → V → Prop} (hb : c.b = b) (h : 0 ≤ c.i) (hl : b.length ≤ 1048576) : P3 (.call F_l01Below 0 m) [vL I1 vY b, .int .i64 (cAfter c 9).i, .int .i64 (cAfter c 9).h, .int .i64 n] k ↔ k (.int .i64 (cBelow (cAfter c 9) n)) (.int .i64 (cAfter (cAfter c 9) n).i) (.int .i64 (cAfter (cAfter c 9) n).h) :=
  q_below (b := b) (cAfter c 9) (by simpa using hb) (cAfter_i h) hl
theorem spec_l39Act_ok : ∀ ds outs, F_l39Act ds = some outs → shL spec_l39Act_L (qRet outs) ds := F_l39Act_elim fun x hp => by
  obtain ⟨i0, hb⟩ := hp
  have hr := cBelow_range x (show (0 : Int) < 9 by omega)
  rw [spec_l39Act_L_sh, q_below (b := x.b) x rfl i0 hb]
  generalize hv : cBelow x 9 = v at *
  obtain h | rfl | rfl | rfl | h | rfl : (v = 0 ∨ v = 1 ∨ v = 2) ∨ v = 3 ∨ v = 4 ∨ v = 5 ∨ (v = 6 ∨ v = 7) ∨ v = 8 := by omega
  · have e : actDraw x = (⟨1, cBelow (cAfter x 9) 4, cBelow (cAfter (cAfter x 9) 4) 16⟩, cAfter (cAfter (cAfter x 9) 4) 16) := by
      unfold actDraw; rw [hv, if_pos (by omega)]
    rw [e]
    rcases h with rfl | rfl | rfl <;> simp [spec_l39Act_r0_sh, q_actB (b := x.b) x rfl i0 hb, q_below (b := x.b) (cAfter (cAfter x 9) 4) (by simp) (cAfter_i (cAfter_i i0)) hb]
  · have e : actDraw x = (⟨2, cBelow (cAfter x 9) 5, 0⟩, cAfter (cAfter x 9) 5) := by unfold actDraw; rw [hv]; rfl
    rw [e]
    simp [spec_l39Act_r0_sh, q_actB (b := x.b) x rfl i0 hb]
  · have e : actDraw x = (⟨3, 0, 0⟩, cAfter x 9) := by unfold actDraw; rw [hv]; rfl
    rw [e]
    simp [spec_l39Act_r0_sh]
  · have e : actDraw x = (⟨4, cBelow (cAfter x 9) 8, 0⟩, cAfter (cAfter x 9) 8) := by unfold actDraw; rw [hv]; rfl
    rw [e]
    simp [spec_l39Act_r0_sh, q_actB (b := x.b) x rfl i0 hb]
  · have e : actDraw x = (⟨5, 0, 0⟩, cAfter x 9) := by unfold actDraw; rw [hv]; rcases h with rfl | rfl <;> rfl
    rw [e]
    rcases h with rfl | rfl <;> simp [spec_l39Act_r0_sh]
  · have e : actDraw x = (⟨6, 0, 0⟩, cAfter x 9) := by unfold actDraw; rw [hv]; rfl
    rw [e]
    simp [spec_l39Act_r0_sh, spec_l39Act_r1_sh, spec_l39Act_r2_sh]
theorem q_act {b : List UInt8} (c : Cur) {m : Nat} {k : V → V → V → V → V → Prop} (hb : c.b = b) (h : 0 ≤ c.i) (hl : b.length ≤ 1048576) :
    P5 (.call F_l39Act 0 m) [vL I1 vY b, .int .i64 c.i, .int .i64 c.h] k ↔ k (.int .i64 (actDraw c).1.a) (.int .i64 (actDraw c).1.b) (.int .i64 (actDraw c).1.c) (.int .i64 (actDraw c).2.i) (.int .i64 (actDraw c).2.h) := by
  subst hb; exact p_l39Act ⟨h, hl⟩
theorem act_inv {x : Cur} (hi : 0 ≤ x.i) : ∀ k, (actTo x k).2.b = x.b ∧ 0 ≤ (actTo x k).2.i ∧ (actTo x k).1.length = k
  | 0 => ⟨rfl, hi, rfl⟩
  | k + 1 => by
    obtain ⟨h1, h2, h3⟩ := act_inv hi k
    exact ⟨(actDraw_b _).trans h1, actDraw_i h2, by simp [actTo, h3]⟩
theorem actCnt_le (x : Cur) : actCnt x ≤ 13 := by
  have := cBelow_range x (show (0 : Int) < 14 by omega)
  unfold actCnt; omega
theorem actsOf_len {x : Cur} (hi : 0 ≤ x.i) : (actsOf x).length ≤ 13 := by
  have h := (act_inv (x := cAfter x 14) (cAfter_i hi) (actCnt x)).2.2
  have h2 := actCnt_le x
  unfold actsOf; omega
theorem spec_l39List_ok : ∀ ds outs, F_l39List ds = some outs → shL spec_l39List_L (qRet outs) ds := F_l39List_elim fun x hp => by
  obtain ⟨i0, hb⟩ := hp
  have r := cBelow_range x (show (0 : Int) < 14 by omega)
  have w1 : cBelow x 14 = (actCnt x : Int) := by simp only [actCnt]; omega
  have hN := actCnt_le x
  rw [spec_l39List_L_sh]
  simp only [P1_lst0]
  rw [q_below (b := x.b) x rfl i0 hb, w1]
  refine loop_upto (actCnt x) (fun k => [.int .i64 (actCnt x), .int .i64 k, vL I3 v3 (actTo (cAfter x 14) k).1, vL I1 vY x.b, .int .i64 (actTo (cAfter x 14) k).2.i, .int .i64 (actTo (cAfter x 14) k).2.h]) (by intro i j _ _ h; simp at h; omega) (fun _ => True) (by simp [actTo]) trivial ?_
  intro k hk _
  obtain ⟨g1, g2, g3⟩ := act_inv (x := cAfter x 14) (cAfter_i i0) k
  rw [cAfter_b] at g1
  rw [spec_l39List_b0_sh]
  simp only [P1_lss, ifB_bool, decide_eq_true_eq, decide_eq_false_iff_not]
  refine ⟨fun h => ?_, fun h => ?_⟩
  · rw [q_act (b := x.b) _ g1 g2 hb]
    have hw : IntKind.i64.wrap ((k : Int) + 1) = ((k + 1 : Nat) : Int) := by rw [wrap_id (by omega) (by omega)]; omega
    simp only [P1_add, hw]
    simp [actTo, g3]
    omega
  · have e : k = actCnt x := by omega
    subst e
    simp [spec_l39List_r1_sh, actsOf, actsEnd]
theorem sample_ok : shopOk sample = true := by decide
theorem scene_ok {x : Cur} (hi : 0 ≤ x.i) : shopOk (sceneOf x) = true := by
  unfold sceneOf
  split
  · exact sample_ok
  · exact shopOf_ok (cAfter_i hi)
theorem sceneEnd_b {x : Cur} (hi : 0 ≤ x.i) : (sceneEnd x).b = x.b ∧ 0 ≤ (sceneEnd x).i := by
  unfold sceneEnd
  split
  · exact ⟨by simp, cAfter_i hi⟩
  · have h := shopEnd_b (x := cAfter x 2) (cAfter_i hi)
    exact ⟨by rw [h.1]; simp, h.2⟩
theorem q_shop {b : List UInt8} (c : Cur) {m : Nat} {k : V → V → V → V → V → V → V → V → V → V → V → V → Prop} (hb : c.b = b) (h : 0 ≤ c.i) (hl : b.length ≤ 1048576) :
    P12 (.call F_l38Workshop 0 m) [vL I1 vY b, .int .i64 c.i, .int .i64 c.h] k ↔ k (.int .i64 (shopOf c).s) (.int .i64 (shopOf c).t) (vL I2 v2 (shopOf c).p) (vL IL2 vLL2 (shopOf c).o) (vL I1 v1 (shopOf c).c)
      (.int .i64 (shopOf c).u) (.int .i64 (shopOf c).m) (.int .i64 (shopOf c).f) (.int .i64 (shopOf c).y) (.int .i64 (shopOf c).d) (.int .i64 (shopEnd c).i) (.int .i64 (shopEnd c).h) := by
  subst hb; exact p_l38Workshop ⟨h, hl⟩
theorem spec_l39Workshop_ok : ∀ ds outs, F_l39Workshop ds = some outs → shL spec_l39Workshop_L (qRet outs) ds := F_l39Workshop_elim fun x hp => by
  obtain ⟨i0, hb⟩ := hp
  rw [spec_l39Workshop_L_sh, q_once (b := x.b) x rfl i0 hb]
  simp only [ifB_bool, decide_eq_true_eq, decide_eq_false_iff_not]
  refine ⟨fun h => ?_, fun h => ?_⟩
  · rw [p_SampleWorkshop]
    have e : sceneOf x = openShop 16 [12, 12, 16, 19] 40 := by unfold sceneOf; rw [if_pos h]; rfl
    have e2 : sceneEnd x = cAfter x 2 := by unfold sceneEnd; rw [if_pos h]
    rw [e, e2]
    simp
  · rw [q_shop (b := x.b) _ (by simp) (cAfter_i i0) hb]
    have e : sceneOf x = shopOf (cAfter x 2) := by unfold sceneOf; rw [if_neg h]
    have e2 : sceneEnd x = shopEnd (cAfter x 2) := by unfold sceneEnd; rw [if_neg h]
    rw [e, e2]
    simp
theorem q_scene {b : List UInt8} (c : Cur) {m : Nat} {k : V → V → V → V → V → V → V → V → V → V → V → V → Prop} (hb : c.b = b) (h : 0 ≤ c.i) (hl : b.length ≤ 1048576) :
    P12 (.call F_l39Workshop 0 m) [vL I1 vY b, .int .i64 c.i, .int .i64 c.h] k ↔ k (.int .i64 (sceneOf c).s) (.int .i64 (sceneOf c).t) (vL I2 v2 (sceneOf c).p) (vL IL2 vLL2 (sceneOf c).o) (vL I1 v1 (sceneOf c).c)
      (.int .i64 (sceneOf c).u) (.int .i64 (sceneOf c).m) (.int .i64 (sceneOf c).f) (.int .i64 (sceneOf c).y) (.int .i64 (sceneOf c).d) (.int .i64 (sceneEnd c).i) (.int .i64 (sceneEnd c).h) := by
  subst hb; exact p_l39Workshop ⟨h, hl⟩
theorem q_acts {b : List UInt8} (c : Cur) {m : Nat} {k : V → V → V → Prop} (hb : c.b = b) (h : 0 ≤ c.i) (hl : b.length ≤ 1048576) :
    P3 (.call F_l39List 0 m) [vL I1 vY b, .int .i64 c.i, .int .i64 c.h] k ↔ k (vL I3 v3 (actsOf c)) (.int .i64 (actsEnd c).i) (.int .i64 (actsEnd c).h) := by
  subst hb; exact p_l39List ⟨h, hl⟩
theorem cur0_i (l : List UInt8) : 0 ≤ (cur0 l).i := by simp [cur0]
theorem spec_DrawActs_ok : ∀ ds outs, F_DrawActs ds = some outs → shL spec_DrawActs_L (qRet outs) ds := F_DrawActs_elim fun l hp => by
  rw [spec_DrawActs_L_sh, p_l01New hp]
  have h0 := cur0_i l
  have hE := sceneEnd_b h0
  refine (q_scene (b := l) (cur0 l) rfl h0 hp).2 ?_
  rw [q_acts (b := l) _ hE.1 hE.2 hp]
  simp [drawW, drawA]
theorem drawW_ok (l : List UInt8) : shopOk (drawW l) = true := scene_ok (cur0_i l)
theorem drawA_len (l : List UInt8) : (drawA l).length ≤ 13 := actsOf_len (sceneEnd_b (cur0_i l)).2
theorem place_inv {x : Cur} (hi : 0 ≤ x.i) : ∀ k, (placeTo x k).2.b = x.b ∧ 0 ≤ (placeTo x k).2.i ∧ (placeTo x k).1.length = k ∧ ∀ y ∈ (placeTo x k).1, 0 ≤ y ∧ y < 10000
  | 0 => ⟨rfl, hi, rfl, by simp [placeTo]⟩
  | k + 1 => by
    obtain ⟨h1, h2, h3, h4⟩ := place_inv hi k
    refine ⟨by simp [placeTo, h1], cAfter_i h2, by simp [placeTo, h3], fun y hy => ?_⟩
    simp only [placeTo, List.mem_append, List.mem_singleton] at hy
    rcases hy with hy | rfl
    · exact h4 y hy
    · exact cBelow_range _ (by omega)
theorem spec_DrawPlaces_ok : ∀ ds outs, F_DrawPlaces ds = some outs → shL spec_DrawPlaces_L (qRet outs) ds := F_DrawPlaces_elim fun l hp => by
  rw [spec_DrawPlaces_L_sh, p_l01New hp]
  simp only [P1_lst0]
  have h0 := cur0_i l
  refine loop_upto 12 (fun k => [.int .i64 k, vL I1 v1 (placeTo (cur0 l) k).1, vL I1 vY l, .int .i64 (placeTo (cur0 l) k).2.i, .int .i64 (placeTo (cur0 l) k).2.h]) (by intro i j _ _ h; simp at h; omega) (fun _ => True) (by simp [placeTo, cur0]) trivial ?_
  intro k hk _
  obtain ⟨g1, g2, g3, -⟩ := place_inv h0 k
  rw [spec_DrawPlaces_b0_sh]
  simp only [P1_lss, ifB_bool, decide_eq_true_eq, decide_eq_false_iff_not]
  refine ⟨fun h => ?_, fun h => ?_⟩
  · rw [q_below (b := l) _ g1 g2 hp]
    have hw : IntKind.i64.wrap ((k : Int) + 1) = ((k + 1 : Nat) : Int) := by rw [wrap_id (by omega) (by omega)]; omega
    simp only [P1_add, hw]
    simp [placeTo, g3]
    omega
  · have e : k = 12 := by omega
    subst e
    simp [spec_DrawPlaces_r1_sh]
end Go.Mw

/- What acts do to a valid workshop; the law on replays. -/
namespace Go.Mw
theorem wrap_succ_ne (n : Int) : IntKind.i64.wrap (n + 1) ≠ n := by
  unfold IntKind.wrap
  simp [IntKind.bits, IntKind.signed]
  omega
theorem withBench_ok {x : Shop} {b : Bench} {k : Int} {ok : Bool} (h : shopOk x = true) : shopOk (withBench x b k ok) = true := by
  unfold withBench
  cases h2 : benchFits x b k ok with
  | false => simpa using h
  | true => simp [benchFits] at h2; simpa using h2.2.2
theorem windTo_ok {x : T3} {n : Int} (h : springOk x = true) : springOk (windTo x n) = true := by
  unfold windTo
  split
  · rename_i h2
    simp only [windOk, springOk, Bool.and_eq_true, within_iff'] at h h2 ⊢
    omega
  · exact h
theorem crank_ok {x : Shop} {n : Int} (h : shopOk x = true) : shopOk (crank x n) = true := by
  unfold crank
  rw [if_pos h]
  have h1 := (shopOk_iff x).1 h
  exact (shopOk_iff _).2 ⟨h1.1, h1.2.1, windTo_ok h1.2.2.1, h1.2.2.2⟩
theorem playOnce_ok {x : Shop} (h : shopOk x = true) : shopOk (playOnce x) = true := by
  unfold playOnce
  split
  · rename_i h2
    simp only [canPlay, Bool.and_eq_true] at h2
    exact h2.2.2.2
  · exact h
theorem actW_ok {x : Shop} {y : T3} (h : shopOk x = true) : shopOk (actW x y) = true := by
  unfold actW
  split
  · split
    · exact withBench_ok h
    · split
      · exact withBench_ok h
      · split
        · exact withBench_ok h
        · split
          · exact crank_ok h
          · split
            · exact playOnce_ok h
            · exact h
  · exact h
theorem run_ok {x : Shop} {l : List T3} (h : shopOk x = true) : ∀ k, shopOk (runTo x l k).1 = true
  | 0 => h
  | k + 1 => by
    have ih := run_ok (l := l) h k
    unfold runTo
    split
    · exact actW_ok ih
    · exact ih
theorem run_len_eq {x : Shop} {l : List T3} : ∀ k, k ≤ l.length → (runTo x l k).2.length = k
  | 0, _ => rfl
  | k + 1, h => by
    have hk : k < l.length := by omega
    have ih := run_len_eq (x := x) (l := l) k (by omega)
    rw [run_succ hk]
    simp [ih]
theorem drawn_acts (l : List UInt8) : actsOk (drawW l) (drawA l) = true := by
  have := drawA_len l
  simp [actsOk, drawW_ok]
  omega
theorem runN_drawn (l : List UInt8) : (runN' (drawW l) (drawA l)).length = (drawA l).length := by
  unfold runN'
  rw [if_pos (drawn_acts l), run_len_eq _ (Nat.le_refl _)]
theorem drawW_small (l : List UInt8) : sSmall (drawW l) := sSmall_of_ok (drawW_ok l)
theorem laws_FnReplays_ok : ∀ ds outs, F_FnReplays ds = some outs → shL laws_FnReplays_L (qRet outs) ds := F_FnReplays_elim fun l hp => by
  rw [laws_FnReplays_L_sh, p_big hp]
  simp only [ifB_bool, decide_eq_true_eq, decide_eq_false_iff_not]
  refine ⟨fun _ => by simp, fun hb => ?_⟩
  have hl : l.length ≤ 1048576 := by omega
  have hW := (drawW_small l).1
  have hA := drawA_len l
  have hN := runN_drawn l
  have hc := drawn_acts l
  rw [p_DrawActs hl]
  have hr : (drawW l).p.length ≤ 1048576 ∧ fitLL (drawW l).o ∧ (drawW l).c.length ≤ 1048576 ∧ (drawA l).length ≤ 1048576 := ⟨hW.1, hW.2.1, hW.2.2, by omega⟩
  have hi : ∀ m : List Int, m.length ≤ 1048576 → (drawW l).p.length ≤ 1048576 ∧ fitLL (drawW l).o ∧ (drawW l).c.length ≤ 1048576 ∧ (drawA l).length ≤ 1048576 ∧ m.length ≤ 1048576 := fun m hm => ⟨hW.1, hW.2.1, hW.2.2, by omega, hm⟩
  generalize hx : drawW l = x at *
  generalize hy : drawA l = y at *
  rw [p_RunActs (x_p := x.p) (x_o := x.o) (x_c := x.c) hr]
  generalize hz : runN' x y = z at *
  have e : (⟨x.s, x.t, x.p, x.o, x.c, x.u, x.m, x.f, x.y, x.d⟩ : Shop) = x := rfl
  rw [p_IsReplay (x_p := x.p) (x_o := x.o) (x_c := x.c) (hi z (by omega))]
  simp only [e, hz, hc, Bool.true_and, decide_true, P1_not, ifB_bool, Bool.not_true, Bool.false_eq_true, false_implies, true_and, true_implies, P1_len, P1_eql, beq_iff_eq, beq_eq_false_iff_ne]
  refine ⟨fun h0 => ?_, fun h0 => ?_⟩
  · have hz0 : z = [] := List.length_eq_zero_iff.1 (by simpa using h0)
    simp only [P1_lst1]
    rw [p_IsReplay (x_p := x.p) (x_o := x.o) (x_c := x.c) (hi [1] (by simp))]
    simp [e, hz, hz0]
  · rw [p_DrawPlaces hl]
    have h1 : 0 < z.length := by
      have : ¬ ((z.length : Int) = 0) := by simpa using h0
      omega
    obtain ⟨-, -, g3, g4⟩ := place_inv (cur0_i l) 12
    obtain ⟨q, hq⟩ : ∃ q, (placeTo (cur0 l) 12).1[0]? = some q := ⟨_, List.getElem?_eq_getElem (by omega)⟩
    have hq2 := g4 q (List.mem_of_getElem? hq)
    have hm : 0 ≤ q.tmod (z.length : Int) ∧ q.tmod (z.length : Int) < z.length := tmod_range hq2.1 (by omega)
    generalize hk : q.tmod (z.length : Int) = K at *
    have hK : K.toNat < z.length := by omega
    have hne : (z.length : Int) ≠ 0 := by omega
    have e0 : ((0 : Int).toNat) = 0 := rfl
    simp only [P1_idxI, e0, hq, Option.some.injEq, exists_eq_left', P1_rem, hk]
    refine ⟨by omega, hne, ?_⟩
    simp only [List.getElem?_eq_getElem hK, Option.some.injEq, exists_eq_left', P1_add, P1_setI]
    refine ⟨hm.1, hm.1, hm.1, ?_⟩
    rw [p_IsReplay (x_p := x.p) (x_o := x.o) (x_c := x.c) (hi _ (by rw [List.length_set]; omega))]
    have hdiff : z ≠ z.set K.toNat (IntKind.i64.wrap (z[K.toNat] + 1)) := by
      intro h
      have h2 : z[K.toNat]? = (z.set K.toNat (IntKind.i64.wrap (z[K.toNat] + 1)))[K.toNat]? := by rw [← h]
      rw [List.getElem?_set_self hK, List.getElem?_eq_getElem hK, Option.some.injEq] at h2
      exact wrap_succ_ne _ h2.symm
    simp [e, hz, hdiff]
end Go.Mw

/- The law on histories. -/
namespace Go.Mw
theorem top_b3 {Q : QT} {x0 x1 x2 x3 x4 x5 x7 x8 x9 x10 x12 x13 x15 x16 x17 x18 x19 x20 x21 x22 x23 x24 x25 x26 x27 x28 x29 x30 x31 x32 x33 x34 x35 x36 x37 x38 x39 x40 : V} {p : List T2} (hp : p.length ≤ 1048576) (h : shL laws_FnTop_r4 Q [x0, x1, x2, x3, x4, x5, x7, x8, x9, x10, vL I2 v2 p, x12, x13, vL I2 v2 p, x15, x16, x17, x18, x19, x20, x21, x22, x23, x24, x25, x26, x27, x28, x29, x30, x31, x32, x33, x34, x35, x36, x37, x38, x39, x40]) :
    shL (.loop laws_FnTop_b3) (qB 2 (qS (shL laws_FnTop_r4 Q) Q)) [x0, x1, x2, x3, x4, x5, .int .i64 0, x7, x8, x9, x10, vL I2 v2 p, x12, x13, vL I2 v2 p, x15, x16, x17, x18, x19, x20, x21, x22, x23, x24, x25, x26, x27, x28, x29, x30, x31, x32, x33, x34, x35, x36, x37, x38, x39, x40] := by
  refine loop_upto p.length (fun k => [x0, x1, x2, x3, x4, x5, .int .i64 k, x7, x8, x9, x10, vL I2 v2 p, x12, x13, vL I2 v2 p, x15, x16, x17, x18, x19, x20, x21, x22, x23, x24, x25, x26, x27, x28, x29, x30, x31, x32, x33, x34, x35, x36, x37, x38, x39, x40]) (by intro i j _ _ h; simp only [List.cons.injEq, V.int.injEq, true_and] at h; omega) (fun _ => True) (by simp) trivial ?_
  intro k hk _
  rw [laws_FnTop_b3_sh]
  simp only [P1_len, P1_lss, ifB_bool, decide_eq_true_eq, decide_eq_false_iff_not]
  refine ⟨fun h1 => ?_, fun h1 => ?_⟩
  · have hk2 : k < p.length := by omega
    have w1 : IntKind.i64.wrap ((k : Int) + 1) = (k : Int) + 1 := wrap_id (by omega) (by omega)
    simp [hk2, w1]
  · obtain rfl : k = p.length := by omega
    simpa using h

theorem withBench_f {x : Shop} {b : Bench} {k : Int} {ok : Bool} : (withBench x b k ok).y = (if benchFits x b k ok then x.y - k else x.y) ∧ (withBench x b k ok).d = x.d ∧ (withBench x b k ok).u = x.u := by
  unfold withBench
  split <;> simp [withB]
/-- What an act does to the money, the notes and the turns. -/
structure ActDoes (w w' : Shop) (a : T3) (n : Int) : Prop where
  y : w'.y = if n = 1 ∧ a.a = 1 then w.y - 1 else w.y
  d : w'.d = if n = 1 ∧ a.a = 5 then w.d + w.p.length else w.d
  u : w'.u = if n = 1 ∧ a.a = 5 then w.u - 1 else if a.a = 4 then w.u + n else w.u
  c : a.a = 6 → n = closest w'.bench.cyl
  p : n = 1 ∧ a.a = 5 → tooClose w.bench.cyl 2 = []
theorem act_does {w : Shop} {a : T3} (h : shopOk w = true) (ha : actOk a = true) : ActDoes w (actW w a) a (actN w a) := by
  have hc : canAct w a = true := by simp [canAct, h, ha]
  have hb := fun b k ok => withBench_f (x := w) (b := b) (k := k) (ok := ok)
  unfold actW actN
  rw [if_pos hc, if_pos hc]
  rcases act_kinds ha with e | e | e | e | e | e
  · simp only [e, if_true]
    obtain ⟨h1, h2, h3⟩ := hb (setPin w.bench ⟨a.b, a.c⟩) 1 (canSet w.bench ⟨a.b, a.c⟩)
    refine ⟨?_, ?_, ?_, by simp [e], by simp [e]⟩
    · simp only [putW, h1, putOk, num, e]
      split <;> (rename_i hq; simp [hq])
    · simp [putW, h2, e]
    · simp [putW, h3, e]
  · simp only [e, show ¬ (2 : Int) = 1 by decide, if_true, if_false]
    obtain ⟨h1, h2, h3⟩ := hb (takePin w.bench a.b) 0 (canTake w.bench a.b)
    refine ⟨?_, ?_, ?_, by simp [e], by simp [e]⟩
    · simp [removeW, h1, e]
    · simp [removeW, h2, e]
    · simp [removeW, h3, e]
  · simp only [e, show ¬ (3 : Int) = 1 by decide, show ¬ (3 : Int) = 2 by decide, if_true, if_false]
    obtain ⟨h1, h2, h3⟩ := hb (takeBack w.bench) 0 (takeOk w.bench)
    refine ⟨?_, ?_, ?_, by simp [e], by simp [e]⟩
    · simp [backW, h1, e]
    · simp [backW, h2, e]
    · simp [backW, h3, e]
  · simp only [e, show ¬ (4 : Int) = 1 by decide, show ¬ (4 : Int) = 2 by decide, show ¬ (4 : Int) = 3 by decide, if_true, if_false, h]
    have hs := ((shopOk_iff w).1 h).2.2.1
    have hw : windOk w.spring a.b = true := by
      have ha2 := ha
      simp only [actOk, e, show ¬ (4 : Int) = 1 by decide, show ¬ (4 : Int) = 2 by decide, if_true, if_false, Bool.and_eq_true] at ha2
      simp [windOk, hs, ha2.1]
    refine ⟨?_, ?_, ?_, by simp [e], by simp [e]⟩
    · simp [crank, h, e]
    · simp [crank, h, e]
    · have hw2 : windOk ⟨w.u, w.m, w.f⟩ a.b = true := hw
      simp [crank, h, e, windTo, windBy, hw2, Shop.spring]
  · simp only [e, show ¬ (5 : Int) = 1 by decide, show ¬ (5 : Int) = 2 by decide, show ¬ (5 : Int) = 3 by decide, show ¬ (5 : Int) = 4 by decide, if_true, if_false]
    unfold playOnce
    cases hp : canPlay w with
    | true =>
      have hp2 := hp
      simp only [canPlay, playable, Bool.and_eq_true, decide_eq_true_eq] at hp2
      exact ⟨by simp [num, e, played], by simp [num, e, played], by simp [num, e, played], by simp [e], fun _ => hp2.2.2.1.2.2⟩
    | false => exact ⟨by simp [num, e], by simp [num, e], by simp [num, e], by simp [e], by simp [num]⟩
  · simp only [e, show ¬ (6 : Int) = 1 by decide, show ¬ (6 : Int) = 2 by decide, show ¬ (6 : Int) = 3 by decide, show ¬ (6 : Int) = 4 by decide, show ¬ (6 : Int) = 5 by decide, if_true, if_false]
    exact ⟨by simp [e], by simp [e], by simp [e], fun _ => rfl, by simp [e]⟩
theorem actDraw_ok (x : Cur) : actOk (actDraw x).1 = true := by
  unfold actDraw
  have h1 := cBelow_range (cAfter x 9) (show (0 : Int) < 4 by omega)
  have h2 := cBelow_range (cAfter (cAfter x 9) 4) (show (0 : Int) < 16 by omega)
  have h3 := cBelow_range (cAfter x 9) (show (0 : Int) < 5 by omega)
  have h4 := cBelow_range (cAfter x 9) (show (0 : Int) < 8 by omega)
  split
  · simp [actOk, within]; omega
  · split
    · simp [actOk, within]; omega
    · split
      · simp [actOk]
      · split
        · simp [actOk, within]; omega
        · split <;> simp [actOk]
theorem actTo_ok (x : Cur) : ∀ k, ∀ a ∈ (actTo x k).1, actOk a = true
  | 0, a, h => by simp [actTo] at h
  | k + 1, a, h => by
    simp only [actTo, List.mem_append, List.mem_singleton] at h
    rcases h with h | rfl
    · exact actTo_ok x k a h
    · exact actDraw_ok _
theorem drawA_ok (l : List UInt8) : ∀ a ∈ drawA l, actOk a = true := actTo_ok _ _
end Go.Mw

/- The law on histories, whole. -/
namespace Go.Mw
theorem Shop.eta (x : Shop) : (⟨x.s, x.t, x.p, x.o, x.c, x.u, x.m, x.f, x.y, x.d⟩ : Shop) = x := rfl
theorem P1_eqa33r {a b c : Int} {k : V → Prop} : P1 (.eqa true [.i, .i, .i]) [.int .i64 a, .int .i64 b, .int .i64 c, .int .i64 a, .int .i64 b, .int .i64 c] k ↔ k (.bool false) :=
  P1_of (by simp [Prim.run, eqVs, eqV1]) k
theorem laws_FnTop_ok : ∀ ds outs, F_FnTop ds = some outs → shL laws_FnTop_L (qRet outs) ds := F_FnTop_elim fun l hp => by
  rw [laws_FnTop_L_sh, p_big hp]
  simp only [ifB_bool, decide_eq_true_eq, decide_eq_false_iff_not]
  refine ⟨fun _ => by simp, fun hb => ?_⟩
  have hl : l.length ≤ 1048576 := by omega
  have hok := drawW_ok l
  have hA := drawA_len l
  have hAok := drawA_ok l
  rw [p_DrawActs hl]
  generalize drawW l = x at *
  generalize drawA l = y at *
  refine loop_upto y.length (fun k => [.int .i64 (runTo x y k).1.y, .int .i64 (runTo x y k).1.d, .int .i64 (runTo x y k).1.u, .int .i64 k, vL I3 v3 y, vL I2 v2 (runTo x y k).1.p, vL IL2 vLL2 (runTo x y k).1.o, vL I1 v1 (runTo x y k).1.c,
      .int .i64 (runTo x y k).1.s, .int .i64 (runTo x y k).1.t, .int .i64 (runTo x y k).1.u, .int .i64 (runTo x y k).1.m, .int .i64 (runTo x y k).1.f, .int .i64 (runTo x y k).1.y, .int .i64 (runTo x y k).1.d])
    (by intro i j _ _ h; simp only [List.cons.injEq, V.int.injEq, true_and] at h; omega) (fun _ => True) (by simp [runTo]) trivial ?_
  intro k hk _
  have hw := run_ok (l := y) hok k
  have hs := (sSmall_of_ok hw).1
  have hsucc := fun hk2 : k < y.length => run_succ (x := x) hk2
  generalize hW : (runTo x y k).1 = w at *
  rw [laws_FnTop_b0_sh]
  simp only [P1_len, P1_lss, ifB_bool, decide_eq_true_eq, decide_eq_false_iff_not]
  refine ⟨fun h1 => ?_, fun h1 => ?_⟩
  · have hk2 : k < y.length := by omega
    have e2 : (k : Int).toNat = k := by omega
    have ha := hAok y[k] (List.getElem_mem hk2)
    have e3 : (⟨y[k].a, y[k].b, y[k].c⟩ : T3) = y[k] := rfl
    have hd := act_does hw ha
    have hok2 := actW_ok (y := y[k]) hw
    have hs2 := (sSmall_of_ok hok2).1
    simp only [P3_idxI, e2, List.getElem?_eq_getElem hk2, Option.some.injEq, exists_eq_left']
    refine ⟨by omega, ?_⟩
    rw [p_TooClose (x_p := w.p) hs.1]
    simp only [P1_len, P1_gtr]
    simp only [p_DoAct (x_p := w.p) (x_o := w.o) (x_c := w.c) hs, Shop.eta, e3]
    have hnext : (runTo x y (k + 1)).1 = actW w y[k] := by rw [hsucc hk2]
    generalize actW w y[k] = W at *
    generalize actN w y[k] = n at *
    generalize y[k] = a at *
    simp only [P1_neq, bne_self_eq_false, ifB_bool, Bool.false_eq_true, false_implies, true_and, true_implies]
    simp only [p_WorkshopOk (x_p := W.p) (x_o := W.o) (x_c := W.c) hs2, Shop.eta, hok2, P1_not, P1_eqa33r, P1_len, P1_neq, bne_self_eq_false, ifB_bool, Bool.false_eq_true, false_implies, true_and, true_implies, Bool.not_true, and_self, decide_true, laws_FnTop_r1_sh, qS_normal, laws_FnTop_r2_sh]
    refine top_b3 hs2.1 ?_
    obtain ⟨q1, q2, q3, q4, q5, q6⟩ := (shopOk_iff w).1 hw
    obtain ⟨r1, r2, r3, r4, r5, r6⟩ := (shopOk_iff W).1 hok2
    have q7 := (benchOk_len q1).1
    simp only [springOk, Bool.and_eq_true, within_iff', Shop.spring] at q3 r3
    simp only [within_iff'] at q5 q6 r5 r6
    simp only [Shop.bench] at q7
    have u0 : ¬ W.u < 0 := by omega
    have w1 : IntKind.i64.wrap (w.y - 1) = w.y - 1 := wrap_id (by omega) (by omega)
    have w2 : IntKind.i64.wrap (w.u - 1) = w.u - 1 := wrap_id (by omega) (by omega)
    have w3 : IntKind.i64.wrap (w.d + w.p.length) = w.d + w.p.length := wrap_id (by omega) (by omega)
    have w4 : IntKind.i64.wrap ((k : Int) + 1) = (k : Int) + 1 := wrap_id (by omega) (by omega)
    obtain ⟨d1, d2, d3, d4, d5⟩ := hd
    have ec : (⟨W.s, W.t, W.p⟩ : Cyl) = W.bench.cyl := rfl
    have ec2 : (⟨w.s, w.t, w.p⟩ : Cyl) = w.bench.cyl := rfl
    have hc := fun (nr_ : Nat) kk_ => p_ClosestPins (x_s := W.s) (x_t := W.t) (x_p := W.p) (nr_ := nr_) (kk_ := kk_) hs2.1
    by_cases hn : n = 1 <;> rcases act_kinds ha with e | e | e | e | e | e <;> simp only [hn, e] at d1 d2 d3 d4 d5 <;>
      simp [laws_FnTop_r4_sh, laws_FnTop_r5_sh, laws_FnTop_r6_sh, laws_FnTop_r7_sh, laws_FnTop_r8_sh, laws_FnTop_r9_sh, laws_FnTop_r10_sh, laws_FnTop_r11_sh, laws_FnTop_r12_sh, hn, e, u0, w1, w2, w3, w4, hnext, hk2] at d1 d2 d3 d4 d5 ⊢
    all_goals first
      | omega
      | (rw [wrap_id (x := w.u + 1) (by omega) (by omega)]; omega)
      | (rw [wrap_id (x := w.u + n) (by omega) (by omega)]; omega)
      | (refine ⟨d5, fun _ => ?_⟩; omega)
      | (simp only [hc, ec, ← d4, P1_neq, bne_self_eq_false, ifB_bool, Bool.false_eq_true, false_implies, true_and, true_implies]; first | omega | (simp; omega))
  · obtain rfl : k = y.length := by omega
    simp [laws_FnTop_r13_sh, p_WorkshopOk (x_p := w.p) (x_o := w.o) (x_c := w.c) hs, Shop.eta, hw, p_BenchOk (x_p := w.p) (x_o := w.o) ⟨hs.1, hs.2.1⟩]
    exact ((shopOk_iff w).1 hw).1
end Go.Mw

/- The law on benches: setting, taking and taking back. -/
namespace Go.Mw
theorem rising_sub {l m : List T2} (h : rising l = true) (hs : m.Sublist l) : rising m = true := rising_of_pair ((rising_pair h).sublist hs)
theorem cyl_pull {c : Cyl} (h : cylOk c = true) (k : Nat) : cylOk ⟨c.s, c.t, c.p.take k ++ c.p.drop (k + 1)⟩ = true := by
  simp only [cylOk, Bool.and_eq_true, decide_eq_true_eq, List.all_eq_true] at h ⊢
  obtain ⟨⟨⟨h1, h2⟩, h3⟩, h4, h5⟩ := h
  have hs : (c.p.take k ++ c.p.drop (k + 1)).Sublist c.p := by
    have h6 : (c.p.drop (k + 1)).Sublist (c.p.drop k) := by rw [← List.drop_drop]; exact List.drop_sublist 1 _
    have h7 := List.Sublist.append (List.Sublist.refl (c.p.take k)) h6
    rwa [List.take_append_drop] at h7
  exact ⟨⟨⟨h1, h2⟩, Nat.le_trans hs.length_le h3⟩, fun x hx => h4 x (hs.subset hx), rising_sub h5 hs⟩
theorem cyl_put {c : Cyl} (h : cylOk c = true) {p : T2} (hp : pinIn c.s c.t p = true) (hl : c.p.length + 1 ≤ 100) : cylOk ⟨c.s, c.t, putPin c.p p⟩ = true := by
  simp only [cylOk, Bool.and_eq_true, decide_eq_true_eq, List.all_eq_true] at h ⊢
  obtain ⟨⟨⟨h1, h2⟩, h3⟩, h4, h5⟩ := h
  refine ⟨⟨⟨h1, h2⟩, Nat.le_trans (putPin_len _ _) hl⟩, fun x hx => ?_, putPin_rising h5⟩
  rcases putPin_mem hx with rfl | hx
  · exact hp
  · exact h4 x hx
/-- A step to a valid cylinder of the same measures is possible where fewer than thirty lie behind. -/
theorem step_iff {b : Bench} {c : Cyl} (hb : benchOk b = true) (hc : cylOk c = true) (hs : c.s = b.s) (ht : c.t = b.t) : stepOk b c = decide (b.o.length < 30) := by
  obtain ⟨h1, h2, h3⟩ := (benchOk_iff b).1 hb
  unfold stepOk
  rw [hb, Bool.true_and]
  by_cases h : b.o.length < 30
  · rw [decide_eq_true h]
    refine (benchOk_iff _).2 ⟨hc, by simp [stepped]; omega, fun q hq => ?_⟩
    simp only [stepped, List.mem_append, List.mem_singleton] at hq ⊢
    rw [hs, ht]
    rcases hq with hq | rfl
    · exact h3 q hq
    · exact h1
  · rw [decide_eq_false h]
    cases h4 : benchOk (stepped b c) with
    | false => rfl
    | true =>
      have := ((benchOk_iff _).1 h4).2.1
      simp [stepped] at this
      omega
theorem there_iff {c : Cyl} {t a : Int} (hc : cylOk c = true) (ha : 0 ≤ a ∧ a < c.s) : t ∈ pinsAt c a ↔ (⟨t, a⟩ : T2) ∈ c.p := by
  have hb := cylOk_bounds hc
  have hw : within a (-1000000) 1000000 = true := by rw [within_iff']; omega
  have hm : a % c.s = a := Int.emod_eq_of_lt ha.1 ha.2
  simp only [pinsAt, hc, hw, Bool.and_self, if_true, List.mem_map, List.mem_filter, hm, beq_iff_eq]
  constructor
  · rintro ⟨p, ⟨h1, h2⟩, h3⟩
    have : p = ⟨t, a⟩ := by cases p; simp_all
    rwa [← this]
  · exact fun h => ⟨_, ⟨h, rfl⟩, rfl⟩
theorem set_iff {b : Bench} {p : T2} (hb : benchOk b = true) (hp : pinIn b.s b.t p = true) (hl : b.p.length + 1 ≤ 100) :
    (addOk b.cyl p && stepOk b (addTo b.cyl p)) = (!decide (p ∈ b.p) && decide (b.o.length < 30)) := by
  obtain ⟨h1, h2, h3⟩ := (benchOk_iff b).1 hb
  have hc : cylOk b.cyl = true := h1
  have h4 := cyl_put hc hp hl
  have e : addOk b.cyl p = !decide (p ∈ b.p) := by
    unfold addOk
    rw [hc, h4]
    simp [Bench.cyl]
    rfl
  rw [e]
  by_cases hm : p ∈ b.p
  · simp [hm]
  · have e2 : addOk b.cyl p = true := by rw [e]; simp [hm]
    have e3 : addTo b.cyl p = ⟨b.s, b.t, putPin b.p p⟩ := by unfold addTo; rw [if_pos e2]; rfl
    have h5 : cylOk ⟨b.s, b.t, putPin b.p p⟩ = true := h4
    rw [e3, step_iff hb h5 rfl rfl]
theorem set_eq {b : Bench} {p : T2} (h : (addOk b.cyl p && stepOk b (addTo b.cyl p)) = true) : setPin b p = stepped b (addTo b.cyl p) := by
  unfold setPin stepTo
  rw [if_pos h]
theorem back_stepped {b : Bench} {c : Cyl} (hs : c.s = b.s) (ht : c.t = b.t) (h : benchOk (stepped b c) = true) : takeBack (stepped b c) = b ∧ takeOk (stepped b c) = true := by
  have h1 : takeOk (stepped b c) = true := by
    unfold takeOk
    rw [h]
    simp [stepped]
  refine ⟨?_, h1⟩
  unfold takeBack
  rw [if_pos h1]
  simp [stepped, hs, ht]
theorem pull_iff {b : Bench} {k : Int} (hb : benchOk b = true) (hk : 0 ≤ k ∧ k < b.p.length) : (pullOk b.cyl k && stepOk b (pulled b k)) = decide (b.o.length < 30) ∧ (pulled b k).p = b.p.take k.toNat ++ b.p.drop (k.toNat + 1) := by
  obtain ⟨h1, h2, h3⟩ := (benchOk_iff b).1 hb
  have hc : cylOk b.cyl = true := h1
  have e : pullOk b.cyl k = true := by simp [pullOk, hc, hk.1]; exact hk.2
  have e2 : (cylOk b.cyl && (decide (0 ≤ k) && decide (k < b.cyl.p.length))) = true := e
  have e3 : (pulled b k).p = b.p.take k.toNat ++ b.p.drop (k.toNat + 1) := by simp only [pulled, pullPin, e2, if_true]; rfl
  have h4 : cylOk (pulled b k) = true := by
    have := cyl_pull hc k.toNat
    have e4 : pulled b k = ⟨b.cyl.s, b.cyl.t, b.cyl.p.take k.toNat ++ b.cyl.p.drop (k.toNat + 1)⟩ := by
      have : pulled b k = ⟨b.s, b.t, (pulled b k).p⟩ := rfl
      rw [this, e3]; rfl
    rw [e4]; exact this
  rw [e, Bool.true_and, step_iff hb h4 rfl rfl]
  exact ⟨rfl, e3⟩
theorem pulled_len {l : List T2} {k : Nat} (hk : k < l.length) : (l.take k ++ l.drop (k + 1)).length = l.length - 1 := by simp; omega
theorem changed_range {b : Bench} (hb : benchOk b = true) (hc : Chg b) : 0 ≤ changedPins b ∧ changedPins b ≤ b.o.length ∧ (b.o = [] → changedPins b = 0) := by
  unfold changedPins
  rw [if_pos hb]
  cases ho : b.o with
  | nil => simp
  | cons q r =>
    have h1 := missing_nonneg b.p q
    have h2 := missing_nonneg q b.p
    have h3 := hc q (by rw [ho]; rfl)
    rw [ho] at h3
    exact ⟨by dsimp only; omega, h3, by simp⟩
theorem changed_nonneg {b : Bench} (hb : benchOk b = true) : 0 ≤ changedPins b := by
  unfold changedPins
  rw [if_pos hb]
  split
  · exact Int.le_refl _
  · have := fun q => missing_nonneg b.p q
    have h2 := fun q => missing_nonneg q b.p
    rename_i q r _
    have := this q; have := h2 q; omega
theorem fresh_new : newBench 12 3 = ⟨12, 3, [], []⟩ ∧ benchOk ⟨12, 3, [], []⟩ = true := ⟨rfl, rfl⟩
theorem fresh_set : (addOk (Bench.cyl ⟨12, 3, [], []⟩) ⟨1, 4⟩ && stepOk ⟨12, 3, [], []⟩ (addTo (Bench.cyl ⟨12, 3, [], []⟩) ⟨1, 4⟩)) = true ∧ setPin ⟨12, 3, [], []⟩ ⟨1, 4⟩ = ⟨12, 3, [⟨1, 4⟩], [[]]⟩ ∧ changedPins ⟨12, 3, [⟨1, 4⟩], [[]]⟩ = 1 := ⟨rfl, rfl, rfl⟩
theorem bFit_of_ok {b : Bench} (h : benchOk b = true) : b.p.length ≤ 1048576 ∧ fitLL b.o := ⟨(bSmall_of_ok h).1, (bSmall_of_ok h).2.1⟩
theorem takeOk_eq {b : Bench} (h : benchOk b = true) : takeOk b = decide (0 < b.o.length) := by
  unfold takeOk
  rw [h]
  cases b.o <;> simp
theorem benches_r4 {b : Bench} (hb : benchOk b = true) (hc : Chg b) : shL laws_FnBenches_r4 (qRet [.bool true]) [vL I2 v2 b.p, vL IL2 vLL2 b.o, .int .i64 b.s, .int .i64 b.t] := by
  have hf := bFit_of_ok hb
  have hr := changed_range hb hc
  have eta : (⟨b.s, b.t, b.p, b.o⟩ : Bench) = b := rfl
  rw [laws_FnBenches_r4_sh]
  simp only [p_ChangedPins (x_p := b.p) (x_o := b.o) hf, p_TakeBack (x_p := b.p) (x_o := b.o) hf, eta, p_NewBench, fresh_new.1, fresh_new.2]
  rw [p_SetPin (x_p := []) (x_o := []) ⟨by simp, by simp [fitLL]⟩]
  have e1 : (addOk (Bench.cyl ⟨12, 3, [], []⟩) ⟨1, 4⟩ && stepOk ⟨12, 3, [], []⟩ (addTo (Bench.cyl ⟨12, 3, [], []⟩) ⟨1, 4⟩)) = true := fresh_set.1
  simp only [e1, fresh_set.2.1]
  have hf2 : ([⟨1, 4⟩] : List T2).length ≤ 1048576 ∧ fitLL [[]] := ⟨by simp, by simp [fitLL]⟩
  have q1 := fun (nr_ : Nat) kk_ => p_ChangedPins (x_s := 12) (x_t := 3) (x_p := [⟨1, 4⟩]) (x_o := [[]]) (nr_ := nr_) (kk_ := kk_) hf2
  have q2 := fun (nr_ : Nat) kk_ => p_BenchOk (x_s := b.s) (x_t := b.t) (x_p := b.p) (x_o := b.o) (nr_ := nr_) (kk_ := kk_) hf
  have h1 : changedPins b ≤ b.o.length := hr.2.1
  have h0 := hr.1
  simp only [q1, q2, eta, fresh_set.2.2, takeOk_eq hb, hb]
  by_cases ho : b.o = []
  · have h3 := hr.2.2 ho
    simp [ho, h3]
  · have h3 : 0 < b.o.length := List.length_pos_iff.2 ho
    simp [h0, h1, h3]
end Go.Mw

/- The law on benches, whole. -/
namespace Go.Mw
theorem at_range {l : List UInt8} {n : Int} : 0 ≤ atB l n := by
  unfold atB
  split
  · omega
  · exact Int.le_refl _
theorem benches_r3 {l : List UInt8} (hl : l.length ≤ 1048576) {b : Bench} (hb : benchOk b = true) (hc : Chg b) : shL laws_FnBenches_r3 (qRet [.bool true]) [vL I1 vY l, vL I2 v2 b.p, vL IL2 vLL2 b.o, .int .i64 b.s, .int .i64 b.t] := by
  have hf := bFit_of_ok hb
  have eta : (⟨b.s, b.t, b.p, b.o⟩ : Bench) = b := rfl
  have h4 := benches_r4 hb hc
  rw [laws_FnBenches_r3_sh]
  simp only [P1_len, P1_gtr, ifB_bool, decide_eq_true_eq, decide_eq_false_iff_not]
  refine ⟨fun h => ?_, fun h => h4⟩
  have hne : (b.p.length : Int) ≠ 0 := by omega
  rw [p_at (l := l) (n := 2) ⟨hl, by omega, by omega⟩]
  have hk := tmod_range (at_range (l := l) (n := 2)) (show (0 : Int) < b.p.length by omega)
  simp only [P1_rem]
  refine ⟨hne, ?_⟩
  generalize hK : (atB l 2).tmod b.p.length = k at *
  rw [p_TakePin (x_s := b.s) (x_t := b.t) (x_p := b.p) (x_o := b.o) hf]
  simp only [eta]
  obtain ⟨e1, e2⟩ := pull_iff hb hk
  rw [e1]
  have e3 : ∀ x : Bench, x.cyl.p = x.p := fun _ => rfl
  simp only [P1_len, P1_lss]
  by_cases h5 : b.o.length < 30
  · have h6 : (b.o.length : Int) < 30 := by omega
    have e4 : takePin b k = stepped b (pulled b k) := by
      unfold takePin stepTo
      rw [if_pos (by rw [e1]; exact decide_eq_true h5)]
    have hb2 : benchOk (takePin b k) = true := stepTo_ok hb
    have hf2 := bFit_of_ok hb2
    have hn := changed_nonneg hb2
    have hlen : (takePin b k).p.length = b.p.length - 1 := by
      rw [e4]
      show (pulled b k).p.length = _
      rw [e2, pulled_len (by omega)]
    generalize takePin b k = z at *
    have q := fun (nr_ : Nat) kk_ => p_ChangedPins (x_s := z.s) (x_t := z.t) (x_p := z.p) (x_o := z.o) (nr_ := nr_) (kk_ := kk_) hf2
    have eta2 : (⟨z.s, z.t, z.p, z.o⟩ : Bench) = z := rfl
    have w1 : IntKind.i64.wrap ((b.p.length : Int) - 1) = (b.p.length : Int) - 1 := by have := hf.1; exact wrap_id (by omega) (by omega)
    have h7 : ((z.p.length : Nat) : Int) = (b.p.length : Int) - 1 := by omega
    have h8 : ¬ changedPins z < 0 := by omega
    simp [h5, h6, w1, h7, q, eta2, h8, h4]
  · have h6 : ¬ (b.o.length : Int) < 30 := by omega
    simp [h5, h6, h4]
theorem laws_FnBenches_ok : ∀ ds outs, F_FnBenches ds = some outs → shL laws_FnBenches_L (qRet outs) ds := F_FnBenches_elim fun l hp => by
  rw [laws_FnBenches_L_sh, p_big hp]
  simp only [ifB_bool, decide_eq_true_eq, decide_eq_false_iff_not]
  refine ⟨fun _ => by simp, fun hb => ?_⟩
  have hl : l.length ≤ 1048576 := by omega
  have hi := benchOf_inv (cur0_i l)
  have ht := benchOf_t (cur0_i l)
  rw [p_DrawBench hl, p_at (l := l) (n := 0) ⟨hl, by omega, by omega⟩]
  generalize benchOf (cur0 l) = b at *
  obtain ⟨hok, -, hlen, hold, hchg⟩ := hi
  have hf := bFit_of_ok hok
  have hA := tmod_range (at_range (l := l) (n := 0)) (show (0 : Int) < b.t by omega)
  have hB := tmod_range (at_range (l := l) (n := 1)) (show (0 : Int) < b.s by omega)
  simp only [P1_rem, p_at (l := l) (n := 1) ⟨hl, by omega, by omega⟩]
  refine ⟨by omega, by omega, ?_⟩
  generalize (atB l 0).tmod b.t = A at *
  generalize (atB l 1).tmod b.s = B at *
  have hc : cylOk b.cyl = true := ((benchOk_iff b).1 hok).1
  have hpin : pinIn b.s b.t ⟨A, B⟩ = true := by simp only [pinIn, Bool.and_eq_true, within_iff']; omega
  rw [p_PinsAt (x_s := b.s) (x_t := b.t) (x_p := b.p) hf.1]
  have hpl : (pinsAt b.cyl B).length ≤ 1048576 := by
    have := pinsAt_le b.cyl B
    have h2 : b.cyl.p.length = b.p.length := rfl
    omega
  have ecyl : (⟨b.s, b.t, b.p⟩ : Cyl) = b.cyl := rfl
  have eta : (⟨b.s, b.t, b.p, b.o⟩ : Bench) = b := rfl
  simp only [ecyl]
  rw [p_has (l := pinsAt b.cyl B) (n := A) hpl, p_SetPin (x_s := b.s) (x_t := b.t) (x_p := b.p) (x_o := b.o) (y_a := A) (y_b := B) hf]
  simp only [eta, ecyl]
  rw [set_iff hok hpin (by omega)]
  have hth : decide (A ∈ pinsAt b.cyl B) = decide ((⟨A, B⟩ : T2) ∈ b.p) := by
    rw [decide_eq_decide]; exact there_iff hc ⟨hB.1, hB.2⟩
  rw [hth]
  have h3 := benches_r3 hl hok hchg
  by_cases hm : (⟨A, B⟩ : T2) ∈ b.p
  · simp [hm, laws_FnBenches_r0_sh, h3]
  · have hold2 : b.o.length < 30 := by omega
    have hold3 : (b.o.length : Int) < 30 := by omega
    have hset : (addOk b.cyl ⟨A, B⟩ && stepOk b (addTo b.cyl ⟨A, B⟩)) = true := by
      rw [set_iff hok hpin (by omega)]; simp [hm, hold2]
    have e1 := set_eq hset
    have a1 := addTo_eq (c := b.cyl) (p := ⟨A, B⟩)
    have hok2 : benchOk (setPin b ⟨A, B⟩) = true := stepTo_ok hok
    have hok3 := hok2
    rw [e1] at hok3
    obtain ⟨k1, k2⟩ := back_stepped (b := b) (c := addTo b.cyl ⟨A, B⟩) a1.1 a1.2.1 hok3
    have hlo : (setPin b ⟨A, B⟩).o.length = b.o.length + 1 := by rw [e1]; simp [stepped]
    rw [← e1] at k1 k2
    have hf2 := bFit_of_ok hok2
    generalize setPin b ⟨A, B⟩ = x at *
    have eta2 : (⟨x.s, x.t, x.p, x.o⟩ : Bench) = x := rfl
    have w1 : IntKind.i64.wrap ((b.o.length : Int) + 1) = (b.o.length : Int) + 1 := wrap_id (by omega) (by omega)
    have hlo2 : (x.o.length : Int) = (b.o.length : Int) + 1 := by omega
    simp only [hm, hold2, hold3, decide_true, decide_false, Bool.not_false, Bool.and_self, P1_not, ifB_bool, P1_len, P1_lss, true_implies, Bool.true_eq_false, false_implies, and_true, P1_bneq, beq_self_eq_true, Bool.not_true, Bool.false_eq_true, true_and]
    simp only [laws_FnBenches_r0_sh, p_TakeBack (x_s := x.s) (x_t := x.t) (x_p := x.p) (x_o := x.o) hf2, eta2, k1, k2, p_BenchOk (x_s := x.s) (x_t := x.t) (x_p := x.p) (x_o := x.o) hf2, hok2]
    simp [w1, hlo2]
    refine loop_upto b.p.length (fun k => [vL I1 vY l, .int .i64 k, vL I2 v2 b.p, vL IL2 vLL2 b.o, vL I2 v2 b.p, vL IL2 vLL2 b.o, .int .i64 b.s, .int .i64 b.t, .int .i64 b.s, .int .i64 b.t]) (by intro i j _ _ h; simp at h; omega) (fun _ => True) (by simp) trivial ?_
    intro k hk _
    rw [laws_FnBenches_b1_sh]
    simp only [P1_len, P1_lss, ifB_bool, decide_eq_true_eq, decide_eq_false_iff_not]
    refine ⟨fun h1 => ?_, fun h1 => ?_⟩
    · have hk2 : k < b.p.length := by omega
      have w2 : IntKind.i64.wrap ((k : Int) + 1) = (k : Int) + 1 := wrap_id (by omega) (by omega)
      simp [hk2, w2]
    · obtain rfl : k = b.p.length := by omega
      simp [laws_FnBenches_r2_sh, h3]
end Go.Mw

/- Functions of the program, as small pure programs (printed by a program of ours). -/
namespace Go.Mw
noncomputable section
def laws_FnScenarios_L : L := .seq (.rg []) (.seq (.seq (.rg [⟨[], .call F_big 0 1, [.v 0], 1⟩]) (.ite (.v 1) (.seq (.rg []) (.ret [.k (.bool true)])) (.skip))) (.seq (.rg [⟨[], .call F_DrawActs 0 11, [.v 0], 11⟩]) (.seq (.rg [⟨[], .call F_RunActs 0 11, [.v 2, .v 3, .v 4, .v 5, .v 6, .v 7, .v 8, .v 9, .v 10, .v 11, .v 12], 11⟩]) (.seq (.rg [⟨[], .call F_WorkshopOk 0 1, [.v 2, .v 3, .v 4, .v 5, .v 6, .v 7, .v 8, .v 9, .v 10, .v 11], 1⟩, ⟨[(.v 24, true)], .call F_WorkshopOk 0 1, [.v 13, .v 14, .v 15, .v 16, .v 17, .v 18, .v 19, .v 20, .v 21, .v 22], 1⟩, ⟨[], .pick, [.v 24, .v 25, .k (.bool false)], 1⟩, ⟨[(.v 26, true)], .len, [.v 23], 1⟩, ⟨[(.v 26, true)], .len, [.v 12], 1⟩, ⟨[(.v 26, true)], .bin .eql, [.v 27, .v 28], 1⟩, ⟨[], .pick, [.v 26, .v 29, .k (.bool false)], 1⟩, ⟨[(.v 30, true)], .call F_SampleWorkshop 0 10, [], 10⟩, ⟨[(.v 30, true)], .call F_WorkshopOk 0 1, [.v 31, .v 32, .v 33, .v 34, .v 35, .v 36, .v 37, .v 38, .v 39, .v 40], 1⟩, ⟨[], .pick, [.v 30, .v 41, .k (.bool false)], 1⟩]) (.ret [.v 42])))))
theorem laws_FnScenarios_L_sh (Q : QT) (x0 : V) : shL laws_FnScenarios_L Q [x0] = (
  P1 (.call F_big 0 1) [x0] fun v0 =>
  ifB v0 (
    Q .ret [.bool true]) (
    P11 (.call F_DrawActs 0 11) [x0] fun v1 v2 v3 v4 v5 v6 v7 v8 v9 v10 v11 =>
    P11 (.call F_RunActs 0 11) [v1, v2, v3, v4, v5, v6, v7, v8, v9, v10, v11] fun v12 v13 v14 v15 v16 v17 v18 v19 v20 v21 v22 =>
    P1 (.call F_WorkshopOk 0 1) [v1, v2, v3, v4, v5, v6, v7, v8, v9, v10] fun v23 =>
    ifB v23 (
      P1 (.call F_WorkshopOk 0 1) [v12, v13, v14, v15, v16, v17, v18, v19, v20, v21] fun v24 =>
      ifB v24 (
        P1 (.len) [v22] fun v25 =>
        P1 (.len) [v11] fun v26 =>
        P1 (.bin .eql) [v25, v26] fun v27 =>
        ifB v27 (
          P10 (.call F_SampleWorkshop 0 10) [] fun v28 v29 v30 v31 v32 v33 v34 v35 v36 v37 =>
          P1 (.call F_WorkshopOk 0 1) [v28, v29, v30, v31, v32, v33, v34, v35, v36, v37] fun v38 =>
          Q .ret [v38]) (
          Q .ret [.bool false])) (
        Q .ret [.bool false])) (
      Q .ret [.bool false]))) := by kernel_rfl
def laws_FnScenarios_S : Sig := ⟨[.val false [.sl [.sc]]], [(false, [.sc])], F_FnScenarios⟩
def laws_FnScenarios_hs : List NF := []

end
end Go.Mw

/- The law on scenarios. -/
namespace Go.Mw
theorem runW_ok {x : Shop} {l : List T3} (h : shopOk x = true) : shopOk (runW x l) = true := by
  unfold runW
  split
  · exact run_ok h _
  · exact h
theorem laws_FnScenarios_ok : ∀ ds outs, F_FnScenarios ds = some outs → shL laws_FnScenarios_L (qRet outs) ds := F_FnScenarios_elim fun l hp => by
  rw [laws_FnScenarios_L_sh, p_big hp]
  simp only [ifB_bool, decide_eq_true_eq, decide_eq_false_iff_not]
  refine ⟨fun _ => by simp, fun hb => ?_⟩
  have hl : l.length ≤ 1048576 := by omega
  have hW := (drawW_small l).1
  have hok := drawW_ok l
  have hA := drawA_len l
  have hN := runN_drawn l
  rw [p_DrawActs hl]
  have hr : (drawW l).p.length ≤ 1048576 ∧ fitLL (drawW l).o ∧ (drawW l).c.length ≤ 1048576 ∧ (drawA l).length ≤ 1048576 := ⟨hW.1, hW.2.1, hW.2.2, by omega⟩
  generalize hx : drawW l = x at *
  generalize hy : drawA l = y at *
  rw [p_RunActs (x_p := x.p) (x_o := x.o) (x_c := x.c) hr, p_WorkshopOk (x_p := x.p) (x_o := x.o) (x_c := x.c) hW]
  simp only [Shop.eta, hok]
  have hok2 := runW_ok (l := y) hok
  have hs2 := (sSmall_of_ok hok2).1
  generalize runW x y = W at *
  have q := fun (nr_ : Nat) kk_ => p_WorkshopOk (x_s := W.s) (x_t := W.t) (x_p := W.p) (x_o := W.o) (x_c := W.c) (x_u := W.u) (x_m := W.m) (x_f := W.f) (x_y := W.y) (x_d := W.d) (nr_ := nr_) (kk_ := kk_) hs2
  have hs3 := (sSmall_of_ok sample_ok).1
  have e : openShop 16 [12, 12, 16, 19] 40 = sample := rfl
  have hok3 := sample_ok
  simp only [q, Shop.eta, hok2, ifB_bool, Bool.true_eq_false, false_implies, and_true, true_implies, P1_len, hN, P1_eql, beq_self_eq_true, p_SampleWorkshop, e]
  generalize sample = S at *
  rw [p_WorkshopOk (x_p := S.p) (x_o := S.o) (x_c := S.c) hs3]
  simp [Shop.eta, hok3]
end Go.Mw

