/- What functions of the program compute, as small pure programs, shown against plain Lean functions: no condition. -/
import Derived.KernelRfl
import Derived.Test.YtgnfdkcaaloijaaFwG
/- What the functions of the first rows compute, in plain terms. -/
namespace Go.Mw
def within (n low high : Int) : Bool := decide (low ≤ n) && decide (n ≤ high)
def E_within : Int × Int × Int → List V := fun (a, b, c) => [.int .i64 a, .int .i64 b, .int .i64 c]
noncomputable def F_within : List V → Option (List V) := mkF E_within (fun (_, _, _) => True) (fun (a, b, c) => [.bool (within a b c)])
theorem F_within_inj : ∀ x y, E_within x = E_within y → x = y := by
  rintro ⟨a, b, c⟩ ⟨a', b', c'⟩ h
  simpa [E_within] using h
theorem F_within_elim {P : List V → List V → Prop} (h : ∀ (a : Int) (b : Int) (c : Int), P [.int .i64 a, .int .i64 b, .int .i64 c] [.bool (within a b c)]) : ∀ ds outs, F_within ds = some outs → P ds outs := by
  intro ds outs hh
  obtain ⟨⟨a, b, c⟩, rfl, -, rfl⟩ := mkF_inv hh
  exact h a b c
@[simp] theorem p_within {a : Int} {b : Int} {c : Int} {nr_ : Nat} {kk_ : V → Prop} : P1 (.call F_within 0 nr_) [.int .i64 a, .int .i64 b, .int .i64 c] kk_ ↔ kk_ (.bool (within a b c)) :=
  P1_callF (by unfold F_within; exact mkF_eq F_within_inj (a, b, c) trivial)

noncomputable abbrev F_l01In := F_within

def boxOk (x : T3) : Bool := within x.a 1 500 && within x.b 1 500 && within x.c 1 500
def E_BoxOk (x : T3) : List V := [.int .i64 x.a, .int .i64 x.b, .int .i64 x.c]
noncomputable def F_BoxOk : List V → Option (List V) := mkF E_BoxOk (fun _ => True) (fun x => [.bool (boxOk x)])
theorem F_BoxOk_inj : ∀ x y, E_BoxOk x = E_BoxOk y → x = y := by
  rintro ⟨xa, xb, xc⟩ ⟨xa', xb', xc'⟩ h
  simpa [E_BoxOk] using h
theorem F_BoxOk_elim {P : List V → List V → Prop} (h : ∀ (x : T3), P [.int .i64 x.a, .int .i64 x.b, .int .i64 x.c] [.bool (boxOk x)]) : ∀ ds outs, F_BoxOk ds = some outs → P ds outs := by
  intro ds outs hh
  obtain ⟨x, rfl, -, rfl⟩ := mkF_inv hh
  exact h x
@[simp] theorem p_BoxOk {x_a : Int} {x_b : Int} {x_c : Int} {nr_ : Nat} {kk_ : V → Prop} : P1 (.call F_BoxOk 0 nr_) [.int .i64 x_a, .int .i64 x_b, .int .i64 x_c] kk_ ↔ kk_ (.bool (boxOk (⟨x_a, x_b, x_c⟩ : T3))) :=
  P1_callF (by unfold F_BoxOk; exact mkF_eq F_BoxOk_inj ((⟨x_a, x_b, x_c⟩ : T3)) trivial)

def E_toBox (x : T3) : List V := [.int .i64 x.a, .int .i64 x.b, .int .i64 x.c]
noncomputable def F_toBox : List V → Option (List V) := mkF E_toBox (fun _ => True) (fun x => [.int .i64 x.a, .int .i64 x.b, .int .i64 x.c])
theorem F_toBox_inj : ∀ x y, E_toBox x = E_toBox y → x = y := by
  rintro ⟨xa, xb, xc⟩ ⟨xa', xb', xc'⟩ h
  simpa [E_toBox] using h
theorem F_toBox_elim {P : List V → List V → Prop} (h : ∀ (x : T3), P [.int .i64 x.a, .int .i64 x.b, .int .i64 x.c] [.int .i64 x.a, .int .i64 x.b, .int .i64 x.c]) : ∀ ds outs, F_toBox ds = some outs → P ds outs := by
  intro ds outs hh
  obtain ⟨x, rfl, -, rfl⟩ := mkF_inv hh
  exact h x
@[simp] theorem p_toBox {x_a : Int} {x_b : Int} {x_c : Int} {nr_ : Nat} {kk_ : V → V → V → Prop} : P3 (.call F_toBox 0 nr_) [.int .i64 x_a, .int .i64 x_b, .int .i64 x_c] kk_ ↔ kk_ (.int .i64 ((⟨x_a, x_b, x_c⟩ : T3)).a) (.int .i64 ((⟨x_a, x_b, x_c⟩ : T3)).b) (.int .i64 ((⟨x_a, x_b, x_c⟩ : T3)).c) :=
  P3_callF (by unfold F_toBox; exact mkF_eq F_toBox_inj ((⟨x_a, x_b, x_c⟩ : T3)) trivial)

def sortedBox (x : T3) : T3 :=
  if boxOk x then ⟨max (max x.a x.b) x.c, x.a + x.b + x.c - max (max x.a x.b) x.c - min (min x.a x.b) x.c, min (min x.a x.b) x.c⟩ else ⟨0, 0, 0⟩
def E_SortedBox (x : T3) : List V := [.int .i64 x.a, .int .i64 x.b, .int .i64 x.c]
noncomputable def F_SortedBox : List V → Option (List V) := mkF E_SortedBox (fun _ => True) (fun x => [.int .i64 (sortedBox x).a, .int .i64 (sortedBox x).b, .int .i64 (sortedBox x).c])
theorem F_SortedBox_inj : ∀ x y, E_SortedBox x = E_SortedBox y → x = y := by
  rintro ⟨xa, xb, xc⟩ ⟨xa', xb', xc'⟩ h
  simpa [E_SortedBox] using h
theorem F_SortedBox_elim {P : List V → List V → Prop} (h : ∀ (x : T3), P [.int .i64 x.a, .int .i64 x.b, .int .i64 x.c] [.int .i64 (sortedBox x).a, .int .i64 (sortedBox x).b, .int .i64 (sortedBox x).c]) : ∀ ds outs, F_SortedBox ds = some outs → P ds outs := by
  intro ds outs hh
  obtain ⟨x, rfl, -, rfl⟩ := mkF_inv hh
  exact h x
@[simp] theorem p_SortedBox {x_a : Int} {x_b : Int} {x_c : Int} {nr_ : Nat} {kk_ : V → V → V → Prop} : P3 (.call F_SortedBox 0 nr_) [.int .i64 x_a, .int .i64 x_b, .int .i64 x_c] kk_ ↔ kk_ (.int .i64 (sortedBox (⟨x_a, x_b, x_c⟩ : T3)).a) (.int .i64 (sortedBox (⟨x_a, x_b, x_c⟩ : T3)).b) (.int .i64 (sortedBox (⟨x_a, x_b, x_c⟩ : T3)).c) :=
  P3_callF (by unfold F_SortedBox; exact mkF_eq F_SortedBox_inj ((⟨x_a, x_b, x_c⟩ : T3)) trivial)

def E_eqBox : T3 × T3 → List V := fun (x, y) => [.int .i64 x.a, .int .i64 x.b, .int .i64 x.c, .int .i64 y.a, .int .i64 y.b, .int .i64 y.c]
noncomputable def F_eqBox : List V → Option (List V) := mkF E_eqBox (fun (_, _) => True) (fun (x, y) => [.bool (decide (x = y))])
theorem F_eqBox_inj : ∀ x y, E_eqBox x = E_eqBox y → x = y := by
  rintro ⟨⟨xa, xb, xc⟩, ⟨ya, yb, yc⟩⟩ ⟨⟨xa', xb', xc'⟩, ⟨ya', yb', yc'⟩⟩ h
  simpa [E_eqBox, and_assoc] using h
theorem F_eqBox_elim {P : List V → List V → Prop} (h : ∀ (x : T3) (y : T3), P [.int .i64 x.a, .int .i64 x.b, .int .i64 x.c, .int .i64 y.a, .int .i64 y.b, .int .i64 y.c] [.bool (decide (x = y))]) : ∀ ds outs, F_eqBox ds = some outs → P ds outs := by
  intro ds outs hh
  obtain ⟨⟨x, y⟩, rfl, -, rfl⟩ := mkF_inv hh
  exact h x y
@[simp] theorem p_eqBox {x_a : Int} {x_b : Int} {x_c : Int} {y_a : Int} {y_b : Int} {y_c : Int} {nr_ : Nat} {kk_ : V → Prop} : P1 (.call F_eqBox 0 nr_) [.int .i64 x_a, .int .i64 x_b, .int .i64 x_c, .int .i64 y_a, .int .i64 y_b, .int .i64 y_c] kk_ ↔ kk_ (.bool (decide ((⟨x_a, x_b, x_c⟩ : T3) = (⟨y_a, y_b, y_c⟩ : T3)))) :=
  P1_callF (by unfold F_eqBox; exact mkF_eq F_eqBox_inj ((⟨x_a, x_b, x_c⟩ : T3), (⟨y_a, y_b, y_c⟩ : T3)) trivial)


/-! lists of pairs -/
end Go.Mw

/- Functions of the program, as small pure programs (printed by a program of ours). -/
namespace Go.Mw
noncomputable section
def laws_toBox_L : L := .seq (.rg []) (.seq (.rg []) (.seq (.rg []) (.seq (.rg []) (.seq (.rg []) (.seq (.rg []) (.ret [.v 0, .v 1, .v 2]))))))
theorem laws_toBox_L_sh (Q : QT) (x0 x1 x2 : V) : shL laws_toBox_L Q [x0, x1, x2] = (
  Q .ret [x0, x1, x2]) := by kernel_rfl
def laws_toBox_S : Sig := ⟨[.val true [.sc, .sc, .sc]], [(true, [.sc, .sc, .sc])], F_toBox⟩
def laws_toBox_hs : List NF := []

def spec_l01In_L : L := .seq (.rg []) (.seq (.rg [⟨[], .bin .geq, [.v 0, .v 1], 1⟩, ⟨[(.v 3, true)], .bin .leq, [.v 0, .v 2], 1⟩, ⟨[], .pick, [.v 3, .v 4, .k (.bool false)], 1⟩]) (.ret [.v 5]))
theorem spec_l01In_L_sh (Q : QT) (x0 x1 x2 : V) : shL spec_l01In_L Q [x0, x1, x2] = (
  P1 (.bin .geq) [x0, x1] fun v0 =>
  ifB v0 (
    P1 (.bin .leq) [x0, x2] fun v1 =>
    Q .ret [v1]) (
    Q .ret [.bool false])) := by kernel_rfl
def spec_l01In_S : Sig := ⟨[.val false [.sc], .val false [.sc], .val false [.sc]], [(false, [.sc])], F_l01In⟩
def spec_l01In_hs : List NF := []

def spec_BoxOk_L : L := .seq (.rg []) (.seq (.rg [⟨[], .call F_l01In 0 1, [.v 0, .k (.int .i64 1), .k (.int .i64 500)], 1⟩, ⟨[(.v 3, true)], .call F_l01In 0 1, [.v 1, .k (.int .i64 1), .k (.int .i64 500)], 1⟩, ⟨[], .pick, [.v 3, .v 4, .k (.bool false)], 1⟩, ⟨[(.v 5, true)], .call F_l01In 0 1, [.v 2, .k (.int .i64 1), .k (.int .i64 500)], 1⟩, ⟨[], .pick, [.v 5, .v 6, .k (.bool false)], 1⟩]) (.ret [.v 7]))
theorem spec_BoxOk_L_sh (Q : QT) (x0 x1 x2 : V) : shL spec_BoxOk_L Q [x0, x1, x2] = (
  P1 (.call F_l01In 0 1) [x0, .int .i64 1, .int .i64 500] fun v0 =>
  ifB v0 (
    P1 (.call F_l01In 0 1) [x1, .int .i64 1, .int .i64 500] fun v1 =>
    ifB v1 (
      P1 (.call F_l01In 0 1) [x2, .int .i64 1, .int .i64 500] fun v2 =>
      Q .ret [v2]) (
      Q .ret [.bool false])) (
    Q .ret [.bool false])) := by kernel_rfl
def spec_BoxOk_S : Sig := ⟨[.val true [.sc, .sc, .sc]], [(false, [.sc])], F_BoxOk⟩
def spec_BoxOk_hs : List NF := []

def impl_within_L : L := .seq (.rg []) (.seq (.rg [⟨[], .bin .geq, [.v 0, .v 1], 1⟩, ⟨[(.v 3, true)], .bin .leq, [.v 0, .v 2], 1⟩, ⟨[], .pick, [.v 3, .v 4, .k (.bool false)], 1⟩]) (.ret [.v 5]))
theorem impl_within_L_sh (Q : QT) (x0 x1 x2 : V) : shL impl_within_L Q [x0, x1, x2] = (
  P1 (.bin .geq) [x0, x1] fun v0 =>
  ifB v0 (
    P1 (.bin .leq) [x0, x2] fun v1 =>
    Q .ret [v1]) (
    Q .ret [.bool false])) := by kernel_rfl
def impl_within_S : Sig := ⟨[.val false [.sc], .val false [.sc], .val false [.sc]], [(false, [.sc])], F_within⟩
def impl_within_hs : List NF := []

def impl_BoxOk_L : L := .seq (.rg []) (.seq (.rg [⟨[], .call F_within 0 1, [.v 0, .k (.int .i64 1), .k (.int .i64 500)], 1⟩, ⟨[(.v 3, true)], .call F_within 0 1, [.v 1, .k (.int .i64 1), .k (.int .i64 500)], 1⟩, ⟨[], .pick, [.v 3, .v 4, .k (.bool false)], 1⟩, ⟨[(.v 5, true)], .call F_within 0 1, [.v 2, .k (.int .i64 1), .k (.int .i64 500)], 1⟩, ⟨[], .pick, [.v 5, .v 6, .k (.bool false)], 1⟩]) (.ret [.v 7]))
theorem impl_BoxOk_L_sh (Q : QT) (x0 x1 x2 : V) : shL impl_BoxOk_L Q [x0, x1, x2] = (
  P1 (.call F_within 0 1) [x0, .int .i64 1, .int .i64 500] fun v0 =>
  ifB v0 (
    P1 (.call F_within 0 1) [x1, .int .i64 1, .int .i64 500] fun v1 =>
    ifB v1 (
      P1 (.call F_within 0 1) [x2, .int .i64 1, .int .i64 500] fun v2 =>
      Q .ret [v2]) (
      Q .ret [.bool false])) (
    Q .ret [.bool false])) := by kernel_rfl
def impl_BoxOk_S : Sig := ⟨[.val true [.sc, .sc, .sc]], [(false, [.sc])], F_BoxOk⟩
def impl_BoxOk_hs : List NF := []

def spec_SortedBox_L : L := .seq (.rg []) (.seq (.seq (.rg [⟨[], .call F_BoxOk 0 1, [.v 0, .v 1, .v 2], 1⟩, ⟨[], .un .not, [.v 3], 1⟩]) (.ite (.v 4) (.seq (.rg []) (.ret [.k (.int .i64 0), .k (.int .i64 0), .k (.int .i64 0)])) (.skip))) (.seq (.rg [⟨[], .mx, [.v 1, .v 2], 1⟩, ⟨[], .mx, [.v 0, .v 5], 1⟩]) (.seq (.rg [⟨[], .mn, [.v 1, .v 2], 1⟩, ⟨[], .mn, [.v 0, .v 7], 1⟩]) (.seq (.rg [⟨[], .bin .add, [.v 0, .v 1], 1⟩, ⟨[], .bin .add, [.v 9, .v 2], 1⟩, ⟨[], .bin .sub, [.v 10, .v 6], 1⟩, ⟨[], .bin .sub, [.v 11, .v 8], 1⟩]) (.ret [.v 6, .v 12, .v 8])))))
theorem spec_SortedBox_L_sh (Q : QT) (x0 x1 x2 : V) : shL spec_SortedBox_L Q [x0, x1, x2] = (
  P1 (.call F_BoxOk 0 1) [x0, x1, x2] fun v0 =>
  P1 (.un .not) [v0] fun v1 =>
  ifB v1 (
    Q .ret [.int .i64 0, .int .i64 0, .int .i64 0]) (
    P1 (.mx) [x1, x2] fun v2 =>
    P1 (.mx) [x0, v2] fun v3 =>
    P1 (.mn) [x1, x2] fun v4 =>
    P1 (.mn) [x0, v4] fun v5 =>
    P1 (.bin .add) [x0, x1] fun v6 =>
    P1 (.bin .add) [v6, x2] fun v7 =>
    P1 (.bin .sub) [v7, v3] fun v8 =>
    P1 (.bin .sub) [v8, v5] fun v9 =>
    Q .ret [v3, v9, v5])) := by kernel_rfl
def spec_SortedBox_S : Sig := ⟨[.val true [.sc, .sc, .sc]], [(true, [.sc, .sc, .sc])], F_SortedBox⟩
def spec_SortedBox_hs : List NF := []

def impl_SortedBox_L : L := .seq (.rg []) (.seq (.seq (.rg [⟨[], .call F_BoxOk 0 1, [.v 0, .v 1, .v 2], 1⟩, ⟨[], .un .not, [.v 3], 1⟩]) (.ite (.v 4) (.seq (.rg []) (.ret [.k (.int .i64 0), .k (.int .i64 0), .k (.int .i64 0)])) (.skip))) (.seq (.rg [⟨[], .mx, [.v 0, .v 1, .v 2], 1⟩]) (.seq (.rg [⟨[], .mn, [.v 0, .v 1, .v 2], 1⟩]) (.seq (.rg [⟨[], .bin .add, [.v 0, .v 1], 1⟩, ⟨[], .bin .add, [.v 7, .v 2], 1⟩, ⟨[], .bin .sub, [.v 8, .v 5], 1⟩, ⟨[], .bin .sub, [.v 9, .v 6], 1⟩]) (.ret [.v 5, .v 10, .v 6])))))
theorem impl_SortedBox_L_sh (Q : QT) (x0 x1 x2 : V) : shL impl_SortedBox_L Q [x0, x1, x2] = (
  P1 (.call F_BoxOk 0 1) [x0, x1, x2] fun v0 =>
  P1 (.un .not) [v0] fun v1 =>
  ifB v1 (
    Q .ret [.int .i64 0, .int .i64 0, .int .i64 0]) (
    P1 (.mx) [x0, x1, x2] fun v2 =>
    P1 (.mn) [x0, x1, x2] fun v3 =>
    P1 (.bin .add) [x0, x1] fun v4 =>
    P1 (.bin .add) [v4, x2] fun v5 =>
    P1 (.bin .sub) [v5, v2] fun v6 =>
    P1 (.bin .sub) [v6, v3] fun v7 =>
    Q .ret [v2, v7, v3])) := by kernel_rfl
def impl_SortedBox_S : Sig := ⟨[.val true [.sc, .sc, .sc]], [(true, [.sc, .sc, .sc])], F_SortedBox⟩
def impl_SortedBox_hs : List NF := []

def laws_eqBox_L : L := .seq (.rg []) (.seq (.seq (.rg [⟨[], .bin .neq, [.v 0, .v 3], 1⟩]) (.ite (.v 6) (.seq (.rg []) (.ret [.k (.bool false)])) (.skip))) (.seq (.seq (.rg [⟨[], .bin .neq, [.v 1, .v 4], 1⟩]) (.ite (.v 7) (.seq (.rg []) (.ret [.k (.bool false)])) (.skip))) (.seq (.seq (.rg [⟨[], .bin .neq, [.v 2, .v 5], 1⟩]) (.ite (.v 8) (.seq (.rg []) (.ret [.k (.bool false)])) (.skip))) (.seq (.rg []) (.ret [.k (.bool true)])))))
theorem laws_eqBox_L_sh (Q : QT) (x0 x1 x2 x3 x4 x5 : V) : shL laws_eqBox_L Q [x0, x1, x2, x3, x4, x5] = (
  P1 (.bin .neq) [x0, x3] fun v0 =>
  ifB v0 (
    Q .ret [.bool false]) (
    P1 (.bin .neq) [x1, x4] fun v1 =>
    ifB v1 (
      Q .ret [.bool false]) (
      P1 (.bin .neq) [x2, x5] fun v2 =>
      ifB v2 (
        Q .ret [.bool false]) (
        Q .ret [.bool true])))) := by kernel_rfl
def laws_eqBox_S : Sig := ⟨[.val true [.sc, .sc, .sc], .val true [.sc, .sc, .sc]], [(false, [.sc])], F_eqBox⟩
def laws_eqBox_hs : List NF := []

end
end Go.Mw

/- The functions of the first rows compute what was said. -/
namespace Go.Mw
theorem laws_toBox_ok : ∀ ds outs, F_toBox ds = some outs → shL laws_toBox_L (qRet outs) ds := F_toBox_elim fun x => by
  rw [laws_toBox_L_sh]; simp
theorem spec_l01In_ok : ∀ ds outs, F_l01In ds = some outs → shL spec_l01In_L (qRet outs) ds := F_within_elim fun a b c => by
  rw [spec_l01In_L_sh]; simp [within]; grind
theorem impl_within_ok : ∀ ds outs, F_within ds = some outs → shL impl_within_L (qRet outs) ds := F_within_elim fun a b c => by
  rw [impl_within_L_sh]; simp [within]; grind
theorem impl_BoxOk_ok : ∀ ds outs, F_BoxOk ds = some outs → shL impl_BoxOk_L (qRet outs) ds := F_BoxOk_elim fun x => by
  rw [impl_BoxOk_L_sh]; simp +contextual [boxOk]
theorem spec_BoxOk_ok : ∀ ds outs, F_BoxOk ds = some outs → shL spec_BoxOk_L (qRet outs) ds := F_BoxOk_elim fun x => by
  rw [spec_BoxOk_L_sh]; simp +contextual [boxOk]
theorem boxOk_iff (x : T3) : boxOk x = true ↔ (1 ≤ x.a ∧ x.a ≤ 500) ∧ (1 ≤ x.b ∧ x.b ≤ 500) ∧ (1 ≤ x.c ∧ x.c ≤ 500) := by
  simp [boxOk, within, and_assoc]

theorem impl_SortedBox_ok : ∀ ds outs, F_SortedBox ds = some outs → shL impl_SortedBox_L (qRet outs) ds := F_SortedBox_elim fun x => by
  rw [impl_SortedBox_L_sh]
  cases h : boxOk x with
  | false => simp [h, sortedBox]
  | true =>
    have hb := (boxOk_iff x).1 h
    simp (disch := omega) [h, sortedBox, wrap_id]
theorem spec_SortedBox_ok : ∀ ds outs, F_SortedBox ds = some outs → shL spec_SortedBox_L (qRet outs) ds := F_SortedBox_elim fun x => by
  rw [spec_SortedBox_L_sh]
  cases h : boxOk x with
  | false => simp [h, sortedBox]
  | true =>
    have hb := (boxOk_iff x).1 h
    simp (disch := omega) [h, sortedBox, wrap_id]
theorem laws_eqBox_ok : ∀ ds outs, F_eqBox ds = some outs → shL laws_eqBox_L (qRet outs) ds := F_eqBox_elim fun x y => by
  rw [laws_eqBox_L_sh]
  cases x; cases y
  simp
  grind
end Go.Mw

/- The structs of the program, flat. -/
namespace Go.Mw
/-- A cylinder: steps, tracks, pins (track, angle). -/
structure Cyl where
  s : Int
  t : Int
  p : List T2
/-- A state: angle, on, played. -/
structure Stt where
  a : Int
  n : Bool
  p : Int
  deriving DecidableEq
/-- A bench: its cylinder, and the former pins. -/
structure Bench where
  s : Int
  t : Int
  p : List T2
  o : List (List T2)
/-- A workshop: its bench; comb; spring (turns, most, force); money; played. -/
structure Shop where
  s : Int
  t : Int
  p : List T2
  o : List (List T2)
  c : List Int
  u : Int
  m : Int
  f : Int
  y : Int
  d : Int
  deriving DecidableEq
@[simp] theorem Cyl.eta (x : Cyl) : Cyl.mk x.s x.t x.p = x := rfl
@[simp] theorem Stt.eta (x : Stt) : Stt.mk x.a x.n x.p = x := rfl
@[simp] theorem P1_eqa22 {a b c d : Int} {k : V → Prop} : P1 (.eqa false [.i, .i]) [.int .i64 a, .int .i64 b, .int .i64 c, .int .i64 d] k ↔ k (.bool (decide (a = c ∧ b = d))) := P1_of (by simp only [Prim.run, eqVs, eqV1, List.length_cons, List.length_nil, List.take, List.drop, if_true]; cases h1 : a == c <;> cases h2 : b == d <;> simp_all) k
@[simp] theorem P1_nea22 {a b c d : Int} {k : V → Prop} : P1 (.eqa true [.i, .i]) [.int .i64 a, .int .i64 b, .int .i64 c, .int .i64 d] k ↔ k (.bool (!decide (a = c ∧ b = d))) := P1_of (by simp only [Prim.run, eqVs, eqV1, List.length_cons, List.length_nil, List.take, List.drop, if_true]; cases h1 : a == c <;> cases h2 : b == d <;> simp_all) k
@[simp] theorem P1_eqaX {a c e g : Int} {b f : Bool} {k : V → Prop} : P1 (.eqa false [.i, .b, .i]) [.int .i64 a, .bool b, .int .i64 c, .int .i64 e, .bool f, .int .i64 g] k ↔ k (.bool (decide (a = e ∧ b = f ∧ c = g))) := P1_of (by simp only [Prim.run, eqVs, eqV1, List.length_cons, List.length_nil, List.take, List.drop, if_true]; cases h1 : a == e <;> cases h2 : b == f <;> cases h3 : c == g <;> simp_all) k
theorem P1_lsub2 {α : Type} {ks : List AK} {f : α → V} {l : List α} {κ κ' : IntKind} {i j : Int} {k : V → Prop} : P1 (.lsub ks) [vL ks f l, .int κ i, .int κ' j] k ↔ (0 ≤ i ∧ i ≤ j ∧ j ≤ l.length) ∧ k (vL ks f ((l.take j.toNat).drop i.toNat)) :=
  P1_opt (by simp only [Prim.run, vL, AK.eqs_refl, if_true, subB, List.length_map]; split <;> simp_all [List.map_drop, List.map_take]) k
theorem P1_lsub1 {α : Type} {ks : List AK} {f : α → V} {l : List α} {κ : IntKind} {i : Int} {k : V → Prop} : P1 (.lsub ks) [vL ks f l, .int κ i] k ↔ (0 ≤ i ∧ i ≤ l.length) ∧ k (vL ks f (l.drop i.toNat)) :=
  P1_opt (by simp only [Prim.run, vL, AK.eqs_refl, if_true, subB, List.length_map]; split <;> simp_all [List.map_drop, List.take_of_length_le]) k
@[simp] theorem P1_lsubI_2 {l : List Int} {κ κ' : IntKind} {i j : Int} {k : V → Prop} : P1 (.lsub [.sc]) [vL I1 v1 l, .int κ i, .int κ' j] k ↔ (0 ≤ i ∧ i ≤ j ∧ j ≤ l.length) ∧ k (vL I1 v1 ((l.take j.toNat).drop i.toNat)) := P1_lsub2
@[simp] theorem P1_lsubI_1 {l : List Int} {κ : IntKind} {i : Int} {k : V → Prop} : P1 (.lsub [.sc]) [vL I1 v1 l, .int κ i] k ↔ (0 ≤ i ∧ i ≤ l.length) ∧ k (vL I1 v1 (l.drop i.toNat)) := P1_lsub1
@[simp] theorem P1_appI_ {l m : List Int} {b : Nat} {k : V → Prop} : P1 (.app [.sc] b) [vL I1 v1 l, vL I1 v1 m] k ↔ ((l.length + m.length) * b ≤ 140737488355328 ∧ l.length + m.length ≤ 140737488355328) ∧ k (vL I1 v1 (l ++ m)) := P1_app
@[simp] theorem P1_appI_0 {m : List Int} {b : Nat} {k : V → Prop} : P1 (.app [.sc] b) [.list [.sc] [], vL I1 v1 m] k ↔ (m.length * b ≤ 140737488355328 ∧ m.length ≤ 140737488355328) ∧ k (vL I1 v1 m) := P1_app0
@[simp] theorem P1_appI_1 {l : List Int} {b : Nat} {k : V → Prop} : P1 (.app [.sc] b) [vL I1 v1 l, .list [.sc] []] k ↔ (l.length * b ≤ 140737488355328 ∧ l.length ≤ 140737488355328) ∧ k (vL I1 v1 l) := P1_app1
@[simp] theorem P1_lsubY_2 {l : List UInt8} {κ κ' : IntKind} {i j : Int} {k : V → Prop} : P1 (.lsub [.sc]) [vL I1 vY l, .int κ i, .int κ' j] k ↔ (0 ≤ i ∧ i ≤ j ∧ j ≤ l.length) ∧ k (vL I1 vY ((l.take j.toNat).drop i.toNat)) := P1_lsub2
@[simp] theorem P1_lsubY_1 {l : List UInt8} {κ : IntKind} {i : Int} {k : V → Prop} : P1 (.lsub [.sc]) [vL I1 vY l, .int κ i] k ↔ (0 ≤ i ∧ i ≤ l.length) ∧ k (vL I1 vY (l.drop i.toNat)) := P1_lsub1
@[simp] theorem P1_appY_ {l m : List UInt8} {b : Nat} {k : V → Prop} : P1 (.app [.sc] b) [vL I1 vY l, vL I1 vY m] k ↔ ((l.length + m.length) * b ≤ 140737488355328 ∧ l.length + m.length ≤ 140737488355328) ∧ k (vL I1 vY (l ++ m)) := P1_app
@[simp] theorem P1_appY_0 {m : List UInt8} {b : Nat} {k : V → Prop} : P1 (.app [.sc] b) [.list [.sc] [], vL I1 vY m] k ↔ (m.length * b ≤ 140737488355328 ∧ m.length ≤ 140737488355328) ∧ k (vL I1 vY m) := P1_app0
@[simp] theorem P1_appY_1 {l : List UInt8} {b : Nat} {k : V → Prop} : P1 (.app [.sc] b) [vL I1 vY l, .list [.sc] []] k ↔ (l.length * b ≤ 140737488355328 ∧ l.length ≤ 140737488355328) ∧ k (vL I1 vY l) := P1_app1
@[simp] theorem P1_lsubS_2 {l : List (List UInt8)} {κ κ' : IntKind} {i j : Int} {k : V → Prop} : P1 (.lsub [.sc]) [vL I1 vS l, .int κ i, .int κ' j] k ↔ (0 ≤ i ∧ i ≤ j ∧ j ≤ l.length) ∧ k (vL I1 vS ((l.take j.toNat).drop i.toNat)) := P1_lsub2
@[simp] theorem P1_lsubS_1 {l : List (List UInt8)} {κ : IntKind} {i : Int} {k : V → Prop} : P1 (.lsub [.sc]) [vL I1 vS l, .int κ i] k ↔ (0 ≤ i ∧ i ≤ l.length) ∧ k (vL I1 vS (l.drop i.toNat)) := P1_lsub1
@[simp] theorem P1_appS_ {l m : List (List UInt8)} {b : Nat} {k : V → Prop} : P1 (.app [.sc] b) [vL I1 vS l, vL I1 vS m] k ↔ ((l.length + m.length) * b ≤ 140737488355328 ∧ l.length + m.length ≤ 140737488355328) ∧ k (vL I1 vS (l ++ m)) := P1_app
@[simp] theorem P1_appS_0 {m : List (List UInt8)} {b : Nat} {k : V → Prop} : P1 (.app [.sc] b) [.list [.sc] [], vL I1 vS m] k ↔ (m.length * b ≤ 140737488355328 ∧ m.length ≤ 140737488355328) ∧ k (vL I1 vS m) := P1_app0
@[simp] theorem P1_appS_1 {l : List (List UInt8)} {b : Nat} {k : V → Prop} : P1 (.app [.sc] b) [vL I1 vS l, .list [.sc] []] k ↔ (l.length * b ≤ 140737488355328 ∧ l.length ≤ 140737488355328) ∧ k (vL I1 vS l) := P1_app1
@[simp] theorem P1_lsub2_2 {l : List T2} {κ κ' : IntKind} {i j : Int} {k : V → Prop} : P1 (.lsub [.sc, .sc]) [vL I2 v2 l, .int κ i, .int κ' j] k ↔ (0 ≤ i ∧ i ≤ j ∧ j ≤ l.length) ∧ k (vL I2 v2 ((l.take j.toNat).drop i.toNat)) := P1_lsub2
@[simp] theorem P1_lsub2_1 {l : List T2} {κ : IntKind} {i : Int} {k : V → Prop} : P1 (.lsub [.sc, .sc]) [vL I2 v2 l, .int κ i] k ↔ (0 ≤ i ∧ i ≤ l.length) ∧ k (vL I2 v2 (l.drop i.toNat)) := P1_lsub1
@[simp] theorem P1_app2_ {l m : List T2} {b : Nat} {k : V → Prop} : P1 (.app [.sc, .sc] b) [vL I2 v2 l, vL I2 v2 m] k ↔ ((l.length + m.length) * b ≤ 140737488355328 ∧ l.length + m.length ≤ 140737488355328) ∧ k (vL I2 v2 (l ++ m)) := P1_app
@[simp] theorem P1_app2_0 {m : List T2} {b : Nat} {k : V → Prop} : P1 (.app [.sc, .sc] b) [.list [.sc, .sc] [], vL I2 v2 m] k ↔ (m.length * b ≤ 140737488355328 ∧ m.length ≤ 140737488355328) ∧ k (vL I2 v2 m) := P1_app0
@[simp] theorem P1_app2_1 {l : List T2} {b : Nat} {k : V → Prop} : P1 (.app [.sc, .sc] b) [vL I2 v2 l, .list [.sc, .sc] []] k ↔ (l.length * b ≤ 140737488355328 ∧ l.length ≤ 140737488355328) ∧ k (vL I2 v2 l) := P1_app1
@[simp] theorem P1_lsub3_2 {l : List T3} {κ κ' : IntKind} {i j : Int} {k : V → Prop} : P1 (.lsub [.sc, .sc, .sc]) [vL I3 v3 l, .int κ i, .int κ' j] k ↔ (0 ≤ i ∧ i ≤ j ∧ j ≤ l.length) ∧ k (vL I3 v3 ((l.take j.toNat).drop i.toNat)) := P1_lsub2
@[simp] theorem P1_lsub3_1 {l : List T3} {κ : IntKind} {i : Int} {k : V → Prop} : P1 (.lsub [.sc, .sc, .sc]) [vL I3 v3 l, .int κ i] k ↔ (0 ≤ i ∧ i ≤ l.length) ∧ k (vL I3 v3 (l.drop i.toNat)) := P1_lsub1
@[simp] theorem P1_app3_ {l m : List T3} {b : Nat} {k : V → Prop} : P1 (.app [.sc, .sc, .sc] b) [vL I3 v3 l, vL I3 v3 m] k ↔ ((l.length + m.length) * b ≤ 140737488355328 ∧ l.length + m.length ≤ 140737488355328) ∧ k (vL I3 v3 (l ++ m)) := P1_app
@[simp] theorem P1_app3_0 {m : List T3} {b : Nat} {k : V → Prop} : P1 (.app [.sc, .sc, .sc] b) [.list [.sc, .sc, .sc] [], vL I3 v3 m] k ↔ (m.length * b ≤ 140737488355328 ∧ m.length ≤ 140737488355328) ∧ k (vL I3 v3 m) := P1_app0
@[simp] theorem P1_app3_1 {l : List T3} {b : Nat} {k : V → Prop} : P1 (.app [.sc, .sc, .sc] b) [vL I3 v3 l, .list [.sc, .sc, .sc] []] k ↔ (l.length * b ≤ 140737488355328 ∧ l.length ≤ 140737488355328) ∧ k (vL I3 v3 l) := P1_app1
@[simp] theorem P1_lsubL2_2 {l : List (List T2)} {κ κ' : IntKind} {i j : Int} {k : V → Prop} : P1 (.lsub [.sl [.sc, .sc]]) [vL IL2 vLL2 l, .int κ i, .int κ' j] k ↔ (0 ≤ i ∧ i ≤ j ∧ j ≤ l.length) ∧ k (vL IL2 vLL2 ((l.take j.toNat).drop i.toNat)) := P1_lsub2
@[simp] theorem P1_lsubL2_1 {l : List (List T2)} {κ : IntKind} {i : Int} {k : V → Prop} : P1 (.lsub [.sl [.sc, .sc]]) [vL IL2 vLL2 l, .int κ i] k ↔ (0 ≤ i ∧ i ≤ l.length) ∧ k (vL IL2 vLL2 (l.drop i.toNat)) := P1_lsub1
@[simp] theorem P1_appL2_ {l m : List (List T2)} {b : Nat} {k : V → Prop} : P1 (.app [.sl [.sc, .sc]] b) [vL IL2 vLL2 l, vL IL2 vLL2 m] k ↔ ((l.length + m.length) * b ≤ 140737488355328 ∧ l.length + m.length ≤ 140737488355328) ∧ k (vL IL2 vLL2 (l ++ m)) := P1_app
@[simp] theorem P1_appL2_0 {m : List (List T2)} {b : Nat} {k : V → Prop} : P1 (.app [.sl [.sc, .sc]] b) [.list [.sl [.sc, .sc]] [], vL IL2 vLL2 m] k ↔ (m.length * b ≤ 140737488355328 ∧ m.length ≤ 140737488355328) ∧ k (vL IL2 vLL2 m) := P1_app0
@[simp] theorem P1_appL2_1 {l : List (List T2)} {b : Nat} {k : V → Prop} : P1 (.app [.sl [.sc, .sc]] b) [vL IL2 vLL2 l, .list [.sl [.sc, .sc]] []] k ↔ (l.length * b ≤ 140737488355328 ∧ l.length ≤ 140737488355328) ∧ k (vL IL2 vLL2 l) := P1_app1
end Go.Mw

/- What functions compute, in plain terms: pieces, pins, cylinders, states, digits, boxes. -/
namespace Go.Mw
/-! memory -/
def E_szBoxS : List T3 × Int → List V := fun (l, n) => [vL I3 v3 l, .int .i64 n]
noncomputable def F_szBoxS : List V → Option (List V) := mkF E_szBoxS (fun (l, n) => l.length ≤ 9223372036854775807 ∧ 0 ≤ n ∧ n ≤ 1048576) (fun (l, n) => [.int .i64 (if (l.length : Int) ≤ n then n - l.length else -1)])
theorem F_szBoxS_inj : ∀ x y, E_szBoxS x = E_szBoxS y → x = y := by
  rintro ⟨l, n⟩ ⟨l', n'⟩ h
  simpa [E_szBoxS] using h
theorem F_szBoxS_elim {P : List V → List V → Prop} (h : ∀ (l : List T3) (n : Int), (l.length ≤ 9223372036854775807 ∧ 0 ≤ n ∧ n ≤ 1048576) → P [vL I3 v3 l, .int .i64 n] [.int .i64 (if (l.length : Int) ≤ n then n - l.length else -1)]) : ∀ ds outs, F_szBoxS ds = some outs → P ds outs := by
  intro ds outs hh
  obtain ⟨⟨l, n⟩, rfl, hp, rfl⟩ := mkF_inv hh
  exact h l n hp
theorem p_szBoxS {l : List T3} {n : Int} {nr_ : Nat} {kk_ : V → Prop} (hp : l.length ≤ 9223372036854775807 ∧ 0 ≤ n ∧ n ≤ 1048576) : P1 (.call F_szBoxS 0 nr_) [vL I3 v3 l, .int .i64 n] kk_ ↔ kk_ (.int .i64 (if (l.length : Int) ≤ n then n - l.length else -1)) :=
  P1_callF (by unfold F_szBoxS; exact mkF_eq F_szBoxS_inj (l, n) hp)

def E_toBoxS (l : List T3) : List V := [vL I3 v3 l]
noncomputable def F_toBoxS : List V → Option (List V) := mkF E_toBoxS (fun l => l.length ≤ 1048576) (fun l => [vL I3 v3 l])
theorem F_toBoxS_inj : ∀ x y, E_toBoxS x = E_toBoxS y → x = y := by
  rintro l l' h
  simpa [E_toBoxS] using h
theorem F_toBoxS_elim {P : List V → List V → Prop} (h : ∀ (l : List T3), (l.length ≤ 1048576) → P [vL I3 v3 l] [vL I3 v3 l]) : ∀ ds outs, F_toBoxS ds = some outs → P ds outs := by
  intro ds outs hh
  obtain ⟨l, rfl, hp, rfl⟩ := mkF_inv hh
  exact h l hp
theorem p_toBoxS {l : List T3} {nr_ : Nat} {kk_ : V → Prop} (hp : l.length ≤ 1048576) : P1 (.call F_toBoxS 0 nr_) [vL I3 v3 l] kk_ ↔ kk_ (vL I3 v3 l) :=
  P1_callF (by unfold F_toBoxS; exact mkF_eq F_toBoxS_inj (l) hp)

def E_eqBoxS : List T3 × List T3 → List V := fun (l, m) => [vL I3 v3 l, vL I3 v3 m]
noncomputable def F_eqBoxS : List V → Option (List V) := mkF E_eqBoxS (fun (l, m) => l.length ≤ 1048576 ∧ m.length ≤ 1048576) (fun (l, m) => [.bool (decide (l = m))])
theorem F_eqBoxS_inj : ∀ x y, E_eqBoxS x = E_eqBoxS y → x = y := by
  rintro ⟨l, m⟩ ⟨l', m'⟩ h
  simpa [E_eqBoxS] using h
theorem F_eqBoxS_elim {P : List V → List V → Prop} (h : ∀ (l : List T3) (m : List T3), (l.length ≤ 1048576 ∧ m.length ≤ 1048576) → P [vL I3 v3 l, vL I3 v3 m] [.bool (decide (l = m))]) : ∀ ds outs, F_eqBoxS ds = some outs → P ds outs := by
  intro ds outs hh
  obtain ⟨⟨l, m⟩, rfl, hp, rfl⟩ := mkF_inv hh
  exact h l m hp
theorem p_eqBoxS {l : List T3} {m : List T3} {nr_ : Nat} {kk_ : V → Prop} (hp : l.length ≤ 1048576 ∧ m.length ≤ 1048576) : P1 (.call F_eqBoxS 0 nr_) [vL I3 v3 l, vL I3 v3 m] kk_ ↔ kk_ (.bool (decide (l = m))) :=
  P1_callF (by unfold F_eqBoxS; exact mkF_eq F_eqBoxS_inj (l, m) hp)

/-! pieces -/
/-! pins -/
def pinLess (p q : T2) : Bool := decide (p.b < q.b ∨ p.b = q.b ∧ p.a < q.a)
def rising : List T2 → Bool
  | [] => true
  | [_] => true
  | a :: b :: r => pinLess a b && rising (b :: r)
def pinIn (s t : Int) (p : T2) : Bool := within p.a 0 (t - 1) && within p.b 0 (s - 1)
def cylOk (c : Cyl) : Bool := within c.s 4 96 && within c.t 1 100 && decide (c.p.length ≤ 100) && (c.p.all (pinIn c.s c.t) && rising c.p)
def sttOk (c : Cyl) (x : Stt) : Bool := cylOk c && (within x.a 0 (c.s - 1) && within x.p 0 100000)
def pinsAt (c : Cyl) (a : Int) : List Int := if cylOk c && within a (-1000000) 1000000 then (c.p.filter fun p => p.b == a % c.s).map (·.a) else []
/-! states -/
def stepsLeft (c : Cyl) (x : Stt) : Int := if sttOk c x then (if x.n then c.s - x.a else 0) else -1
def nextStt (c : Cyl) (x : Stt) : Stt := ⟨(x.a + 1) % c.s, decide ((x.a + 1) % c.s ≠ 0), x.p + (pinsAt c x.a).length⟩
def canStep (c : Cyl) (x : Stt) : Bool := sttOk c x && x.n && sttOk c (nextStt c x)
/-- The run: so many steps from x. -/
def itS (c : Cyl) (x : Stt) : Nat → Stt
  | 0 => x
  | k + 1 => nextStt c (itS c x k)
def itL (c : Cyl) (x : Stt) : Nat → List Int
  | 0 => []
  | k + 1 => itL c x k ++ pinsAt c (itS c x k).a
def runN (c : Cyl) (x : Stt) : Nat := (c.s - x.a).toNat
def runOk (c : Cyl) (x : Stt) : Bool := sttOk c x && (x.n && (List.range (runN c x)).all fun k => canStep c (itS c x k))
def runBox (c : Cyl) (x : Stt) : Stt × List Int := if runOk c x then (itS c x (runN c x), itL c x (runN c x)) else (x, [])
/-! digits -/
def areDigits (l : List Int) (a b : Int) : Bool := within l.length a b && l.all (within · 0 9)
/-! boxes -/
def areBoxes (l : List T3) (n : Int) : Bool := decide ((l.length : Int) ≤ n) && l.all boxOk
def E_areBoxes : List T3 × Int → List V := fun (l, n) => [vL I3 v3 l, .int .i64 n]
noncomputable def F_areBoxes : List V → Option (List V) := mkF E_areBoxes (fun (l, _) => l.length ≤ 1048576) (fun (l, n) => [.bool (areBoxes l n)])
theorem F_areBoxes_inj : ∀ x y, E_areBoxes x = E_areBoxes y → x = y := by
  rintro ⟨l, n⟩ ⟨l', n'⟩ h
  simpa [E_areBoxes] using h
theorem F_areBoxes_elim {P : List V → List V → Prop} (h : ∀ (l : List T3) (n : Int), (l.length ≤ 1048576) → P [vL I3 v3 l, .int .i64 n] [.bool (areBoxes l n)]) : ∀ ds outs, F_areBoxes ds = some outs → P ds outs := by
  intro ds outs hh
  obtain ⟨⟨l, n⟩, rfl, hp, rfl⟩ := mkF_inv hh
  exact h l n hp
theorem p_areBoxes {l : List T3} {n : Int} {nr_ : Nat} {kk_ : V → Prop} (hp : l.length ≤ 1048576) : P1 (.call F_areBoxes 0 nr_) [vL I3 v3 l, .int .i64 n] kk_ ↔ kk_ (.bool (areBoxes l n)) :=
  P1_callF (by unfold F_areBoxes; exact mkF_eq F_areBoxes_inj (l, n) hp)

def inside (x y : T3) : Bool := decide ((sortedBox x).a < (sortedBox y).a) && (decide ((sortedBox x).b < (sortedBox y).b) && decide ((sortedBox x).c < (sortedBox y).c))
def E_isInside : T3 × T3 → List V := fun (x, y) => [.int .i64 x.a, .int .i64 x.b, .int .i64 x.c, .int .i64 y.a, .int .i64 y.b, .int .i64 y.c]
noncomputable def F_isInside : List V → Option (List V) := mkF E_isInside (fun (_, _) => True) (fun (x, y) => [.bool (inside x y)])
theorem F_isInside_inj : ∀ x y, E_isInside x = E_isInside y → x = y := by
  rintro ⟨⟨xa, xb, xc⟩, ⟨ya, yb, yc⟩⟩ ⟨⟨xa', xb', xc'⟩, ⟨ya', yb', yc'⟩⟩ h
  simpa [E_isInside, and_assoc] using h
theorem F_isInside_elim {P : List V → List V → Prop} (h : ∀ (x : T3) (y : T3), P [.int .i64 x.a, .int .i64 x.b, .int .i64 x.c, .int .i64 y.a, .int .i64 y.b, .int .i64 y.c] [.bool (inside x y)]) : ∀ ds outs, F_isInside ds = some outs → P ds outs := by
  intro ds outs hh
  obtain ⟨⟨x, y⟩, rfl, -, rfl⟩ := mkF_inv hh
  exact h x y
@[simp] theorem p_isInside {x_a : Int} {x_b : Int} {x_c : Int} {y_a : Int} {y_b : Int} {y_c : Int} {nr_ : Nat} {kk_ : V → Prop} : P1 (.call F_isInside 0 nr_) [.int .i64 x_a, .int .i64 x_b, .int .i64 x_c, .int .i64 y_a, .int .i64 y_b, .int .i64 y_c] kk_ ↔ kk_ (.bool (inside (⟨x_a, x_b, x_c⟩ : T3) (⟨y_a, y_b, y_c⟩ : T3))) :=
  P1_callF (by unfold F_isInside; exact mkF_eq F_isInside_inj ((⟨x_a, x_b, x_c⟩ : T3), (⟨y_a, y_b, y_c⟩ : T3)) trivial)

end Go.Mw

/- Functions of the program, as small pure programs (printed by a program of ours). -/
namespace Go.Mw
noncomputable section
def laws_szBoxS_L : L := .seq (.rg []) (.seq (.rg [⟨[], .len, [.v 0], 1⟩, ⟨[], .bin .sub, [.v 1, .v 2], 1⟩]) (.seq (.seq (.rg [⟨[], .bin .lss, [.v 3, .k (.int .i64 0)], 1⟩]) (.ite (.v 4) (.seq (.rg []) (.ret [.k (.int .i64 (-1))])) (.skip))) (.seq (.rg []) (.ret [.v 3]))))
theorem laws_szBoxS_L_sh (Q : QT) (x0 x1 : V) : shL laws_szBoxS_L Q [x0, x1] = (
  P1 (.len) [x0] fun v0 =>
  P1 (.bin .sub) [x1, v0] fun v1 =>
  P1 (.bin .lss) [v1, .int .i64 0] fun v2 =>
  ifB v2 (
    Q .ret [.int .i64 (-1)]) (
    Q .ret [v1])) := by kernel_rfl
def laws_szBoxS_S : Sig := ⟨[.val false [.sl [.sc, .sc, .sc]], .val false [.sc]], [(false, [.sc])], F_szBoxS⟩
def laws_szBoxS_hs : List NF := []

def laws_toBoxS_b0 : L := .seq (.seq (.seq (.rg [⟨[], .len, [.v 0], 1⟩, ⟨[], .bin .lss, [.v 1, .v 3], 1⟩]) (.ite (.v 4) (.skip) (.seq (.tup [.v 2]) (.exit 0)))) (.seq (.block 1 (.seq (.rg [⟨[], .idx [.sc, .sc, .sc], [.v 0, .v 1], 3⟩, ⟨[], .call F_toBox 0 3, [.v 5, .v 6, .v 7], 3⟩, ⟨[], .idx [.sc, .sc, .sc], [.v 2, .v 1], 3⟩, ⟨[], .set [.sc, .sc, .sc] 0, [.v 2, .v 1, .v 8, .v 9, .v 10], 1⟩]) (.tup [.v 0, .v 1, .v 14]))) (.rg [⟨[], .bin .add, [.v 1, .k (.int .i64 1)], 1⟩]))) (.tup [.v 0, .v 3, .v 2])
theorem laws_toBoxS_b0_sh (Q : QT) (x0 x1 x2 : V) : shL laws_toBoxS_b0 Q [x0, x1, x2] = (
  P1 (.len) [x0] fun v0 =>
  P1 (.bin .lss) [x1, v0] fun v1 =>
  ifB v1 (
    P3 (.idx [.sc, .sc, .sc]) [x0, x1] fun v2 v3 v4 =>
    P3 (.call F_toBox 0 3) [v2, v3, v4] fun v5 v6 v7 =>
    P3 (.idx [.sc, .sc, .sc]) [x2, x1] fun _ _ _ =>
    P1 (.set [.sc, .sc, .sc] 0) [x2, x1, v5, v6, v7] fun v11 =>
    P1 (.bin .add) [x1, .int .i64 1] fun v12 =>
    Q .normal [x0, v12, v11]) (
    Q (.exit 0) [x2])) := by kernel_rfl

def laws_toBoxS_r1 : L := .seq (.rg []) (.ret [.v 0])
theorem laws_toBoxS_r1_sh (Q : QT) (x0 : V) : shL laws_toBoxS_r1 Q [x0] = (
  Q .ret [x0]) := by kernel_rfl

def laws_toBoxS_L : L := .seq (.rg []) (.seq (.rg [⟨[], .len, [.v 0], 1⟩, ⟨[], .mk [.sc, .sc, .sc] (.agg [.int .i64 0, .int .i64 0, .int .i64 0]) 24, [.v 1, .v 1], 1⟩]) (.seq (.seq (.rg []) (.block 0 (.seq (.tup [.v 0, .k (.int .i64 0), .v 2]) (.loop (laws_toBoxS_b0))))) (laws_toBoxS_r1)))
theorem laws_toBoxS_L_sh (Q : QT) (x0 : V) : shL laws_toBoxS_L Q [x0] = (
  P1 (.len) [x0] fun v0 =>
  P1 (.mk [.sc, .sc, .sc] (.agg [.int .i64 0, .int .i64 0, .int .i64 0]) 24) [v0, v0] fun v1 =>
  shL (.loop laws_toBoxS_b0) (qB 0 (qS (shL laws_toBoxS_r1 Q) Q)) [x0, .int .i64 0, v1]) := by kernel_rfl
def laws_toBoxS_S : Sig := ⟨[.val false [.sl [.sc, .sc, .sc]]], [(false, [.sl [.sc, .sc, .sc]])], F_toBoxS⟩
def laws_toBoxS_hs : List NF := [⟨[(3, .sc false [.own 64])], [(64, true, [.sc, .sc, .sc])], [], 65⟩, ⟨[(0, .sc false [.ro [.sc, .sc, .sc]]), (3, .sc false [.own 64]), (4, .sc false [.sc])], [(64, true, [.sc, .sc, .sc])], [], 65⟩, ⟨[(0, .sc false [.ro [.sc, .sc, .sc]]), (3, .sc false [.own 64]), (4, .sc false [.sc])], [(64, true, [.sc, .sc, .sc])], [], 65⟩]

def impl_areBoxes_b0 : L := .seq (.seq (.rg [⟨[], .bin .lss, [.v 2, .v 1], 1⟩]) (.seq (.ite (.v 3) (.skip) (.seq (.tup []) (.exit 0))) (.seq (.block 1 (.seq (.seq (.rg [⟨[], .idx [.sc, .sc, .sc], [.v 0, .v 2], 3⟩]) (.seq (.rg [⟨[], .call F_BoxOk 0 1, [.v 4, .v 5, .v 6], 1⟩, ⟨[], .un .not, [.v 7], 1⟩]) (.ite (.v 8) (.seq (.rg []) (.ret [.k (.bool false)])) (.skip)))) (.tup [.v 0, .v 1, .v 2]))) (.rg [⟨[], .bin .add, [.v 2, .k (.int .i64 1)], 1⟩])))) (.tup [.v 0, .v 1, .v 3])
theorem impl_areBoxes_b0_sh (Q : QT) (x0 x1 x2 : V) : shL impl_areBoxes_b0 Q [x0, x1, x2] = (
  P1 (.bin .lss) [x2, x1] fun v0 =>
  ifB v0 (
    P3 (.idx [.sc, .sc, .sc]) [x0, x2] fun v1 v2 v3 =>
    P1 (.call F_BoxOk 0 1) [v1, v2, v3] fun v4 =>
    P1 (.un .not) [v4] fun v5 =>
    ifB v5 (
      Q .ret [.bool false]) (
      P1 (.bin .add) [x2, .int .i64 1] fun v6 =>
      Q .normal [x0, x1, v6])) (
    Q (.exit 0) [])) := by kernel_rfl

def impl_areBoxes_r1 : L := .seq (.rg []) (.ret [.k (.bool true)])
theorem impl_areBoxes_r1_sh (Q : QT) : shL impl_areBoxes_r1 Q [] = (
  Q .ret [.bool true]) := by kernel_rfl

def impl_areBoxes_L : L := .seq (.rg []) (.seq (.seq (.rg [⟨[], .len, [.v 0], 1⟩, ⟨[], .bin .gtr, [.v 2, .v 1], 1⟩]) (.ite (.v 3) (.seq (.rg []) (.ret [.k (.bool false)])) (.skip))) (.seq (.seq (.rg [⟨[], .len, [.v 0], 1⟩]) (.block 0 (.seq (.tup [.v 0, .v 4, .k (.int .i64 0)]) (.loop (impl_areBoxes_b0))))) (impl_areBoxes_r1)))
theorem impl_areBoxes_L_sh (Q : QT) (x0 x1 : V) : shL impl_areBoxes_L Q [x0, x1] = (
  P1 (.len) [x0] fun v0 =>
  P1 (.bin .gtr) [v0, x1] fun v1 =>
  ifB v1 (
    Q .ret [.bool false]) (
    P1 (.len) [x0] fun v2 =>
    shL (.loop impl_areBoxes_b0) (qB 0 (qS (shL impl_areBoxes_r1 Q) Q)) [x0, v2, .int .i64 0])) := by kernel_rfl
def impl_areBoxes_S : Sig := ⟨[.val false [.sl [.sc, .sc, .sc]], .val false [.sc]], [(false, [.sc])], F_areBoxes⟩
def impl_areBoxes_hs : List NF := [⟨[], [], [], 64⟩, ⟨[(11, .sc false [.ro [.sc, .sc, .sc]]), (12, .sc false [.sc]), (13, .sc false [.sc])], [], [], 64⟩, ⟨[(11, .sc false [.ro [.sc, .sc, .sc]]), (12, .sc false [.sc]), (13, .sc false [.sc])], [], [], 64⟩]

def impl_isInside_L : L := .seq (.rg []) (.seq (.rg [⟨[], .call F_SortedBox 0 3, [.v 0, .v 1, .v 2], 3⟩, ⟨[], .call F_SortedBox 0 3, [.v 3, .v 4, .v 5], 3⟩]) (.seq (.rg [⟨[], .bin .lss, [.v 6, .v 9], 1⟩, ⟨[(.v 12, true)], .bin .lss, [.v 7, .v 10], 1⟩, ⟨[], .pick, [.v 12, .v 13, .k (.bool false)], 1⟩, ⟨[(.v 14, true)], .bin .lss, [.v 8, .v 11], 1⟩, ⟨[], .pick, [.v 14, .v 15, .k (.bool false)], 1⟩]) (.ret [.v 16])))
theorem impl_isInside_L_sh (Q : QT) (x0 x1 x2 x3 x4 x5 : V) : shL impl_isInside_L Q [x0, x1, x2, x3, x4, x5] = (
  P3 (.call F_SortedBox 0 3) [x0, x1, x2] fun v0 v1 v2 =>
  P3 (.call F_SortedBox 0 3) [x3, x4, x5] fun v3 v4 v5 =>
  P1 (.bin .lss) [v0, v3] fun v6 =>
  ifB v6 (
    P1 (.bin .lss) [v1, v4] fun v7 =>
    ifB v7 (
      P1 (.bin .lss) [v2, v5] fun v8 =>
      Q .ret [v8]) (
      Q .ret [.bool false])) (
    Q .ret [.bool false])) := by kernel_rfl
def impl_isInside_S : Sig := ⟨[.val true [.sc, .sc, .sc], .val true [.sc, .sc, .sc]], [(false, [.sc])], F_isInside⟩
def impl_isInside_hs : List NF := []

def laws_eqBoxS_b0 : L := .seq (.seq (.seq (.rg [⟨[], .len, [.v 0], 1⟩, ⟨[], .bin .lss, [.v 2, .v 3], 1⟩]) (.ite (.v 4) (.skip) (.seq (.tup []) (.exit 0)))) (.seq (.block 1 (.seq (.seq (.rg [⟨[], .idx [.sc, .sc, .sc], [.v 0, .v 2], 3⟩, ⟨[], .idx [.sc, .sc, .sc], [.v 1, .v 2], 3⟩, ⟨[], .call F_eqBox 0 1, [.v 5, .v 6, .v 7, .v 8, .v 9, .v 10], 1⟩, ⟨[], .un .not, [.v 11], 1⟩]) (.ite (.v 12) (.seq (.rg []) (.ret [.k (.bool false)])) (.skip))) (.tup [.v 0, .v 1, .v 2]))) (.rg [⟨[], .bin .add, [.v 2, .k (.int .i64 1)], 1⟩]))) (.tup [.v 0, .v 1, .v 3])
theorem laws_eqBoxS_b0_sh (Q : QT) (x0 x1 x2 : V) : shL laws_eqBoxS_b0 Q [x0, x1, x2] = (
  P1 (.len) [x0] fun v0 =>
  P1 (.bin .lss) [x2, v0] fun v1 =>
  ifB v1 (
    P3 (.idx [.sc, .sc, .sc]) [x0, x2] fun v2 v3 v4 =>
    P3 (.idx [.sc, .sc, .sc]) [x1, x2] fun v5 v6 v7 =>
    P1 (.call F_eqBox 0 1) [v2, v3, v4, v5, v6, v7] fun v8 =>
    P1 (.un .not) [v8] fun v9 =>
    ifB v9 (
      Q .ret [.bool false]) (
      P1 (.bin .add) [x2, .int .i64 1] fun v10 =>
      Q .normal [x0, x1, v10])) (
    Q (.exit 0) [])) := by kernel_rfl

def laws_eqBoxS_r1 : L := .seq (.rg []) (.ret [.k (.bool true)])
theorem laws_eqBoxS_r1_sh (Q : QT) : shL laws_eqBoxS_r1 Q [] = (
  Q .ret [.bool true]) := by kernel_rfl

def laws_eqBoxS_L : L := .seq (.rg []) (.seq (.seq (.rg [⟨[], .len, [.v 0], 1⟩, ⟨[], .len, [.v 1], 1⟩, ⟨[], .bin .neq, [.v 2, .v 3], 1⟩]) (.ite (.v 4) (.seq (.rg []) (.ret [.k (.bool false)])) (.skip))) (.seq (.seq (.rg []) (.block 0 (.seq (.tup [.v 0, .v 1, .k (.int .i64 0)]) (.loop (laws_eqBoxS_b0))))) (laws_eqBoxS_r1)))
theorem laws_eqBoxS_L_sh (Q : QT) (x0 x1 : V) : shL laws_eqBoxS_L Q [x0, x1] = (
  P1 (.len) [x0] fun v0 =>
  P1 (.len) [x1] fun v1 =>
  P1 (.bin .neq) [v0, v1] fun v2 =>
  ifB v2 (
    Q .ret [.bool false]) (
    shL (.loop laws_eqBoxS_b0) (qB 0 (qS (shL laws_eqBoxS_r1 Q) Q)) [x0, x1, .int .i64 0])) := by kernel_rfl
def laws_eqBoxS_S : Sig := ⟨[.val false [.sl [.sc, .sc, .sc]], .val false [.sl [.sc, .sc, .sc]]], [(false, [.sc])], F_eqBoxS⟩
def laws_eqBoxS_hs : List NF := [⟨[], [], [], 64⟩, ⟨[(0, .sc false [.ro [.sc, .sc, .sc]]), (1, .sc false [.ro [.sc, .sc, .sc]]), (5, .sc false [.sc])], [], [], 64⟩, ⟨[(0, .sc false [.ro [.sc, .sc, .sc]]), (1, .sc false [.ro [.sc, .sc, .sc]]), (5, .sc false [.sc])], [], [], 64⟩]

end
end Go.Mw

/- Laws' helpers on memory, and the plain functions of pieces, pins, cylinders, states. -/
namespace Go.Mw
theorem laws_szBoxS_ok : ∀ ds outs, F_szBoxS ds = some outs → shL laws_szBoxS_L (qRet outs) ds := F_szBoxS_elim fun l n hp => by
  rw [laws_szBoxS_L_sh]
  simp (disch := omega) [wrap_id]
  grind

theorem laws_toBoxS_ok : ∀ ds outs, F_toBoxS ds = some outs → shL laws_toBoxS_L (qRet outs) ds := F_toBoxS_elim fun l hp => by
  rw [laws_toBoxS_L_sh]
  simp
  refine ⟨by omega, ?_⟩
  refine loop_upto l.length (fun k => [vL I3 v3 l, .int .i64 k, vL I3 v3 (l.take k ++ List.replicate (l.length - k) ⟨0, 0, 0⟩)]) (by intro i j _ _ h; simp at h; omega) (fun _ => True) (by simp) trivial ?_
  intro k hk _
  rw [laws_toBoxS_b0_sh]
  simp
  refine ⟨fun h => ?_, fun h => ?_⟩
  · rw [fill_get h (by omega)]
    simp (disch := omega) [h, fill_set h, wrap_id]
  · obtain rfl : k = l.length := by omega
    simp [laws_toBoxS_r1_sh]

theorem laws_eqBoxS_ok : ∀ ds outs, F_eqBoxS ds = some outs → shL laws_eqBoxS_L (qRet outs) ds := F_eqBoxS_elim fun l m hp => by
  rw [laws_eqBoxS_L_sh]
  simp
  refine ⟨fun h => ?_, fun hl => ?_⟩
  · rintro rfl; omega
  refine loop_upto l.length (fun k => [vL I3 v3 l, vL I3 v3 m, .int .i64 k]) (by intro i j _ _ h; simp at h; omega) (fun k => l.take k = m.take k) (by simp) (by simp) ?_
  intro k hk hP
  rw [laws_eqBoxS_b0_sh]
  simp
  refine ⟨fun h => ?_, fun h => ?_⟩
  · have h2 : k < m.length := by omega
    simp (disch := omega) [h, wrap_id]
    refine ⟨fun hne he => ?_, fun h3 => ?_⟩
    · subst he; exact hne rfl
    · rw [take_succ_get h, take_succ_get h2, hP, h3]
  · obtain rfl : k = l.length := by omega
    rw [List.take_length, List.take_of_length_le (by omega)] at hP
    simp [laws_eqBoxS_r1_sh, hP]

end Go.Mw

/- Pieces, pins, cylinders, states: the functions compute what was said. -/
namespace Go.Mw
/-! show time -/
/-! cylinders -/
end Go.Mw

/- Cylinders and their pins. -/
namespace Go.Mw
theorem rising_iff : ∀ l : List T2, rising l = true ↔ ∀ j (_ : j < l.length), 0 < j → pinLess l[j - 1] l[j] = true
  | [] => by simp [rising]
  | [a] => by simp [rising]
  | a :: b :: r => by
    simp only [rising, Bool.and_eq_true, rising_iff (b :: r)]
    constructor
    · rintro ⟨h1, h2⟩ j hj h0
      rcases j with _ | _ | j
      · omega
      · exact h1
      · exact h2 (j + 1) (by simp at hj ⊢; omega) (by omega)
    · intro h
      refine ⟨h 1 (by simp) (by omega), fun j hj h0 => ?_⟩
      have := h (j + 1) (by simp at hj ⊢; omega) (by omega)
      rcases j with _ | j
      · omega
      · exact this

def goodPin (x : Cyl) (j : Nat) (hj : j < x.p.length) : Prop := pinIn x.s x.t x.p[j] = true ∧ (0 < j → pinLess x.p[j - 1] x.p[j] = true)
theorem cylOk_iff (x : Cyl) : cylOk x = true ↔ within x.s 4 96 = true ∧ within x.t 1 100 = true ∧ x.p.length ≤ 100 ∧ ∀ j (hj : j < x.p.length), goodPin x j hj := by
  simp only [cylOk, Bool.and_eq_true, decide_eq_true_eq, rising_iff, List.all_eq_true, goodPin, and_assoc]
  refine and_congr_right fun _ => and_congr_right fun _ => and_congr_right fun _ => ?_
  constructor
  · rintro ⟨h1, h2⟩ j hj
    exact ⟨h1 _ (List.getElem_mem hj), h2 j hj⟩
  · intro h
    refine ⟨fun p hp => ?_, fun j hj h0 => (h j hj).2 h0⟩
    obtain ⟨j, hj, rfl⟩ := List.getElem_of_mem hp
    exact (h j hj).1

end Go.Mw

/- Sums, steps, states. -/
namespace Go.Mw
theorem cylOk_bounds {x : Cyl} (h : cylOk x = true) : (4 ≤ x.s ∧ x.s ≤ 96) ∧ (1 ≤ x.t ∧ x.t ≤ 100) ∧ x.p.length ≤ 100 := by
  have h := (cylOk_iff x).1 h
  exact ⟨by simpa [within] using h.1, by simpa [within] using h.2.1, h.2.2.1⟩
end Go.Mw

/- States: around, pins at an angle, start, stop, step. -/
namespace Go.Mw
theorem sttOk_iff (x : Cyl) (y : Stt) : sttOk x y = true ↔ cylOk x = true ∧ (0 ≤ y.a ∧ y.a ≤ x.s - 1) ∧ (0 ≤ y.p ∧ y.p ≤ 100000) := by
  simp [sttOk, within]
end Go.Mw

/- Steps and runs. -/
namespace Go.Mw
theorem canStep_iff (x : Cyl) (y : Stt) : canStep x y = true ↔ sttOk x y = true ∧ y.n = true ∧ sttOk x (nextStt x y) = true := by
  simp [canStep, and_assoc]
theorem itS_on {x : Cyl} {y : Stt} (h : sttOk x y = true) (hn : y.n = true) : ∀ k, k < runN x y → (itS x y k).a = y.a + k ∧ (itS x y k).n = true
  | 0, _ => by simp [itS, hn]
  | k + 1, hk => by
    have ih := itS_on h hn k (by omega)
    have hs := (sttOk_iff x y).1 h
    unfold runN at hk
    have e : (y.a + k + 1) % x.s = y.a + k + 1 := Int.emod_eq_of_lt (by omega) (by omega)
    simp only [itS, nextStt, ih.1, e]
    simp; omega
theorem itS_off {x : Cyl} {y : Stt} (h : sttOk x y = true) (hn : y.n = true) : (itS x y (runN x y)).a = 0 ∧ (itS x y (runN x y)).n = false := by
  have hs := (sttOk_iff x y).1 h
  obtain ⟨k, hk⟩ : ∃ k, runN x y = k + 1 := ⟨runN x y - 1, by unfold runN; omega⟩
  have ih := itS_on h hn k (by omega)
  rw [hk]
  have e : (y.a + k + 1) % x.s = 0 := by
    rw [show y.a + k + 1 = x.s by unfold runN at hk; omega, Int.emod_self]
  simp only [itS, nextStt, ih.1, e]
  simp
end Go.Mw

/- Digits; boxes. -/
namespace Go.Mw
theorem areDigits_iff {l : List Int} {a b : Int} : areDigits l a b = true ↔ within l.length a b = true ∧ ∀ x ∈ l, within x 0 9 = true := by
  simp [areDigits]
end Go.Mw

/- Checked digits. -/
namespace Go.Mw
end Go.Mw

/- Boxes; moods. -/
namespace Go.Mw
theorem impl_areBoxes_ok : ∀ ds outs, F_areBoxes ds = some outs → shL impl_areBoxes_L (qRet outs) ds := F_areBoxes_elim fun l n hp => by
  rw [impl_areBoxes_L_sh]
  simp
  refine ⟨fun h => by simp [areBoxes]; intro h; omega, fun h9 => ?_⟩
  refine loop_upto l.length (fun k => [vL I3 v3 l, .int .i64 l.length, .int .i64 k]) (by intro i j _ _ h; simp at h; omega) (fun k => ∀ x ∈ l.take k, boxOk x = true) (by simp) (by simp) ?_
  intro k hk hP
  rw [impl_areBoxes_b0_sh]
  simp
  refine ⟨fun h => ?_, fun h => ?_⟩
  · have hno : boxOk l[k] = false → areBoxes l n = false := by
      intro hf
      simp only [areBoxes, Bool.and_eq_false_iff, List.all_eq_false]
      exact .inr ⟨l[k], by simp, by simp [hf]⟩
    simp (disch := omega) only [h, List.getElem?_eq_getElem, Option.some.injEq, exists_eq_left', wrap_id, all_take_succ h]
    cases h1 : boxOk l[k] <;> simp_all
  · obtain rfl : k = l.length := by omega
    simp [impl_areBoxes_r1_sh, areBoxes]
    simp at hP
    exact ⟨by omega, hP⟩
theorem impl_isInside_ok : ∀ ds outs, F_isInside ds = some outs → shL impl_isInside_L (qRet outs) ds := F_isInside_elim fun x y => by
  rw [impl_isInside_L_sh]
  simp [inside]
  grind

end Go.Mw

/- Moods. -/
namespace Go.Mw
/-- Which of the numbers below n stand in the list. -/
def seenOf (l : List Int) (n : Nat) : List Bool := (List.range n).map fun j : Nat => decide ((j : Int) ∈ l)
@[simp] theorem seenOf_len {l : List Int} {n : Nat} : (seenOf l n).length = n := by simp [seenOf]
end Go.Mw

/- What functions compute, in plain terms: benches and workshops. -/
namespace Go.Mw
/-! memory -/
/-! benches -/
/-! workshops -/
def Shop.bench (w : Shop) : Bench := ⟨w.s, w.t, w.p, w.o⟩
end Go.Mw

/- Functions of the program, as small pure programs (printed by a program of ours). -/
namespace Go.Mw
noncomputable section
end
end Go.Mw

/- Benches: memory. -/
namespace Go.Mw
end Go.Mw

/- Benches: memory that is marked. -/
namespace Go.Mw
end Go.Mw

/- Benches: memory; what is a fine bench. -/
namespace Go.Mw
end Go.Mw

/- Benches: laws, copies, changed pins. -/
namespace Go.Mw
end Go.Mw

/- Benches: changed pins, copies, new benches. -/
namespace Go.Mw
end Go.Mw

/- New benches; combs, springs, workshops. -/
namespace Go.Mw
@[simp] theorem P1_lstL2 {a : List T2} {k : V → Prop} : P1 (.lst [.sl [.sc, .sc]] false 1) [vL I2 v2 a] k ↔ k (vL IL2 vLL2 [a]) := P1_of (by simp [Prim.run, aksOk, akOk, chunk, V.pack, vL, vLL2, AK.eqs_refl, IL2]) k
end Go.Mw

/- Combs, workshops. -/
namespace Go.Mw
end Go.Mw

/- Workshops. -/
namespace Go.Mw
end Go.Mw

/- Workshops: memory, opening. -/
namespace Go.Mw
@[simp] theorem P1_lst14 {a b c d : Int} {k : V → Prop} : P1 (.lst [.sc] false 4) [.int .i64 a, .int .i64 b, .int .i64 c, .int .i64 d] k ↔ k (vL I1 v1 [a, b, c, d]) := P1_of (by simp [Prim.run, aksOk, akOk, chunk, V.pack, vL, v1]) k
end Go.Mw

/- The sample workshop: the law. -/
namespace Go.Mw
noncomputable section
end
end Go.Mw

/- What functions compute, in plain terms: the bench's steps. -/
namespace Go.Mw
end Go.Mw

/- Functions of the program, as small pure programs (printed by a program of ours). -/
namespace Go.Mw
noncomputable section
end
end Go.Mw

/- Taking back; a step of the bench; pulling a pin. -/
namespace Go.Mw
end Go.Mw

/- Copies of a bench (spec); pulling a pin. -/
namespace Go.Mw
end Go.Mw

/- What functions compute, in plain terms: draws; stops and sums. -/
namespace Go.Mw
/-- A bitwise operation of the machine. -/
def land (a b : Int) : Int := IntKind.i64.wrap (BitVec.ofInt IntKind.i64.bits a &&& BitVec.ofInt IntKind.i64.bits b).toNat
def lxor (a b : Int) : Int := IntKind.i64.wrap (BitVec.ofInt IntKind.i64.bits a ^^^ BitVec.ofInt IntKind.i64.bits b).toNat
@[simp] theorem P1_and {a b : Int} {k : V → Prop} : P1 (.bin .and) [.int .i64 a, .int .i64 b] k ↔ k (.int .i64 (land a b)) := P1_of (by simp [Prim.run, binV, binI, land]) k
@[simp] theorem P1_xor {a b : Int} {k : V → Prop} : P1 (.bin .xor) [.int .i64 a, .int .i64 b] k ↔ k (.int .i64 (lxor a b)) := P1_of (by simp [Prim.run, binV, binI, lxor]) k
/-- A cursor: its bytes, the place, the hash. -/
structure Cur where
  b : List UInt8
  i : Int
  h : Int
def hNext (h : Int) : Int := IntKind.i64.wrap (IntKind.i64.wrap (h * 6364136223846793005) + 1442695040888963407)
def cStep (x : Cur) : Cur := ⟨x.b, if x.i < x.b.length then x.i + 1 else x.i, hNext x.h⟩
def cAfter (x : Cur) (n : Int) : Cur := if n ≤ 0 then x else if n ≤ 256 then cStep x else cStep (cStep (cStep (cStep x)))
def cylX (x : Cur) : Cur := cAfter (cAfter (cAfter x 21) 8) 10
end Go.Mw

/- Functions of the program, as small pure programs (printed by a program of ours). -/
namespace Go.Mw
noncomputable section
end
end Go.Mw

/- Draws. -/
namespace Go.Mw
@[simp] theorem cStep_b (x : Cur) : (cStep x).b = x.b := rfl
@[simp] theorem cAfter_b (x : Cur) (n : Int) : (cAfter x n).b = x.b := by unfold cAfter; split <;> (try split) <;> simp
/-! putting a pin -/
end Go.Mw

/- Drawn cylinders and states. -/
namespace Go.Mw
theorem within_iff' {a b c : Int} : within a b c = true ↔ b ≤ a ∧ a ≤ c := by simp [within]
@[simp] theorem P1_lstI3 {a b c : Int} {k : V → Prop} : P1 (.lst [.sc] false 3) [.int .i64 a, .int .i64 b, .int .i64 c] k ↔ k (vL I1 v1 [a, b, c]) := P1_of (by simp [Prim.run, aksOk, akOk, chunk, V.pack, vL, v1]) k

@[simp] theorem cylX_b (x : Cur) : (cylX x).b = x.b := by simp [cylX]
end Go.Mw

/- Stops. -/
namespace Go.Mw
@[simp] theorem P1_neaX {a c e g : Int} {b f : Bool} {k : V → Prop} : P1 (.eqa true [.i, .b, .i]) [.int .i64 a, .bool b, .int .i64 c, .int .i64 e, .bool f, .int .i64 g] k ↔ k (.bool (!decide (a = e ∧ b = f ∧ c = g))) := P1_of (by simp only [Prim.run, eqVs, eqV1, List.length_cons, List.length_nil, List.take, List.drop, if_true]; cases b <;> cases f <;> simp <;> grind) k
theorem pinsAt_le (c : Cyl) (a : Int) : (pinsAt c a).length ≤ c.p.length := by
  unfold pinsAt
  split
  · simpa using List.length_filter_le _ _
  · simp
theorem it_p (c : Cyl) (x : Stt) : ∀ k, (itS c x k).p = x.p + (itL c x k).length ∧ (itL c x k).length ≤ k * c.p.length
  | 0 => by simp [itS, itL]
  | k + 1 => by
    obtain ⟨h1, h2⟩ := it_p c x k
    have h3 := pinsAt_le c (itS c x k).a
    simp only [itS, itL, nextStt, List.length_append, h1, Nat.add_mul]
    omega
/-- A state of a small cylinder. -/
structure Small (c : Cyl) (x : Stt) : Prop where
  ok : sttOk c x = true
  len : c.p.length ≤ 9
  p : x.p ≤ 77
theorem Small.it {c : Cyl} {x : Stt} (h : Small c x) (hn : x.n = true) {k : Nat} (hk : k ≤ runN c x) : sttOk c (itS c x k) = true := by
  have h0 := (sttOk_iff c x).1 h.ok
  have hb := cylOk_bounds h0.1
  have h1 := it_p c x k
  have h77 := h.p
  have h2 : k * c.p.length ≤ 96 * 9 := Nat.mul_le_mul (by simp only [runN] at hk; omega) h.len
  rw [sttOk_iff]
  refine ⟨h0.1, ?_, by omega⟩
  by_cases e : k < runN c x
  · have := (itS_on h.ok hn k e).1
    simp only [runN] at e
    omega
  · obtain rfl : k = runN c x := by omega
    have := (itS_off h.ok hn).1
    omega
theorem Small.can {c : Cyl} {x : Stt} (h : Small c x) (hn : x.n = true) {k : Nat} (hk : k < runN c x) : canStep c (itS c x k) = true := by
  rw [canStep_iff]
  exact ⟨h.it hn (by omega), (itS_on h.ok hn k hk).2, h.it hn (k := k + 1) hk⟩
def runM (c : Cyl) (x : Stt) : Nat := if x.n then runN c x else 0
theorem Small.steps {c : Cyl} {x : Stt} (h : Small c x) : stepsLeft c x = runM c x := by
  have h0 := (sttOk_iff c x).1 h.ok
  unfold stepsLeft runM
  rw [if_pos h.ok]
  cases x.n
  · simp
  · simp only [if_true, runN]; omega
theorem Small.run {c : Cyl} {x : Stt} (h : Small c x) : runBox c x = (itS c x (runM c x), itL c x (runM c x)) := by
  unfold runBox runM
  cases hn : x.n with
  | false =>
    have : runOk c x = false := by simp [runOk, hn]
    simp [this, itS, itL]
  | true =>
    have : runOk c x = true := by
      simp only [runOk, h.ok, hn, Bool.true_and, List.all_eq_true, List.mem_range]
      intro k hk; exact h.can hn hk
    simp [this]
end Go.Mw

/- The law on stops. -/
namespace Go.Mw
end Go.Mw

/- What functions compute, in plain terms: sums. -/
namespace Go.Mw
end Go.Mw

/- Functions of the program, as small pure programs (printed by a program of ours). -/
namespace Go.Mw
noncomputable section
end
end Go.Mw

/- Drawn digits; swaps. -/
namespace Go.Mw
end Go.Mw

/- Words of digits with a check; the law on sums. -/
namespace Go.Mw
/-- A word of digits. -/
structure Word (w : List Int) : Prop where
  lo : 2 ≤ w.length
  hi : w.length ≤ 21
  dig : ∀ x ∈ w, 0 ≤ x ∧ x ≤ 9
theorem Word.are {w : List Int} (h : Word w) : areDigits w 2 21 = true := by
  rw [areDigits_iff]
  have h1 := h.lo; have h2 := h.hi
  exact ⟨within_iff'.2 (by omega), fun x hx => within_iff'.2 (h.dig x hx)⟩
theorem Word.set {w : List Int} (h : Word w) {k : Nat} {e : Int} (he : 0 ≤ e ∧ e ≤ 9) : Word (w.set k e) := by
  refine ⟨by simpa using h.lo, by simpa using h.hi, fun x hx => ?_⟩
  rcases List.mem_or_eq_of_mem_set hx with hx | rfl
  · exact h.dig x hx
  · exact he
end Go.Mw

/- What functions compute, in plain terms: nested boxes. -/
namespace Go.Mw
def inBest (l : List T3) (d : List Int) (x : T3) : Nat → Int
  | 0 => 1
  | j + 1 => match l[j]?, d[j]? with
    | some y, some v => if inside y x then max (inBest l d x j) (v + 1) else inBest l d x j
    | _, _ => inBest l d x j
def rowTo (l : List T3) (s : List Int × Int) : Nat → List Int × Int
  | 0 => s
  | i + 1 => match l[i]? with
    | some x => ((rowTo l s i).1.set i (inBest l (rowTo l s i).1 x l.length), max (rowTo l s i).2 (inBest l (rowTo l s i).1 x l.length))
    | none => rowTo l s i
def dpTo (l : List T3) : Nat → List Int × Int
  | 0 => (List.replicate l.length 0, 0)
  | r + 1 => rowTo l (dpTo l r) l.length
def nested (l : List T3) : Int := if areBoxes l 12 then (dpTo l l.length).2 else -1
def E_NestedBoxes (l : List T3) : List V := [vL I3 v3 l]
noncomputable def F_NestedBoxes : List V → Option (List V) := mkF E_NestedBoxes (fun l => l.length ≤ 1048576) (fun l => [.int .i64 (nested l)])
theorem F_NestedBoxes_inj : ∀ x y, E_NestedBoxes x = E_NestedBoxes y → x = y := by
  rintro l l' h
  simpa [E_NestedBoxes] using h
theorem F_NestedBoxes_elim {P : List V → List V → Prop} (h : ∀ (l : List T3), (l.length ≤ 1048576) → P [vL I3 v3 l] [.int .i64 (nested l)]) : ∀ ds outs, F_NestedBoxes ds = some outs → P ds outs := by
  intro ds outs hh
  obtain ⟨l, rfl, hp, rfl⟩ := mkF_inv hh
  exact h l hp
theorem p_NestedBoxes {l : List T3} {nr_ : Nat} {kk_ : V → Prop} (hp : l.length ≤ 1048576) : P1 (.call F_NestedBoxes 0 nr_) [vL I3 v3 l] kk_ ↔ kk_ (.int .i64 (nested l)) :=
  P1_callF (by unfold F_NestedBoxes; exact mkF_eq F_NestedBoxes_inj (l) hp)

def boxEnd (x : Cur) : Cur := cAfter (cAfter (cAfter x 20) 20) 20
end Go.Mw

/- The depth of nested boxes. -/
namespace Go.Mw
def maxIn (f : T3 → Int) : List T3 → Int
  | [] => 0
  | a :: r => max (f a) (maxIn f r)
theorem maxIn_le {f : T3 → Int} {b : Int} (hb : 0 ≤ b) : ∀ {l : List T3}, (∀ y ∈ l, f y ≤ b) → maxIn f l ≤ b
  | [], _ => hb
  | a :: r, h => by
    have h1 := h a (by simp)
    have h2 := maxIn_le hb (l := r) (fun y hy => h y (by simp [hy]))
    simp only [maxIn]; omega
theorem le_maxIn {f : T3 → Int} {y : T3} : ∀ {l : List T3}, y ∈ l → f y ≤ maxIn f l
  | a :: r, h => by
    simp only [maxIn]
    rcases List.mem_cons.1 h with rfl | h
    · omega
    · have := le_maxIn (f := f) h; omega
theorem maxIn_nonneg {f : T3 → Int} : ∀ {l : List T3}, 0 ≤ maxIn f l
  | [] => by simp [maxIn]
  | a :: r => by have := maxIn_nonneg (f := f) (l := r); simp only [maxIn]; omega
theorem maxIn_mono {f g : T3 → Int} {l : List T3} (h : ∀ y ∈ l, f y ≤ g y) : maxIn f l ≤ maxIn g l :=
  maxIn_le maxIn_nonneg fun y hy => Int.le_trans (h y hy) (le_maxIn hy)

/-- The longest chain of boxes, each inside the next, that ends at x; of at most so many boxes. -/
def dep (l : List T3) : Nat → T3 → Int
  | 0, _ => 0
  | k + 1, x => 1 + maxIn (fun y => if inside y x then dep l k y else 0) l
theorem dep_le (l : List T3) : ∀ k x, 0 ≤ dep l k x ∧ dep l k x ≤ k
  | 0, _ => by simp [dep]
  | k + 1, x => by
    have h := maxIn_nonneg (f := fun y => if inside y x then dep l k y else 0) (l := l)
    have h2 : maxIn (fun y => if inside y x then dep l k y else 0) l ≤ k := maxIn_le (by omega) fun y _ => by
      have := dep_le l k y; split <;> omega
    simp only [dep]; omega
theorem dep_mono (l : List T3) : ∀ k x, dep l k x ≤ dep l (k + 1) x
  | 0, x => by have := (dep_le l 1 x).1; simpa [dep] using this
  | k + 1, x => by
    have : maxIn (fun y => if inside y x then dep l k y else 0) l ≤ maxIn (fun y => if inside y x then dep l (k + 1) y else 0) l := maxIn_mono fun y _ => by
      have := dep_mono l k y; split <;> omega
    show 1 + _ ≤ 1 + _
    omega
theorem inside_trans {x y z : T3} (h1 : inside x y = true) (h2 : inside y z = true) : inside x z = true := by
  simp only [inside, Bool.and_eq_true, decide_eq_true_eq] at *; omega
theorem inside_irrefl (x : T3) : inside x x = false := by simp [inside]
theorem count_lt {p q : T3 → Bool} (h : ∀ z, p z = true → q z = true) {y : T3} (hq : q y = true) (hp : p y = false) : ∀ {l : List T3}, y ∈ l → l.countP p < l.countP q
  | a :: r, hy => by
    have hle : r.countP p ≤ r.countP q := List.countP_mono_left fun z _ => h z
    rw [List.countP_cons, List.countP_cons]
    rcases List.mem_cons.1 hy with rfl | hy
    · simp only [hq, hp, if_true]; simp; omega
    · have ih := count_lt h hq hp hy
      have : (if p a = true then 1 else 0) ≤ (if q a = true then 1 else 0) := by
        cases hpa : p a with
        | false => simp
        | true => simp [h a hpa]
      omega
theorem dep_stable (l : List T3) : ∀ k x, l.countP (inside · x) + 1 ≤ k → dep l (k + 1) x ≤ dep l k x
  | 0, _, h => by omega
  | k + 1, x, h => by
    have : maxIn (fun y => if inside y x then dep l (k + 1) y else 0) l ≤ maxIn (fun y => if inside y x then dep l k y else 0) l := maxIn_mono fun y hy => by

      cases hi : inside y x with
      | false => simp
      | true =>
        have hc : l.countP (inside · y) < l.countP (inside · x) := count_lt (p := (inside · y)) (q := (inside · x)) (fun z hz => inside_trans hz hi) hi (inside_irrefl y) hy
        have := dep_stable l k y (by omega)
        simpa using this
    show 1 + _ ≤ 1 + _
    omega
theorem count_len {l : List T3} {x : T3} (hx : x ∈ l) : l.countP (inside · x) + 1 ≤ l.length := by
  have := count_lt (p := (inside · x)) (q := fun _ => true) (fun _ _ => rfl) rfl (inside_irrefl x) hx
  rw [List.countP_true] at this
  omega
def D (l : List T3) (x : T3) : Int := dep l l.length x
theorem D_eq {l : List T3} {x : T3} (hx : x ∈ l) : D l x = 1 + maxIn (fun y => if inside y x then D l y else 0) l := by
  have h1 := dep_stable l l.length x (count_len hx)
  have h2 := dep_mono l l.length x
  have : D l x = dep l (l.length + 1) x := by unfold D; omega
  rw [this]; rfl
theorem D_sub {l : List T3} {x y : T3} (hx : x ∈ l) (hy : y ∈ l) (h : inside y x = true) : D l y + 1 ≤ D l x := by
  rw [D_eq hx]
  have := le_maxIn (f := fun y => if inside y x then D l y else 0) hy
  simp only [h, if_true] at this
  omega

theorem inBest_ge {l : List T3} {d : List Int} {x : T3} {j : Nat} (hj : j < l.length) (hd : j < d.length) (hi : inside l[j] x = true) : ∀ n, j < n → d[j] + 1 ≤ inBest l d x n
  | 0, h => by omega
  | n + 1, h => by
    unfold inBest
    by_cases e : j = n
    · subst e
      rw [List.getElem?_eq_getElem hj, List.getElem?_eq_getElem hd]
      simp only [hi, if_true]; omega
    · have ih := inBest_ge hj hd hi n (by omega)
      split
      · split <;> omega
      · exact ih
theorem inBest_one {l : List T3} {d : List Int} {x : T3} : ∀ n, 1 ≤ inBest l d x n
  | 0 => by simp [inBest]
  | n + 1 => by
    have ih := inBest_one (l := l) (d := d) (x := x) n
    unfold inBest
    split
    · split <;> omega
    · exact ih
theorem inBest_le {l : List T3} {d : List Int} {x : T3} (hx : x ∈ l) (h : ∀ (j : Nat) (h1 : j < l.length) (h2 : j < d.length), d[j] ≤ D l l[j]) : ∀ n, inBest l d x n ≤ D l x
  | 0 => by
    have := maxIn_nonneg (f := fun y => if inside y x then D l y else 0) (l := l)
    rw [D_eq hx]; simp only [inBest]; omega
  | n + 1 => by
    have ih := inBest_le hx h n
    unfold inBest
    split
    · rename_i y v h1 h2
      obtain ⟨g1, rfl⟩ := List.getElem?_eq_some_iff.1 h1
      obtain ⟨g2, rfl⟩ := List.getElem?_eq_some_iff.1 h2
      split
      · rename_i hi
        have := D_sub hx (List.getElem_mem g1) hi
        have := h n g1 g2
        omega
      · exact ih
    · exact ih
/-- What the round has reached. -/
structure Dp (l : List T3) (r i : Nat) (s : List Int × Int) : Prop where
  len : s.1.length = l.length
  hi : ∀ (j : Nat) (h1 : j < l.length) (h2 : j < s.1.length), s.1[j] ≤ D l l[j]
  lo : ∀ (j : Nat) (h1 : j < l.length) (h2 : j < s.1.length), dep l r l[j] ≤ s.1[j]
  up : ∀ (j : Nat) (h1 : j < l.length) (h2 : j < s.1.length), j < i → dep l (r + 1) l[j] ≤ s.1[j]
  m : s.2 ≤ maxIn (D l) l
  mm : ∀ (j : Nat) (h2 : j < s.1.length), s.1[j] ≤ s.2
theorem Dp.row {l : List T3} {r : Nat} {s : List Int × Int} (h : Dp l r 0 s) : ∀ i, i ≤ l.length → Dp l r i (rowTo l s i)
  | 0, _ => h
  | i + 1, hi => by
    have ih := h.row i (by omega)
    have hil : i < l.length := by omega
    have hx := List.getElem_mem hil
    unfold rowTo
    rw [List.getElem?_eq_getElem hil]
    dsimp only
    generalize rowTo l s i = t at *
    have b1 := inBest_le hx ih.hi l.length
    have b2 : dep l (r + 1) l[i] ≤ inBest l t.1 l[i] l.length := by
      have h1 := inBest_one (l := l) (d := t.1) (x := l[i]) l.length
      have : maxIn (fun y => if inside y l[i] then dep l r y else 0) l ≤ inBest l t.1 l[i] l.length - 1 := maxIn_le (by omega) fun y hy => by

        cases hin : inside y l[i] with
        | false => simp; omega
        | true =>
          obtain ⟨j, hj, rfl⟩ := List.mem_iff_getElem.1 hy
          have hj2 : j < t.1.length := by rw [ih.len]; exact hj
          have g1 := inBest_ge hj hj2 hin l.length hj
          have g2 := ih.lo j hj hj2
          simp only [if_true]; omega
      show 1 + _ ≤ _
      omega
    have b3 := dep_mono l r l[i]
    refine ⟨by simpa using ih.len, fun j h1 h2 => ?_, fun j h1 h2 => ?_, fun j h1 h2 h3 => ?_, ?_, fun j h2 => ?_⟩
    · rw [List.getElem_set]
      split
      · rename_i e; subst e; exact b1
      · exact ih.hi j h1 (by simpa using h2)
    · rw [List.getElem_set]
      split
      · rename_i e; subst e; omega
      · exact ih.lo j h1 (by simpa using h2)
    · rw [List.getElem_set]
      split
      · rename_i e; subst e; exact b2
      · exact ih.up j h1 (by simpa using h2) (by omega)
    · have := le_maxIn (f := D l) hx
      have := ih.m
      omega
    · rw [List.getElem_set]
      split
      · omega
      · have := ih.mm j (by simpa using h2); omega
theorem Dp.all {l : List T3} : ∀ r, Dp l r 0 (dpTo l r)
  | 0 => by
    refine ⟨by simp [dpTo], fun j h1 h2 => ?_, fun j h1 h2 => ?_, fun j h1 h2 h3 => by omega, maxIn_nonneg, fun j h2 => ?_⟩
    · simp only [dpTo, List.getElem_replicate]; exact (dep_le l _ _).1
    · simp [dpTo, dep]
    · simp [dpTo]
  | r + 1 => by
    have h := (Dp.all r).row l.length (Nat.le_refl _)
    exact ⟨h.len, h.hi, fun j h1 h2 => h.up j h1 h2 h1, fun j h1 h2 h3 => by omega, h.m, h.mm⟩
theorem nested_eq {l : List T3} (h : areBoxes l 12 = true) : nested l = maxIn (D l) l := by
  have hD := Dp.all (l := l) l.length
  unfold nested
  rw [if_pos h]
  have h1 := hD.m
  have h0 : 0 ≤ (dpTo l l.length).2 := by
    rcases Nat.eq_zero_or_pos l.length with e | e
    · rw [e]; simp [dpTo]
    · have g : 0 < (dpTo l l.length).1.length := by rw [hD.len]; exact e
      have := hD.mm 0 g
      have := hD.lo 0 e g
      have := (dep_le l l.length l[0]).1
      omega
  have h2 : maxIn (D l) l ≤ (dpTo l l.length).2 := maxIn_le h0 fun y hy => by
    obtain ⟨j, hj, rfl⟩ := List.mem_iff_getElem.1 hy
    have g : j < (dpTo l l.length).1.length := by rw [hD.len]; exact hj
    have := hD.mm j g
    have := hD.lo j hj g
    unfold D; omega
  omega
end Go.Mw

/- Functions of the program, as small pure programs (printed by a program of ours). -/
namespace Go.Mw
noncomputable section
def impl_NestedBoxes_b2 : L := .seq (.seq (.rg [⟨[], .bin .lss, [.v 11, .v 10], 1⟩]) (.seq (.ite (.v 16) (.skip) (.seq (.tup [.v 0, .v 1, .v 2, .v 3, .v 4, .v 5, .v 6, .v 7, .v 8, .v 12]) (.exit 4))) (.seq (.block 5 (.seq (.seq (.rg [⟨[], .idx [.sc, .sc, .sc], [.v 9, .v 11], 3⟩]) (.seq (.rg [⟨[], .call F_isInside 0 1, [.v 17, .v 18, .v 19, .v 13, .v 14, .v 15], 1⟩]) (.ite (.v 20) (.seq (.rg [⟨[], .idx [.sc], [.v 12, .v 11], 1⟩, ⟨[], .bin .add, [.v 21, .k (.int .i64 1)], 1⟩, ⟨[], .mx, [.v 3, .v 22], 1⟩]) (.tup [.v 0, .v 1, .v 2, .v 23, .v 4, .v 5, .v 6, .v 7, .v 8, .v 9, .v 10, .v 11, .v 12, .v 13, .v 14, .v 15])) (.seq (.skip) (.tup [.v 0, .v 1, .v 2, .v 3, .v 4, .v 5, .v 6, .v 7, .v 8, .v 9, .v 10, .v 11, .v 12, .v 13, .v 14, .v 15]))))) (.tup [.v 0, .v 1, .v 2, .v 3, .v 4, .v 5, .v 6, .v 7, .v 8, .v 9, .v 10, .v 11, .v 12, .v 13, .v 14, .v 15]))) (.rg [⟨[], .bin .add, [.v 11, .k (.int .i64 1)], 1⟩])))) (.tup [.v 0, .v 1, .v 2, .v 3, .v 4, .v 5, .v 6, .v 7, .v 8, .v 9, .v 10, .v 16, .v 12, .v 13, .v 14, .v 15])
theorem impl_NestedBoxes_b2_sh (Q : QT) (x0 x1 x2 x3 x4 x5 x6 x7 x8 x9 x10 x11 x12 x13 x14 x15 : V) : shL impl_NestedBoxes_b2 Q [x0, x1, x2, x3, x4, x5, x6, x7, x8, x9, x10, x11, x12, x13, x14, x15] = (
  P1 (.bin .lss) [x11, x10] fun v0 =>
  ifB v0 (
    P3 (.idx [.sc, .sc, .sc]) [x9, x11] fun v1 v2 v3 =>
    P1 (.call F_isInside 0 1) [v1, v2, v3, x13, x14, x15] fun v4 =>
    ifB v4 (
      P1 (.idx [.sc]) [x12, x11] fun v5 =>
      P1 (.bin .add) [v5, .int .i64 1] fun v6 =>
      P1 (.mx) [x3, v6] fun v7 =>
      P1 (.bin .add) [x11, .int .i64 1] fun v8 =>
      Q .normal [x0, x1, x2, v7, x4, x5, x6, x7, x8, x9, x10, v8, x12, x13, x14, x15]) (
      P1 (.bin .add) [x11, .int .i64 1] fun v9 =>
      Q .normal [x0, x1, x2, x3, x4, x5, x6, x7, x8, x9, x10, v9, x12, x13, x14, x15])) (
    Q (.exit 4) [x0, x1, x2, x3, x4, x5, x6, x7, x8, x12])) := by kernel_rfl

def impl_NestedBoxes_r3 : L := .seq (.rg [⟨[], .idx [.sc], [.v 9, .v 2], 1⟩, ⟨[], .set [.sc] 0, [.v 9, .v 2, .v 3], 1⟩]) (.rg [⟨[], .mx, [.v 1, .v 3], 1⟩])
theorem impl_NestedBoxes_r3_sh (Q : QT) (x0 x1 x2 x3 x4 x5 x6 x7 x8 x9 : V) : shL impl_NestedBoxes_r3 Q [x0, x1, x2, x3, x4, x5, x6, x7, x8, x9] = (
  P1 (.idx [.sc]) [x9, x2] fun v0 =>
  P1 (.set [.sc] 0) [x9, x2, x3] fun v1 =>
  P1 (.mx) [x1, x3] fun v2 =>
  Q .normal [x0, x1, x2, x3, x4, x5, x6, x7, x8, x9, v0, v1, v2]) := by kernel_rfl

def impl_NestedBoxes_r4 : L := .tup [.v 0, .v 12, .v 4, .v 5, .v 6, .v 7, .v 8, .v 11]
theorem impl_NestedBoxes_r4_sh (Q : QT) (x0 x1 x2 x3 x4 x5 x6 x7 x8 x9 x10 x11 x12 : V) : shL impl_NestedBoxes_r4 Q [x0, x1, x2, x3, x4, x5, x6, x7, x8, x9, x10, x11, x12] = (
  Q .normal [x0, x12, x4, x5, x6, x7, x8, x11]) := by kernel_rfl

def impl_NestedBoxes_r5 : L := .rg [⟨[], .bin .add, [.v 6, .k (.int .i64 1)], 1⟩]
theorem impl_NestedBoxes_r5_sh (Q : QT) (x0 x1 x2 x3 x4 x5 x6 x7 : V) : shL impl_NestedBoxes_r5 Q [x0, x1, x2, x3, x4, x5, x6, x7] = (
  P1 (.bin .add) [x6, .int .i64 1] fun v0 =>
  Q .normal [x0, x1, x2, x3, x4, x5, x6, x7, v0]) := by kernel_rfl

def impl_NestedBoxes_r6 : L := .tup [.v 0, .v 1, .v 2, .v 3, .v 4, .v 5, .v 8, .v 7]
theorem impl_NestedBoxes_r6_sh (Q : QT) (x0 x1 x2 x3 x4 x5 x6 x7 x8 : V) : shL impl_NestedBoxes_r6 Q [x0, x1, x2, x3, x4, x5, x6, x7, x8] = (
  Q .normal [x0, x1, x2, x3, x4, x5, x8, x7]) := by kernel_rfl

def impl_NestedBoxes_b1 : L := .seq (.seq (.rg [⟨[], .bin .lss, [.v 6, .v 5], 1⟩]) (.seq (.ite (.v 8) (.skip) (.seq (.tup [.v 0, .v 1, .v 2, .v 3, .v 7]) (.exit 2))) (.seq (.block 3 (.seq (.seq (.rg [⟨[], .idx [.sc, .sc, .sc], [.v 4, .v 6], 3⟩]) (.seq (.rg []) (.seq (.seq (.rg [⟨[], .len, [.v 0], 1⟩]) (.block 4 (.seq (.tup [.v 0, .v 1, .v 6, .k (.int .i64 1), .v 2, .v 3, .v 4, .v 5, .v 6, .v 0, .v 12, .k (.int .i64 0), .v 7, .v 9, .v 10, .v 11]) (.loop (impl_NestedBoxes_b2))))) (impl_NestedBoxes_r3)))) (impl_NestedBoxes_r4))) (impl_NestedBoxes_r5)))) (impl_NestedBoxes_r6)
theorem impl_NestedBoxes_b1_sh (Q : QT) (x0 x1 x2 x3 x4 x5 x6 x7 : V) : shL impl_NestedBoxes_b1 Q [x0, x1, x2, x3, x4, x5, x6, x7] = (
  P1 (.bin .lss) [x6, x5] fun v0 =>
  ifB v0 (
    P3 (.idx [.sc, .sc, .sc]) [x4, x6] fun v1 v2 v3 =>
    P1 (.len) [x0] fun v4 =>
    shL (.loop impl_NestedBoxes_b2) (qB 4 (qS (shL impl_NestedBoxes_r3 (qS (shL impl_NestedBoxes_r4 (qB 3 (qS (shL impl_NestedBoxes_r5 (qS (shL impl_NestedBoxes_r6 Q) Q)) (qS (shL impl_NestedBoxes_r6 Q) Q)))) (qB 3 (qS (shL impl_NestedBoxes_r5 (qS (shL impl_NestedBoxes_r6 Q) Q)) (qS (shL impl_NestedBoxes_r6 Q) Q))))) (qS (shL impl_NestedBoxes_r4 (qB 3 (qS (shL impl_NestedBoxes_r5 (qS (shL impl_NestedBoxes_r6 Q) Q)) (qS (shL impl_NestedBoxes_r6 Q) Q)))) (qB 3 (qS (shL impl_NestedBoxes_r5 (qS (shL impl_NestedBoxes_r6 Q) Q)) (qS (shL impl_NestedBoxes_r6 Q) Q)))))) [x0, x1, x6, .int .i64 1, x2, x3, x4, x5, x6, x0, v4, .int .i64 0, x7, v1, v2, v3]) (
    Q (.exit 2) [x0, x1, x2, x3, x7])) := by kernel_rfl

def impl_NestedBoxes_r7 : L := .tup [.v 0, .v 1, .v 2, .v 3, .v 4]
theorem impl_NestedBoxes_r7_sh (Q : QT) (x0 x1 x2 x3 x4 : V) : shL impl_NestedBoxes_r7 Q [x0, x1, x2, x3, x4] = (
  Q .normal [x0, x1, x2, x3, x4]) := by kernel_rfl

def impl_NestedBoxes_r8 : L := .rg [⟨[], .bin .add, [.v 3, .k (.int .i64 1)], 1⟩]
theorem impl_NestedBoxes_r8_sh (Q : QT) (x0 x1 x2 x3 x4 : V) : shL impl_NestedBoxes_r8 Q [x0, x1, x2, x3, x4] = (
  P1 (.bin .add) [x3, .int .i64 1] fun v0 =>
  Q .normal [x0, x1, x2, x3, x4, v0]) := by kernel_rfl

def impl_NestedBoxes_r9 : L := .tup [.v 0, .v 1, .v 2, .v 5, .v 4]
theorem impl_NestedBoxes_r9_sh (Q : QT) (x0 x1 x2 x3 x4 x5 : V) : shL impl_NestedBoxes_r9 Q [x0, x1, x2, x3, x4, x5] = (
  Q .normal [x0, x1, x2, x5, x4]) := by kernel_rfl

def impl_NestedBoxes_b0 : L := .seq (.seq (.rg [⟨[], .bin .lss, [.v 3, .v 2], 1⟩]) (.seq (.ite (.v 5) (.skip) (.seq (.tup [.v 1]) (.exit 0))) (.seq (.block 1 (.seq (.seq (.rg [⟨[], .len, [.v 0], 1⟩]) (.block 2 (.seq (.tup [.v 0, .v 1, .v 2, .v 3, .v 0, .v 6, .k (.int .i64 0), .v 4]) (.loop (impl_NestedBoxes_b1))))) (impl_NestedBoxes_r7))) (impl_NestedBoxes_r8)))) (impl_NestedBoxes_r9)
theorem impl_NestedBoxes_b0_sh (Q : QT) (x0 x1 x2 x3 x4 : V) : shL impl_NestedBoxes_b0 Q [x0, x1, x2, x3, x4] = (
  P1 (.bin .lss) [x3, x2] fun v0 =>
  ifB v0 (
    P1 (.len) [x0] fun v1 =>
    shL (.loop impl_NestedBoxes_b1) (qB 2 (qS (shL impl_NestedBoxes_r7 (qB 1 (qS (shL impl_NestedBoxes_r8 (qS (shL impl_NestedBoxes_r9 Q) Q)) (qS (shL impl_NestedBoxes_r9 Q) Q)))) (qB 1 (qS (shL impl_NestedBoxes_r8 (qS (shL impl_NestedBoxes_r9 Q) Q)) (qS (shL impl_NestedBoxes_r9 Q) Q))))) [x0, x1, x2, x3, x0, v1, .int .i64 0, x4]) (
    Q (.exit 0) [x1])) := by kernel_rfl

def impl_NestedBoxes_r10 : L := .seq (.rg []) (.ret [.v 0])
theorem impl_NestedBoxes_r10_sh (Q : QT) (x0 : V) : shL impl_NestedBoxes_r10 Q [x0] = (
  Q .ret [x0]) := by kernel_rfl

def impl_NestedBoxes_L : L := .seq (.rg []) (.seq (.seq (.rg [⟨[], .call F_areBoxes 0 1, [.v 0, .k (.int .i64 12)], 1⟩, ⟨[], .un .not, [.v 1], 1⟩]) (.ite (.v 2) (.seq (.rg []) (.ret [.k (.int .i64 (-1))])) (.skip))) (.seq (.rg [⟨[], .len, [.v 0], 1⟩, ⟨[], .mk [.sc] (.int .i64 0) 8, [.v 3, .v 3], 1⟩]) (.seq (.rg []) (.seq (.seq (.rg [⟨[], .len, [.v 0], 1⟩]) (.block 0 (.seq (.tup [.v 0, .k (.int .i64 0), .v 5, .k (.int .i64 0), .v 4]) (.loop (impl_NestedBoxes_b0))))) (impl_NestedBoxes_r10)))))
theorem impl_NestedBoxes_L_sh (Q : QT) (x0 : V) : shL impl_NestedBoxes_L Q [x0] = (
  P1 (.call F_areBoxes 0 1) [x0, .int .i64 12] fun v0 =>
  P1 (.un .not) [v0] fun v1 =>
  ifB v1 (
    Q .ret [.int .i64 (-1)]) (
    P1 (.len) [x0] fun v2 =>
    P1 (.mk [.sc] (.int .i64 0) 8) [v2, v2] fun v3 =>
    P1 (.len) [x0] fun v4 =>
    shL (.loop impl_NestedBoxes_b0) (qB 0 (qS (shL impl_NestedBoxes_r10 Q) Q)) [x0, .int .i64 0, v4, .int .i64 0, v3])) := by kernel_rfl
def impl_NestedBoxes_S : Sig := ⟨[.val false [.sl [.sc, .sc, .sc]]], [(false, [.sc])], F_NestedBoxes⟩
def impl_NestedBoxes_hs : List NF := [⟨[(4, .sc false [.sc])], [], [], 64⟩, ⟨[(0, .sc false [.ro [.sc, .sc, .sc]]), (3, .sc false [.own 64]), (4, .sc false [.sc]), (17, .sc false [.sc]), (18, .sc false [.sc])], [(64, true, [.sc])], [], 65⟩, ⟨[(0, .sc false [.ro [.sc, .sc, .sc]]), (3, .sc false [.own 64]), (4, .sc false [.sc]), (17, .sc false [.sc]), (18, .sc false [.sc])], [(64, true, [.sc])], [], 65⟩, ⟨[(0, .sc false [.ro [.sc, .sc, .sc]]), (3, .sc false [.own 64]), (4, .sc false [.sc]), (17, .sc false [.sc]), (18, .sc false [.sc])], [(64, true, [.sc])], [], 65⟩, ⟨[(0, .sc false [.ro [.sc, .sc, .sc]]), (3, .sc false [.own 64]), (4, .sc false [.sc]), (17, .sc false [.sc]), (18, .sc false [.sc]), (20, .sc false [.ro [.sc, .sc, .sc]]), (21, .sc false [.sc]), (22, .sc false [.sc])], [(64, true, [.sc])], [], 65⟩, ⟨[(0, .sc false [.ro [.sc, .sc, .sc]]), (3, .sc false [.own 64]), (4, .sc false [.sc]), (17, .sc false [.sc]), (18, .sc false [.sc]), (20, .sc false [.ro [.sc, .sc, .sc]]), (21, .sc false [.sc]), (22, .sc false [.sc])], [(64, true, [.sc])], [], 65⟩, ⟨[(0, .sc false [.ro [.sc, .sc, .sc]]), (3, .sc false [.own 64]), (4, .sc false [.sc]), (5, .sc false [.sc]), (7, .sc false [.sc]), (17, .sc false [.sc]), (18, .sc false [.sc]), (20, .sc false [.ro [.sc, .sc, .sc]]), (21, .sc false [.sc]), (22, .sc false [.sc])], [(64, true, [.sc])], [], 65⟩, ⟨[(0, .sc false [.ro [.sc, .sc, .sc]]), (3, .sc false [.own 64]), (4, .sc false [.sc]), (5, .sc false [.sc]), (6, .ptr 65 0), (7, .sc false [.sc]), (17, .sc false [.sc]), (18, .sc false [.sc]), (20, .sc false [.ro [.sc, .sc, .sc]]), (21, .sc false [.sc]), (22, .sc false [.sc]), (27, .sc false [.ro [.sc, .sc, .sc]]), (28, .sc false [.sc]), (29, .sc false [.sc])], [(64, true, [.sc])], [(65, [.sc, .sc, .sc])], 66⟩, ⟨[(0, .sc false [.ro [.sc, .sc, .sc]]), (3, .sc false [.own 64]), (4, .sc false [.sc]), (5, .sc false [.sc]), (6, .ptr 65 0), (7, .sc false [.sc]), (17, .sc false [.sc]), (18, .sc false [.sc]), (20, .sc false [.ro [.sc, .sc, .sc]]), (21, .sc false [.sc]), (22, .sc false [.sc]), (27, .sc false [.ro [.sc, .sc, .sc]]), (28, .sc false [.sc]), (29, .sc false [.sc])], [(64, true, [.sc])], [(65, [.sc, .sc, .sc])], 66⟩, ⟨[(0, .sc false [.ro [.sc, .sc, .sc]]), (3, .sc false [.own 64]), (4, .sc false [.sc]), (5, .sc false [.sc]), (6, .ptr 65 0), (7, .sc false [.sc]), (17, .sc false [.sc]), (18, .sc false [.sc]), (20, .sc false [.ro [.sc, .sc, .sc]]), (21, .sc false [.sc]), (22, .sc false [.sc]), (27, .sc false [.ro [.sc, .sc, .sc]]), (28, .sc false [.sc]), (29, .sc false [.sc])], [(64, true, [.sc])], [(65, [.sc, .sc, .sc])], 66⟩]

end
end Go.Mw

/- Nested boxes: the program's way. -/
namespace Go.Mw
theorem rowTo_succ {l : List T3} {s : List Int × Int} {i : Nat} (h : i < l.length) : rowTo l s (i + 1) = ((rowTo l s i).1.set i (inBest l (rowTo l s i).1 l[i] l.length), max (rowTo l s i).2 (inBest l (rowTo l s i).1 l[i] l.length)) := by
  simp [rowTo, List.getElem?_eq_getElem h]
theorem inBest_succ {l : List T3} {d : List Int} {x : T3} {j : Nat} (h : j < l.length) (h2 : j < d.length) : inBest l d x (j + 1) = if inside l[j] x then max (inBest l d x j) (d[j] + 1) else inBest l d x j := by
  simp [inBest, List.getElem?_eq_getElem h, List.getElem?_eq_getElem h2]
theorem impl_NestedBoxes_ok : ∀ ds outs, F_NestedBoxes ds = some outs → shL impl_NestedBoxes_L (qRet outs) ds := F_NestedBoxes_elim fun l hp => by
  rw [impl_NestedBoxes_L_sh, p_areBoxes hp]
  cases h : areBoxes l 12 with
  | false => simp [nested, h]
  | true =>
  have hn : l.length ≤ 12 := by
    have h := h
    simp only [areBoxes, Bool.and_eq_true, decide_eq_true_eq] at h; omega
  simp
  refine ⟨by omega, ?_⟩
  refine loop_upto l.length (fun r => [vL I3 v3 l, .int .i64 (dpTo l r).2, .int .i64 l.length, .int .i64 r, vL I1 v1 (dpTo l r).1]) (by intro i j _ _ h; simp at h; omega) (fun _ => True) (by simp [dpTo]) trivial ?_
  intro r hr _
  rw [impl_NestedBoxes_b0_sh]
  simp only [P1_lss, P1_len, ifB_bool, decide_eq_true_eq, decide_eq_false_iff_not]
  refine ⟨fun h1 => ?_, fun h1 => ?_⟩
  · have hr2 : r < l.length := by omega
    refine loop_upto l.length (fun i => [vL I3 v3 l, .int .i64 (rowTo l (dpTo l r) i).2, .int .i64 l.length, .int .i64 r, vL I3 v3 l, .int .i64 l.length, .int .i64 i, vL I1 v1 (rowTo l (dpTo l r) i).1]) (by intro i j _ _ h; simp at h; omega) (fun _ => True) (by simp [rowTo]) trivial ?_
    intro i hi _
    have hT := (Dp.all (l := l) r).row i hi
    have hT2 := fun (hi2 : i < l.length) => rowTo_succ (s := dpTo l r) hi2
    generalize ht : rowTo l (dpTo l r) i = t at *
    rw [impl_NestedBoxes_b1_sh]
    simp only [P1_lss, P1_len, ifB_bool, decide_eq_true_eq, decide_eq_false_iff_not]
    refine ⟨fun h2 => ?_, fun h2 => ?_⟩
    · have hi2 : i < l.length := by omega
      have e2 : (i : Int).toNat = i := by omega
      simp only [P3_idxI, e2, List.getElem?_eq_getElem hi2, Option.some.injEq, exists_eq_left']
      refine ⟨by omega, ?_⟩
      refine loop_upto l.length (fun j => [vL I3 v3 l, .int .i64 t.2, .int .i64 i, .int .i64 (inBest l t.1 l[i] j), .int .i64 l.length, .int .i64 r, vL I3 v3 l, .int .i64 l.length, .int .i64 i, vL I3 v3 l, .int .i64 l.length, .int .i64 j, vL I1 v1 t.1, .int .i64 l[i].a, .int .i64 l[i].b, .int .i64 l[i].c]) (by intro i j _ _ h; simp at h; omega) (fun _ => True) (by simp [inBest]) trivial ?_
      intro j hj _
      rw [impl_NestedBoxes_b2_sh]
      simp only [P1_lss, ifB_bool, decide_eq_true_eq, decide_eq_false_iff_not]
      refine ⟨fun h3 => ?_, fun h3 => ?_⟩
      · have hj2 : j < l.length := by omega
        have hj3 : j < t.1.length := by rw [hT.len]; exact hj2
        have hv := hT.hi j hj2 hj3
        have hv2 := dep_le l l.length l[j]
        have hv3 := hT.lo j hj2 hj3
        have hv4 := dep_le l r l[j]
        unfold D at hv
        have w1 : IntKind.i64.wrap (t.1[j] + 1) = t.1[j] + 1 := wrap_id (by omega) (by omega)
        have w2 : IntKind.i64.wrap ((j : Int) + 1) = (j : Int) + 1 := wrap_id (by omega) (by omega)
        cases hin : inside l[j] l[i] <;> simp [hj2, hj3, hin, w1, w2, inBest_succ hj2 hj3]
      · obtain rfl : j = l.length := by omega
        have hi3 : i < t.1.length := by rw [hT.len]; exact hi2
        have w2 : IntKind.i64.wrap ((i : Int) + 1) = (i : Int) + 1 := wrap_id (by omega) (by omega)
        simp [impl_NestedBoxes_r3_sh, impl_NestedBoxes_r4_sh, impl_NestedBoxes_r5_sh, impl_NestedBoxes_r6_sh, hi3, w2, hi2, hT2 hi2]
    · obtain rfl : i = l.length := by omega
      have w2 : IntKind.i64.wrap ((r : Int) + 1) = (r : Int) + 1 := wrap_id (by omega) (by omega)
      simp [impl_NestedBoxes_r7_sh, impl_NestedBoxes_r8_sh, impl_NestedBoxes_r9_sh, w2, hr2, dpTo]
      rw [ht]; exact ⟨rfl, rfl⟩
  · obtain rfl : r = l.length := by omega
    simp [impl_NestedBoxes_r10_sh, nested, h]
end Go.Mw

/- Drawn boxes; what fits. -/
namespace Go.Mw
@[simp] theorem boxEnd_b (x : Cur) : (boxEnd x).b = x.b := by simp [boxEnd]
/-! what fits -/
theorem sorted_eq {x : T3} (h : boxOk x = true) : sortedBox x = ⟨max (max x.a x.b) x.c, x.a + x.b + x.c - max (max x.a x.b) x.c - min (min x.a x.b) x.c, min (min x.a x.b) x.c⟩ := by simp [sortedBox, h]
end Go.Mw

/- The law on lids. -/
namespace Go.Mw
theorem maxIn_snoc (f : T3 → Int) (t : T3) : ∀ l : List T3, maxIn f (l ++ [t]) = max (maxIn f l) (max (f t) 0)
  | [] => by simp only [List.nil_append, maxIn]; omega
  | a :: r => by simp only [List.cons_append, maxIn, maxIn_snoc f t r]; omega
theorem maxIn_congr {f g : T3 → Int} : ∀ {l : List T3}, (∀ y ∈ l, f y = g y) → maxIn f l = maxIn g l
  | [], _ => rfl
  | a :: r, h => by
    have h1 := h a (by simp)
    have h2 := maxIn_congr (l := r) (fun y hy => h y (by simp [hy]))
    simp only [maxIn, h1, h2]
theorem dep_snoc (l : List T3) (t : T3) : ∀ k y, inside t y = false → dep (l ++ [t]) k y = dep l k y
  | 0, _, _ => rfl
  | k + 1, y, h => by
    simp only [dep, maxIn_snoc, h, Bool.false_eq_true, if_false]
    have e : maxIn (fun z => if inside z y then dep (l ++ [t]) k z else 0) l = maxIn (fun z => if inside z y then dep l k z else 0) l := maxIn_congr fun z _ => by
      cases hz : inside z y with
      | false => simp
      | true =>
        have hz2 : inside t z = false := by
          cases hh : inside t z with
          | false => rfl
          | true => rw [inside_trans hh hz] at h; exact h
        simp [dep_snoc l t k z hz2]
    have := maxIn_nonneg (f := fun z => if inside z y then dep l k z else 0) (l := l)
    rw [e]; omega
theorem D_snoc {l : List T3} {t : T3} (h1 : ∀ y ∈ l, inside y t = true) : maxIn (D (l ++ [t])) (l ++ [t]) = maxIn (D l) l + 1 := by
  have h2 : ∀ y ∈ l, inside t y = false := fun y hy => by
    cases hh : inside t y with
    | false => rfl
    | true => have := inside_trans hh (h1 y hy); rw [inside_irrefl] at this; cases this
  have e1 : ∀ y ∈ l, D (l ++ [t]) y = D l y := fun y hy => by
    have g1 := dep_stable l l.length y (count_len hy)
    have g2 := dep_mono l l.length y
    unfold D
    rw [List.length_append, List.length_singleton, dep_snoc l t _ y (h2 y hy)]
    omega
  have e2 : D (l ++ [t]) t = 1 + maxIn (D l) l := by
    rw [D_eq (List.mem_append_right l (List.mem_singleton.2 rfl)), maxIn_snoc, inside_irrefl]
    have : maxIn (fun y => if inside y t then D (l ++ [t]) y else 0) l = maxIn (D l) l := maxIn_congr fun y hy => by simp [h1 y hy, e1 y hy]
    have h0 := maxIn_nonneg (f := D l) (l := l)
    rw [this]; simp; omega
  have h0 := maxIn_nonneg (f := D l) (l := l)
  rw [maxIn_snoc, e2, maxIn_congr e1]; omega
/-- Drawn boxes: few and small. -/
structure Small3 (l : List T3) : Prop where
  len : l.length ≤ 6
  ok : ∀ d ∈ l, (1 ≤ d.a ∧ d.a ≤ 20) ∧ (1 ≤ d.b ∧ d.b ≤ 20) ∧ (1 ≤ d.c ∧ d.c ≤ 20)
theorem Small3.box {l : List T3} (h : Small3 l) {d : T3} (hd : d ∈ l) : boxOk d = true := by
  have := h.ok d hd
  rw [boxOk_iff]; omega
theorem Small3.are {l : List T3} (h : Small3 l) (n : Int) (hn : 6 ≤ n) : areBoxes l n = true := by
  have := h.len
  simp only [areBoxes, Bool.and_eq_true, decide_eq_true_eq, List.all_eq_true]
  exact ⟨by omega, fun d hd => h.box hd⟩
theorem big_ok : boxOk ⟨50, 50, 50⟩ = true := by decide
theorem Small3.inside {l : List T3} (h : Small3 l) {d : T3} (hd : d ∈ l) : inside d ⟨50, 50, 50⟩ = true := by
  have h1 := h.ok d hd
  have e2 : sortedBox ⟨50, 50, 50⟩ = ⟨50, 50, 50⟩ := by decide
  simp only [Go.Mw.inside, sorted_eq (h.box hd), e2, Bool.and_eq_true, decide_eq_true_eq]
  omega
theorem Small3.nested {l : List T3} (h : Small3 l) : nested (l ++ [⟨50, 50, 50⟩]) = nested l + 1 := by
  have h1 : areBoxes (l ++ [⟨50, 50, 50⟩]) 12 = true := by
    have := h.len
    simp only [areBoxes, Bool.and_eq_true, decide_eq_true_eq, List.all_eq_true]
    refine ⟨by simp; omega, fun d hd => ?_⟩
    simp only [List.mem_append, List.mem_singleton] at hd
    rcases hd with hd | rfl
    · exact h.box hd
    · exact big_ok
  rw [nested_eq h1, nested_eq (h.are 12 (by omega))]
  exact D_snoc fun y hy => h.inside hy
end Go.Mw

/- What functions compute, in plain terms: nested boxes, the recursion. -/
namespace Go.Mw
def boxAt (l : List T3) (k : Int) : T3 := (l[k.toNat]?).getD ⟨0, 0, 0⟩
def E_l34Depth : List T3 × Int → List V := fun (l, k) => [vL I3 v3 l, .int .i64 k]
noncomputable def F_l34Depth : List V → Option (List V) := mkF E_l34Depth (fun (l, k) => l.length ≤ 12 ∧ 0 ≤ k ∧ k < l.length) (fun (l, k) => [.int .i64 (D l (boxAt l k))])
theorem F_l34Depth_inj : ∀ x y, E_l34Depth x = E_l34Depth y → x = y := by
  rintro ⟨l, k⟩ ⟨l', k'⟩ h
  simpa [E_l34Depth] using h
theorem p_l34Depth {l : List T3} {k : Int} {nr_ : Nat} {kk_ : V → Prop} (hp : l.length ≤ 12 ∧ 0 ≤ k ∧ k < l.length) : P1 (.call F_l34Depth 0 nr_) [vL I3 v3 l, .int .i64 k] kk_ ↔ kk_ (.int .i64 (D l (boxAt l k))) :=
  P1_callF (by unfold F_l34Depth; exact mkF_eq F_l34Depth_inj (l, k) hp)

noncomputable def F_l34DepthN (n : Nat) : List V → Option (List V) := mkF E_l34Depth (fun (l, k) => (l.length ≤ 12 ∧ 0 ≤ k ∧ k < l.length) ∧ l.countP (inside · (boxAt l k)) < n) (fun (l, k) => [.int .i64 (D l (boxAt l k))])
def E_FnExactNestedBoxes (l : List T3) : List V := [vL I3 v3 l]
noncomputable def F_FnExactNestedBoxes : List V → Option (List V) := mkF E_FnExactNestedBoxes (fun l => wfL3 l) (fun _ => [.bool true])
theorem F_FnExactNestedBoxes_inj : ∀ x y, E_FnExactNestedBoxes x = E_FnExactNestedBoxes y → x = y := by
  rintro l l' h
  simpa [E_FnExactNestedBoxes] using h
theorem F_FnExactNestedBoxes_elim {P : List V → List V → Prop} (h : ∀ (l : List T3), (wfL3 l) → P [vL I3 v3 l] [.bool true]) : ∀ ds outs, F_FnExactNestedBoxes ds = some outs → P ds outs := by
  intro ds outs hh
  obtain ⟨l, rfl, hp, rfl⟩ := mkF_inv hh
  exact h l hp
theorem F_FnExactNestedBoxes_law : ∀ ds, okTKs [.list true [.int .i64, .int .i64, .int .i64]] ds → F_FnExactNestedBoxes ds = some [.bool true] := by
  intro ds g0
  obtain ⟨_, _, rfl, h0, g1⟩ := okTKs_cons g0
  obtain ⟨l, rfl, r0⟩ := dec_L3 h0
  obtain rfl := okTKs_nil g1
  exact mkF_eq F_FnExactNestedBoxes_inj (l) r0


theorem contract_fuel {P : Program} {f : FuncId} {ps : List PK} {rs : List (Bool × List AK)} {F : List V → Option (List V)} {FN : Nat → List V → Option (List V)} (h0 : ∀ ds, FN 0 ds = none) (hF : ∀ ds outs, F ds = some outs → ∃ n, FN n ds = some outs)
    (step : ∀ n, Contract P f ⟨ps, rs, FN n⟩ → Contract P f ⟨ps, rs, FN (n + 1)⟩) : Contract P f ⟨ps, rs, F⟩ := by
  have all : ∀ n, Contract P f ⟨ps, rs, FN n⟩ := by
    intro n
    induction n with
    | zero =>
      refine ⟨fun w vals ds outs ro rows boxes tk hF' => ?_, fun ks ps' _ w vals ds outs ro hF' => ?_⟩
      · change FN 0 ds = some outs at hF'
        rw [h0] at hF'; cases hF'
      · change FN 0 ds = some outs at hF'
        rw [h0] at hF'; cases hF'
    | succ n ih => exact step n ih
  refine ⟨fun w vals ds outs ro rows boxes tk hF' hA hn hr => ?_, fun ks ps' hp w vals ds outs ro hF' hA => ?_⟩
  · obtain ⟨n, h⟩ := hF ds outs hF'
    exact ((all n).1 w vals ds outs ro rows boxes tk h hA hn hr).mono fun e w' h => ⟨h.out, h.mv⟩
  · obtain ⟨n, h⟩ := hF ds outs hF'
    exact (all n).2 ks ps' hp w vals ds outs ro h hA
end Go.Mw

/- Functions of the program, as small pure programs (printed by a program of ours). -/
namespace Go.Mw
noncomputable section
def spec_l34Depth_b0 (n_ : Nat) : L := .seq (.seq (.seq (.rg [⟨[], .len, [.v 0], 1⟩, ⟨[], .bin .lss, [.v 3, .v 4], 1⟩]) (.ite (.v 5) (.skip) (.seq (.tup [.v 2]) (.exit 0)))) (.seq (.block 1 (.seq (.seq (.rg [⟨[], .idx [.sc, .sc, .sc], [.v 0, .v 3], 3⟩, ⟨[], .call F_SortedBox 0 3, [.v 6, .v 7, .v 8], 3⟩]) (.seq (.rg [⟨[], .idx [.sc, .sc, .sc], [.v 0, .v 1], 3⟩, ⟨[], .call F_SortedBox 0 3, [.v 12, .v 13, .v 14], 3⟩]) (.seq (.rg [⟨[], .bin .lss, [.v 9, .v 15], 1⟩, ⟨[(.v 18, true)], .bin .lss, [.v 10, .v 16], 1⟩, ⟨[], .pick, [.v 18, .v 19, .k (.bool false)], 1⟩, ⟨[(.v 20, true)], .bin .lss, [.v 11, .v 17], 1⟩, ⟨[], .pick, [.v 20, .v 21, .k (.bool false)], 1⟩]) (.ite (.v 22) (.seq (.rg [⟨[], .call (F_l34DepthN n_) 0 1, [.v 0, .v 3], 1⟩, ⟨[], .mx, [.v 2, .v 23], 1⟩]) (.tup [.v 0, .v 1, .v 24, .v 3])) (.seq (.skip) (.tup [.v 0, .v 1, .v 2, .v 3])))))) (.tup [.v 0, .v 1, .v 2, .v 3]))) (.rg [⟨[], .bin .add, [.v 3, .k (.int .i64 1)], 1⟩]))) (.tup [.v 0, .v 1, .v 2, .v 4])
theorem spec_l34Depth_b0_sh (n_ : Nat) (Q : QT) (x0 x1 x2 x3 : V) : shL (spec_l34Depth_b0 n_) Q [x0, x1, x2, x3] = (
  P1 (.len) [x0] fun v0 =>
  P1 (.bin .lss) [x3, v0] fun v1 =>
  ifB v1 (
    P3 (.idx [.sc, .sc, .sc]) [x0, x3] fun v2 v3 v4 =>
    P3 (.call F_SortedBox 0 3) [v2, v3, v4] fun v5 v6 v7 =>
    P3 (.idx [.sc, .sc, .sc]) [x0, x1] fun v8 v9 v10 =>
    P3 (.call F_SortedBox 0 3) [v8, v9, v10] fun v11 v12 v13 =>
    P1 (.bin .lss) [v5, v11] fun v14 =>
    ifB v14 (
      P1 (.bin .lss) [v6, v12] fun v15 =>
      ifB v15 (
        P1 (.bin .lss) [v7, v13] fun v16 =>
        ifB v16 (
          P1 (.call (F_l34DepthN n_) 0 1) [x0, x3] fun v17 =>
          P1 (.mx) [x2, v17] fun v18 =>
          P1 (.bin .add) [x3, .int .i64 1] fun v19 =>
          Q .normal [x0, x1, v18, v19]) (
          P1 (.bin .add) [x3, .int .i64 1] fun v20 =>
          Q .normal [x0, x1, x2, v20])) (
        P1 (.bin .add) [x3, .int .i64 1] fun v21 =>
        Q .normal [x0, x1, x2, v21])) (
      P1 (.bin .add) [x3, .int .i64 1] fun v22 =>
      Q .normal [x0, x1, x2, v22])) (
    Q (.exit 0) [x2])) := by kernel_rfl

def spec_l34Depth_r1 (n_ : Nat) : L := .seq (.rg [⟨[], .bin .add, [.v 0, .k (.int .i64 1)], 1⟩]) (.ret [.v 1])
theorem spec_l34Depth_r1_sh (n_ : Nat) (Q : QT) (x0 : V) : shL (spec_l34Depth_r1 n_) Q [x0] = (
  P1 (.bin .add) [x0, .int .i64 1] fun v0 =>
  Q .ret [v0]) := by kernel_rfl

def spec_l34Depth_L (n_ : Nat) : L := .seq (.rg []) (.seq (.rg []) (.seq (.seq (.rg []) (.block 0 (.seq (.tup [.v 0, .v 1, .k (.int .i64 0), .k (.int .i64 0)]) (.loop ((spec_l34Depth_b0 n_)))))) ((spec_l34Depth_r1 n_))))
theorem spec_l34Depth_L_sh (n_ : Nat) (Q : QT) (x0 x1 : V) : shL (spec_l34Depth_L n_) Q [x0, x1] = (
  shL (.loop (spec_l34Depth_b0 n_)) (qB 0 (qS (shL (spec_l34Depth_r1 n_) Q) Q)) [x0, x1, .int .i64 0, .int .i64 0]) := by kernel_rfl
def spec_l34Depth_S (n_ : Nat) : Sig := ⟨[.val false [.sl [.sc, .sc, .sc]], .val false [.sc]], [(false, [.sc])], (F_l34DepthN n_)⟩
def spec_l34Depth_hs : List NF := [⟨[(5, .sc false [.sc])], [], [], 64⟩, ⟨[(0, .sc false [.ro [.sc, .sc, .sc]]), (1, .sc false [.sc]), (5, .sc false [.sc]), (6, .sc false [.sc])], [], [], 64⟩, ⟨[(0, .sc false [.ro [.sc, .sc, .sc]]), (1, .sc false [.sc]), (5, .sc false [.sc]), (6, .sc false [.sc])], [], [], 64⟩, ⟨[(0, .sc false [.ro [.sc, .sc, .sc]]), (1, .sc false [.sc]), (5, .sc false [.sc]), (6, .sc false [.sc])], [], [], 64⟩]

def spec_NestedBoxes_b0 : L := .seq (.seq (.seq (.rg [⟨[], .len, [.v 0], 1⟩, ⟨[], .bin .lss, [.v 2, .v 3], 1⟩]) (.ite (.v 4) (.skip) (.seq (.tup [.v 0, .v 1]) (.exit 0)))) (.seq (.block 1 (.seq (.seq (.rg [⟨[], .idx [.sc, .sc, .sc], [.v 0, .v 2], 3⟩, ⟨[], .call F_BoxOk 0 1, [.v 5, .v 6, .v 7], 1⟩, ⟨[], .un .not, [.v 8], 1⟩]) (.ite (.v 9) (.seq (.rg []) (.ret [.k (.int .i64 (-1))])) (.skip))) (.tup [.v 0, .v 1, .v 2]))) (.rg [⟨[], .bin .add, [.v 2, .k (.int .i64 1)], 1⟩]))) (.tup [.v 0, .v 1, .v 3])
theorem spec_NestedBoxes_b0_sh (Q : QT) (x0 x1 x2 : V) : shL spec_NestedBoxes_b0 Q [x0, x1, x2] = (
  P1 (.len) [x0] fun v0 =>
  P1 (.bin .lss) [x2, v0] fun v1 =>
  ifB v1 (
    P3 (.idx [.sc, .sc, .sc]) [x0, x2] fun v2 v3 v4 =>
    P1 (.call F_BoxOk 0 1) [v2, v3, v4] fun v5 =>
    P1 (.un .not) [v5] fun v6 =>
    ifB v6 (
      Q .ret [.int .i64 (-1)]) (
      P1 (.bin .add) [x2, .int .i64 1] fun v7 =>
      Q .normal [x0, x1, v7])) (
    Q (.exit 0) [x0, x1])) := by kernel_rfl

def spec_NestedBoxes_b2 : L := .seq (.seq (.seq (.rg [⟨[], .len, [.v 0], 1⟩, ⟨[], .bin .lss, [.v 2, .v 3], 1⟩]) (.ite (.v 4) (.skip) (.seq (.tup [.v 1]) (.exit 2)))) (.seq (.block 3 (.seq (.rg [⟨[], .call F_l34Depth 0 1, [.v 0, .v 2], 1⟩, ⟨[], .mx, [.v 1, .v 5], 1⟩]) (.tup [.v 0, .v 6, .v 2]))) (.rg [⟨[], .bin .add, [.v 2, .k (.int .i64 1)], 1⟩]))) (.tup [.v 0, .v 1, .v 3])
theorem spec_NestedBoxes_b2_sh (Q : QT) (x0 x1 x2 : V) : shL spec_NestedBoxes_b2 Q [x0, x1, x2] = (
  P1 (.len) [x0] fun v0 =>
  P1 (.bin .lss) [x2, v0] fun v1 =>
  ifB v1 (
    P1 (.call F_l34Depth 0 1) [x0, x2] fun v2 =>
    P1 (.mx) [x1, v2] fun v3 =>
    P1 (.bin .add) [x2, .int .i64 1] fun v4 =>
    Q .normal [x0, v3, v4]) (
    Q (.exit 2) [x1])) := by kernel_rfl

def spec_NestedBoxes_r3 : L := .seq (.rg []) (.ret [.v 0])
theorem spec_NestedBoxes_r3_sh (Q : QT) (x0 : V) : shL spec_NestedBoxes_r3 Q [x0] = (
  Q .ret [x0]) := by kernel_rfl

def spec_NestedBoxes_r1 : L := .seq (.seq (.rg []) (.block 2 (.seq (.tup [.v 0, .v 1, .k (.int .i64 0)]) (.loop (spec_NestedBoxes_b2))))) (spec_NestedBoxes_r3)
theorem spec_NestedBoxes_r1_sh (Q : QT) (x0 x1 : V) : shL spec_NestedBoxes_r1 Q [x0, x1] = (
  shL (.loop spec_NestedBoxes_b2) (qB 2 (qS (shL spec_NestedBoxes_r3 Q) Q)) [x0, x1, .int .i64 0]) := by kernel_rfl

def spec_NestedBoxes_L : L := .seq (.rg []) (.seq (.seq (.rg [⟨[], .len, [.v 0], 1⟩, ⟨[], .bin .gtr, [.v 1, .k (.int .i64 12)], 1⟩]) (.ite (.v 2) (.seq (.rg []) (.ret [.k (.int .i64 (-1))])) (.skip))) (.seq (.rg []) (.seq (.seq (.rg []) (.block 0 (.seq (.tup [.v 0, .k (.int .i64 0), .k (.int .i64 0)]) (.loop (spec_NestedBoxes_b0))))) (spec_NestedBoxes_r1))))
theorem spec_NestedBoxes_L_sh (Q : QT) (x0 : V) : shL spec_NestedBoxes_L Q [x0] = (
  P1 (.len) [x0] fun v0 =>
  P1 (.bin .gtr) [v0, .int .i64 12] fun v1 =>
  ifB v1 (
    Q .ret [.int .i64 (-1)]) (
    shL (.loop spec_NestedBoxes_b0) (qB 0 (qS (shL spec_NestedBoxes_r1 Q) Q)) [x0, .int .i64 0, .int .i64 0])) := by kernel_rfl
def spec_NestedBoxes_S : Sig := ⟨[.val false [.sl [.sc, .sc, .sc]]], [(false, [.sc])], F_NestedBoxes⟩
def spec_NestedBoxes_hs : List NF := [⟨[(0, .sc false [.ro [.sc, .sc, .sc]]), (3, .sc false [.sc])], [], [], 64⟩, ⟨[(0, .sc false [.ro [.sc, .sc, .sc]]), (3, .sc false [.sc]), (4, .sc false [.sc])], [], [], 64⟩, ⟨[(0, .sc false [.ro [.sc, .sc, .sc]]), (3, .sc false [.sc]), (4, .sc false [.sc])], [], [], 64⟩, ⟨[(3, .sc false [.sc])], [], [], 64⟩, ⟨[(0, .sc false [.ro [.sc, .sc, .sc]]), (3, .sc false [.sc]), (5, .sc false [.sc])], [], [], 64⟩, ⟨[(0, .sc false [.ro [.sc, .sc, .sc]]), (3, .sc false [.sc]), (5, .sc false [.sc])], [], [], 64⟩]

def laws_FnExactNestedBoxes_L : L := .seq (.rg []) (.seq (.rg []) (.seq (.rg [⟨[], .call F_szBoxS 0 1, [.v 0, .k (.int .i64 1048576)], 1⟩]) (.seq (.seq (.rg [⟨[], .bin .lss, [.v 1, .k (.int .i64 0)], 1⟩]) (.ite (.v 2) (.seq (.rg []) (.ret [.k (.bool true)])) (.skip))) (.seq (.rg [⟨[], .call F_toBoxS 0 1, [.v 0], 1⟩, ⟨[], .call F_NestedBoxes 0 1, [.v 3], 1⟩]) (.seq (.rg [⟨[], .call F_toBoxS 0 1, [.v 0], 1⟩]) (.seq (.rg [⟨[], .call F_NestedBoxes 0 1, [.v 5], 1⟩]) (.seq (.seq (.rg [⟨[], .bin .neq, [.v 6, .v 4], 1⟩]) (.ite (.v 7) (.seq (.rg []) (.ret [.k (.bool false)])) (.skip))) (.seq (.seq (.rg [⟨[], .call F_toBoxS 0 1, [.v 0], 1⟩, ⟨[], .call F_eqBoxS 0 1, [.v 5, .v 8], 1⟩, ⟨[], .un .not, [.v 9], 1⟩]) (.ite (.v 10) (.seq (.rg []) (.ret [.k (.bool false)])) (.skip))) (.seq (.rg []) (.ret [.k (.bool true)]))))))))))
theorem laws_FnExactNestedBoxes_L_sh (Q : QT) (x0 : V) : shL laws_FnExactNestedBoxes_L Q [x0] = (
  P1 (.call F_szBoxS 0 1) [x0, .int .i64 1048576] fun v0 =>
  P1 (.bin .lss) [v0, .int .i64 0] fun v1 =>
  ifB v1 (
    Q .ret [.bool true]) (
    P1 (.call F_toBoxS 0 1) [x0] fun v2 =>
    P1 (.call F_NestedBoxes 0 1) [v2] fun v3 =>
    P1 (.call F_toBoxS 0 1) [x0] fun v4 =>
    P1 (.call F_NestedBoxes 0 1) [v4] fun v5 =>
    P1 (.bin .neq) [v5, v3] fun v6 =>
    ifB v6 (
      Q .ret [.bool false]) (
      P1 (.call F_toBoxS 0 1) [x0] fun v7 =>
      P1 (.call F_eqBoxS 0 1) [v4, v7] fun v8 =>
      P1 (.un .not) [v8] fun v9 =>
      ifB v9 (
        Q .ret [.bool false]) (
        Q .ret [.bool true])))) := by kernel_rfl
def laws_FnExactNestedBoxes_S : Sig := ⟨[.val false [.sl [.sc, .sc, .sc]]], [(false, [.sc])], F_FnExactNestedBoxes⟩
def laws_FnExactNestedBoxes_hs : List NF := []

end
end Go.Mw

/- Nested boxes: the reference's way; the law. -/
namespace Go.Mw
theorem p_l34DepthN {l : List T3} {k : Int} {n m : Nat} {kk : V → Prop} (hp : (l.length ≤ 12 ∧ 0 ≤ k ∧ k < l.length) ∧ l.countP (inside · (boxAt l k)) < n) : P1 (.call (F_l34DepthN n) 0 m) [vL I3 v3 l, .int .i64 k] kk ↔ kk (.int .i64 (D l (boxAt l k))) :=
  P1_callF (by unfold F_l34DepthN; exact mkF_eq F_l34Depth_inj (l, k) hp)
theorem boxAt_eq {l : List T3} {i : Nat} (h : i < l.length) : boxAt l i = l[i] := by simp [boxAt, h]
theorem l34DepthN_zero (ds : List V) : F_l34DepthN 0 ds = none := by
  cases h : F_l34DepthN 0 ds with
  | none => rfl
  | some outs => unfold F_l34DepthN at h; obtain ⟨⟨l, k⟩, -, hp, -⟩ := mkF_inv h; exact absurd hp.2 (by omega)
theorem l34Depth_some (ds outs : List V) (h : F_l34Depth ds = some outs) : ∃ n, F_l34DepthN n ds = some outs := by
  unfold F_l34Depth at h
  obtain ⟨⟨l, k⟩, rfl, hp, rfl⟩ := mkF_inv h
  exact ⟨l.countP (inside · (boxAt l k)) + 1, by unfold F_l34DepthN; exact mkF_eq F_l34Depth_inj (l, k) ⟨hp, by omega⟩⟩
theorem maxIn_take {f : T3 → Int} {l : List T3} {i : Nat} (h : i < l.length) : maxIn f (l.take (i + 1)) = max (maxIn f (l.take i)) (max (f l[i]) 0) := by
  rw [take_succ_get h, maxIn_snoc]
theorem spec_l34Depth_ok (n : Nat) : ∀ ds outs, F_l34DepthN (n + 1) ds = some outs → shL (spec_l34Depth_L n) (qRet outs) ds := by
  intro ds outs h
  unfold F_l34DepthN at h
  obtain ⟨⟨l, k⟩, rfl, ⟨⟨hl, hk0, hk⟩, hc⟩, rfl⟩ := mkF_inv h
  obtain ⟨k, rfl⟩ : ∃ j : Nat, k = j := ⟨k.toNat, by omega⟩
  have hkl : k < l.length := by omega
  have hx : l[k] ∈ l := List.getElem_mem hkl
  rw [boxAt_eq hkl] at hc
  dsimp only [E_l34Depth]
  rw [boxAt_eq hkl, spec_l34Depth_L_sh]
  refine loop_upto l.length (fun i => [vL I3 v3 l, .int .i64 k, .int .i64 (maxIn (fun y => if inside y l[k] then D l y else 0) (l.take i)), .int .i64 i]) (by intro i j _ _ h; simp at h; omega) (fun _ => True) (by simp [maxIn]) trivial ?_
  intro i hi _
  have hD := D_eq hx
  have hDr := dep_le l l.length l[k]
  have hnn := maxIn_nonneg (f := fun y => if inside y l[k] then D l y else 0) (l := l.take i)
  rw [spec_l34Depth_b0_sh]
  simp only [P1_len, P1_lss, ifB_bool, decide_eq_true_eq, decide_eq_false_iff_not]
  refine ⟨fun h1 => ?_, fun h1 => ?_⟩
  · have hi2 : i < l.length := by omega
    have e2 : (i : Int).toNat = i := by omega
    have e3 : (k : Int).toNat = k := by omega
    have w1 : IntKind.i64.wrap ((i : Int) + 1) = (i : Int) + 1 := wrap_id (by omega) (by omega)
    have eb : (⟨l[i].a, l[i].b, l[i].c⟩ : T3) = l[i] := rfl
    have ek : (⟨l[k].a, l[k].b, l[k].c⟩ : T3) = l[k] := rfl
    have hmt := maxIn_take (f := fun y => if inside y l[k] then D l y else 0) hi2
    simp only [P3_idxI, e2, e3, List.getElem?_eq_getElem hi2, List.getElem?_eq_getElem hkl, Option.some.injEq, exists_eq_left', p_SortedBox, eb, ek, P1_lss]
    cases hin : inside l[i] l[k] with
    | true =>
      have hin' := hin
      simp only [inside, Bool.and_eq_true, decide_eq_true_eq] at hin'
      have hcnt : l.countP (inside · l[i]) < l.countP (inside · l[k]) := count_lt (p := (inside · l[i])) (q := (inside · l[k])) (fun z hz => inside_trans hz hin) hin (inside_irrefl _) (List.getElem_mem hi2)
      have hpre : (l.length ≤ 12 ∧ 0 ≤ (i : Int) ∧ (i : Int) < l.length) ∧ l.countP (inside · (boxAt l i)) < n := ⟨⟨hl, by omega, by omega⟩, by rw [boxAt_eq hi2]; omega⟩
      have h0 := (dep_le l l.length l[i]).1
      simp only [hin, if_true] at hmt
      simp only [hin'.1, hin'.2.1, hin'.2.2, decide_true, ifB_bool]
      simp [p_l34DepthN hpre, boxAt_eq hi2, w1, hi2, hmt]
      unfold D at *
      omega
    | false =>
      simp only [hin, Bool.false_eq_true, if_false] at hmt
      have e : maxIn (fun y => if inside y l[k] then D l y else 0) (l.take (i + 1)) = maxIn (fun y => if inside y l[k] then D l y else 0) (l.take i) := by omega
      simp only [e]
      simp only [inside, Bool.and_eq_false_iff, decide_eq_false_iff_not] at hin
      by_cases c1 : (sortedBox l[i]).a < (sortedBox l[k]).a <;> by_cases c2 : (sortedBox l[i]).b < (sortedBox l[k]).b <;> by_cases c3 : (sortedBox l[i]).c < (sortedBox l[k]).c <;> simp [c1, c2, c3, w1, hi2]
      exact absurd hin (by simp [c1, c2, c3])
  · obtain rfl : i = l.length := by omega
    rw [List.take_length] at *
    have w1 : IntKind.i64.wrap (maxIn (fun y => if inside y l[k] then D l y else 0) l + 1) = D l l[k] := by rw [hD, Int.add_comm]; exact wrap_id (by unfold D at *; omega) (by unfold D at *; omega)
    simp [spec_l34Depth_r1_sh, w1]
end Go.Mw

/- Nested boxes: the law. -/
namespace Go.Mw
noncomputable def spec_l34Depth_SF : Sig := ⟨[.val false [.sl [.sc, .sc, .sc]], .val false [.sc]], [(false, [.sc])], F_l34Depth⟩
theorem spec_NestedBoxes_ok : ∀ ds outs, F_NestedBoxes ds = some outs → shL spec_NestedBoxes_L (qRet outs) ds := F_NestedBoxes_elim fun l hp => by
  rw [spec_NestedBoxes_L_sh]
  simp only [P1_len, P1_gtr, ifB_bool, decide_eq_true_eq, decide_eq_false_iff_not]
  refine ⟨fun h => ?_, fun h => ?_⟩
  · have e : areBoxes l 12 = false := by simp [areBoxes]; omega
    simp [nested, e]
  · have hl : l.length ≤ 12 := by omega
    refine loop_upto l.length (fun i => [vL I3 v3 l, .int .i64 0, .int .i64 i]) (by intro i j _ _ h; simp at h; omega) (fun i => ∀ d ∈ l.take i, boxOk d = true) (by simp) (by simp) ?_
    intro i hi hP
    rw [spec_NestedBoxes_b0_sh]
    simp only [P1_len, P1_lss, ifB_bool, decide_eq_true_eq, decide_eq_false_iff_not]
    refine ⟨fun h1 => ?_, fun h1 => ?_⟩
    · have hi2 : i < l.length := by omega
      have e2 : (i : Int).toNat = i := by omega
      have w1 : IntKind.i64.wrap ((i : Int) + 1) = (i : Int) + 1 := wrap_id (by omega) (by omega)
      have eb : (⟨l[i].a, l[i].b, l[i].c⟩ : T3) = l[i] := rfl
      simp only [P3_idxI, e2, List.getElem?_eq_getElem hi2, Option.some.injEq, exists_eq_left', p_BoxOk, eb]
      cases hb : boxOk l[i] with
      | false =>
        have e : areBoxes l 12 = false := by
          cases h : areBoxes l 12 with
          | false => rfl
          | true =>
            simp only [areBoxes, Bool.and_eq_true, List.all_eq_true] at h
            rw [h.2 _ (List.getElem_mem hi2)] at hb; cases hb
        simp [nested, e]
      | true =>
        simp [w1, hi2]
        intro d hd
        rw [take_succ_get hi2] at hd
        simp only [List.mem_append, List.mem_singleton] at hd
        rcases hd with hd | rfl
        · exact hP d hd
        · exact hb
    · obtain rfl : i = l.length := by omega
      rw [List.take_length] at hP
      have ha : areBoxes l 12 = true := by
        simp only [areBoxes, Bool.and_eq_true, decide_eq_true_eq, List.all_eq_true]
        exact ⟨by omega, hP⟩
      show shL spec_NestedBoxes_r1 (qRet [.int .i64 (nested l)]) [vL I3 v3 l, .int .i64 0]
      rw [spec_NestedBoxes_r1_sh, nested_eq ha]
      refine loop_upto l.length (fun i => [vL I3 v3 l, .int .i64 (maxIn (D l) (l.take i)), .int .i64 i]) (by intro i j _ _ h; simp at h; omega) (fun _ => True) (by simp [maxIn]) trivial ?_
      intro i hi _
      have hnn := maxIn_nonneg (f := D l) (l := l.take i)
      rw [spec_NestedBoxes_b2_sh]
      simp only [P1_len, P1_lss, ifB_bool, decide_eq_true_eq, decide_eq_false_iff_not]
      refine ⟨fun h1 => ?_, fun h1 => ?_⟩
      · have hi2 : i < l.length := by omega
        have w1 : IntKind.i64.wrap ((i : Int) + 1) = (i : Int) + 1 := wrap_id (by omega) (by omega)
        have h0 := (dep_le l l.length l[i]).1
        have hmt := maxIn_take (f := D l) hi2
        have hpre : l.length ≤ 12 ∧ 0 ≤ (i : Int) ∧ (i : Int) < l.length := by omega
        simp [p_l34Depth hpre, boxAt_eq hi2, w1, hi2, hmt]
        unfold D at *
        omega
      · obtain rfl : i = l.length := by omega
        simp [spec_NestedBoxes_r3_sh]
theorem laws_FnExactNestedBoxes_ok : ∀ ds outs, F_FnExactNestedBoxes ds = some outs → shL laws_FnExactNestedBoxes_L (qRet outs) ds := F_FnExactNestedBoxes_elim fun l hp => by
  rw [laws_FnExactNestedBoxes_L_sh, p_szBoxS ⟨hp.1, by omega, by omega⟩]
  by_cases h : (l.length : Int) ≤ 1048576
  · have h' : l.length ≤ 1048576 := by omega
    have h2 : ¬ ((1048576 : Int) - l.length < 0) := by omega
    simp [h', h2, p_toBoxS, p_NestedBoxes, p_eqBoxS]
  · rw [if_neg h]; simp
end Go.Mw

