/- What functions of the program compute, as small pure programs, shown against plain Lean functions: no condition. -/
import Derived.KernelRfl
import Derived.Test.YtbpghjdibloppaaFwG
/- What the functions of the first rows compute, in plain terms. -/
namespace Go.Mw
def within (n low high : Int) : Bool := decide (low ≤ n) && decide (n ≤ high)
def E_within : Int × Int × Int → List V := fun (a, b, c) => [.int .i64 a, .int .i64 b, .int .i64 c]
noncomputable def F_within : List V → Option (List V) := mkF E_within (fun (_, _, _) => True) (fun (a, b, c) => [.bool (within a b c)])
theorem F_within_inj : ∀ x y, E_within x = E_within y → x = y := by
  rintro ⟨a, b, c⟩ ⟨a', b', c'⟩ h
  simpa [E_within] using h
theorem F_within_elim {P : List V → List V → Prop} (h : ∀ (a : Int) (b : Int) (c : Int), P [.int .i64 a, .int .i64 b, .int .i64 c] [.bool (within a b c)]) : ∀ ds outs, F_within ds = some outs → P ds outs := by
  intro ds outs hh
  obtain ⟨⟨a, b, c⟩, rfl, -, rfl⟩ := mkF_inv hh
  exact h a b c
@[simp] theorem p_within {a : Int} {b : Int} {c : Int} {nr_ : Nat} {kk_ : V → Prop} : P1 (.call F_within 0 nr_) [.int .i64 a, .int .i64 b, .int .i64 c] kk_ ↔ kk_ (.bool (within a b c)) :=
  P1_callF (by unfold F_within; exact mkF_eq F_within_inj (a, b, c) trivial)

def boxOk (x : T3) : Bool := within x.a 1 500 && within x.b 1 500 && within x.c 1 500
def E_BoxOk (x : T3) : List V := [.int .i64 x.a, .int .i64 x.b, .int .i64 x.c]
noncomputable def F_BoxOk : List V → Option (List V) := mkF E_BoxOk (fun _ => True) (fun x => [.bool (boxOk x)])
theorem F_BoxOk_inj : ∀ x y, E_BoxOk x = E_BoxOk y → x = y := by
  rintro ⟨xa, xb, xc⟩ ⟨xa', xb', xc'⟩ h
  simpa [E_BoxOk] using h
theorem F_BoxOk_elim {P : List V → List V → Prop} (h : ∀ (x : T3), P [.int .i64 x.a, .int .i64 x.b, .int .i64 x.c] [.bool (boxOk x)]) : ∀ ds outs, F_BoxOk ds = some outs → P ds outs := by
  intro ds outs hh
  obtain ⟨x, rfl, -, rfl⟩ := mkF_inv hh
  exact h x
@[simp] theorem p_BoxOk {x_a : Int} {x_b : Int} {x_c : Int} {nr_ : Nat} {kk_ : V → Prop} : P1 (.call F_BoxOk 0 nr_) [.int .i64 x_a, .int .i64 x_b, .int .i64 x_c] kk_ ↔ kk_ (.bool (boxOk (⟨x_a, x_b, x_c⟩ : T3))) :=
  P1_callF (by unfold F_BoxOk; exact mkF_eq F_BoxOk_inj ((⟨x_a, x_b, x_c⟩ : T3)) trivial)

def sortedBox (x : T3) : T3 :=
  if boxOk x then ⟨max (max x.a x.b) x.c, x.a + x.b + x.c - max (max x.a x.b) x.c - min (min x.a x.b) x.c, min (min x.a x.b) x.c⟩ else ⟨0, 0, 0⟩
def E_SortedBox (x : T3) : List V := [.int .i64 x.a, .int .i64 x.b, .int .i64 x.c]
noncomputable def F_SortedBox : List V → Option (List V) := mkF E_SortedBox (fun _ => True) (fun x => [.int .i64 (sortedBox x).a, .int .i64 (sortedBox x).b, .int .i64 (sortedBox x).c])
theorem F_SortedBox_inj : ∀ x y, E_SortedBox x = E_SortedBox y → x = y := by
  rintro ⟨xa, xb, xc⟩ ⟨xa', xb', xc'⟩ h
  simpa [E_SortedBox] using h
theorem F_SortedBox_elim {P : List V → List V → Prop} (h : ∀ (x : T3), P [.int .i64 x.a, .int .i64 x.b, .int .i64 x.c] [.int .i64 (sortedBox x).a, .int .i64 (sortedBox x).b, .int .i64 (sortedBox x).c]) : ∀ ds outs, F_SortedBox ds = some outs → P ds outs := by
  intro ds outs hh
  obtain ⟨x, rfl, -, rfl⟩ := mkF_inv hh
  exact h x
@[simp] theorem p_SortedBox {x_a : Int} {x_b : Int} {x_c : Int} {nr_ : Nat} {kk_ : V → V → V → Prop} : P3 (.call F_SortedBox 0 nr_) [.int .i64 x_a, .int .i64 x_b, .int .i64 x_c] kk_ ↔ kk_ (.int .i64 (sortedBox (⟨x_a, x_b, x_c⟩ : T3)).a) (.int .i64 (sortedBox (⟨x_a, x_b, x_c⟩ : T3)).b) (.int .i64 (sortedBox (⟨x_a, x_b, x_c⟩ : T3)).c) :=
  P3_callF (by unfold F_SortedBox; exact mkF_eq F_SortedBox_inj ((⟨x_a, x_b, x_c⟩ : T3)) trivial)

def fitsIn (x y : T3) : Bool := boxOk x && boxOk y && (decide ((sortedBox x).a ≤ (sortedBox y).a) && decide ((sortedBox x).b ≤ (sortedBox y).b) && decide ((sortedBox x).c ≤ (sortedBox y).c))
def E_FitsIn : T3 × T3 → List V := fun (x, y) => [.int .i64 x.a, .int .i64 x.b, .int .i64 x.c, .int .i64 y.a, .int .i64 y.b, .int .i64 y.c]
noncomputable def F_FitsIn : List V → Option (List V) := mkF E_FitsIn (fun (_, _) => True) (fun (x, y) => [.bool (fitsIn x y)])
theorem F_FitsIn_inj : ∀ x y, E_FitsIn x = E_FitsIn y → x = y := by
  rintro ⟨⟨xa, xb, xc⟩, ⟨ya, yb, yc⟩⟩ ⟨⟨xa', xb', xc'⟩, ⟨ya', yb', yc'⟩⟩ h
  simpa [E_FitsIn, and_assoc] using h
theorem F_FitsIn_elim {P : List V → List V → Prop} (h : ∀ (x : T3) (y : T3), P [.int .i64 x.a, .int .i64 x.b, .int .i64 x.c, .int .i64 y.a, .int .i64 y.b, .int .i64 y.c] [.bool (fitsIn x y)]) : ∀ ds outs, F_FitsIn ds = some outs → P ds outs := by
  intro ds outs hh
  obtain ⟨⟨x, y⟩, rfl, -, rfl⟩ := mkF_inv hh
  exact h x y
@[simp] theorem p_FitsIn {x_a : Int} {x_b : Int} {x_c : Int} {y_a : Int} {y_b : Int} {y_c : Int} {nr_ : Nat} {kk_ : V → Prop} : P1 (.call F_FitsIn 0 nr_) [.int .i64 x_a, .int .i64 x_b, .int .i64 x_c, .int .i64 y_a, .int .i64 y_b, .int .i64 y_c] kk_ ↔ kk_ (.bool (fitsIn (⟨x_a, x_b, x_c⟩ : T3) (⟨y_a, y_b, y_c⟩ : T3))) :=
  P1_callF (by unfold F_FitsIn; exact mkF_eq F_FitsIn_inj ((⟨x_a, x_b, x_c⟩ : T3), (⟨y_a, y_b, y_c⟩ : T3)) trivial)

def leftOver (x y : T3) : Int := if fitsIn x y then IntKind.i64.wrap (IntKind.i64.wrap (IntKind.i64.wrap (y.a * y.b) * y.c) - IntKind.i64.wrap (IntKind.i64.wrap (x.a * x.b) * x.c)) else -1
def E_LeftOver : T3 × T3 → List V := fun (x, y) => [.int .i64 x.a, .int .i64 x.b, .int .i64 x.c, .int .i64 y.a, .int .i64 y.b, .int .i64 y.c]
noncomputable def F_LeftOver : List V → Option (List V) := mkF E_LeftOver (fun (_, _) => True) (fun (x, y) => [.int .i64 (leftOver x y)])
theorem F_LeftOver_inj : ∀ x y, E_LeftOver x = E_LeftOver y → x = y := by
  rintro ⟨⟨xa, xb, xc⟩, ⟨ya, yb, yc⟩⟩ ⟨⟨xa', xb', xc'⟩, ⟨ya', yb', yc'⟩⟩ h
  simpa [E_LeftOver, and_assoc] using h
theorem F_LeftOver_elim {P : List V → List V → Prop} (h : ∀ (x : T3) (y : T3), P [.int .i64 x.a, .int .i64 x.b, .int .i64 x.c, .int .i64 y.a, .int .i64 y.b, .int .i64 y.c] [.int .i64 (leftOver x y)]) : ∀ ds outs, F_LeftOver ds = some outs → P ds outs := by
  intro ds outs hh
  obtain ⟨⟨x, y⟩, rfl, -, rfl⟩ := mkF_inv hh
  exact h x y
@[simp] theorem p_LeftOver {x_a : Int} {x_b : Int} {x_c : Int} {y_a : Int} {y_b : Int} {y_c : Int} {nr_ : Nat} {kk_ : V → Prop} : P1 (.call F_LeftOver 0 nr_) [.int .i64 x_a, .int .i64 x_b, .int .i64 x_c, .int .i64 y_a, .int .i64 y_b, .int .i64 y_c] kk_ ↔ kk_ (.int .i64 (leftOver (⟨x_a, x_b, x_c⟩ : T3) (⟨y_a, y_b, y_c⟩ : T3))) :=
  P1_callF (by unfold F_LeftOver; exact mkF_eq F_LeftOver_inj ((⟨x_a, x_b, x_c⟩ : T3), (⟨y_a, y_b, y_c⟩ : T3)) trivial)


/-! lists of pairs -/
end Go.Mw

/- Functions of the program, as small pure programs (printed by a program of ours). -/
namespace Go.Mw
noncomputable section
def impl_within_L : L := .seq (.rg []) (.seq (.rg [⟨[], .bin .geq, [.v 0, .v 1], 1⟩, ⟨[(.v 3, true)], .bin .leq, [.v 0, .v 2], 1⟩, ⟨[], .pick, [.v 3, .v 4, .k (.bool false)], 1⟩]) (.ret [.v 5]))
theorem impl_within_L_sh (Q : QT) (x0 x1 x2 : V) : shL impl_within_L Q [x0, x1, x2] = (
  P1 (.bin .geq) [x0, x1] fun v0 =>
  ifB v0 (
    P1 (.bin .leq) [x0, x2] fun v1 =>
    Q .ret [v1]) (
    Q .ret [.bool false])) := by kernel_rfl
def impl_within_S : Sig := ⟨[.val false [.sc], .val false [.sc], .val false [.sc]], [(false, [.sc])], F_within⟩
def impl_within_hs : List NF := []

def impl_BoxOk_L : L := .seq (.rg []) (.seq (.rg [⟨[], .call F_within 0 1, [.v 0, .k (.int .i64 1), .k (.int .i64 500)], 1⟩, ⟨[(.v 3, true)], .call F_within 0 1, [.v 1, .k (.int .i64 1), .k (.int .i64 500)], 1⟩, ⟨[], .pick, [.v 3, .v 4, .k (.bool false)], 1⟩, ⟨[(.v 5, true)], .call F_within 0 1, [.v 2, .k (.int .i64 1), .k (.int .i64 500)], 1⟩, ⟨[], .pick, [.v 5, .v 6, .k (.bool false)], 1⟩]) (.ret [.v 7]))
theorem impl_BoxOk_L_sh (Q : QT) (x0 x1 x2 : V) : shL impl_BoxOk_L Q [x0, x1, x2] = (
  P1 (.call F_within 0 1) [x0, .int .i64 1, .int .i64 500] fun v0 =>
  ifB v0 (
    P1 (.call F_within 0 1) [x1, .int .i64 1, .int .i64 500] fun v1 =>
    ifB v1 (
      P1 (.call F_within 0 1) [x2, .int .i64 1, .int .i64 500] fun v2 =>
      Q .ret [v2]) (
      Q .ret [.bool false])) (
    Q .ret [.bool false])) := by kernel_rfl
def impl_BoxOk_S : Sig := ⟨[.val true [.sc, .sc, .sc]], [(false, [.sc])], F_BoxOk⟩
def impl_BoxOk_hs : List NF := []

def impl_SortedBox_L : L := .seq (.rg []) (.seq (.seq (.rg [⟨[], .call F_BoxOk 0 1, [.v 0, .v 1, .v 2], 1⟩, ⟨[], .un .not, [.v 3], 1⟩]) (.ite (.v 4) (.seq (.rg []) (.ret [.k (.int .i64 0), .k (.int .i64 0), .k (.int .i64 0)])) (.skip))) (.seq (.rg [⟨[], .mx, [.v 0, .v 1, .v 2], 1⟩]) (.seq (.rg [⟨[], .mn, [.v 0, .v 1, .v 2], 1⟩]) (.seq (.rg [⟨[], .bin .add, [.v 0, .v 1], 1⟩, ⟨[], .bin .add, [.v 7, .v 2], 1⟩, ⟨[], .bin .sub, [.v 8, .v 5], 1⟩, ⟨[], .bin .sub, [.v 9, .v 6], 1⟩]) (.ret [.v 5, .v 10, .v 6])))))
theorem impl_SortedBox_L_sh (Q : QT) (x0 x1 x2 : V) : shL impl_SortedBox_L Q [x0, x1, x2] = (
  P1 (.call F_BoxOk 0 1) [x0, x1, x2] fun v0 =>
  P1 (.un .not) [v0] fun v1 =>
  ifB v1 (
    Q .ret [.int .i64 0, .int .i64 0, .int .i64 0]) (
    P1 (.mx) [x0, x1, x2] fun v2 =>
    P1 (.mn) [x0, x1, x2] fun v3 =>
    P1 (.bin .add) [x0, x1] fun v4 =>
    P1 (.bin .add) [v4, x2] fun v5 =>
    P1 (.bin .sub) [v5, v2] fun v6 =>
    P1 (.bin .sub) [v6, v3] fun v7 =>
    Q .ret [v2, v7, v3])) := by kernel_rfl
def impl_SortedBox_S : Sig := ⟨[.val true [.sc, .sc, .sc]], [(true, [.sc, .sc, .sc])], F_SortedBox⟩
def impl_SortedBox_hs : List NF := []

def impl_FitsIn_L : L := .seq (.rg []) (.seq (.seq (.rg [⟨[], .call F_BoxOk 0 1, [.v 0, .v 1, .v 2], 1⟩, ⟨[], .un .not, [.v 6], 1⟩, ⟨[(.v 7, false)], .call F_BoxOk 0 1, [.v 3, .v 4, .v 5], 1⟩, ⟨[(.v 7, false)], .un .not, [.v 8], 1⟩, ⟨[], .pick, [.v 7, .k (.bool true), .v 9], 1⟩]) (.ite (.v 10) (.seq (.rg []) (.ret [.k (.bool false)])) (.skip))) (.seq (.rg [⟨[], .call F_SortedBox 0 3, [.v 0, .v 1, .v 2], 3⟩, ⟨[], .call F_SortedBox 0 3, [.v 3, .v 4, .v 5], 3⟩]) (.seq (.rg [⟨[], .bin .leq, [.v 11, .v 14], 1⟩, ⟨[(.v 17, true)], .bin .leq, [.v 12, .v 15], 1⟩, ⟨[], .pick, [.v 17, .v 18, .k (.bool false)], 1⟩, ⟨[(.v 19, true)], .bin .leq, [.v 13, .v 16], 1⟩, ⟨[], .pick, [.v 19, .v 20, .k (.bool false)], 1⟩]) (.ret [.v 21]))))
theorem impl_FitsIn_L_sh (Q : QT) (x0 x1 x2 x3 x4 x5 : V) : shL impl_FitsIn_L Q [x0, x1, x2, x3, x4, x5] = (
  P1 (.call F_BoxOk 0 1) [x0, x1, x2] fun v0 =>
  P1 (.un .not) [v0] fun v1 =>
  ifB v1 (
    Q .ret [.bool false]) (
    P1 (.call F_BoxOk 0 1) [x3, x4, x5] fun v2 =>
    P1 (.un .not) [v2] fun v3 =>
    ifB v3 (
      Q .ret [.bool false]) (
      P3 (.call F_SortedBox 0 3) [x0, x1, x2] fun v4 v5 v6 =>
      P3 (.call F_SortedBox 0 3) [x3, x4, x5] fun v7 v8 v9 =>
      P1 (.bin .leq) [v4, v7] fun v10 =>
      ifB v10 (
        P1 (.bin .leq) [v5, v8] fun v11 =>
        ifB v11 (
          P1 (.bin .leq) [v6, v9] fun v12 =>
          Q .ret [v12]) (
          Q .ret [.bool false])) (
        Q .ret [.bool false])))) := by kernel_rfl
def impl_FitsIn_S : Sig := ⟨[.val true [.sc, .sc, .sc], .val true [.sc, .sc, .sc]], [(false, [.sc])], F_FitsIn⟩
def impl_FitsIn_hs : List NF := []

def impl_LeftOver_L : L := .seq (.rg []) (.seq (.seq (.rg [⟨[], .call F_FitsIn 0 1, [.v 0, .v 1, .v 2, .v 3, .v 4, .v 5], 1⟩, ⟨[], .un .not, [.v 6], 1⟩]) (.ite (.v 7) (.seq (.rg []) (.ret [.k (.int .i64 (-1))])) (.skip))) (.seq (.rg [⟨[], .bin .mul, [.v 3, .v 4], 1⟩, ⟨[], .bin .mul, [.v 8, .v 5], 1⟩, ⟨[], .bin .mul, [.v 0, .v 1], 1⟩, ⟨[], .bin .mul, [.v 10, .v 2], 1⟩, ⟨[], .bin .sub, [.v 9, .v 11], 1⟩]) (.ret [.v 12])))
theorem impl_LeftOver_L_sh (Q : QT) (x0 x1 x2 x3 x4 x5 : V) : shL impl_LeftOver_L Q [x0, x1, x2, x3, x4, x5] = (
  P1 (.call F_FitsIn 0 1) [x0, x1, x2, x3, x4, x5] fun v0 =>
  P1 (.un .not) [v0] fun v1 =>
  ifB v1 (
    Q .ret [.int .i64 (-1)]) (
    P1 (.bin .mul) [x3, x4] fun v2 =>
    P1 (.bin .mul) [v2, x5] fun v3 =>
    P1 (.bin .mul) [x0, x1] fun v4 =>
    P1 (.bin .mul) [v4, x2] fun v5 =>
    P1 (.bin .sub) [v3, v5] fun v6 =>
    Q .ret [v6])) := by kernel_rfl
def impl_LeftOver_S : Sig := ⟨[.val true [.sc, .sc, .sc], .val true [.sc, .sc, .sc]], [(false, [.sc])], F_LeftOver⟩
def impl_LeftOver_hs : List NF := []

end
end Go.Mw

/- The functions of the first rows compute what was said. -/
namespace Go.Mw
theorem impl_within_ok : ∀ ds outs, F_within ds = some outs → shL impl_within_L (qRet outs) ds := F_within_elim fun a b c => by
  rw [impl_within_L_sh]; simp [within]; grind
theorem impl_BoxOk_ok : ∀ ds outs, F_BoxOk ds = some outs → shL impl_BoxOk_L (qRet outs) ds := F_BoxOk_elim fun x => by
  rw [impl_BoxOk_L_sh]; simp +contextual [boxOk]
theorem boxOk_iff (x : T3) : boxOk x = true ↔ (1 ≤ x.a ∧ x.a ≤ 500) ∧ (1 ≤ x.b ∧ x.b ≤ 500) ∧ (1 ≤ x.c ∧ x.c ≤ 500) := by
  simp [boxOk, within, and_assoc]

theorem impl_SortedBox_ok : ∀ ds outs, F_SortedBox ds = some outs → shL impl_SortedBox_L (qRet outs) ds := F_SortedBox_elim fun x => by
  rw [impl_SortedBox_L_sh]
  cases h : boxOk x with
  | false => simp [h, sortedBox]
  | true =>
    have hb := (boxOk_iff x).1 h
    simp (disch := omega) [h, sortedBox, wrap_id]
theorem impl_FitsIn_ok : ∀ ds outs, F_FitsIn ds = some outs → shL impl_FitsIn_L (qRet outs) ds := F_FitsIn_elim fun x y => by
  rw [impl_FitsIn_L_sh]; simp [fitsIn]; grind
theorem impl_LeftOver_ok : ∀ ds outs, F_LeftOver ds = some outs → shL impl_LeftOver_L (qRet outs) ds := F_LeftOver_elim fun x y => by
  rw [impl_LeftOver_L_sh]; simp +contextual [leftOver]
end Go.Mw

/- The structs of the program, flat. -/
namespace Go.Mw
/-- A cylinder: steps, tracks, pins (track, angle). -/
structure Cyl where
  s : Int
  t : Int
  p : List T2
/-- A state: angle, on, played. -/
structure Stt where
  a : Int
  n : Bool
  p : Int
  deriving DecidableEq
/-- A bench: its cylinder, and the former pins. -/
structure Bench where
  s : Int
  t : Int
  p : List T2
  o : List (List T2)
/-- A workshop: its bench; comb; spring (turns, most, force); money; played. -/
structure Shop where
  s : Int
  t : Int
  p : List T2
  o : List (List T2)
  c : List Int
  u : Int
  m : Int
  f : Int
  y : Int
  d : Int
  deriving DecidableEq
@[simp] theorem Cyl.eta (x : Cyl) : Cyl.mk x.s x.t x.p = x := rfl
@[simp] theorem Stt.eta (x : Stt) : Stt.mk x.a x.n x.p = x := rfl
@[simp] theorem P1_eqa22 {a b c d : Int} {k : V → Prop} : P1 (.eqa false [.i, .i]) [.int .i64 a, .int .i64 b, .int .i64 c, .int .i64 d] k ↔ k (.bool (decide (a = c ∧ b = d))) := P1_of (by simp only [Prim.run, eqVs, eqV1, List.length_cons, List.length_nil, List.take, List.drop, if_true]; cases h1 : a == c <;> cases h2 : b == d <;> simp_all) k
@[simp] theorem P1_nea22 {a b c d : Int} {k : V → Prop} : P1 (.eqa true [.i, .i]) [.int .i64 a, .int .i64 b, .int .i64 c, .int .i64 d] k ↔ k (.bool (!decide (a = c ∧ b = d))) := P1_of (by simp only [Prim.run, eqVs, eqV1, List.length_cons, List.length_nil, List.take, List.drop, if_true]; cases h1 : a == c <;> cases h2 : b == d <;> simp_all) k
@[simp] theorem P1_eqaX {a c e g : Int} {b f : Bool} {k : V → Prop} : P1 (.eqa false [.i, .b, .i]) [.int .i64 a, .bool b, .int .i64 c, .int .i64 e, .bool f, .int .i64 g] k ↔ k (.bool (decide (a = e ∧ b = f ∧ c = g))) := P1_of (by simp only [Prim.run, eqVs, eqV1, List.length_cons, List.length_nil, List.take, List.drop, if_true]; cases h1 : a == e <;> cases h2 : b == f <;> cases h3 : c == g <;> simp_all) k
theorem P1_lsub2 {α : Type} {ks : List AK} {f : α → V} {l : List α} {κ κ' : IntKind} {i j : Int} {k : V → Prop} : P1 (.lsub ks) [vL ks f l, .int κ i, .int κ' j] k ↔ (0 ≤ i ∧ i ≤ j ∧ j ≤ l.length) ∧ k (vL ks f ((l.take j.toNat).drop i.toNat)) :=
  P1_opt (by simp only [Prim.run, vL, AK.eqs_refl, if_true, subB, List.length_map]; split <;> simp_all [List.map_drop, List.map_take]) k
theorem P1_lsub1 {α : Type} {ks : List AK} {f : α → V} {l : List α} {κ : IntKind} {i : Int} {k : V → Prop} : P1 (.lsub ks) [vL ks f l, .int κ i] k ↔ (0 ≤ i ∧ i ≤ l.length) ∧ k (vL ks f (l.drop i.toNat)) :=
  P1_opt (by simp only [Prim.run, vL, AK.eqs_refl, if_true, subB, List.length_map]; split <;> simp_all [List.map_drop, List.take_of_length_le]) k
@[simp] theorem P1_lsubI_2 {l : List Int} {κ κ' : IntKind} {i j : Int} {k : V → Prop} : P1 (.lsub [.sc]) [vL I1 v1 l, .int κ i, .int κ' j] k ↔ (0 ≤ i ∧ i ≤ j ∧ j ≤ l.length) ∧ k (vL I1 v1 ((l.take j.toNat).drop i.toNat)) := P1_lsub2
@[simp] theorem P1_lsubI_1 {l : List Int} {κ : IntKind} {i : Int} {k : V → Prop} : P1 (.lsub [.sc]) [vL I1 v1 l, .int κ i] k ↔ (0 ≤ i ∧ i ≤ l.length) ∧ k (vL I1 v1 (l.drop i.toNat)) := P1_lsub1
@[simp] theorem P1_appI_ {l m : List Int} {b : Nat} {k : V → Prop} : P1 (.app [.sc] b) [vL I1 v1 l, vL I1 v1 m] k ↔ ((l.length + m.length) * b ≤ 140737488355328 ∧ l.length + m.length ≤ 140737488355328) ∧ k (vL I1 v1 (l ++ m)) := P1_app
@[simp] theorem P1_appI_0 {m : List Int} {b : Nat} {k : V → Prop} : P1 (.app [.sc] b) [.list [.sc] [], vL I1 v1 m] k ↔ (m.length * b ≤ 140737488355328 ∧ m.length ≤ 140737488355328) ∧ k (vL I1 v1 m) := P1_app0
@[simp] theorem P1_appI_1 {l : List Int} {b : Nat} {k : V → Prop} : P1 (.app [.sc] b) [vL I1 v1 l, .list [.sc] []] k ↔ (l.length * b ≤ 140737488355328 ∧ l.length ≤ 140737488355328) ∧ k (vL I1 v1 l) := P1_app1
@[simp] theorem P1_lsubY_2 {l : List UInt8} {κ κ' : IntKind} {i j : Int} {k : V → Prop} : P1 (.lsub [.sc]) [vL I1 vY l, .int κ i, .int κ' j] k ↔ (0 ≤ i ∧ i ≤ j ∧ j ≤ l.length) ∧ k (vL I1 vY ((l.take j.toNat).drop i.toNat)) := P1_lsub2
@[simp] theorem P1_lsubY_1 {l : List UInt8} {κ : IntKind} {i : Int} {k : V → Prop} : P1 (.lsub [.sc]) [vL I1 vY l, .int κ i] k ↔ (0 ≤ i ∧ i ≤ l.length) ∧ k (vL I1 vY (l.drop i.toNat)) := P1_lsub1
@[simp] theorem P1_appY_ {l m : List UInt8} {b : Nat} {k : V → Prop} : P1 (.app [.sc] b) [vL I1 vY l, vL I1 vY m] k ↔ ((l.length + m.length) * b ≤ 140737488355328 ∧ l.length + m.length ≤ 140737488355328) ∧ k (vL I1 vY (l ++ m)) := P1_app
@[simp] theorem P1_appY_0 {m : List UInt8} {b : Nat} {k : V → Prop} : P1 (.app [.sc] b) [.list [.sc] [], vL I1 vY m] k ↔ (m.length * b ≤ 140737488355328 ∧ m.length ≤ 140737488355328) ∧ k (vL I1 vY m) := P1_app0
@[simp] theorem P1_appY_1 {l : List UInt8} {b : Nat} {k : V → Prop} : P1 (.app [.sc] b) [vL I1 vY l, .list [.sc] []] k ↔ (l.length * b ≤ 140737488355328 ∧ l.length ≤ 140737488355328) ∧ k (vL I1 vY l) := P1_app1
@[simp] theorem P1_lsubS_2 {l : List (List UInt8)} {κ κ' : IntKind} {i j : Int} {k : V → Prop} : P1 (.lsub [.sc]) [vL I1 vS l, .int κ i, .int κ' j] k ↔ (0 ≤ i ∧ i ≤ j ∧ j ≤ l.length) ∧ k (vL I1 vS ((l.take j.toNat).drop i.toNat)) := P1_lsub2
@[simp] theorem P1_lsubS_1 {l : List (List UInt8)} {κ : IntKind} {i : Int} {k : V → Prop} : P1 (.lsub [.sc]) [vL I1 vS l, .int κ i] k ↔ (0 ≤ i ∧ i ≤ l.length) ∧ k (vL I1 vS (l.drop i.toNat)) := P1_lsub1
@[simp] theorem P1_appS_ {l m : List (List UInt8)} {b : Nat} {k : V → Prop} : P1 (.app [.sc] b) [vL I1 vS l, vL I1 vS m] k ↔ ((l.length + m.length) * b ≤ 140737488355328 ∧ l.length + m.length ≤ 140737488355328) ∧ k (vL I1 vS (l ++ m)) := P1_app
@[simp] theorem P1_appS_0 {m : List (List UInt8)} {b : Nat} {k : V → Prop} : P1 (.app [.sc] b) [.list [.sc] [], vL I1 vS m] k ↔ (m.length * b ≤ 140737488355328 ∧ m.length ≤ 140737488355328) ∧ k (vL I1 vS m) := P1_app0
@[simp] theorem P1_appS_1 {l : List (List UInt8)} {b : Nat} {k : V → Prop} : P1 (.app [.sc] b) [vL I1 vS l, .list [.sc] []] k ↔ (l.length * b ≤ 140737488355328 ∧ l.length ≤ 140737488355328) ∧ k (vL I1 vS l) := P1_app1
@[simp] theorem P1_lsub2_2 {l : List T2} {κ κ' : IntKind} {i j : Int} {k : V → Prop} : P1 (.lsub [.sc, .sc]) [vL I2 v2 l, .int κ i, .int κ' j] k ↔ (0 ≤ i ∧ i ≤ j ∧ j ≤ l.length) ∧ k (vL I2 v2 ((l.take j.toNat).drop i.toNat)) := P1_lsub2
@[simp] theorem P1_lsub2_1 {l : List T2} {κ : IntKind} {i : Int} {k : V → Prop} : P1 (.lsub [.sc, .sc]) [vL I2 v2 l, .int κ i] k ↔ (0 ≤ i ∧ i ≤ l.length) ∧ k (vL I2 v2 (l.drop i.toNat)) := P1_lsub1
@[simp] theorem P1_app2_ {l m : List T2} {b : Nat} {k : V → Prop} : P1 (.app [.sc, .sc] b) [vL I2 v2 l, vL I2 v2 m] k ↔ ((l.length + m.length) * b ≤ 140737488355328 ∧ l.length + m.length ≤ 140737488355328) ∧ k (vL I2 v2 (l ++ m)) := P1_app
@[simp] theorem P1_app2_0 {m : List T2} {b : Nat} {k : V → Prop} : P1 (.app [.sc, .sc] b) [.list [.sc, .sc] [], vL I2 v2 m] k ↔ (m.length * b ≤ 140737488355328 ∧ m.length ≤ 140737488355328) ∧ k (vL I2 v2 m) := P1_app0
@[simp] theorem P1_app2_1 {l : List T2} {b : Nat} {k : V → Prop} : P1 (.app [.sc, .sc] b) [vL I2 v2 l, .list [.sc, .sc] []] k ↔ (l.length * b ≤ 140737488355328 ∧ l.length ≤ 140737488355328) ∧ k (vL I2 v2 l) := P1_app1
@[simp] theorem P1_lsub3_2 {l : List T3} {κ κ' : IntKind} {i j : Int} {k : V → Prop} : P1 (.lsub [.sc, .sc, .sc]) [vL I3 v3 l, .int κ i, .int κ' j] k ↔ (0 ≤ i ∧ i ≤ j ∧ j ≤ l.length) ∧ k (vL I3 v3 ((l.take j.toNat).drop i.toNat)) := P1_lsub2
@[simp] theorem P1_lsub3_1 {l : List T3} {κ : IntKind} {i : Int} {k : V → Prop} : P1 (.lsub [.sc, .sc, .sc]) [vL I3 v3 l, .int κ i] k ↔ (0 ≤ i ∧ i ≤ l.length) ∧ k (vL I3 v3 (l.drop i.toNat)) := P1_lsub1
@[simp] theorem P1_app3_ {l m : List T3} {b : Nat} {k : V → Prop} : P1 (.app [.sc, .sc, .sc] b) [vL I3 v3 l, vL I3 v3 m] k ↔ ((l.length + m.length) * b ≤ 140737488355328 ∧ l.length + m.length ≤ 140737488355328) ∧ k (vL I3 v3 (l ++ m)) := P1_app
@[simp] theorem P1_app3_0 {m : List T3} {b : Nat} {k : V → Prop} : P1 (.app [.sc, .sc, .sc] b) [.list [.sc, .sc, .sc] [], vL I3 v3 m] k ↔ (m.length * b ≤ 140737488355328 ∧ m.length ≤ 140737488355328) ∧ k (vL I3 v3 m) := P1_app0
@[simp] theorem P1_app3_1 {l : List T3} {b : Nat} {k : V → Prop} : P1 (.app [.sc, .sc, .sc] b) [vL I3 v3 l, .list [.sc, .sc, .sc] []] k ↔ (l.length * b ≤ 140737488355328 ∧ l.length ≤ 140737488355328) ∧ k (vL I3 v3 l) := P1_app1
@[simp] theorem P1_lsubL2_2 {l : List (List T2)} {κ κ' : IntKind} {i j : Int} {k : V → Prop} : P1 (.lsub [.sl [.sc, .sc]]) [vL IL2 vLL2 l, .int κ i, .int κ' j] k ↔ (0 ≤ i ∧ i ≤ j ∧ j ≤ l.length) ∧ k (vL IL2 vLL2 ((l.take j.toNat).drop i.toNat)) := P1_lsub2
@[simp] theorem P1_lsubL2_1 {l : List (List T2)} {κ : IntKind} {i : Int} {k : V → Prop} : P1 (.lsub [.sl [.sc, .sc]]) [vL IL2 vLL2 l, .int κ i] k ↔ (0 ≤ i ∧ i ≤ l.length) ∧ k (vL IL2 vLL2 (l.drop i.toNat)) := P1_lsub1
@[simp] theorem P1_appL2_ {l m : List (List T2)} {b : Nat} {k : V → Prop} : P1 (.app [.sl [.sc, .sc]] b) [vL IL2 vLL2 l, vL IL2 vLL2 m] k ↔ ((l.length + m.length) * b ≤ 140737488355328 ∧ l.length + m.length ≤ 140737488355328) ∧ k (vL IL2 vLL2 (l ++ m)) := P1_app
@[simp] theorem P1_appL2_0 {m : List (List T2)} {b : Nat} {k : V → Prop} : P1 (.app [.sl [.sc, .sc]] b) [.list [.sl [.sc, .sc]] [], vL IL2 vLL2 m] k ↔ (m.length * b ≤ 140737488355328 ∧ m.length ≤ 140737488355328) ∧ k (vL IL2 vLL2 m) := P1_app0
@[simp] theorem P1_appL2_1 {l : List (List T2)} {b : Nat} {k : V → Prop} : P1 (.app [.sl [.sc, .sc]] b) [vL IL2 vLL2 l, .list [.sl [.sc, .sc]] []] k ↔ (l.length * b ≤ 140737488355328 ∧ l.length ≤ 140737488355328) ∧ k (vL IL2 vLL2 l) := P1_app1
end Go.Mw

/- What functions compute, in plain terms: pieces, pins, cylinders, states, digits, boxes. -/
namespace Go.Mw
/-! memory -/
/-! pieces -/
/-! pins -/
def pinLess (p q : T2) : Bool := decide (p.b < q.b ∨ p.b = q.b ∧ p.a < q.a)
def rising : List T2 → Bool
  | [] => true
  | [_] => true
  | a :: b :: r => pinLess a b && rising (b :: r)
def pinIn (s t : Int) (p : T2) : Bool := within p.a 0 (t - 1) && within p.b 0 (s - 1)
def cylOk (c : Cyl) : Bool := within c.s 4 96 && within c.t 1 100 && decide (c.p.length ≤ 100) && (c.p.all (pinIn c.s c.t) && rising c.p)
def sttOk (c : Cyl) (x : Stt) : Bool := cylOk c && (within x.a 0 (c.s - 1) && within x.p 0 100000)
def pinsAt (c : Cyl) (a : Int) : List Int := if cylOk c && within a (-1000000) 1000000 then (c.p.filter fun p => p.b == a % c.s).map (·.a) else []
/-! states -/
def stepsLeft (c : Cyl) (x : Stt) : Int := if sttOk c x then (if x.n then c.s - x.a else 0) else -1
def nextStt (c : Cyl) (x : Stt) : Stt := ⟨(x.a + 1) % c.s, decide ((x.a + 1) % c.s ≠ 0), x.p + (pinsAt c x.a).length⟩
def canStep (c : Cyl) (x : Stt) : Bool := sttOk c x && x.n && sttOk c (nextStt c x)
/-- The run: so many steps from x. -/
def itS (c : Cyl) (x : Stt) : Nat → Stt
  | 0 => x
  | k + 1 => nextStt c (itS c x k)
def itL (c : Cyl) (x : Stt) : Nat → List Int
  | 0 => []
  | k + 1 => itL c x k ++ pinsAt c (itS c x k).a
def runN (c : Cyl) (x : Stt) : Nat := (c.s - x.a).toNat
def runOk (c : Cyl) (x : Stt) : Bool := sttOk c x && (x.n && (List.range (runN c x)).all fun k => canStep c (itS c x k))
def runBox (c : Cyl) (x : Stt) : Stt × List Int := if runOk c x then (itS c x (runN c x), itL c x (runN c x)) else (x, [])
/-! digits -/
def areDigits (l : List Int) (a b : Int) : Bool := within l.length a b && l.all (within · 0 9)
/-! boxes -/
def areBoxes (l : List T3) (n : Int) : Bool := decide ((l.length : Int) ≤ n) && l.all boxOk
def E_areBoxes : List T3 × Int → List V := fun (l, n) => [vL I3 v3 l, .int .i64 n]
noncomputable def F_areBoxes : List V → Option (List V) := mkF E_areBoxes (fun (l, _) => l.length ≤ 1048576) (fun (l, n) => [.bool (areBoxes l n)])
theorem F_areBoxes_inj : ∀ x y, E_areBoxes x = E_areBoxes y → x = y := by
  rintro ⟨l, n⟩ ⟨l', n'⟩ h
  simpa [E_areBoxes] using h
theorem F_areBoxes_elim {P : List V → List V → Prop} (h : ∀ (l : List T3) (n : Int), (l.length ≤ 1048576) → P [vL I3 v3 l, .int .i64 n] [.bool (areBoxes l n)]) : ∀ ds outs, F_areBoxes ds = some outs → P ds outs := by
  intro ds outs hh
  obtain ⟨⟨l, n⟩, rfl, hp, rfl⟩ := mkF_inv hh
  exact h l n hp
theorem p_areBoxes {l : List T3} {n : Int} {nr_ : Nat} {kk_ : V → Prop} (hp : l.length ≤ 1048576) : P1 (.call F_areBoxes 0 nr_) [vL I3 v3 l, .int .i64 n] kk_ ↔ kk_ (.bool (areBoxes l n)) :=
  P1_callF (by unfold F_areBoxes; exact mkF_eq F_areBoxes_inj (l, n) hp)

def inside (x y : T3) : Bool := decide ((sortedBox x).a < (sortedBox y).a) && (decide ((sortedBox x).b < (sortedBox y).b) && decide ((sortedBox x).c < (sortedBox y).c))
def E_isInside : T3 × T3 → List V := fun (x, y) => [.int .i64 x.a, .int .i64 x.b, .int .i64 x.c, .int .i64 y.a, .int .i64 y.b, .int .i64 y.c]
noncomputable def F_isInside : List V → Option (List V) := mkF E_isInside (fun (_, _) => True) (fun (x, y) => [.bool (inside x y)])
theorem F_isInside_inj : ∀ x y, E_isInside x = E_isInside y → x = y := by
  rintro ⟨⟨xa, xb, xc⟩, ⟨ya, yb, yc⟩⟩ ⟨⟨xa', xb', xc'⟩, ⟨ya', yb', yc'⟩⟩ h
  simpa [E_isInside, and_assoc] using h
theorem F_isInside_elim {P : List V → List V → Prop} (h : ∀ (x : T3) (y : T3), P [.int .i64 x.a, .int .i64 x.b, .int .i64 x.c, .int .i64 y.a, .int .i64 y.b, .int .i64 y.c] [.bool (inside x y)]) : ∀ ds outs, F_isInside ds = some outs → P ds outs := by
  intro ds outs hh
  obtain ⟨⟨x, y⟩, rfl, -, rfl⟩ := mkF_inv hh
  exact h x y
@[simp] theorem p_isInside {x_a : Int} {x_b : Int} {x_c : Int} {y_a : Int} {y_b : Int} {y_c : Int} {nr_ : Nat} {kk_ : V → Prop} : P1 (.call F_isInside 0 nr_) [.int .i64 x_a, .int .i64 x_b, .int .i64 x_c, .int .i64 y_a, .int .i64 y_b, .int .i64 y_c] kk_ ↔ kk_ (.bool (inside (⟨x_a, x_b, x_c⟩ : T3) (⟨y_a, y_b, y_c⟩ : T3))) :=
  P1_callF (by unfold F_isInside; exact mkF_eq F_isInside_inj ((⟨x_a, x_b, x_c⟩ : T3), (⟨y_a, y_b, y_c⟩ : T3)) trivial)

/-- The best of the first k boxes: -1 for none. -/
def bestBox (l : List T3) (w : T3) : Nat → Int
  | 0 => -1
  | k + 1 =>
    let b := bestBox l w k
    match l[k]? with
    | none => b
    | some x => if 0 ≤ leftOver w x ∧ (b < 0 ∨ leftOver w x < (match l[b.toNat]? with | some y => leftOver w y | none => 0)) then k else b
def smallestBox (l : List T3) (w : T3) : Int := if areBoxes l 20 && boxOk w then bestBox l w l.length else -1
def E_SmallestBox : List T3 × T3 → List V := fun (l, w) => [vL I3 v3 l, .int .i64 w.a, .int .i64 w.b, .int .i64 w.c]
noncomputable def F_SmallestBox : List V → Option (List V) := mkF E_SmallestBox (fun (l, _) => l.length ≤ 1048576) (fun (l, w) => [.int .i64 (smallestBox l w)])
theorem F_SmallestBox_inj : ∀ x y, E_SmallestBox x = E_SmallestBox y → x = y := by
  rintro ⟨l, ⟨wa, wb, wc⟩⟩ ⟨l', ⟨wa', wb', wc'⟩⟩ h
  simpa [E_SmallestBox, and_assoc] using h
theorem F_SmallestBox_elim {P : List V → List V → Prop} (h : ∀ (l : List T3) (w : T3), (l.length ≤ 1048576) → P [vL I3 v3 l, .int .i64 w.a, .int .i64 w.b, .int .i64 w.c] [.int .i64 (smallestBox l w)]) : ∀ ds outs, F_SmallestBox ds = some outs → P ds outs := by
  intro ds outs hh
  obtain ⟨⟨l, w⟩, rfl, hp, rfl⟩ := mkF_inv hh
  exact h l w hp
theorem p_SmallestBox {l : List T3} {w_a : Int} {w_b : Int} {w_c : Int} {nr_ : Nat} {kk_ : V → Prop} (hp : l.length ≤ 1048576) : P1 (.call F_SmallestBox 0 nr_) [vL I3 v3 l, .int .i64 w_a, .int .i64 w_b, .int .i64 w_c] kk_ ↔ kk_ (.int .i64 (smallestBox l (⟨w_a, w_b, w_c⟩ : T3))) :=
  P1_callF (by unfold F_SmallestBox; exact mkF_eq F_SmallestBox_inj (l, (⟨w_a, w_b, w_c⟩ : T3)) hp)


end Go.Mw

/- Functions of the program, as small pure programs (printed by a program of ours). -/
namespace Go.Mw
noncomputable section
def impl_areBoxes_b0 : L := .seq (.seq (.rg [⟨[], .bin .lss, [.v 2, .v 1], 1⟩]) (.seq (.ite (.v 3) (.skip) (.seq (.tup []) (.exit 0))) (.seq (.block 1 (.seq (.seq (.rg [⟨[], .idx [.sc, .sc, .sc], [.v 0, .v 2], 3⟩]) (.seq (.rg [⟨[], .call F_BoxOk 0 1, [.v 4, .v 5, .v 6], 1⟩, ⟨[], .un .not, [.v 7], 1⟩]) (.ite (.v 8) (.seq (.rg []) (.ret [.k (.bool false)])) (.skip)))) (.tup [.v 0, .v 1, .v 2]))) (.rg [⟨[], .bin .add, [.v 2, .k (.int .i64 1)], 1⟩])))) (.tup [.v 0, .v 1, .v 3])
theorem impl_areBoxes_b0_sh (Q : QT) (x0 x1 x2 : V) : shL impl_areBoxes_b0 Q [x0, x1, x2] = (
  P1 (.bin .lss) [x2, x1] fun v0 =>
  ifB v0 (
    P3 (.idx [.sc, .sc, .sc]) [x0, x2] fun v1 v2 v3 =>
    P1 (.call F_BoxOk 0 1) [v1, v2, v3] fun v4 =>
    P1 (.un .not) [v4] fun v5 =>
    ifB v5 (
      Q .ret [.bool false]) (
      P1 (.bin .add) [x2, .int .i64 1] fun v6 =>
      Q .normal [x0, x1, v6])) (
    Q (.exit 0) [])) := by kernel_rfl

def impl_areBoxes_r1 : L := .seq (.rg []) (.ret [.k (.bool true)])
theorem impl_areBoxes_r1_sh (Q : QT) : shL impl_areBoxes_r1 Q [] = (
  Q .ret [.bool true]) := by kernel_rfl

def impl_areBoxes_L : L := .seq (.rg []) (.seq (.seq (.rg [⟨[], .len, [.v 0], 1⟩, ⟨[], .bin .gtr, [.v 2, .v 1], 1⟩]) (.ite (.v 3) (.seq (.rg []) (.ret [.k (.bool false)])) (.skip))) (.seq (.seq (.rg [⟨[], .len, [.v 0], 1⟩]) (.block 0 (.seq (.tup [.v 0, .v 4, .k (.int .i64 0)]) (.loop (impl_areBoxes_b0))))) (impl_areBoxes_r1)))
theorem impl_areBoxes_L_sh (Q : QT) (x0 x1 : V) : shL impl_areBoxes_L Q [x0, x1] = (
  P1 (.len) [x0] fun v0 =>
  P1 (.bin .gtr) [v0, x1] fun v1 =>
  ifB v1 (
    Q .ret [.bool false]) (
    P1 (.len) [x0] fun v2 =>
    shL (.loop impl_areBoxes_b0) (qB 0 (qS (shL impl_areBoxes_r1 Q) Q)) [x0, v2, .int .i64 0])) := by kernel_rfl
def impl_areBoxes_S : Sig := ⟨[.val false [.sl [.sc, .sc, .sc]], .val false [.sc]], [(false, [.sc])], F_areBoxes⟩
def impl_areBoxes_hs : List NF := [⟨[], [], [], 64⟩, ⟨[(11, .sc false [.ro [.sc, .sc, .sc]]), (12, .sc false [.sc]), (13, .sc false [.sc])], [], [], 64⟩, ⟨[(11, .sc false [.ro [.sc, .sc, .sc]]), (12, .sc false [.sc]), (13, .sc false [.sc])], [], [], 64⟩]

def impl_isInside_L : L := .seq (.rg []) (.seq (.rg [⟨[], .call F_SortedBox 0 3, [.v 0, .v 1, .v 2], 3⟩, ⟨[], .call F_SortedBox 0 3, [.v 3, .v 4, .v 5], 3⟩]) (.seq (.rg [⟨[], .bin .lss, [.v 6, .v 9], 1⟩, ⟨[(.v 12, true)], .bin .lss, [.v 7, .v 10], 1⟩, ⟨[], .pick, [.v 12, .v 13, .k (.bool false)], 1⟩, ⟨[(.v 14, true)], .bin .lss, [.v 8, .v 11], 1⟩, ⟨[], .pick, [.v 14, .v 15, .k (.bool false)], 1⟩]) (.ret [.v 16])))
theorem impl_isInside_L_sh (Q : QT) (x0 x1 x2 x3 x4 x5 : V) : shL impl_isInside_L Q [x0, x1, x2, x3, x4, x5] = (
  P3 (.call F_SortedBox 0 3) [x0, x1, x2] fun v0 v1 v2 =>
  P3 (.call F_SortedBox 0 3) [x3, x4, x5] fun v3 v4 v5 =>
  P1 (.bin .lss) [v0, v3] fun v6 =>
  ifB v6 (
    P1 (.bin .lss) [v1, v4] fun v7 =>
    ifB v7 (
      P1 (.bin .lss) [v2, v5] fun v8 =>
      Q .ret [v8]) (
      Q .ret [.bool false])) (
    Q .ret [.bool false])) := by kernel_rfl
def impl_isInside_S : Sig := ⟨[.val true [.sc, .sc, .sc], .val true [.sc, .sc, .sc]], [(false, [.sc])], F_isInside⟩
def impl_isInside_hs : List NF := []

def impl_SmallestBox_b0 : L := .seq (.seq (.rg [⟨[], .bin .lss, [.v 4, .v 3], 1⟩]) (.seq (.ite (.v 8) (.skip) (.seq (.tup [.v 1]) (.exit 0))) (.seq (.block 1 (.seq (.seq (.rg [⟨[], .idx [.sc, .sc, .sc], [.v 2, .v 4], 3⟩]) (.seq (.rg [⟨[], .call F_LeftOver 0 1, [.v 5, .v 6, .v 7, .v 9, .v 10, .v 11], 1⟩]) (.seq (.rg [⟨[], .bin .geq, [.v 12, .k (.int .i64 0)], 1⟩, ⟨[(.v 13, true)], .bin .lss, [.v 1, .k (.int .i64 0)], 1⟩, ⟨[(.v 13, true), (.v 14, false)], .idx [.sc, .sc, .sc], [.v 0, .v 1], 3⟩, ⟨[(.v 13, true), (.v 14, false)], .call F_LeftOver 0 1, [.v 5, .v 6, .v 7, .v 15, .v 16, .v 17], 1⟩, ⟨[(.v 13, true), (.v 14, false)], .bin .lss, [.v 12, .v 18], 1⟩, ⟨[(.v 13, true)], .pick, [.v 14, .k (.bool true), .v 19], 1⟩, ⟨[], .pick, [.v 13, .v 20, .k (.bool false)], 1⟩]) (.ite (.v 21) (.seq (.rg []) (.tup [.v 0, .v 4, .v 2, .v 3, .v 4, .v 5, .v 6, .v 7])) (.seq (.skip) (.tup [.v 0, .v 1, .v 2, .v 3, .v 4, .v 5, .v 6, .v 7])))))) (.tup [.v 0, .v 1, .v 2, .v 3, .v 4, .v 5, .v 6, .v 7]))) (.rg [⟨[], .bin .add, [.v 4, .k (.int .i64 1)], 1⟩])))) (.tup [.v 0, .v 1, .v 2, .v 3, .v 8, .v 5, .v 6, .v 7])
theorem impl_SmallestBox_b0_sh (Q : QT) (x0 x1 x2 x3 x4 x5 x6 x7 : V) : shL impl_SmallestBox_b0 Q [x0, x1, x2, x3, x4, x5, x6, x7] = (
  P1 (.bin .lss) [x4, x3] fun v0 =>
  ifB v0 (
    P3 (.idx [.sc, .sc, .sc]) [x2, x4] fun v1 v2 v3 =>
    P1 (.call F_LeftOver 0 1) [x5, x6, x7, v1, v2, v3] fun v4 =>
    P1 (.bin .geq) [v4, .int .i64 0] fun v5 =>
    ifB v5 (
      P1 (.bin .lss) [x1, .int .i64 0] fun v6 =>
      ifB v6 (
        P1 (.bin .add) [x4, .int .i64 1] fun v7 =>
        Q .normal [x0, x4, x2, x3, v7, x5, x6, x7]) (
        P3 (.idx [.sc, .sc, .sc]) [x0, x1] fun v8 v9 v10 =>
        P1 (.call F_LeftOver 0 1) [x5, x6, x7, v8, v9, v10] fun v11 =>
        P1 (.bin .lss) [v4, v11] fun v12 =>
        ifB v12 (
          P1 (.bin .add) [x4, .int .i64 1] fun v13 =>
          Q .normal [x0, x4, x2, x3, v13, x5, x6, x7]) (
          P1 (.bin .add) [x4, .int .i64 1] fun v14 =>
          Q .normal [x0, x1, x2, x3, v14, x5, x6, x7]))) (
      P1 (.bin .add) [x4, .int .i64 1] fun v15 =>
      Q .normal [x0, x1, x2, x3, v15, x5, x6, x7])) (
    Q (.exit 0) [x1])) := by kernel_rfl

def impl_SmallestBox_r1 : L := .seq (.rg []) (.ret [.v 0])
theorem impl_SmallestBox_r1_sh (Q : QT) (x0 : V) : shL impl_SmallestBox_r1 Q [x0] = (
  Q .ret [x0]) := by kernel_rfl

def impl_SmallestBox_L : L := .seq (.rg []) (.seq (.seq (.rg [⟨[], .call F_areBoxes 0 1, [.v 0, .k (.int .i64 20)], 1⟩, ⟨[], .un .not, [.v 4], 1⟩, ⟨[(.v 5, false)], .call F_BoxOk 0 1, [.v 1, .v 2, .v 3], 1⟩, ⟨[(.v 5, false)], .un .not, [.v 6], 1⟩, ⟨[], .pick, [.v 5, .k (.bool true), .v 7], 1⟩]) (.ite (.v 8) (.seq (.rg []) (.ret [.k (.int .i64 (-1))])) (.skip))) (.seq (.rg []) (.seq (.seq (.rg [⟨[], .len, [.v 0], 1⟩]) (.block 0 (.seq (.tup [.v 0, .k (.int .i64 (-1)), .v 0, .v 9, .k (.int .i64 0), .v 1, .v 2, .v 3]) (.loop (impl_SmallestBox_b0))))) (impl_SmallestBox_r1))))
theorem impl_SmallestBox_L_sh (Q : QT) (x0 x1 x2 x3 : V) : shL impl_SmallestBox_L Q [x0, x1, x2, x3] = (
  P1 (.call F_areBoxes 0 1) [x0, .int .i64 20] fun v0 =>
  P1 (.un .not) [v0] fun v1 =>
  ifB v1 (
    Q .ret [.int .i64 (-1)]) (
    P1 (.call F_BoxOk 0 1) [x1, x2, x3] fun v2 =>
    P1 (.un .not) [v2] fun v3 =>
    ifB v3 (
      Q .ret [.int .i64 (-1)]) (
      P1 (.len) [x0] fun v4 =>
      shL (.loop impl_SmallestBox_b0) (qB 0 (qS (shL impl_SmallestBox_r1 Q) Q)) [x0, .int .i64 (-1), x0, v4, .int .i64 0, x1, x2, x3]))) := by kernel_rfl
def impl_SmallestBox_S : Sig := ⟨[.val false [.sl [.sc, .sc, .sc]], .val true [.sc, .sc, .sc]], [(false, [.sc])], F_SmallestBox⟩
def impl_SmallestBox_hs : List NF := [⟨[(5, .sc false [.sc])], [], [], 64⟩, ⟨[(0, .sc false [.ro [.sc, .sc, .sc]]), (3, .ptr 64 0), (5, .sc false [.sc]), (17, .sc false [.ro [.sc, .sc, .sc]]), (18, .sc false [.sc]), (19, .sc false [.sc])], [], [(64, [.sc, .sc, .sc])], 65⟩, ⟨[(0, .sc false [.ro [.sc, .sc, .sc]]), (3, .ptr 64 0), (5, .sc false [.sc]), (17, .sc false [.ro [.sc, .sc, .sc]]), (18, .sc false [.sc]), (19, .sc false [.sc])], [], [(64, [.sc, .sc, .sc])], 65⟩, ⟨[(0, .sc false [.ro [.sc, .sc, .sc]]), (3, .ptr 64 0), (5, .sc false [.sc]), (17, .sc false [.ro [.sc, .sc, .sc]]), (18, .sc false [.sc]), (19, .sc false [.sc])], [], [(64, [.sc, .sc, .sc])], 65⟩]

end
end Go.Mw

/- Laws' helpers on memory, and the plain functions of pieces, pins, cylinders, states. -/
namespace Go.Mw
end Go.Mw

/- Pieces, pins, cylinders, states: the functions compute what was said. -/
namespace Go.Mw
/-! show time -/
/-! cylinders -/
end Go.Mw

/- Cylinders and their pins. -/
namespace Go.Mw
theorem rising_iff : ∀ l : List T2, rising l = true ↔ ∀ j (_ : j < l.length), 0 < j → pinLess l[j - 1] l[j] = true
  | [] => by simp [rising]
  | [a] => by simp [rising]
  | a :: b :: r => by
    simp only [rising, Bool.and_eq_true, rising_iff (b :: r)]
    constructor
    · rintro ⟨h1, h2⟩ j hj h0
      rcases j with _ | _ | j
      · omega
      · exact h1
      · exact h2 (j + 1) (by simp at hj ⊢; omega) (by omega)
    · intro h
      refine ⟨h 1 (by simp) (by omega), fun j hj h0 => ?_⟩
      have := h (j + 1) (by simp at hj ⊢; omega) (by omega)
      rcases j with _ | j
      · omega
      · exact this

def goodPin (x : Cyl) (j : Nat) (hj : j < x.p.length) : Prop := pinIn x.s x.t x.p[j] = true ∧ (0 < j → pinLess x.p[j - 1] x.p[j] = true)
theorem cylOk_iff (x : Cyl) : cylOk x = true ↔ within x.s 4 96 = true ∧ within x.t 1 100 = true ∧ x.p.length ≤ 100 ∧ ∀ j (hj : j < x.p.length), goodPin x j hj := by
  simp only [cylOk, Bool.and_eq_true, decide_eq_true_eq, rising_iff, List.all_eq_true, goodPin, and_assoc]
  refine and_congr_right fun _ => and_congr_right fun _ => and_congr_right fun _ => ?_
  constructor
  · rintro ⟨h1, h2⟩ j hj
    exact ⟨h1 _ (List.getElem_mem hj), h2 j hj⟩
  · intro h
    refine ⟨fun p hp => ?_, fun j hj h0 => (h j hj).2 h0⟩
    obtain ⟨j, hj, rfl⟩ := List.getElem_of_mem hp
    exact (h j hj).1

end Go.Mw

/- Sums, steps, states. -/
namespace Go.Mw
theorem cylOk_bounds {x : Cyl} (h : cylOk x = true) : (4 ≤ x.s ∧ x.s ≤ 96) ∧ (1 ≤ x.t ∧ x.t ≤ 100) ∧ x.p.length ≤ 100 := by
  have h := (cylOk_iff x).1 h
  exact ⟨by simpa [within] using h.1, by simpa [within] using h.2.1, h.2.2.1⟩
end Go.Mw

/- States: around, pins at an angle, start, stop, step. -/
namespace Go.Mw
theorem sttOk_iff (x : Cyl) (y : Stt) : sttOk x y = true ↔ cylOk x = true ∧ (0 ≤ y.a ∧ y.a ≤ x.s - 1) ∧ (0 ≤ y.p ∧ y.p ≤ 100000) := by
  simp [sttOk, within]
end Go.Mw

/- Steps and runs. -/
namespace Go.Mw
theorem canStep_iff (x : Cyl) (y : Stt) : canStep x y = true ↔ sttOk x y = true ∧ y.n = true ∧ sttOk x (nextStt x y) = true := by
  simp [canStep, and_assoc]
theorem itS_on {x : Cyl} {y : Stt} (h : sttOk x y = true) (hn : y.n = true) : ∀ k, k < runN x y → (itS x y k).a = y.a + k ∧ (itS x y k).n = true
  | 0, _ => by simp [itS, hn]
  | k + 1, hk => by
    have ih := itS_on h hn k (by omega)
    have hs := (sttOk_iff x y).1 h
    unfold runN at hk
    have e : (y.a + k + 1) % x.s = y.a + k + 1 := Int.emod_eq_of_lt (by omega) (by omega)
    simp only [itS, nextStt, ih.1, e]
    simp; omega
theorem itS_off {x : Cyl} {y : Stt} (h : sttOk x y = true) (hn : y.n = true) : (itS x y (runN x y)).a = 0 ∧ (itS x y (runN x y)).n = false := by
  have hs := (sttOk_iff x y).1 h
  obtain ⟨k, hk⟩ : ∃ k, runN x y = k + 1 := ⟨runN x y - 1, by unfold runN; omega⟩
  have ih := itS_on h hn k (by omega)
  rw [hk]
  have e : (y.a + k + 1) % x.s = 0 := by
    rw [show y.a + k + 1 = x.s by unfold runN at hk; omega, Int.emod_self]
  simp only [itS, nextStt, ih.1, e]
  simp
end Go.Mw

/- Digits; boxes. -/
namespace Go.Mw
theorem areDigits_iff {l : List Int} {a b : Int} : areDigits l a b = true ↔ within l.length a b = true ∧ ∀ x ∈ l, within x 0 9 = true := by
  simp [areDigits]
end Go.Mw

/- Checked digits. -/
namespace Go.Mw
end Go.Mw

/- Boxes; moods. -/
namespace Go.Mw
theorem impl_areBoxes_ok : ∀ ds outs, F_areBoxes ds = some outs → shL impl_areBoxes_L (qRet outs) ds := F_areBoxes_elim fun l n hp => by
  rw [impl_areBoxes_L_sh]
  simp
  refine ⟨fun h => by simp [areBoxes]; intro h; omega, fun h9 => ?_⟩
  refine loop_upto l.length (fun k => [vL I3 v3 l, .int .i64 l.length, .int .i64 k]) (by intro i j _ _ h; simp at h; omega) (fun k => ∀ x ∈ l.take k, boxOk x = true) (by simp) (by simp) ?_
  intro k hk hP
  rw [impl_areBoxes_b0_sh]
  simp
  refine ⟨fun h => ?_, fun h => ?_⟩
  · have hno : boxOk l[k] = false → areBoxes l n = false := by
      intro hf
      simp only [areBoxes, Bool.and_eq_false_iff, List.all_eq_false]
      exact .inr ⟨l[k], by simp, by simp [hf]⟩
    simp (disch := omega) only [h, List.getElem?_eq_getElem, Option.some.injEq, exists_eq_left', wrap_id, all_take_succ h]
    cases h1 : boxOk l[k] <;> simp_all
  · obtain rfl : k = l.length := by omega
    simp [impl_areBoxes_r1_sh, areBoxes]
    simp at hP
    exact ⟨by omega, hP⟩
theorem impl_isInside_ok : ∀ ds outs, F_isInside ds = some outs → shL impl_isInside_L (qRet outs) ds := F_isInside_elim fun x y => by
  rw [impl_isInside_L_sh]
  simp [inside]
  grind

theorem bestBox_lt (l : List T3) (w : T3) : ∀ k : Nat, k ≤ l.length → -1 ≤ bestBox l w k ∧ bestBox l w k < k
  | 0, _ => by simp [bestBox]
  | k + 1, h => by
    have ih := bestBox_lt l w k (by omega)
    simp only [bestBox, List.getElem?_eq_getElem (show k < l.length by omega)]
    split <;> (push_cast; omega)
theorem bestBox_succ {l : List T3} {w : T3} {k : Nat} (h : k < l.length) (hb : 0 ≤ bestBox l w k) : bestBox l w (k + 1) =
    if 0 ≤ leftOver w l[k] ∧ leftOver w l[k] < leftOver w (l[(bestBox l w k).toNat]'(by have := bestBox_lt l w k (by omega); omega)) then (k : Int) else bestBox l w k := by
  have hl := bestBox_lt l w k (by omega)
  simp only [bestBox, List.getElem?_eq_getElem h, List.getElem?_eq_getElem (show (bestBox l w k).toNat < l.length by omega)]
  have : ¬ bestBox l w k < 0 := by omega
  simp [this]
theorem bestBox_succ0 {l : List T3} {w : T3} {k : Nat} (h : k < l.length) (hb : bestBox l w k < 0) : bestBox l w (k + 1) =
    if 0 ≤ leftOver w l[k] then (k : Int) else bestBox l w k := by
  simp only [bestBox, List.getElem?_eq_getElem h]
  simp [hb]
theorem impl_SmallestBox_ok : ∀ ds outs, F_SmallestBox ds = some outs → shL impl_SmallestBox_L (qRet outs) ds := F_SmallestBox_elim fun l w hp => by
  rw [impl_SmallestBox_L_sh]
  cases hd : areBoxes l 20 with
  | false => simp [p_areBoxes hp, hd, smallestBox]
  | true =>
  cases hd2 : boxOk w with
  | false => simp [p_areBoxes hp, hd, hd2, smallestBox]
  | true =>
  have hlen : l.length ≤ 20 := by simp [areBoxes] at hd; omega
  simp [p_areBoxes hp, hd, hd2, smallestBox]
  refine loop_upto l.length (fun k => [vL I3 v3 l, .int .i64 (bestBox l w k), vL I3 v3 l, .int .i64 l.length, .int .i64 k, .int .i64 w.a, .int .i64 w.b, .int .i64 w.c]) (by intro i j _ _ h; simp at h; omega) (fun _ => True) (by simp [bestBox]) trivial ?_
  intro k hk _
  have hl := bestBox_lt l w k hk
  rw [impl_SmallestBox_b0_sh]
  simp
  refine ⟨fun h => ?_, fun h => ?_⟩
  · have hkw : IntKind.i64.wrap ((k : Int) + 1) = k + 1 := wrap_id (by omega) (by omega)
    simp [h, hkw]
    refine ⟨fun h0 => ⟨fun h1 => ?_, fun h1 => ⟨h1, ?_⟩⟩, fun h0 => ?_⟩
    · rw [bestBox_succ0 h h1]; simp [h0]
    · have h2 : (bestBox l w k).toNat < l.length := by omega
      rw [bestBox_succ h h1]
      simp [h0, h2]
      grind
    · by_cases h1 : 0 ≤ bestBox l w k
      · rw [bestBox_succ h h1, if_neg (by omega)]
      · rw [bestBox_succ0 h (by omega), if_neg (by omega)]
  · obtain rfl : k = l.length := by omega
    simp [impl_SmallestBox_r1_sh]
end Go.Mw

/- Moods. -/
namespace Go.Mw
/-- Which of the numbers below n stand in the list. -/
def seenOf (l : List Int) (n : Nat) : List Bool := (List.range n).map fun j : Nat => decide ((j : Int) ∈ l)
@[simp] theorem seenOf_len {l : List Int} {n : Nat} : (seenOf l n).length = n := by simp [seenOf]
end Go.Mw

/- What functions compute, in plain terms: benches and workshops. -/
namespace Go.Mw
/-! memory -/
/-! benches -/
/-! workshops -/
def Shop.bench (w : Shop) : Bench := ⟨w.s, w.t, w.p, w.o⟩
end Go.Mw

/- Functions of the program, as small pure programs (printed by a program of ours). -/
namespace Go.Mw
noncomputable section
end
end Go.Mw

/- Benches: memory. -/
namespace Go.Mw
end Go.Mw

/- Benches: memory that is marked. -/
namespace Go.Mw
end Go.Mw

/- Benches: memory; what is a fine bench. -/
namespace Go.Mw
end Go.Mw

/- Benches: laws, copies, changed pins. -/
namespace Go.Mw
end Go.Mw

/- Benches: changed pins, copies, new benches. -/
namespace Go.Mw
end Go.Mw

/- New benches; combs, springs, workshops. -/
namespace Go.Mw
@[simp] theorem P1_lstL2 {a : List T2} {k : V → Prop} : P1 (.lst [.sl [.sc, .sc]] false 1) [vL I2 v2 a] k ↔ k (vL IL2 vLL2 [a]) := P1_of (by simp [Prim.run, aksOk, akOk, chunk, V.pack, vL, vLL2, AK.eqs_refl, IL2]) k
end Go.Mw

/- Combs, workshops. -/
namespace Go.Mw
end Go.Mw

/- Workshops. -/
namespace Go.Mw
end Go.Mw

/- Workshops: memory, opening. -/
namespace Go.Mw
@[simp] theorem P1_lst14 {a b c d : Int} {k : V → Prop} : P1 (.lst [.sc] false 4) [.int .i64 a, .int .i64 b, .int .i64 c, .int .i64 d] k ↔ k (vL I1 v1 [a, b, c, d]) := P1_of (by simp [Prim.run, aksOk, akOk, chunk, V.pack, vL, v1]) k
end Go.Mw

/- The sample workshop: the law. -/
namespace Go.Mw
noncomputable section
end
end Go.Mw

/- What functions compute, in plain terms: the bench's steps. -/
namespace Go.Mw
end Go.Mw

/- Functions of the program, as small pure programs (printed by a program of ours). -/
namespace Go.Mw
noncomputable section
end
end Go.Mw

/- Taking back; a step of the bench; pulling a pin. -/
namespace Go.Mw
end Go.Mw

/- Copies of a bench (spec); pulling a pin. -/
namespace Go.Mw
end Go.Mw

/- What functions compute, in plain terms: draws; stops and sums. -/
namespace Go.Mw
/-- A bitwise operation of the machine. -/
def land (a b : Int) : Int := IntKind.i64.wrap (BitVec.ofInt IntKind.i64.bits a &&& BitVec.ofInt IntKind.i64.bits b).toNat
def lxor (a b : Int) : Int := IntKind.i64.wrap (BitVec.ofInt IntKind.i64.bits a ^^^ BitVec.ofInt IntKind.i64.bits b).toNat
@[simp] theorem P1_and {a b : Int} {k : V → Prop} : P1 (.bin .and) [.int .i64 a, .int .i64 b] k ↔ k (.int .i64 (land a b)) := P1_of (by simp [Prim.run, binV, binI, land]) k
@[simp] theorem P1_xor {a b : Int} {k : V → Prop} : P1 (.bin .xor) [.int .i64 a, .int .i64 b] k ↔ k (.int .i64 (lxor a b)) := P1_of (by simp [Prim.run, binV, binI, lxor]) k
theorem P1_shr {a b : Int} {κ' : IntKind} {k : V → Prop} (hb : 0 ≤ b) : P1 (.bin .shr) [.int .i64 a, .int κ' b] k ↔ k (.int .i64 (a.fdiv (2 ^ (min b.toNat IntKind.i64.bits)))) := P1_of (by simp [Prim.run, binV]; omega) k
/-- A cursor: its bytes, the place, the hash. -/
structure Cur where
  b : List UInt8
  i : Int
  h : Int
def E_big (l : List UInt8) : List V := [vL I1 vY l]
noncomputable def F_big : List V → Option (List V) := mkF E_big (fun l => l.length ≤ 9223372036854775807) (fun l => [.bool (decide (1048576 < l.length))])
theorem F_big_inj : ∀ x y, E_big x = E_big y → x = y := by
  rintro l l' h
  simpa [E_big] using h
theorem F_big_elim {P : List V → List V → Prop} (h : ∀ (l : List UInt8), (l.length ≤ 9223372036854775807) → P [vL I1 vY l] [.bool (decide (1048576 < l.length))]) : ∀ ds outs, F_big ds = some outs → P ds outs := by
  intro ds outs hh
  obtain ⟨l, rfl, hp, rfl⟩ := mkF_inv hh
  exact h l hp
theorem p_big {l : List UInt8} {nr_ : Nat} {kk_ : V → Prop} (hp : l.length ≤ 9223372036854775807) : P1 (.call F_big 0 nr_) [vL I1 vY l] kk_ ↔ kk_ (.bool (decide (1048576 < l.length))) :=
  P1_callF (by unfold F_big; exact mkF_eq F_big_inj (l) hp)

def seedTo (l : List UInt8) : Nat → Int
  | 0 => 33091 + l.length
  | k + 1 => land (IntKind.i64.wrap (IntKind.i64.wrap (IntKind.i64.wrap (seedTo l k * 131) + (match l[k]? with | some x => (x.toNat : Int) | none => 0)) + 7)) 1073741823
def seedOf (l : List UInt8) : Int := seedTo l (min l.length 4000)
def E_l01New (l : List UInt8) : List V := [vL I1 vY l]
noncomputable def F_l01New : List V → Option (List V) := mkF E_l01New (fun l => l.length ≤ 1048576) (fun l => [vL I1 vY l, .int .i64 0, .int .i64 (seedOf l)])
theorem F_l01New_inj : ∀ x y, E_l01New x = E_l01New y → x = y := by
  rintro l l' h
  simpa [E_l01New] using h
theorem F_l01New_elim {P : List V → List V → Prop} (h : ∀ (l : List UInt8), (l.length ≤ 1048576) → P [vL I1 vY l] [vL I1 vY l, .int .i64 0, .int .i64 (seedOf l)]) : ∀ ds outs, F_l01New ds = some outs → P ds outs := by
  intro ds outs hh
  obtain ⟨l, rfl, hp, rfl⟩ := mkF_inv hh
  exact h l hp
theorem p_l01New {l : List UInt8} {nr_ : Nat} {kk_ : V → V → V → Prop} (hp : l.length ≤ 1048576) : P3 (.call F_l01New 0 nr_) [vL I1 vY l] kk_ ↔ kk_ (vL I1 vY l) (.int .i64 0) (.int .i64 (seedOf l)) :=
  P3_callF (by unfold F_l01New; exact mkF_eq F_l01New_inj (l) hp)

def hNext (h : Int) : Int := IntKind.i64.wrap (IntKind.i64.wrap (h * 6364136223846793005) + 1442695040888963407)
def hByte (h : Int) : Int := land (lxor (h.fdiv (2 ^ 33)) (h.fdiv (2 ^ 45))) 255
def cByte (x : Cur) : Int := match x.b[x.i.toNat]? with | some y => land (IntKind.i64.wrap (hByte (hNext x.h) + y.toNat)) 255 | none => hByte (hNext x.h)
def cStep (x : Cur) : Cur := ⟨x.b, if x.i < x.b.length then x.i + 1 else x.i, hNext x.h⟩
def E_l01Byte (x : Cur) : List V := [vL I1 vY x.b, .int .i64 x.i, .int .i64 x.h]
noncomputable def F_l01Byte : List V → Option (List V) := mkF E_l01Byte (fun x => 0 ≤ x.i ∧ x.b.length ≤ 1048576) (fun x => [.int .i64 (cByte x), .int .i64 ((cStep x).i), .int .i64 ((cStep x).h)])
theorem F_l01Byte_inj : ∀ x y, E_l01Byte x = E_l01Byte y → x = y := by
  rintro ⟨xb, xi, xh⟩ ⟨xb', xi', xh'⟩ h
  simpa [E_l01Byte] using h
theorem F_l01Byte_elim {P : List V → List V → Prop} (h : ∀ (x : Cur), (0 ≤ x.i ∧ x.b.length ≤ 1048576) → P [vL I1 vY x.b, .int .i64 x.i, .int .i64 x.h] [.int .i64 (cByte x), .int .i64 ((cStep x).i), .int .i64 ((cStep x).h)]) : ∀ ds outs, F_l01Byte ds = some outs → P ds outs := by
  intro ds outs hh
  obtain ⟨x, rfl, hp, rfl⟩ := mkF_inv hh
  exact h x hp
theorem p_l01Byte {x_b : List UInt8} {x_i : Int} {x_h : Int} {nr_ : Nat} {kk_ : V → V → V → Prop} (hp : 0 ≤ (⟨x_b, x_i, x_h⟩ : Cur).i ∧ (⟨x_b, x_i, x_h⟩ : Cur).b.length ≤ 1048576) : P3 (.call F_l01Byte 0 nr_) [vL I1 vY x_b, .int .i64 x_i, .int .i64 x_h] kk_ ↔ kk_ (.int .i64 (cByte (⟨x_b, x_i, x_h⟩ : Cur))) (.int .i64 ((cStep (⟨x_b, x_i, x_h⟩ : Cur)).i)) (.int .i64 ((cStep (⟨x_b, x_i, x_h⟩ : Cur)).h)) :=
  P3_callF (by unfold F_l01Byte; exact mkF_eq F_l01Byte_inj ((⟨x_b, x_i, x_h⟩ : Cur)) hp)

def cBelow (x : Cur) (n : Int) : Int := if n ≤ 0 then 0 else if n ≤ 256 then (cByte x).tmod n else
  (cByte x * 16777216 + cByte (cStep x) * 65536 + cByte (cStep (cStep x)) * 256 + cByte (cStep (cStep (cStep x)))).tmod n
def cAfter (x : Cur) (n : Int) : Cur := if n ≤ 0 then x else if n ≤ 256 then cStep x else cStep (cStep (cStep (cStep x)))
def E_l01Below : Cur × Int → List V := fun (x, n) => [vL I1 vY x.b, .int .i64 x.i, .int .i64 x.h, .int .i64 n]
noncomputable def F_l01Below : List V → Option (List V) := mkF E_l01Below (fun (x, _) => 0 ≤ x.i ∧ x.b.length ≤ 1048576) (fun (x, n) => [.int .i64 (cBelow x n), .int .i64 ((cAfter x n).i), .int .i64 ((cAfter x n).h)])
theorem F_l01Below_inj : ∀ x y, E_l01Below x = E_l01Below y → x = y := by
  rintro ⟨⟨xb, xi, xh⟩, n⟩ ⟨⟨xb', xi', xh'⟩, n'⟩ h
  simpa [E_l01Below, and_assoc] using h
theorem F_l01Below_elim {P : List V → List V → Prop} (h : ∀ (x : Cur) (n : Int), (0 ≤ x.i ∧ x.b.length ≤ 1048576) → P [vL I1 vY x.b, .int .i64 x.i, .int .i64 x.h, .int .i64 n] [.int .i64 (cBelow x n), .int .i64 ((cAfter x n).i), .int .i64 ((cAfter x n).h)]) : ∀ ds outs, F_l01Below ds = some outs → P ds outs := by
  intro ds outs hh
  obtain ⟨⟨x, n⟩, rfl, hp, rfl⟩ := mkF_inv hh
  exact h x n hp
theorem p_l01Below {x_b : List UInt8} {x_i : Int} {x_h : Int} {n : Int} {nr_ : Nat} {kk_ : V → V → V → Prop} (hp : 0 ≤ (⟨x_b, x_i, x_h⟩ : Cur).i ∧ (⟨x_b, x_i, x_h⟩ : Cur).b.length ≤ 1048576) : P3 (.call F_l01Below 0 nr_) [vL I1 vY x_b, .int .i64 x_i, .int .i64 x_h, .int .i64 n] kk_ ↔ kk_ (.int .i64 (cBelow (⟨x_b, x_i, x_h⟩ : Cur) n)) (.int .i64 ((cAfter (⟨x_b, x_i, x_h⟩ : Cur) n).i)) (.int .i64 ((cAfter (⟨x_b, x_i, x_h⟩ : Cur) n).h)) :=
  P3_callF (by unfold F_l01Below; exact mkF_eq F_l01Below_inj ((⟨x_b, x_i, x_h⟩ : Cur), n) hp)


def cylX (x : Cur) : Cur := cAfter (cAfter (cAfter x 21) 8) 10
def cur0 (l : List UInt8) : Cur := ⟨l, 0, seedOf l⟩
end Go.Mw

/- Functions of the program, as small pure programs (printed by a program of ours). -/
namespace Go.Mw
noncomputable section
def laws_big_L : L := .seq (.rg []) (.seq (.rg [⟨[], .len, [.v 0], 1⟩, ⟨[], .bin .gtr, [.v 1, .k (.int .i64 1048576)], 1⟩]) (.ret [.v 2]))
theorem laws_big_L_sh (Q : QT) (x0 : V) : shL laws_big_L Q [x0] = (
  P1 (.len) [x0] fun v0 =>
  P1 (.bin .gtr) [v0, .int .i64 1048576] fun v1 =>
  Q .ret [v1]) := by kernel_rfl
def laws_big_S : Sig := ⟨[.val false [.sl [.sc]]], [(false, [.sc])], F_big⟩
def laws_big_hs : List NF := []

def spec_l01New_b0 : L := .seq (.seq (.seq (.rg [⟨[], .len, [.v 0], 1⟩, ⟨[], .bin .lss, [.v 2, .v 3], 1⟩, ⟨[(.v 4, true)], .bin .lss, [.v 2, .k (.int .i64 4000)], 1⟩, ⟨[], .pick, [.v 4, .v 5, .k (.bool false)], 1⟩]) (.ite (.v 6) (.skip) (.seq (.tup [.v 0, .v 1]) (.exit 0)))) (.seq (.block 1 (.seq (.rg [⟨[], .bin .mul, [.v 1, .k (.int .i64 131)], 1⟩, ⟨[], .idx [.sc], [.v 0, .v 2], 1⟩, ⟨[], .conv .i64, [.v 8], 1⟩, ⟨[], .bin .add, [.v 7, .v 9], 1⟩, ⟨[], .bin .add, [.v 10, .k (.int .i64 7)], 1⟩, ⟨[], .bin .and, [.v 11, .k (.int .i64 1073741823)], 1⟩]) (.tup [.v 0, .v 12, .v 2]))) (.rg [⟨[], .bin .add, [.v 2, .k (.int .i64 1)], 1⟩]))) (.tup [.v 0, .v 1, .v 3])
theorem spec_l01New_b0_sh (Q : QT) (x0 x1 x2 : V) : shL spec_l01New_b0 Q [x0, x1, x2] = (
  P1 (.len) [x0] fun v0 =>
  P1 (.bin .lss) [x2, v0] fun v1 =>
  ifB v1 (
    P1 (.bin .lss) [x2, .int .i64 4000] fun v2 =>
    ifB v2 (
      P1 (.bin .mul) [x1, .int .i64 131] fun v3 =>
      P1 (.idx [.sc]) [x0, x2] fun v4 =>
      P1 (.conv .i64) [v4] fun v5 =>
      P1 (.bin .add) [v3, v5] fun v6 =>
      P1 (.bin .add) [v6, .int .i64 7] fun v7 =>
      P1 (.bin .and) [v7, .int .i64 1073741823] fun v8 =>
      P1 (.bin .add) [x2, .int .i64 1] fun v9 =>
      Q .normal [x0, v8, v9]) (
      Q (.exit 0) [x0, x1])) (
    Q (.exit 0) [x0, x1])) := by kernel_rfl

def spec_l01New_r1 : L := .seq (.rg []) (.ret [.v 0, .k (.int .i64 0), .v 1])
theorem spec_l01New_r1_sh (Q : QT) (x0 x1 : V) : shL spec_l01New_r1 Q [x0, x1] = (
  Q .ret [x0, .int .i64 0, x1]) := by kernel_rfl

def spec_l01New_L : L := .seq (.rg []) (.seq (.rg [⟨[], .len, [.v 0], 1⟩, ⟨[], .bin .add, [.k (.int .i64 33091), .v 1], 1⟩]) (.seq (.seq (.rg []) (.block 0 (.seq (.tup [.v 0, .v 2, .k (.int .i64 0)]) (.loop (spec_l01New_b0))))) (spec_l01New_r1)))
theorem spec_l01New_L_sh (Q : QT) (x0 : V) : shL spec_l01New_L Q [x0] = (
  P1 (.len) [x0] fun v0 =>
  P1 (.bin .add) [.int .i64 33091, v0] fun v1 =>
  shL (.loop spec_l01New_b0) (qB 0 (qS (shL spec_l01New_r1 Q) Q)) [x0, v1, .int .i64 0]) := by kernel_rfl
def spec_l01New_S : Sig := ⟨[.new [.sl [.sc], .sc, .sc], .val false [.sl [.sc]]], [], F_l01New⟩
def spec_l01New_hs : List NF := [⟨[(0, .sc false [.ro [.sc]]), (3, .sc false [.sc])], [], [], 64⟩, ⟨[(0, .sc false [.ro [.sc]]), (3, .sc false [.sc]), (4, .sc false [.sc])], [], [], 64⟩, ⟨[(0, .sc false [.ro [.sc]]), (3, .sc false [.sc]), (4, .sc false [.sc])], [], [], 64⟩]

def spec_l01Byte_L : L := .seq (.rg []) (.seq (.rg [⟨[], .bin .mul, [.v 2, .k (.int .i64 6364136223846793005)], 1⟩, ⟨[], .bin .add, [.v 3, .k (.int .i64 1442695040888963407)], 1⟩]) (.seq (.rg [⟨[], .bin .shr, [.v 4, .k (.int .u64 33)], 1⟩, ⟨[], .bin .shr, [.v 4, .k (.int .u64 45)], 1⟩, ⟨[], .bin .xor, [.v 5, .v 6], 1⟩, ⟨[], .bin .and, [.v 7, .k (.int .i64 255)], 1⟩]) (.seq (.seq (.rg [⟨[], .len, [.v 0], 1⟩, ⟨[], .bin .lss, [.v 1, .v 9], 1⟩]) (.ite (.v 10) (.seq (.seq (.rg [⟨[], .idx [.sc], [.v 0, .v 1], 1⟩, ⟨[], .conv .i64, [.v 11], 1⟩, ⟨[], .bin .add, [.v 8, .v 12], 1⟩, ⟨[], .bin .and, [.v 13, .k (.int .i64 255)], 1⟩]) (.rg [⟨[], .bin .add, [.v 1, .k (.int .i64 1)], 1⟩])) (.tup [.v 14, .v 0, .v 15, .v 4])) (.seq (.skip) (.tup [.v 8, .v 0, .v 1, .v 4])))) (.seq (.rg []) (.ret [.v 0, .v 2, .v 3])))))
theorem spec_l01Byte_L_sh (Q : QT) (x0 x1 x2 : V) : shL spec_l01Byte_L Q [x0, x1, x2] = (
  P1 (.bin .mul) [x2, .int .i64 6364136223846793005] fun v0 =>
  P1 (.bin .add) [v0, .int .i64 1442695040888963407] fun v1 =>
  P1 (.bin .shr) [v1, .int .u64 33] fun v2 =>
  P1 (.bin .shr) [v1, .int .u64 45] fun v3 =>
  P1 (.bin .xor) [v2, v3] fun v4 =>
  P1 (.bin .and) [v4, .int .i64 255] fun v5 =>
  P1 (.len) [x0] fun v6 =>
  P1 (.bin .lss) [x1, v6] fun v7 =>
  ifB v7 (
    P1 (.idx [.sc]) [x0, x1] fun v8 =>
    P1 (.conv .i64) [v8] fun v9 =>
    P1 (.bin .add) [v5, v9] fun v10 =>
    P1 (.bin .and) [v10, .int .i64 255] fun v11 =>
    P1 (.bin .add) [x1, .int .i64 1] fun v12 =>
    Q .ret [v11, v12, v1]) (
    Q .ret [v5, x1, v1])) := by kernel_rfl
def spec_l01Byte_S : Sig := ⟨[.ptr [.sl [.sc], .sc, .sc]], [(false, [.sc])], F_l01Byte⟩
def spec_l01Byte_hs : List NF := [⟨[(3, .sc false [.sc])], [], [(0, [.ro [.sc], .sc, .sc])], 64⟩]

def spec_l01Below_L : L := .seq (.rg []) (.seq (.seq (.rg [⟨[], .bin .leq, [.v 3, .k (.int .i64 0)], 1⟩]) (.ite (.v 4) (.seq (.rg []) (.ret [.k (.int .i64 0), .v 1, .v 2])) (.skip))) (.seq (.seq (.rg [⟨[], .bin .leq, [.v 3, .k (.int .i64 256)], 1⟩]) (.ite (.v 5) (.seq (.rg [⟨[], .call F_l01Byte 0 1, [.v 0, .v 1, .v 2], 3⟩, ⟨[], .bin .rem, [.v 6, .v 3], 1⟩]) (.ret [.v 9, .v 7, .v 8])) (.skip))) (.seq (.rg [⟨[], .call F_l01Byte 0 1, [.v 0, .v 1, .v 2], 3⟩]) (.seq (.rg [⟨[], .call F_l01Byte 0 1, [.v 0, .v 7, .v 8], 3⟩]) (.seq (.rg [⟨[], .call F_l01Byte 0 1, [.v 0, .v 10, .v 11], 3⟩]) (.seq (.rg [⟨[], .call F_l01Byte 0 1, [.v 0, .v 13, .v 14], 3⟩]) (.seq (.rg [⟨[], .bin .mul, [.v 6, .k (.int .i64 16777216)], 1⟩, ⟨[], .bin .mul, [.v 9, .k (.int .i64 65536)], 1⟩, ⟨[], .bin .add, [.v 18, .v 19], 1⟩, ⟨[], .bin .mul, [.v 12, .k (.int .i64 256)], 1⟩, ⟨[], .bin .add, [.v 20, .v 21], 1⟩, ⟨[], .bin .add, [.v 22, .v 15], 1⟩, ⟨[], .bin .rem, [.v 23, .v 3], 1⟩]) (.ret [.v 24, .v 16, .v 17]))))))))
theorem spec_l01Below_L_sh (Q : QT) (x0 x1 x2 x3 : V) : shL spec_l01Below_L Q [x0, x1, x2, x3] = (
  P1 (.bin .leq) [x3, .int .i64 0] fun v0 =>
  ifB v0 (
    Q .ret [.int .i64 0, x1, x2]) (
    P1 (.bin .leq) [x3, .int .i64 256] fun v1 =>
    ifB v1 (
      P3 (.call F_l01Byte 0 1) [x0, x1, x2] fun v2 v3 v4 =>
      P1 (.bin .rem) [v2, x3] fun v5 =>
      Q .ret [v5, v3, v4]) (
      P3 (.call F_l01Byte 0 1) [x0, x1, x2] fun v6 v7 v8 =>
      P3 (.call F_l01Byte 0 1) [x0, v7, v8] fun v9 v10 v11 =>
      P3 (.call F_l01Byte 0 1) [x0, v10, v11] fun v12 v13 v14 =>
      P3 (.call F_l01Byte 0 1) [x0, v13, v14] fun v15 v16 v17 =>
      P1 (.bin .mul) [v6, .int .i64 16777216] fun v18 =>
      P1 (.bin .mul) [v9, .int .i64 65536] fun v19 =>
      P1 (.bin .add) [v18, v19] fun v20 =>
      P1 (.bin .mul) [v12, .int .i64 256] fun v21 =>
      P1 (.bin .add) [v20, v21] fun v22 =>
      P1 (.bin .add) [v22, v15] fun v23 =>
      P1 (.bin .rem) [v23, x3] fun v24 =>
      Q .ret [v24, v16, v17]))) := by kernel_rfl
def spec_l01Below_S : Sig := ⟨[.ptr [.sl [.sc], .sc, .sc], .val false [.sc]], [(false, [.sc])], F_l01Below⟩
def spec_l01Below_hs : List NF := []

end
end Go.Mw

/- Draws. -/
namespace Go.Mw
theorem land_range (a : Int) (m : Nat) (hm : m < 4611686018427387904) : 0 ≤ land a m ∧ land a m ≤ m := by
  have h : (BitVec.ofInt IntKind.i64.bits a &&& BitVec.ofInt IntKind.i64.bits (m : Int)).toNat ≤ m := by
    rw [BitVec.toNat_and]
    refine Nat.le_trans Nat.and_le_right ?_
    simp [BitVec.toNat_ofInt, IntKind.bits]
    omega
  unfold land
  rw [wrap_id (by omega) (by omega)]
  omega
theorem land255 (a : Int) : 0 ≤ land a 255 ∧ land a 255 ≤ 255 := land_range a 255 (by omega)
theorem hByte_range (h : Int) : 0 ≤ hByte h ∧ hByte h ≤ 255 := land255 _
theorem cByte_range (x : Cur) : 0 ≤ cByte x ∧ cByte x ≤ 255 := by
  unfold cByte
  split
  · exact land255 _
  · exact hByte_range _
@[simp] theorem cStep_b (x : Cur) : (cStep x).b = x.b := rfl
theorem cStep_i {x : Cur} (h : 0 ≤ x.i) : 0 ≤ (cStep x).i := by unfold cStep; dsimp only; split <;> omega
@[simp] theorem cAfter_b (x : Cur) (n : Int) : (cAfter x n).b = x.b := by unfold cAfter; split <;> (try split) <;> simp
theorem cAfter_i {x : Cur} {n : Int} (h : 0 ≤ x.i) : 0 ≤ (cAfter x n).i := by
  unfold cAfter
  split
  · exact h
  · split
    · exact cStep_i h
    · exact cStep_i (cStep_i (cStep_i (cStep_i h)))
theorem tmod_range {a n : Int} (ha : 0 ≤ a) (hn : 0 < n) : 0 ≤ a.tmod n ∧ a.tmod n < n := ⟨Int.tmod_nonneg _ ha, Int.tmod_lt_of_pos _ hn⟩
theorem cBelow_range (x : Cur) {n : Int} (hn : 0 < n) : 0 ≤ cBelow x n ∧ cBelow x n < n := by
  unfold cBelow
  rw [if_neg (by omega)]
  have h1 := cByte_range x
  have h2 := cByte_range (cStep x)
  have h3 := cByte_range (cStep (cStep x))
  have h4 := cByte_range (cStep (cStep (cStep x)))
  split
  · exact tmod_range (by omega) hn
  · exact tmod_range (by omega) hn

theorem laws_big_ok : ∀ ds outs, F_big ds = some outs → shL laws_big_L (qRet outs) ds := F_big_elim fun l hp => by
  rw [laws_big_L_sh]; simp; omega
theorem spec_l01New_ok : ∀ ds outs, F_l01New ds = some outs → shL spec_l01New_L (qRet outs) ds := F_l01New_elim fun l hp => by
  rw [spec_l01New_L_sh]
  have hw : IntKind.i64.wrap (33091 + (l.length : Int)) = 33091 + l.length := wrap_id (by omega) (by omega)
  simp only [P1_len, P1_add, hw]
  refine loop_upto (min l.length 4000) (fun k => [vL I1 vY l, .int .i64 (seedTo l k), .int .i64 k]) (by intro i j _ _ h; simp at h; omega) (fun _ => True) (by simp [seedTo]) trivial ?_
  intro k hk _
  rw [spec_l01New_b0_sh]
  simp
  refine ⟨fun h => ⟨fun h2 => ?_, fun h2 => ?_⟩, fun h => ?_⟩
  · have hw2 : IntKind.i64.wrap ((k : Int) + 1) = k + 1 := wrap_id (by omega) (by omega)
    have hw3 : IntKind.i64.wrap (l[k].toNat : Int) = l[k].toNat := by have := l[k].toNat_lt; exact wrap_id (by omega) (by omega)
    simp [h, hw2, hw3, seedTo]
    omega
  · obtain rfl : k = min l.length 4000 := by omega
    simp [spec_l01New_r1_sh, seedOf]
  · obtain rfl : k = min l.length 4000 := by omega
    simp [spec_l01New_r1_sh, seedOf]
theorem spec_l01Byte_ok : ∀ ds outs, F_l01Byte ds = some outs → shL spec_l01Byte_L (qRet outs) ds := F_l01Byte_elim fun x hp => by
  rw [spec_l01Byte_L_sh]
  have e33 : min (33 : Int).toNat IntKind.i64.bits = 33 := by decide
  have e45 : min (45 : Int).toNat IntKind.i64.bits = 45 := by decide
  simp only [P1_mul, P1_add, P1_shr (show (0 : Int) ≤ 33 by omega), P1_shr (show (0 : Int) ≤ 45 by omega), e33, e45, P1_xor, P1_and, P1_len, P1_lss, ifB_bool, decide_eq_true_eq, decide_eq_false_iff_not]
  have eh : IntKind.i64.wrap (IntKind.i64.wrap (x.h * 6364136223846793005) + 1442695040888963407) = hNext x.h := rfl
  have eb : land (lxor ((hNext x.h).fdiv (2 ^ 33)) ((hNext x.h).fdiv (2 ^ 45))) 255 = hByte (hNext x.h) := rfl
  simp only [eh, eb]
  refine ⟨fun h => ?_, fun h => ?_⟩
  · have hi : x.i.toNat < x.b.length := by omega
    have hw2 : IntKind.i64.wrap (x.i + 1) = x.i + 1 := wrap_id (by omega) (by omega)
    have hw3 : IntKind.i64.wrap (x.b[x.i.toNat].toNat : Int) = x.b[x.i.toNat].toNat := by have := x.b[x.i.toNat].toNat_lt; exact wrap_id (by omega) (by omega)
    simp [hp.1, hi, h, hw2, hw3, cByte, cStep]
  · have hi : x.b[x.i.toNat]? = none := by rw [List.getElem?_eq_none_iff]; omega
    simp [hi, h, cByte, cStep]
theorem q_byte {b : List UInt8} (c : Cur) {n : Nat} {k : V → V → V → Prop} (hb : c.b = b) (h : 0 ≤ c.i) (hl : b.length ≤ 1048576) : P3 (.call F_l01Byte 0 n) [vL I1 vY b, .int .i64 c.i, .int .i64 c.h] k ↔ k (.int .i64 (cByte c)) (.int .i64 (cStep c).i) (.int .i64 (cStep c).h) := by
  subst hb; exact p_l01Byte ⟨h, hl⟩
theorem spec_l01Below_ok : ∀ ds outs, F_l01Below ds = some outs → shL spec_l01Below_L (qRet outs) ds := F_l01Below_elim fun x n hp => by
  rw [spec_l01Below_L_sh]
  have hb := hp.2
  have i0 := hp.1
  have i1 := cStep_i i0
  have i2 := cStep_i i1
  have i3 := cStep_i i2
  have h1 := cByte_range x
  have h2 := cByte_range (cStep x)
  have h3 := cByte_range (cStep (cStep x))
  have h4 := cByte_range (cStep (cStep (cStep x)))
  by_cases hn : n ≤ 0
  · simp [hn, cBelow, cAfter]
  · by_cases hn2 : n ≤ 256
    · simp [hn, hn2, cBelow, cAfter, q_byte x, i0, hb]; omega
    · have w1 : IntKind.i64.wrap (cByte x * 16777216) = cByte x * 16777216 := wrap_id (by omega) (by omega)
      have w2 : IntKind.i64.wrap (cByte (cStep x) * 65536) = cByte (cStep x) * 65536 := wrap_id (by omega) (by omega)
      have w3 : IntKind.i64.wrap (cByte x * 16777216 + cByte (cStep x) * 65536) = cByte x * 16777216 + cByte (cStep x) * 65536 := wrap_id (by omega) (by omega)
      have w4 : IntKind.i64.wrap (cByte (cStep (cStep x)) * 256) = cByte (cStep (cStep x)) * 256 := wrap_id (by omega) (by omega)
      have w5 : IntKind.i64.wrap (cByte x * 16777216 + cByte (cStep x) * 65536 + cByte (cStep (cStep x)) * 256) = cByte x * 16777216 + cByte (cStep x) * 65536 + cByte (cStep (cStep x)) * 256 := wrap_id (by omega) (by omega)
      have w6 : IntKind.i64.wrap (cByte x * 16777216 + cByte (cStep x) * 65536 + cByte (cStep (cStep x)) * 256 + cByte (cStep (cStep (cStep x)))) = cByte x * 16777216 + cByte (cStep x) * 65536 + cByte (cStep (cStep x)) * 256 + cByte (cStep (cStep (cStep x))) := wrap_id (by omega) (by omega)
      simp only [P1_leq, ifB_bool, decide_eq_true_eq, decide_eq_false_iff_not]
      refine ⟨fun h => absurd h hn, fun _ => ⟨fun h => absurd h hn2, fun _ => ?_⟩⟩
      rw [q_byte (b := x.b) x rfl i0 hb, q_byte (b := x.b) (cStep x) rfl i1 hb, q_byte (b := x.b) (cStep (cStep x)) rfl i2 hb, q_byte (b := x.b) (cStep (cStep (cStep x))) rfl i3 hb]
      simp [hn, hn2, cBelow, cAfter, w1, w2, w3, w4, w5, w6]; omega
theorem q_below {b : List UInt8} (c : Cur) {n : Int} {m : Nat} {k : V → V → V → Prop} (hb : c.b = b) (h : 0 ≤ c.i) (hl : b.length ≤ 1048576) : P3 (.call F_l01Below 0 m) [vL I1 vY b, .int .i64 c.i, .int .i64 c.h, .int .i64 n] k ↔ k (.int .i64 (cBelow c n)) (.int .i64 (cAfter c n).i) (.int .i64 (cAfter c n).h) := by
  subst hb; exact p_l01Below ⟨h, hl⟩

/-! putting a pin -/
end Go.Mw

/- Drawn cylinders and states. -/
namespace Go.Mw
theorem within_iff' {a b c : Int} : within a b c = true ↔ b ≤ a ∧ a ≤ c := by simp [within]
@[simp] theorem P1_lstI3 {a b c : Int} {k : V → Prop} : P1 (.lst [.sc] false 3) [.int .i64 a, .int .i64 b, .int .i64 c] k ↔ k (vL I1 v1 [a, b, c]) := P1_of (by simp [Prim.run, aksOk, akOk, chunk, V.pack, vL, v1]) k

@[simp] theorem cylX_b (x : Cur) : (cylX x).b = x.b := by simp [cylX]
end Go.Mw

/- Stops. -/
namespace Go.Mw
@[simp] theorem P1_neaX {a c e g : Int} {b f : Bool} {k : V → Prop} : P1 (.eqa true [.i, .b, .i]) [.int .i64 a, .bool b, .int .i64 c, .int .i64 e, .bool f, .int .i64 g] k ↔ k (.bool (!decide (a = e ∧ b = f ∧ c = g))) := P1_of (by simp only [Prim.run, eqVs, eqV1, List.length_cons, List.length_nil, List.take, List.drop, if_true]; cases b <;> cases f <;> simp <;> grind) k
theorem pinsAt_le (c : Cyl) (a : Int) : (pinsAt c a).length ≤ c.p.length := by
  unfold pinsAt
  split
  · simpa using List.length_filter_le _ _
  · simp
theorem it_p (c : Cyl) (x : Stt) : ∀ k, (itS c x k).p = x.p + (itL c x k).length ∧ (itL c x k).length ≤ k * c.p.length
  | 0 => by simp [itS, itL]
  | k + 1 => by
    obtain ⟨h1, h2⟩ := it_p c x k
    have h3 := pinsAt_le c (itS c x k).a
    simp only [itS, itL, nextStt, List.length_append, h1, Nat.add_mul]
    omega
/-- A state of a small cylinder. -/
structure Small (c : Cyl) (x : Stt) : Prop where
  ok : sttOk c x = true
  len : c.p.length ≤ 9
  p : x.p ≤ 77
theorem Small.it {c : Cyl} {x : Stt} (h : Small c x) (hn : x.n = true) {k : Nat} (hk : k ≤ runN c x) : sttOk c (itS c x k) = true := by
  have h0 := (sttOk_iff c x).1 h.ok
  have hb := cylOk_bounds h0.1
  have h1 := it_p c x k
  have h77 := h.p
  have h2 : k * c.p.length ≤ 96 * 9 := Nat.mul_le_mul (by simp only [runN] at hk; omega) h.len
  rw [sttOk_iff]
  refine ⟨h0.1, ?_, by omega⟩
  by_cases e : k < runN c x
  · have := (itS_on h.ok hn k e).1
    simp only [runN] at e
    omega
  · obtain rfl : k = runN c x := by omega
    have := (itS_off h.ok hn).1
    omega
theorem Small.can {c : Cyl} {x : Stt} (h : Small c x) (hn : x.n = true) {k : Nat} (hk : k < runN c x) : canStep c (itS c x k) = true := by
  rw [canStep_iff]
  exact ⟨h.it hn (by omega), (itS_on h.ok hn k hk).2, h.it hn (k := k + 1) hk⟩
def runM (c : Cyl) (x : Stt) : Nat := if x.n then runN c x else 0
theorem Small.steps {c : Cyl} {x : Stt} (h : Small c x) : stepsLeft c x = runM c x := by
  have h0 := (sttOk_iff c x).1 h.ok
  unfold stepsLeft runM
  rw [if_pos h.ok]
  cases x.n
  · simp
  · simp only [if_true, runN]; omega
theorem Small.run {c : Cyl} {x : Stt} (h : Small c x) : runBox c x = (itS c x (runM c x), itL c x (runM c x)) := by
  unfold runBox runM
  cases hn : x.n with
  | false =>
    have : runOk c x = false := by simp [runOk, hn]
    simp [this, itS, itL]
  | true =>
    have : runOk c x = true := by
      simp only [runOk, h.ok, hn, Bool.true_and, List.all_eq_true, List.mem_range]
      intro k hk; exact h.can hn hk
    simp [this]
end Go.Mw

/- The law on stops. -/
namespace Go.Mw
end Go.Mw

/- What functions compute, in plain terms: sums. -/
namespace Go.Mw
def atB (l : List UInt8) (n : Int) : Int := match l[((n * 5 + 1) % l.length).toNat]? with | some x => x.toNat | none => 0
def E_at : List UInt8 × Int → List V := fun (l, n) => [vL I1 vY l, .int .i64 n]
noncomputable def F_at : List V → Option (List V) := mkF E_at (fun (l, n) => l.length ≤ 1048576 ∧ 0 ≤ n ∧ n ≤ 1000000) (fun (l, n) => [.int .i64 (atB l n)])
theorem F_at_inj : ∀ x y, E_at x = E_at y → x = y := by
  rintro ⟨l, n⟩ ⟨l', n'⟩ h
  simpa [E_at] using h
theorem F_at_elim {P : List V → List V → Prop} (h : ∀ (l : List UInt8) (n : Int), (l.length ≤ 1048576 ∧ 0 ≤ n ∧ n ≤ 1000000) → P [vL I1 vY l, .int .i64 n] [.int .i64 (atB l n)]) : ∀ ds outs, F_at ds = some outs → P ds outs := by
  intro ds outs hh
  obtain ⟨⟨l, n⟩, rfl, hp, rfl⟩ := mkF_inv hh
  exact h l n hp
theorem p_at {l : List UInt8} {n : Int} {nr_ : Nat} {kk_ : V → Prop} (hp : l.length ≤ 1048576 ∧ 0 ≤ n ∧ n ≤ 1000000) : P1 (.call F_at 0 nr_) [vL I1 vY l, .int .i64 n] kk_ ↔ kk_ (.int .i64 (atB l n)) :=
  P1_callF (by unfold F_at; exact mkF_eq F_at_inj (l, n) hp)

end Go.Mw

/- Functions of the program, as small pure programs (printed by a program of ours). -/
namespace Go.Mw
noncomputable section
def laws_at_L : L := .seq (.rg []) (.seq (.seq (.rg [⟨[], .len, [.v 0], 1⟩, ⟨[], .bin .eql, [.v 2, .k (.int .i64 0)], 1⟩]) (.ite (.v 3) (.seq (.rg []) (.ret [.k (.int .i64 0)])) (.skip))) (.seq (.rg [⟨[], .bin .mul, [.v 1, .k (.int .i64 5)], 1⟩, ⟨[], .bin .add, [.v 4, .k (.int .i64 1)], 1⟩, ⟨[], .len, [.v 0], 1⟩, ⟨[], .bin .rem, [.v 5, .v 6], 1⟩, ⟨[], .idx [.sc], [.v 0, .v 7], 1⟩, ⟨[], .conv .i64, [.v 8], 1⟩]) (.ret [.v 9])))
theorem laws_at_L_sh (Q : QT) (x0 x1 : V) : shL laws_at_L Q [x0, x1] = (
  P1 (.len) [x0] fun v0 =>
  P1 (.bin .eql) [v0, .int .i64 0] fun v1 =>
  ifB v1 (
    Q .ret [.int .i64 0]) (
    P1 (.bin .mul) [x1, .int .i64 5] fun v2 =>
    P1 (.bin .add) [v2, .int .i64 1] fun v3 =>
    P1 (.len) [x0] fun v4 =>
    P1 (.bin .rem) [v3, v4] fun v5 =>
    P1 (.idx [.sc]) [x0, v5] fun v6 =>
    P1 (.conv .i64) [v6] fun v7 =>
    Q .ret [v7])) := by kernel_rfl
def laws_at_S : Sig := ⟨[.val false [.sl [.sc]], .val false [.sc]], [(false, [.sc])], F_at⟩
def laws_at_hs : List NF := []

end
end Go.Mw

/- Drawn digits; swaps. -/
namespace Go.Mw
theorem laws_at_ok : ∀ ds outs, F_at ds = some outs → shL laws_at_L (qRet outs) ds := F_at_elim fun l n hp => by
  obtain ⟨h1, h2, h3⟩ := hp
  rw [laws_at_L_sh]
  have w1 : IntKind.i64.wrap (n * 5) = n * 5 := wrap_id (by omega) (by omega)
  have w2 : IntKind.i64.wrap (n * 5 + 1) = n * 5 + 1 := wrap_id (by omega) (by omega)
  by_cases h : l = []
  · subst h; simp [atB]
  · have hl : 0 < l.length := List.length_pos_iff.2 h
    have e : (n * 5 + 1).tmod l.length = (n * 5 + 1) % l.length := Int.tmod_eq_emod_of_nonneg (by omega)
    have r1 := Int.emod_nonneg (n * 5 + 1) (show (l.length : Int) ≠ 0 by omega)
    have r2 := Int.emod_lt_of_pos (n * 5 + 1) (show (0 : Int) < l.length by omega)
    have r3 : ((n * 5 + 1) % l.length).toNat < l.length := by omega
    have hw3 : IntKind.i64.wrap (l[((n * 5 + 1) % l.length).toNat].toNat : Int) = l[((n * 5 + 1) % l.length).toNat].toNat := by have := l[((n * 5 + 1) % l.length).toNat].toNat_lt; exact wrap_id (by omega) (by omega)
    have h0 : ¬ ((l.length : Int) = 0) := by omega
    simp [w1, w2, h, e, r1, r3, hw3, atB]
theorem atB_range (l : List UInt8) (n : Int) : 0 ≤ atB l n ∧ atB l n ≤ 255 := by
  unfold atB
  split
  · rename_i x _; have := x.toNat_lt; omega
  · omega
end Go.Mw

/- Words of digits with a check; the law on sums. -/
namespace Go.Mw
/-- A word of digits. -/
structure Word (w : List Int) : Prop where
  lo : 2 ≤ w.length
  hi : w.length ≤ 21
  dig : ∀ x ∈ w, 0 ≤ x ∧ x ≤ 9
theorem Word.are {w : List Int} (h : Word w) : areDigits w 2 21 = true := by
  rw [areDigits_iff]
  have h1 := h.lo; have h2 := h.hi
  exact ⟨within_iff'.2 (by omega), fun x hx => within_iff'.2 (h.dig x hx)⟩
theorem Word.set {w : List Int} (h : Word w) {k : Nat} {e : Int} (he : 0 ≤ e ∧ e ≤ 9) : Word (w.set k e) := by
  refine ⟨by simpa using h.lo, by simpa using h.hi, fun x hx => ?_⟩
  rcases List.mem_or_eq_of_mem_set hx with hx | rfl
  · exact h.dig x hx
  · exact he
end Go.Mw

/- What functions compute, in plain terms: nested boxes. -/
namespace Go.Mw
def inBest (l : List T3) (d : List Int) (x : T3) : Nat → Int
  | 0 => 1
  | j + 1 => match l[j]?, d[j]? with
    | some y, some v => if inside y x then max (inBest l d x j) (v + 1) else inBest l d x j
    | _, _ => inBest l d x j
def rowTo (l : List T3) (s : List Int × Int) : Nat → List Int × Int
  | 0 => s
  | i + 1 => match l[i]? with
    | some x => ((rowTo l s i).1.set i (inBest l (rowTo l s i).1 x l.length), max (rowTo l s i).2 (inBest l (rowTo l s i).1 x l.length))
    | none => rowTo l s i
def dpTo (l : List T3) : Nat → List Int × Int
  | 0 => (List.replicate l.length 0, 0)
  | r + 1 => rowTo l (dpTo l r) l.length
def nested (l : List T3) : Int := if areBoxes l 12 then (dpTo l l.length).2 else -1
def E_NestedBoxes (l : List T3) : List V := [vL I3 v3 l]
noncomputable def F_NestedBoxes : List V → Option (List V) := mkF E_NestedBoxes (fun l => l.length ≤ 1048576) (fun l => [.int .i64 (nested l)])
theorem F_NestedBoxes_inj : ∀ x y, E_NestedBoxes x = E_NestedBoxes y → x = y := by
  rintro l l' h
  simpa [E_NestedBoxes] using h
theorem F_NestedBoxes_elim {P : List V → List V → Prop} (h : ∀ (l : List T3), (l.length ≤ 1048576) → P [vL I3 v3 l] [.int .i64 (nested l)]) : ∀ ds outs, F_NestedBoxes ds = some outs → P ds outs := by
  intro ds outs hh
  obtain ⟨l, rfl, hp, rfl⟩ := mkF_inv hh
  exact h l hp
theorem p_NestedBoxes {l : List T3} {nr_ : Nat} {kk_ : V → Prop} (hp : l.length ≤ 1048576) : P1 (.call F_NestedBoxes 0 nr_) [vL I3 v3 l] kk_ ↔ kk_ (.int .i64 (nested l)) :=
  P1_callF (by unfold F_NestedBoxes; exact mkF_eq F_NestedBoxes_inj (l) hp)

def boxOf (x : Cur) : T3 := ⟨1 + cBelow x 20, 1 + cBelow (cAfter x 20) 20, 1 + cBelow (cAfter (cAfter x 20) 20) 20⟩
def boxEnd (x : Cur) : Cur := cAfter (cAfter (cAfter x 20) 20) 20
def E_l34Box (x : Cur) : List V := [vL I1 vY x.b, .int .i64 x.i, .int .i64 x.h]
noncomputable def F_l34Box : List V → Option (List V) := mkF E_l34Box (fun x => 0 ≤ x.i ∧ x.b.length ≤ 1048576) (fun x => [.int .i64 (boxOf x).a, .int .i64 (boxOf x).b, .int .i64 (boxOf x).c, .int .i64 ((boxEnd x).i), .int .i64 ((boxEnd x).h)])
theorem F_l34Box_inj : ∀ x y, E_l34Box x = E_l34Box y → x = y := by
  rintro ⟨xb, xi, xh⟩ ⟨xb', xi', xh'⟩ h
  simpa [E_l34Box] using h
theorem F_l34Box_elim {P : List V → List V → Prop} (h : ∀ (x : Cur), (0 ≤ x.i ∧ x.b.length ≤ 1048576) → P [vL I1 vY x.b, .int .i64 x.i, .int .i64 x.h] [.int .i64 (boxOf x).a, .int .i64 (boxOf x).b, .int .i64 (boxOf x).c, .int .i64 ((boxEnd x).i), .int .i64 ((boxEnd x).h)]) : ∀ ds outs, F_l34Box ds = some outs → P ds outs := by
  intro ds outs hh
  obtain ⟨x, rfl, hp, rfl⟩ := mkF_inv hh
  exact h x hp
theorem p_l34Box {x_b : List UInt8} {x_i : Int} {x_h : Int} {nr_ : Nat} {kk_ : V → V → V → V → V → Prop} (hp : 0 ≤ (⟨x_b, x_i, x_h⟩ : Cur).i ∧ (⟨x_b, x_i, x_h⟩ : Cur).b.length ≤ 1048576) : P5 (.call F_l34Box 0 nr_) [vL I1 vY x_b, .int .i64 x_i, .int .i64 x_h] kk_ ↔ kk_ (.int .i64 (boxOf (⟨x_b, x_i, x_h⟩ : Cur)).a) (.int .i64 (boxOf (⟨x_b, x_i, x_h⟩ : Cur)).b) (.int .i64 (boxOf (⟨x_b, x_i, x_h⟩ : Cur)).c) (.int .i64 ((boxEnd (⟨x_b, x_i, x_h⟩ : Cur)).i)) (.int .i64 ((boxEnd (⟨x_b, x_i, x_h⟩ : Cur)).h)) :=
  P5_callF (by unfold F_l34Box; exact mkF_eq F_l34Box_inj ((⟨x_b, x_i, x_h⟩ : Cur)) hp)

def boxTo (x : Cur) : Nat → List T3 × Cur
  | 0 => ([], x)
  | k + 1 => ((boxTo x k).1 ++ [boxOf (boxTo x k).2], boxEnd (boxTo x k).2)
def boxN (x : Cur) : Nat := (cBelow x 7).toNat
def E_l34List (x : Cur) : List V := [vL I1 vY x.b, .int .i64 x.i, .int .i64 x.h]
noncomputable def F_l34List : List V → Option (List V) := mkF E_l34List (fun x => 0 ≤ x.i ∧ x.b.length ≤ 1048576) (fun x => [vL I3 v3 ((boxTo (cAfter x 7) (boxN x)).1), .int .i64 ((boxTo (cAfter x 7) (boxN x)).2.i), .int .i64 ((boxTo (cAfter x 7) (boxN x)).2.h)])
theorem F_l34List_inj : ∀ x y, E_l34List x = E_l34List y → x = y := by
  rintro ⟨xb, xi, xh⟩ ⟨xb', xi', xh'⟩ h
  simpa [E_l34List] using h
theorem F_l34List_elim {P : List V → List V → Prop} (h : ∀ (x : Cur), (0 ≤ x.i ∧ x.b.length ≤ 1048576) → P [vL I1 vY x.b, .int .i64 x.i, .int .i64 x.h] [vL I3 v3 ((boxTo (cAfter x 7) (boxN x)).1), .int .i64 ((boxTo (cAfter x 7) (boxN x)).2.i), .int .i64 ((boxTo (cAfter x 7) (boxN x)).2.h)]) : ∀ ds outs, F_l34List ds = some outs → P ds outs := by
  intro ds outs hh
  obtain ⟨x, rfl, hp, rfl⟩ := mkF_inv hh
  exact h x hp
theorem p_l34List {x_b : List UInt8} {x_i : Int} {x_h : Int} {nr_ : Nat} {kk_ : V → V → V → Prop} (hp : 0 ≤ (⟨x_b, x_i, x_h⟩ : Cur).i ∧ (⟨x_b, x_i, x_h⟩ : Cur).b.length ≤ 1048576) : P3 (.call F_l34List 0 nr_) [vL I1 vY x_b, .int .i64 x_i, .int .i64 x_h] kk_ ↔ kk_ (vL I3 v3 ((boxTo (cAfter (⟨x_b, x_i, x_h⟩ : Cur) 7) (boxN (⟨x_b, x_i, x_h⟩ : Cur))).1)) (.int .i64 ((boxTo (cAfter (⟨x_b, x_i, x_h⟩ : Cur) 7) (boxN (⟨x_b, x_i, x_h⟩ : Cur))).2.i)) (.int .i64 ((boxTo (cAfter (⟨x_b, x_i, x_h⟩ : Cur) 7) (boxN (⟨x_b, x_i, x_h⟩ : Cur))).2.h)) :=
  P3_callF (by unfold F_l34List; exact mkF_eq F_l34List_inj ((⟨x_b, x_i, x_h⟩ : Cur)) hp)

def E_DrawBoxes (l : List UInt8) : List V := [vL I1 vY l]
noncomputable def F_DrawBoxes : List V → Option (List V) := mkF E_DrawBoxes (fun l => l.length ≤ 1048576) (fun l => [vL I3 v3 ((boxTo (cAfter (cur0 l) 7) (boxN (cur0 l))).1)])
theorem F_DrawBoxes_inj : ∀ x y, E_DrawBoxes x = E_DrawBoxes y → x = y := by
  rintro l l' h
  simpa [E_DrawBoxes] using h
theorem F_DrawBoxes_elim {P : List V → List V → Prop} (h : ∀ (l : List UInt8), (l.length ≤ 1048576) → P [vL I1 vY l] [vL I3 v3 ((boxTo (cAfter (cur0 l) 7) (boxN (cur0 l))).1)]) : ∀ ds outs, F_DrawBoxes ds = some outs → P ds outs := by
  intro ds outs hh
  obtain ⟨l, rfl, hp, rfl⟩ := mkF_inv hh
  exact h l hp
theorem p_DrawBoxes {l : List UInt8} {nr_ : Nat} {kk_ : V → Prop} (hp : l.length ≤ 1048576) : P1 (.call F_DrawBoxes 0 nr_) [vL I1 vY l] kk_ ↔ kk_ (vL I3 v3 ((boxTo (cAfter (cur0 l) 7) (boxN (cur0 l))).1)) :=
  P1_callF (by unfold F_DrawBoxes; exact mkF_eq F_DrawBoxes_inj (l) hp)

def E_FnLids (l : List UInt8) : List V := [vL I1 vY l]
noncomputable def F_FnLids : List V → Option (List V) := mkF E_FnLids (fun l => wfLY l) (fun _ => [.bool true])
theorem F_FnLids_inj : ∀ x y, E_FnLids x = E_FnLids y → x = y := by
  rintro l l' h
  simpa [E_FnLids] using h
theorem F_FnLids_elim {P : List V → List V → Prop} (h : ∀ (l : List UInt8), (wfLY l) → P [vL I1 vY l] [.bool true]) : ∀ ds outs, F_FnLids ds = some outs → P ds outs := by
  intro ds outs hh
  obtain ⟨l, rfl, hp, rfl⟩ := mkF_inv hh
  exact h l hp
theorem F_FnLids_law : ∀ ds, okTKs [.list false [.int .u8]] ds → F_FnLids ds = some [.bool true] := by
  intro ds g0
  obtain ⟨_, _, rfl, h0, g1⟩ := okTKs_cons g0
  obtain ⟨l, rfl, r0⟩ := dec_LY h0
  obtain rfl := okTKs_nil g1
  exact mkF_eq F_FnLids_inj (l) r0


end Go.Mw

/- The depth of nested boxes. -/
namespace Go.Mw
def maxIn (f : T3 → Int) : List T3 → Int
  | [] => 0
  | a :: r => max (f a) (maxIn f r)
theorem maxIn_le {f : T3 → Int} {b : Int} (hb : 0 ≤ b) : ∀ {l : List T3}, (∀ y ∈ l, f y ≤ b) → maxIn f l ≤ b
  | [], _ => hb
  | a :: r, h => by
    have h1 := h a (by simp)
    have h2 := maxIn_le hb (l := r) (fun y hy => h y (by simp [hy]))
    simp only [maxIn]; omega
theorem le_maxIn {f : T3 → Int} {y : T3} : ∀ {l : List T3}, y ∈ l → f y ≤ maxIn f l
  | a :: r, h => by
    simp only [maxIn]
    rcases List.mem_cons.1 h with rfl | h
    · omega
    · have := le_maxIn (f := f) h; omega
theorem maxIn_nonneg {f : T3 → Int} : ∀ {l : List T3}, 0 ≤ maxIn f l
  | [] => by simp [maxIn]
  | a :: r => by have := maxIn_nonneg (f := f) (l := r); simp only [maxIn]; omega
theorem maxIn_mono {f g : T3 → Int} {l : List T3} (h : ∀ y ∈ l, f y ≤ g y) : maxIn f l ≤ maxIn g l :=
  maxIn_le maxIn_nonneg fun y hy => Int.le_trans (h y hy) (le_maxIn hy)

/-- The longest chain of boxes, each inside the next, that ends at x; of at most so many boxes. -/
def dep (l : List T3) : Nat → T3 → Int
  | 0, _ => 0
  | k + 1, x => 1 + maxIn (fun y => if inside y x then dep l k y else 0) l
theorem dep_le (l : List T3) : ∀ k x, 0 ≤ dep l k x ∧ dep l k x ≤ k
  | 0, _ => by simp [dep]
  | k + 1, x => by
    have h := maxIn_nonneg (f := fun y => if inside y x then dep l k y else 0) (l := l)
    have h2 : maxIn (fun y => if inside y x then dep l k y else 0) l ≤ k := maxIn_le (by omega) fun y _ => by
      have := dep_le l k y; split <;> omega
    simp only [dep]; omega
theorem dep_mono (l : List T3) : ∀ k x, dep l k x ≤ dep l (k + 1) x
  | 0, x => by have := (dep_le l 1 x).1; simpa [dep] using this
  | k + 1, x => by
    have : maxIn (fun y => if inside y x then dep l k y else 0) l ≤ maxIn (fun y => if inside y x then dep l (k + 1) y else 0) l := maxIn_mono fun y _ => by
      have := dep_mono l k y; split <;> omega
    show 1 + _ ≤ 1 + _
    omega
theorem inside_trans {x y z : T3} (h1 : inside x y = true) (h2 : inside y z = true) : inside x z = true := by
  simp only [inside, Bool.and_eq_true, decide_eq_true_eq] at *; omega
theorem inside_irrefl (x : T3) : inside x x = false := by simp [inside]
theorem count_lt {p q : T3 → Bool} (h : ∀ z, p z = true → q z = true) {y : T3} (hq : q y = true) (hp : p y = false) : ∀ {l : List T3}, y ∈ l → l.countP p < l.countP q
  | a :: r, hy => by
    have hle : r.countP p ≤ r.countP q := List.countP_mono_left fun z _ => h z
    rw [List.countP_cons, List.countP_cons]
    rcases List.mem_cons.1 hy with rfl | hy
    · simp only [hq, hp, if_true]; simp; omega
    · have ih := count_lt h hq hp hy
      have : (if p a = true then 1 else 0) ≤ (if q a = true then 1 else 0) := by
        cases hpa : p a with
        | false => simp
        | true => simp [h a hpa]
      omega
theorem dep_stable (l : List T3) : ∀ k x, l.countP (inside · x) + 1 ≤ k → dep l (k + 1) x ≤ dep l k x
  | 0, _, h => by omega
  | k + 1, x, h => by
    have : maxIn (fun y => if inside y x then dep l (k + 1) y else 0) l ≤ maxIn (fun y => if inside y x then dep l k y else 0) l := maxIn_mono fun y hy => by

      cases hi : inside y x with
      | false => simp
      | true =>
        have hc : l.countP (inside · y) < l.countP (inside · x) := count_lt (p := (inside · y)) (q := (inside · x)) (fun z hz => inside_trans hz hi) hi (inside_irrefl y) hy
        have := dep_stable l k y (by omega)
        simpa using this
    show 1 + _ ≤ 1 + _
    omega
theorem count_len {l : List T3} {x : T3} (hx : x ∈ l) : l.countP (inside · x) + 1 ≤ l.length := by
  have := count_lt (p := (inside · x)) (q := fun _ => true) (fun _ _ => rfl) rfl (inside_irrefl x) hx
  rw [List.countP_true] at this
  omega
def D (l : List T3) (x : T3) : Int := dep l l.length x
theorem D_eq {l : List T3} {x : T3} (hx : x ∈ l) : D l x = 1 + maxIn (fun y => if inside y x then D l y else 0) l := by
  have h1 := dep_stable l l.length x (count_len hx)
  have h2 := dep_mono l l.length x
  have : D l x = dep l (l.length + 1) x := by unfold D; omega
  rw [this]; rfl
theorem D_sub {l : List T3} {x y : T3} (hx : x ∈ l) (hy : y ∈ l) (h : inside y x = true) : D l y + 1 ≤ D l x := by
  rw [D_eq hx]
  have := le_maxIn (f := fun y => if inside y x then D l y else 0) hy
  simp only [h, if_true] at this
  omega

theorem inBest_ge {l : List T3} {d : List Int} {x : T3} {j : Nat} (hj : j < l.length) (hd : j < d.length) (hi : inside l[j] x = true) : ∀ n, j < n → d[j] + 1 ≤ inBest l d x n
  | 0, h => by omega
  | n + 1, h => by
    unfold inBest
    by_cases e : j = n
    · subst e
      rw [List.getElem?_eq_getElem hj, List.getElem?_eq_getElem hd]
      simp only [hi, if_true]; omega
    · have ih := inBest_ge hj hd hi n (by omega)
      split
      · split <;> omega
      · exact ih
theorem inBest_one {l : List T3} {d : List Int} {x : T3} : ∀ n, 1 ≤ inBest l d x n
  | 0 => by simp [inBest]
  | n + 1 => by
    have ih := inBest_one (l := l) (d := d) (x := x) n
    unfold inBest
    split
    · split <;> omega
    · exact ih
theorem inBest_le {l : List T3} {d : List Int} {x : T3} (hx : x ∈ l) (h : ∀ (j : Nat) (h1 : j < l.length) (h2 : j < d.length), d[j] ≤ D l l[j]) : ∀ n, inBest l d x n ≤ D l x
  | 0 => by
    have := maxIn_nonneg (f := fun y => if inside y x then D l y else 0) (l := l)
    rw [D_eq hx]; simp only [inBest]; omega
  | n + 1 => by
    have ih := inBest_le hx h n
    unfold inBest
    split
    · rename_i y v h1 h2
      obtain ⟨g1, rfl⟩ := List.getElem?_eq_some_iff.1 h1
      obtain ⟨g2, rfl⟩ := List.getElem?_eq_some_iff.1 h2
      split
      · rename_i hi
        have := D_sub hx (List.getElem_mem g1) hi
        have := h n g1 g2
        omega
      · exact ih
    · exact ih
/-- What the round has reached. -/
structure Dp (l : List T3) (r i : Nat) (s : List Int × Int) : Prop where
  len : s.1.length = l.length
  hi : ∀ (j : Nat) (h1 : j < l.length) (h2 : j < s.1.length), s.1[j] ≤ D l l[j]
  lo : ∀ (j : Nat) (h1 : j < l.length) (h2 : j < s.1.length), dep l r l[j] ≤ s.1[j]
  up : ∀ (j : Nat) (h1 : j < l.length) (h2 : j < s.1.length), j < i → dep l (r + 1) l[j] ≤ s.1[j]
  m : s.2 ≤ maxIn (D l) l
  mm : ∀ (j : Nat) (h2 : j < s.1.length), s.1[j] ≤ s.2
theorem Dp.row {l : List T3} {r : Nat} {s : List Int × Int} (h : Dp l r 0 s) : ∀ i, i ≤ l.length → Dp l r i (rowTo l s i)
  | 0, _ => h
  | i + 1, hi => by
    have ih := h.row i (by omega)
    have hil : i < l.length := by omega
    have hx := List.getElem_mem hil
    unfold rowTo
    rw [List.getElem?_eq_getElem hil]
    dsimp only
    generalize rowTo l s i = t at *
    have b1 := inBest_le hx ih.hi l.length
    have b2 : dep l (r + 1) l[i] ≤ inBest l t.1 l[i] l.length := by
      have h1 := inBest_one (l := l) (d := t.1) (x := l[i]) l.length
      have : maxIn (fun y => if inside y l[i] then dep l r y else 0) l ≤ inBest l t.1 l[i] l.length - 1 := maxIn_le (by omega) fun y hy => by

        cases hin : inside y l[i] with
        | false => simp; omega
        | true =>
          obtain ⟨j, hj, rfl⟩ := List.mem_iff_getElem.1 hy
          have hj2 : j < t.1.length := by rw [ih.len]; exact hj
          have g1 := inBest_ge hj hj2 hin l.length hj
          have g2 := ih.lo j hj hj2
          simp only [if_true]; omega
      show 1 + _ ≤ _
      omega
    have b3 := dep_mono l r l[i]
    refine ⟨by simpa using ih.len, fun j h1 h2 => ?_, fun j h1 h2 => ?_, fun j h1 h2 h3 => ?_, ?_, fun j h2 => ?_⟩
    · rw [List.getElem_set]
      split
      · rename_i e; subst e; exact b1
      · exact ih.hi j h1 (by simpa using h2)
    · rw [List.getElem_set]
      split
      · rename_i e; subst e; omega
      · exact ih.lo j h1 (by simpa using h2)
    · rw [List.getElem_set]
      split
      · rename_i e; subst e; exact b2
      · exact ih.up j h1 (by simpa using h2) (by omega)
    · have := le_maxIn (f := D l) hx
      have := ih.m
      omega
    · rw [List.getElem_set]
      split
      · omega
      · have := ih.mm j (by simpa using h2); omega
theorem Dp.all {l : List T3} : ∀ r, Dp l r 0 (dpTo l r)
  | 0 => by
    refine ⟨by simp [dpTo], fun j h1 h2 => ?_, fun j h1 h2 => ?_, fun j h1 h2 h3 => by omega, maxIn_nonneg, fun j h2 => ?_⟩
    · simp only [dpTo, List.getElem_replicate]; exact (dep_le l _ _).1
    · simp [dpTo, dep]
    · simp [dpTo]
  | r + 1 => by
    have h := (Dp.all r).row l.length (Nat.le_refl _)
    exact ⟨h.len, h.hi, fun j h1 h2 => h.up j h1 h2 h1, fun j h1 h2 h3 => by omega, h.m, h.mm⟩
theorem nested_eq {l : List T3} (h : areBoxes l 12 = true) : nested l = maxIn (D l) l := by
  have hD := Dp.all (l := l) l.length
  unfold nested
  rw [if_pos h]
  have h1 := hD.m
  have h0 : 0 ≤ (dpTo l l.length).2 := by
    rcases Nat.eq_zero_or_pos l.length with e | e
    · rw [e]; simp [dpTo]
    · have g : 0 < (dpTo l l.length).1.length := by rw [hD.len]; exact e
      have := hD.mm 0 g
      have := hD.lo 0 e g
      have := (dep_le l l.length l[0]).1
      omega
  have h2 : maxIn (D l) l ≤ (dpTo l l.length).2 := maxIn_le h0 fun y hy => by
    obtain ⟨j, hj, rfl⟩ := List.mem_iff_getElem.1 hy
    have g : j < (dpTo l l.length).1.length := by rw [hD.len]; exact hj
    have := hD.mm j g
    have := hD.lo j hj g
    unfold D; omega
  omega
end Go.Mw

/- Functions of the program, as small pure programs (printed by a program of ours). -/
namespace Go.Mw
noncomputable section
def impl_NestedBoxes_b2 : L := .seq (.seq (.rg [⟨[], .bin .lss, [.v 11, .v 10], 1⟩]) (.seq (.ite (.v 16) (.skip) (.seq (.tup [.v 0, .v 1, .v 2, .v 3, .v 4, .v 5, .v 6, .v 7, .v 8, .v 12]) (.exit 4))) (.seq (.block 5 (.seq (.seq (.rg [⟨[], .idx [.sc, .sc, .sc], [.v 9, .v 11], 3⟩]) (.seq (.rg [⟨[], .call F_isInside 0 1, [.v 17, .v 18, .v 19, .v 13, .v 14, .v 15], 1⟩]) (.ite (.v 20) (.seq (.rg [⟨[], .idx [.sc], [.v 12, .v 11], 1⟩, ⟨[], .bin .add, [.v 21, .k (.int .i64 1)], 1⟩, ⟨[], .mx, [.v 3, .v 22], 1⟩]) (.tup [.v 0, .v 1, .v 2, .v 23, .v 4, .v 5, .v 6, .v 7, .v 8, .v 9, .v 10, .v 11, .v 12, .v 13, .v 14, .v 15])) (.seq (.skip) (.tup [.v 0, .v 1, .v 2, .v 3, .v 4, .v 5, .v 6, .v 7, .v 8, .v 9, .v 10, .v 11, .v 12, .v 13, .v 14, .v 15]))))) (.tup [.v 0, .v 1, .v 2, .v 3, .v 4, .v 5, .v 6, .v 7, .v 8, .v 9, .v 10, .v 11, .v 12, .v 13, .v 14, .v 15]))) (.rg [⟨[], .bin .add, [.v 11, .k (.int .i64 1)], 1⟩])))) (.tup [.v 0, .v 1, .v 2, .v 3, .v 4, .v 5, .v 6, .v 7, .v 8, .v 9, .v 10, .v 16, .v 12, .v 13, .v 14, .v 15])
theorem impl_NestedBoxes_b2_sh (Q : QT) (x0 x1 x2 x3 x4 x5 x6 x7 x8 x9 x10 x11 x12 x13 x14 x15 : V) : shL impl_NestedBoxes_b2 Q [x0, x1, x2, x3, x4, x5, x6, x7, x8, x9, x10, x11, x12, x13, x14, x15] = (
  P1 (.bin .lss) [x11, x10] fun v0 =>
  ifB v0 (
    P3 (.idx [.sc, .sc, .sc]) [x9, x11] fun v1 v2 v3 =>
    P1 (.call F_isInside 0 1) [v1, v2, v3, x13, x14, x15] fun v4 =>
    ifB v4 (
      P1 (.idx [.sc]) [x12, x11] fun v5 =>
      P1 (.bin .add) [v5, .int .i64 1] fun v6 =>
      P1 (.mx) [x3, v6] fun v7 =>
      P1 (.bin .add) [x11, .int .i64 1] fun v8 =>
      Q .normal [x0, x1, x2, v7, x4, x5, x6, x7, x8, x9, x10, v8, x12, x13, x14, x15]) (
      P1 (.bin .add) [x11, .int .i64 1] fun v9 =>
      Q .normal [x0, x1, x2, x3, x4, x5, x6, x7, x8, x9, x10, v9, x12, x13, x14, x15])) (
    Q (.exit 4) [x0, x1, x2, x3, x4, x5, x6, x7, x8, x12])) := by kernel_rfl

def impl_NestedBoxes_r3 : L := .seq (.rg [⟨[], .idx [.sc], [.v 9, .v 2], 1⟩, ⟨[], .set [.sc] 0, [.v 9, .v 2, .v 3], 1⟩]) (.rg [⟨[], .mx, [.v 1, .v 3], 1⟩])
theorem impl_NestedBoxes_r3_sh (Q : QT) (x0 x1 x2 x3 x4 x5 x6 x7 x8 x9 : V) : shL impl_NestedBoxes_r3 Q [x0, x1, x2, x3, x4, x5, x6, x7, x8, x9] = (
  P1 (.idx [.sc]) [x9, x2] fun v0 =>
  P1 (.set [.sc] 0) [x9, x2, x3] fun v1 =>
  P1 (.mx) [x1, x3] fun v2 =>
  Q .normal [x0, x1, x2, x3, x4, x5, x6, x7, x8, x9, v0, v1, v2]) := by kernel_rfl

def impl_NestedBoxes_r4 : L := .tup [.v 0, .v 12, .v 4, .v 5, .v 6, .v 7, .v 8, .v 11]
theorem impl_NestedBoxes_r4_sh (Q : QT) (x0 x1 x2 x3 x4 x5 x6 x7 x8 x9 x10 x11 x12 : V) : shL impl_NestedBoxes_r4 Q [x0, x1, x2, x3, x4, x5, x6, x7, x8, x9, x10, x11, x12] = (
  Q .normal [x0, x12, x4, x5, x6, x7, x8, x11]) := by kernel_rfl

def impl_NestedBoxes_r5 : L := .rg [⟨[], .bin .add, [.v 6, .k (.int .i64 1)], 1⟩]
theorem impl_NestedBoxes_r5_sh (Q : QT) (x0 x1 x2 x3 x4 x5 x6 x7 : V) : shL impl_NestedBoxes_r5 Q [x0, x1, x2, x3, x4, x5, x6, x7] = (
  P1 (.bin .add) [x6, .int .i64 1] fun v0 =>
  Q .normal [x0, x1, x2, x3, x4, x5, x6, x7, v0]) := by kernel_rfl

def impl_NestedBoxes_r6 : L := .tup [.v 0, .v 1, .v 2, .v 3, .v 4, .v 5, .v 8, .v 7]
theorem impl_NestedBoxes_r6_sh (Q : QT) (x0 x1 x2 x3 x4 x5 x6 x7 x8 : V) : shL impl_NestedBoxes_r6 Q [x0, x1, x2, x3, x4, x5, x6, x7, x8] = (
  Q .normal [x0, x1, x2, x3, x4, x5, x8, x7]) := by kernel_rfl

def impl_NestedBoxes_b1 : L := .seq (.seq (.rg [⟨[], .bin .lss, [.v 6, .v 5], 1⟩]) (.seq (.ite (.v 8) (.skip) (.seq (.tup [.v 0, .v 1, .v 2, .v 3, .v 7]) (.exit 2))) (.seq (.block 3 (.seq (.seq (.rg [⟨[], .idx [.sc, .sc, .sc], [.v 4, .v 6], 3⟩]) (.seq (.rg []) (.seq (.seq (.rg [⟨[], .len, [.v 0], 1⟩]) (.block 4 (.seq (.tup [.v 0, .v 1, .v 6, .k (.int .i64 1), .v 2, .v 3, .v 4, .v 5, .v 6, .v 0, .v 12, .k (.int .i64 0), .v 7, .v 9, .v 10, .v 11]) (.loop (impl_NestedBoxes_b2))))) (impl_NestedBoxes_r3)))) (impl_NestedBoxes_r4))) (impl_NestedBoxes_r5)))) (impl_NestedBoxes_r6)
theorem impl_NestedBoxes_b1_sh (Q : QT) (x0 x1 x2 x3 x4 x5 x6 x7 : V) : shL impl_NestedBoxes_b1 Q [x0, x1, x2, x3, x4, x5, x6, x7] = (
  P1 (.bin .lss) [x6, x5] fun v0 =>
  ifB v0 (
    P3 (.idx [.sc, .sc, .sc]) [x4, x6] fun v1 v2 v3 =>
    P1 (.len) [x0] fun v4 =>
    shL (.loop impl_NestedBoxes_b2) (qB 4 (qS (shL impl_NestedBoxes_r3 (qS (shL impl_NestedBoxes_r4 (qB 3 (qS (shL impl_NestedBoxes_r5 (qS (shL impl_NestedBoxes_r6 Q) Q)) (qS (shL impl_NestedBoxes_r6 Q) Q)))) (qB 3 (qS (shL impl_NestedBoxes_r5 (qS (shL impl_NestedBoxes_r6 Q) Q)) (qS (shL impl_NestedBoxes_r6 Q) Q))))) (qS (shL impl_NestedBoxes_r4 (qB 3 (qS (shL impl_NestedBoxes_r5 (qS (shL impl_NestedBoxes_r6 Q) Q)) (qS (shL impl_NestedBoxes_r6 Q) Q)))) (qB 3 (qS (shL impl_NestedBoxes_r5 (qS (shL impl_NestedBoxes_r6 Q) Q)) (qS (shL impl_NestedBoxes_r6 Q) Q)))))) [x0, x1, x6, .int .i64 1, x2, x3, x4, x5, x6, x0, v4, .int .i64 0, x7, v1, v2, v3]) (
    Q (.exit 2) [x0, x1, x2, x3, x7])) := by kernel_rfl

def impl_NestedBoxes_r7 : L := .tup [.v 0, .v 1, .v 2, .v 3, .v 4]
theorem impl_NestedBoxes_r7_sh (Q : QT) (x0 x1 x2 x3 x4 : V) : shL impl_NestedBoxes_r7 Q [x0, x1, x2, x3, x4] = (
  Q .normal [x0, x1, x2, x3, x4]) := by kernel_rfl

def impl_NestedBoxes_r8 : L := .rg [⟨[], .bin .add, [.v 3, .k (.int .i64 1)], 1⟩]
theorem impl_NestedBoxes_r8_sh (Q : QT) (x0 x1 x2 x3 x4 : V) : shL impl_NestedBoxes_r8 Q [x0, x1, x2, x3, x4] = (
  P1 (.bin .add) [x3, .int .i64 1] fun v0 =>
  Q .normal [x0, x1, x2, x3, x4, v0]) := by kernel_rfl

def impl_NestedBoxes_r9 : L := .tup [.v 0, .v 1, .v 2, .v 5, .v 4]
theorem impl_NestedBoxes_r9_sh (Q : QT) (x0 x1 x2 x3 x4 x5 : V) : shL impl_NestedBoxes_r9 Q [x0, x1, x2, x3, x4, x5] = (
  Q .normal [x0, x1, x2, x5, x4]) := by kernel_rfl

def impl_NestedBoxes_b0 : L := .seq (.seq (.rg [⟨[], .bin .lss, [.v 3, .v 2], 1⟩]) (.seq (.ite (.v 5) (.skip) (.seq (.tup [.v 1]) (.exit 0))) (.seq (.block 1 (.seq (.seq (.rg [⟨[], .len, [.v 0], 1⟩]) (.block 2 (.seq (.tup [.v 0, .v 1, .v 2, .v 3, .v 0, .v 6, .k (.int .i64 0), .v 4]) (.loop (impl_NestedBoxes_b1))))) (impl_NestedBoxes_r7))) (impl_NestedBoxes_r8)))) (impl_NestedBoxes_r9)
theorem impl_NestedBoxes_b0_sh (Q : QT) (x0 x1 x2 x3 x4 : V) : shL impl_NestedBoxes_b0 Q [x0, x1, x2, x3, x4] = (
  P1 (.bin .lss) [x3, x2] fun v0 =>
  ifB v0 (
    P1 (.len) [x0] fun v1 =>
    shL (.loop impl_NestedBoxes_b1) (qB 2 (qS (shL impl_NestedBoxes_r7 (qB 1 (qS (shL impl_NestedBoxes_r8 (qS (shL impl_NestedBoxes_r9 Q) Q)) (qS (shL impl_NestedBoxes_r9 Q) Q)))) (qB 1 (qS (shL impl_NestedBoxes_r8 (qS (shL impl_NestedBoxes_r9 Q) Q)) (qS (shL impl_NestedBoxes_r9 Q) Q))))) [x0, x1, x2, x3, x0, v1, .int .i64 0, x4]) (
    Q (.exit 0) [x1])) := by kernel_rfl

def impl_NestedBoxes_r10 : L := .seq (.rg []) (.ret [.v 0])
theorem impl_NestedBoxes_r10_sh (Q : QT) (x0 : V) : shL impl_NestedBoxes_r10 Q [x0] = (
  Q .ret [x0]) := by kernel_rfl

def impl_NestedBoxes_L : L := .seq (.rg []) (.seq (.seq (.rg [⟨[], .call F_areBoxes 0 1, [.v 0, .k (.int .i64 12)], 1⟩, ⟨[], .un .not, [.v 1], 1⟩]) (.ite (.v 2) (.seq (.rg []) (.ret [.k (.int .i64 (-1))])) (.skip))) (.seq (.rg [⟨[], .len, [.v 0], 1⟩, ⟨[], .mk [.sc] (.int .i64 0) 8, [.v 3, .v 3], 1⟩]) (.seq (.rg []) (.seq (.seq (.rg [⟨[], .len, [.v 0], 1⟩]) (.block 0 (.seq (.tup [.v 0, .k (.int .i64 0), .v 5, .k (.int .i64 0), .v 4]) (.loop (impl_NestedBoxes_b0))))) (impl_NestedBoxes_r10)))))
theorem impl_NestedBoxes_L_sh (Q : QT) (x0 : V) : shL impl_NestedBoxes_L Q [x0] = (
  P1 (.call F_areBoxes 0 1) [x0, .int .i64 12] fun v0 =>
  P1 (.un .not) [v0] fun v1 =>
  ifB v1 (
    Q .ret [.int .i64 (-1)]) (
    P1 (.len) [x0] fun v2 =>
    P1 (.mk [.sc] (.int .i64 0) 8) [v2, v2] fun v3 =>
    P1 (.len) [x0] fun v4 =>
    shL (.loop impl_NestedBoxes_b0) (qB 0 (qS (shL impl_NestedBoxes_r10 Q) Q)) [x0, .int .i64 0, v4, .int .i64 0, v3])) := by kernel_rfl
def impl_NestedBoxes_S : Sig := ⟨[.val false [.sl [.sc, .sc, .sc]]], [(false, [.sc])], F_NestedBoxes⟩
def impl_NestedBoxes_hs : List NF := [⟨[(4, .sc false [.sc])], [], [], 64⟩, ⟨[(0, .sc false [.ro [.sc, .sc, .sc]]), (3, .sc false [.own 64]), (4, .sc false [.sc]), (17, .sc false [.sc]), (18, .sc false [.sc])], [(64, true, [.sc])], [], 65⟩, ⟨[(0, .sc false [.ro [.sc, .sc, .sc]]), (3, .sc false [.own 64]), (4, .sc false [.sc]), (17, .sc false [.sc]), (18, .sc false [.sc])], [(64, true, [.sc])], [], 65⟩, ⟨[(0, .sc false [.ro [.sc, .sc, .sc]]), (3, .sc false [.own 64]), (4, .sc false [.sc]), (17, .sc false [.sc]), (18, .sc false [.sc])], [(64, true, [.sc])], [], 65⟩, ⟨[(0, .sc false [.ro [.sc, .sc, .sc]]), (3, .sc false [.own 64]), (4, .sc false [.sc]), (17, .sc false [.sc]), (18, .sc false [.sc]), (20, .sc false [.ro [.sc, .sc, .sc]]), (21, .sc false [.sc]), (22, .sc false [.sc])], [(64, true, [.sc])], [], 65⟩, ⟨[(0, .sc false [.ro [.sc, .sc, .sc]]), (3, .sc false [.own 64]), (4, .sc false [.sc]), (17, .sc false [.sc]), (18, .sc false [.sc]), (20, .sc false [.ro [.sc, .sc, .sc]]), (21, .sc false [.sc]), (22, .sc false [.sc])], [(64, true, [.sc])], [], 65⟩, ⟨[(0, .sc false [.ro [.sc, .sc, .sc]]), (3, .sc false [.own 64]), (4, .sc false [.sc]), (5, .sc false [.sc]), (7, .sc false [.sc]), (17, .sc false [.sc]), (18, .sc false [.sc]), (20, .sc false [.ro [.sc, .sc, .sc]]), (21, .sc false [.sc]), (22, .sc false [.sc])], [(64, true, [.sc])], [], 65⟩, ⟨[(0, .sc false [.ro [.sc, .sc, .sc]]), (3, .sc false [.own 64]), (4, .sc false [.sc]), (5, .sc false [.sc]), (6, .ptr 65 0), (7, .sc false [.sc]), (17, .sc false [.sc]), (18, .sc false [.sc]), (20, .sc false [.ro [.sc, .sc, .sc]]), (21, .sc false [.sc]), (22, .sc false [.sc]), (27, .sc false [.ro [.sc, .sc, .sc]]), (28, .sc false [.sc]), (29, .sc false [.sc])], [(64, true, [.sc])], [(65, [.sc, .sc, .sc])], 66⟩, ⟨[(0, .sc false [.ro [.sc, .sc, .sc]]), (3, .sc false [.own 64]), (4, .sc false [.sc]), (5, .sc false [.sc]), (6, .ptr 65 0), (7, .sc false [.sc]), (17, .sc false [.sc]), (18, .sc false [.sc]), (20, .sc false [.ro [.sc, .sc, .sc]]), (21, .sc false [.sc]), (22, .sc false [.sc]), (27, .sc false [.ro [.sc, .sc, .sc]]), (28, .sc false [.sc]), (29, .sc false [.sc])], [(64, true, [.sc])], [(65, [.sc, .sc, .sc])], 66⟩, ⟨[(0, .sc false [.ro [.sc, .sc, .sc]]), (3, .sc false [.own 64]), (4, .sc false [.sc]), (5, .sc false [.sc]), (6, .ptr 65 0), (7, .sc false [.sc]), (17, .sc false [.sc]), (18, .sc false [.sc]), (20, .sc false [.ro [.sc, .sc, .sc]]), (21, .sc false [.sc]), (22, .sc false [.sc]), (27, .sc false [.ro [.sc, .sc, .sc]]), (28, .sc false [.sc]), (29, .sc false [.sc])], [(64, true, [.sc])], [(65, [.sc, .sc, .sc])], 66⟩]

def spec_l34Box_L : L := .seq (.rg []) (.seq (.rg [⟨[], .call F_l01Below 0 1, [.v 0, .v 1, .v 2, .k (.int .i64 20)], 3⟩, ⟨[], .bin .add, [.k (.int .i64 1), .v 3], 1⟩, ⟨[], .call F_l01Below 0 1, [.v 0, .v 4, .v 5, .k (.int .i64 20)], 3⟩, ⟨[], .bin .add, [.k (.int .i64 1), .v 7], 1⟩, ⟨[], .call F_l01Below 0 1, [.v 0, .v 8, .v 9, .k (.int .i64 20)], 3⟩, ⟨[], .bin .add, [.k (.int .i64 1), .v 11], 1⟩]) (.ret [.v 6, .v 10, .v 14, .v 12, .v 13]))
theorem spec_l34Box_L_sh (Q : QT) (x0 x1 x2 : V) : shL spec_l34Box_L Q [x0, x1, x2] = (
  P3 (.call F_l01Below 0 1) [x0, x1, x2, .int .i64 20] fun v0 v1 v2 =>
  P1 (.bin .add) [.int .i64 1, v0] fun v3 =>
  P3 (.call F_l01Below 0 1) [x0, v1, v2, .int .i64 20] fun v4 v5 v6 =>
  P1 (.bin .add) [.int .i64 1, v4] fun v7 =>
  P3 (.call F_l01Below 0 1) [x0, v5, v6, .int .i64 20] fun v8 v9 v10 =>
  P1 (.bin .add) [.int .i64 1, v8] fun v11 =>
  Q .ret [v3, v7, v11, v9, v10]) := by kernel_rfl
def spec_l34Box_S : Sig := ⟨[.ptr [.sl [.sc], .sc, .sc]], [(true, [.sc, .sc, .sc])], F_l34Box⟩
def spec_l34Box_hs : List NF := []

def spec_l34List_b0 : L := .seq (.seq (.seq (.rg [⟨[], .bin .lss, [.v 1, .v 0], 1⟩]) (.ite (.v 6) (.skip) (.seq (.tup [.v 2, .v 3, .v 4, .v 5]) (.exit 0)))) (.seq (.block 1 (.seq (.seq (.rg [⟨[], .call F_l34Box 0 3, [.v 3, .v 4, .v 5], 5⟩]) (.rg [⟨[], .lst [.sc, .sc, .sc] true 1, [.v 7, .v 8, .v 9], 1⟩, ⟨[], .app [.sc, .sc, .sc] 24, [.v 2, .v 12], 1⟩])) (.tup [.v 0, .v 1, .v 13, .v 3, .v 10, .v 11]))) (.rg [⟨[], .bin .add, [.v 1, .k (.int .i64 1)], 1⟩]))) (.tup [.v 0, .v 6, .v 2, .v 3, .v 4, .v 5])
theorem spec_l34List_b0_sh (Q : QT) (x0 x1 x2 x3 x4 x5 : V) : shL spec_l34List_b0 Q [x0, x1, x2, x3, x4, x5] = (
  P1 (.bin .lss) [x1, x0] fun v0 =>
  ifB v0 (
    P5 (.call F_l34Box 0 3) [x3, x4, x5] fun v1 v2 v3 v4 v5 =>
    P1 (.lst [.sc, .sc, .sc] true 1) [v1, v2, v3] fun v6 =>
    P1 (.app [.sc, .sc, .sc] 24) [x2, v6] fun v7 =>
    P1 (.bin .add) [x1, .int .i64 1] fun v8 =>
    Q .normal [x0, v8, v7, x3, v4, v5]) (
    Q (.exit 0) [x2, x3, x4, x5])) := by kernel_rfl

def spec_l34List_r1 : L := .seq (.rg []) (.ret [.v 0, .v 2, .v 3])
theorem spec_l34List_r1_sh (Q : QT) (x0 x1 x2 x3 : V) : shL spec_l34List_r1 Q [x0, x1, x2, x3] = (
  Q .ret [x0, x2, x3]) := by kernel_rfl

def spec_l34List_L : L := .seq (.rg []) (.seq (.rg [⟨[], .lst [.sc, .sc, .sc] true 0, [], 1⟩]) (.seq (.rg [⟨[], .call F_l01Below 0 1, [.v 0, .v 1, .v 2, .k (.int .i64 7)], 3⟩]) (.seq (.seq (.rg []) (.block 0 (.seq (.tup [.v 4, .k (.int .i64 0), .v 3, .v 0, .v 5, .v 6]) (.loop (spec_l34List_b0))))) (spec_l34List_r1))))
theorem spec_l34List_L_sh (Q : QT) (x0 x1 x2 : V) : shL spec_l34List_L Q [x0, x1, x2] = (
  P1 (.lst [.sc, .sc, .sc] true 0) [] fun v0 =>
  P3 (.call F_l01Below 0 1) [x0, x1, x2, .int .i64 7] fun v1 v2 v3 =>
  shL (.loop spec_l34List_b0) (qB 0 (qS (shL spec_l34List_r1 Q) Q)) [v1, .int .i64 0, v0, x0, v2, v3]) := by kernel_rfl
def spec_l34List_S : Sig := ⟨[.ptr [.sl [.sc], .sc, .sc]], [(false, [.sl [.sc, .sc, .sc]])], F_l34List⟩
def spec_l34List_hs : List NF := [⟨[(3, .sc false [.own 64])], [(64, true, [.sc, .sc, .sc])], [(0, [.ro [.sc], .sc, .sc])], 65⟩, ⟨[(0, .ptr 0 0), (3, .sc false [.own 64]), (4, .sc false [.sc]), (5, .sc false [.sc])], [(64, true, [.sc, .sc, .sc])], [(0, [.ro [.sc], .sc, .sc])], 65⟩, ⟨[(0, .ptr 0 0), (3, .sc false [.own 64]), (4, .sc false [.sc]), (5, .sc false [.sc])], [(64, true, [.sc, .sc, .sc])], [(0, [.ro [.sc], .sc, .sc])], 65⟩]

def spec_DrawBoxes_L : L := .seq (.rg []) (.seq (.rg [⟨[], .call F_l01New 0 3, [.v 0], 3⟩, ⟨[], .call F_l34List 0 1, [.v 1, .v 2, .v 3], 3⟩]) (.ret [.v 4]))
theorem spec_DrawBoxes_L_sh (Q : QT) (x0 : V) : shL spec_DrawBoxes_L Q [x0] = (
  P3 (.call F_l01New 0 3) [x0] fun v0 v1 v2 =>
  P3 (.call F_l34List 0 1) [v0, v1, v2] fun v3 _ _ =>
  Q .ret [v3]) := by kernel_rfl
def spec_DrawBoxes_S : Sig := ⟨[.val false [.sl [.sc]]], [(false, [.sl [.sc, .sc, .sc]])], F_DrawBoxes⟩
def spec_DrawBoxes_hs : List NF := []

def laws_FnLids_r2 : L := .ite (.v 60) (.seq (.rg []) (.ret [.k (.bool false)])) (.skip)
theorem laws_FnLids_r2_sh (Q : QT) (x0 x1 x2 x3 x4 x5 x6 x7 x8 x9 x10 x11 x12 x13 x14 x15 x16 x17 x18 x19 x20 x21 x22 x23 x24 x25 x26 x27 x28 x29 x30 x31 x32 x33 x34 x35 x36 x37 x38 x39 x40 x41 x42 x43 x44 x45 x46 x47 x48 x49 x50 x51 x52 x53 x54 x55 x56 x57 x58 x59 x60 : V) : shL laws_FnLids_r2 Q [x0, x1, x2, x3, x4, x5, x6, x7, x8, x9, x10, x11, x12, x13, x14, x15, x16, x17, x18, x19, x20, x21, x22, x23, x24, x25, x26, x27, x28, x29, x30, x31, x32, x33, x34, x35, x36, x37, x38, x39, x40, x41, x42, x43, x44, x45, x46, x47, x48, x49, x50, x51, x52, x53, x54, x55, x56, x57, x58, x59, x60] = (
  ifB x60 (
    Q .ret [.bool false]) (
    Q .normal [x0, x1, x2, x3, x4, x5, x6, x7, x8, x9, x10, x11, x12, x13, x14, x15, x16, x17, x18, x19, x20, x21, x22, x23, x24, x25, x26, x27, x28, x29, x30, x31, x32, x33, x34, x35, x36, x37, x38, x39, x40, x41, x42, x43, x44, x45, x46, x47, x48, x49, x50, x51, x52, x53, x54, x55, x56, x57, x58, x59, .bool false])) := by kernel_rfl

def laws_FnLids_r4 : L := .ite (.v 80) (.seq (.rg []) (.ret [.k (.bool false)])) (.skip)
theorem laws_FnLids_r4_sh (Q : QT) (x0 x1 x2 x3 x4 x5 x6 x7 x8 x9 x10 x11 x12 x13 x14 x15 x16 x17 x18 x19 x20 x21 x22 x23 x24 x25 x26 x27 x28 x29 x30 x31 x32 x33 x34 x35 x36 x37 x38 x39 x40 x41 x42 x43 x44 x45 x46 x47 x48 x49 x50 x51 x52 x53 x54 x55 x56 x57 x58 x59 x60 x61 x62 x63 x64 x65 x66 x67 x68 x69 x70 x71 x72 x73 x74 x75 x76 x77 x78 x79 x80 : V) : shL laws_FnLids_r4 Q [x0, x1, x2, x3, x4, x5, x6, x7, x8, x9, x10, x11, x12, x13, x14, x15, x16, x17, x18, x19, x20, x21, x22, x23, x24, x25, x26, x27, x28, x29, x30, x31, x32, x33, x34, x35, x36, x37, x38, x39, x40, x41, x42, x43, x44, x45, x46, x47, x48, x49, x50, x51, x52, x53, x54, x55, x56, x57, x58, x59, x60, x61, x62, x63, x64, x65, x66, x67, x68, x69, x70, x71, x72, x73, x74, x75, x76, x77, x78, x79, x80] = (
  ifB x80 (
    Q .ret [.bool false]) (
    Q .normal [x0, x1, x2, x3, x4, x5, x6, x7, x8, x9, x10, x11, x12, x13, x14, x15, x16, x17, x18, x19, x20, x21, x22, x23, x24, x25, x26, x27, x28, x29, x30, x31, x32, x33, x34, x35, x36, x37, x38, x39, x40, x41, x42, x43, x44, x45, x46, x47, x48, x49, x50, x51, x52, x53, x54, x55, x56, x57, x58, x59, x60, x61, x62, x63, x64, x65, x66, x67, x68, x69, x70, x71, x72, x73, x74, x75, x76, x77, x78, x79, .bool false])) := by kernel_rfl

def laws_FnLids_r3 : L := .seq (.rg [⟨[(.v 21, true)], .bin .lss, [.v 1, .k (.int .i64 0)], 1⟩, ⟨[(.v 21, true), (.v 61, false)], .idx [.sc, .sc, .sc], [.v 3, .v 2], 3⟩, ⟨[(.v 21, true), (.v 61, false)], .call F_LeftOver 0 1, [.v 4, .v 5, .v 6, .v 62, .v 63, .v 64], 1⟩, ⟨[(.v 21, true), (.v 61, false)], .idx [.sc, .sc, .sc], [.v 3, .v 1], 3⟩, ⟨[(.v 21, true), (.v 61, false)], .call F_LeftOver 0 1, [.v 4, .v 5, .v 6, .v 66, .v 67, .v 68], 1⟩, ⟨[(.v 21, true), (.v 61, false)], .bin .lss, [.v 65, .v 69], 1⟩, ⟨[(.v 21, true)], .pick, [.v 61, .k (.bool true), .v 70], 1⟩, ⟨[], .pick, [.v 21, .v 71, .k (.bool false)], 1⟩, ⟨[(.v 72, false)], .un .not, [.v 21], 1⟩, ⟨[(.v 72, false), (.v 73, true)], .idx [.sc, .sc, .sc], [.v 3, .v 2], 3⟩, ⟨[(.v 72, false), (.v 73, true)], .call F_LeftOver 0 1, [.v 4, .v 5, .v 6, .v 74, .v 75, .v 76], 1⟩, ⟨[(.v 72, false), (.v 73, true)], .bin .neq, [.v 77, .k (.int .i64 (-1))], 1⟩, ⟨[(.v 72, false)], .pick, [.v 73, .v 78, .k (.bool false)], 1⟩, ⟨[], .pick, [.v 72, .k (.bool true), .v 79], 1⟩]) (laws_FnLids_r4)
theorem laws_FnLids_r3_sh (Q : QT) (x0 x1 x2 x3 x4 x5 x6 x7 x8 x9 x10 x11 x12 x13 x14 x15 x16 x17 x18 x19 x20 x21 x22 x23 x24 x25 x26 x27 x28 x29 x30 x31 x32 x33 x34 x35 x36 x37 x38 x39 x40 x41 x42 x43 x44 x45 x46 x47 x48 x49 x50 x51 x52 x53 x54 x55 x56 x57 x58 x59 x60 : V) : shL laws_FnLids_r3 Q [x0, x1, x2, x3, x4, x5, x6, x7, x8, x9, x10, x11, x12, x13, x14, x15, x16, x17, x18, x19, x20, x21, x22, x23, x24, x25, x26, x27, x28, x29, x30, x31, x32, x33, x34, x35, x36, x37, x38, x39, x40, x41, x42, x43, x44, x45, x46, x47, x48, x49, x50, x51, x52, x53, x54, x55, x56, x57, x58, x59, x60] = (
  ifB x21 (
    P1 (.bin .lss) [x1, .int .i64 0] fun v0 =>
    ifB v0 (
      shL laws_FnLids_r4 Q [x0, x1, x2, x3, x4, x5, x6, x7, x8, x9, x10, x11, x12, x13, x14, x15, x16, x17, x18, x19, x20, .bool true, x22, x23, x24, x25, x26, x27, x28, x29, x30, x31, x32, x33, x34, x35, x36, x37, x38, x39, x40, x41, x42, x43, x44, x45, x46, x47, x48, x49, x50, x51, x52, x53, x54, x55, x56, x57, x58, x59, x60, .bool true, .list [] [], .list [] [], .list [] [], .list [] [], .list [] [], .list [] [], .list [] [], .list [] [], .list [] [], .bool true, .bool true, .list [] [], .list [] [], .list [] [], .list [] [], .list [] [], .list [] [], .list [] [], .bool true]) (
      P3 (.idx [.sc, .sc, .sc]) [x3, x2] fun v1 v2 v3 =>
      P1 (.call F_LeftOver 0 1) [x4, x5, x6, v1, v2, v3] fun v4 =>
      P3 (.idx [.sc, .sc, .sc]) [x3, x1] fun v5 v6 v7 =>
      P1 (.call F_LeftOver 0 1) [x4, x5, x6, v5, v6, v7] fun v8 =>
      P1 (.bin .lss) [v4, v8] fun v9 =>
      ifB v9 (
        shL laws_FnLids_r4 Q [x0, x1, x2, x3, x4, x5, x6, x7, x8, x9, x10, x11, x12, x13, x14, x15, x16, x17, x18, x19, x20, .bool true, x22, x23, x24, x25, x26, x27, x28, x29, x30, x31, x32, x33, x34, x35, x36, x37, x38, x39, x40, x41, x42, x43, x44, x45, x46, x47, x48, x49, x50, x51, x52, x53, x54, x55, x56, x57, x58, x59, x60, .bool false, v1, v2, v3, v4, v5, v6, v7, v8, v9, v9, .bool true, .list [] [], .list [] [], .list [] [], .list [] [], .list [] [], .list [] [], .list [] [], .bool true]) (
        P1 (.un .not) [.bool true] fun v10 =>
        ifB v10 (
          P3 (.idx [.sc, .sc, .sc]) [x3, x2] fun v11 v12 v13 =>
          P1 (.call F_LeftOver 0 1) [x4, x5, x6, v11, v12, v13] fun v14 =>
          P1 (.bin .neq) [v14, .int .i64 (-1)] fun v15 =>
          shL laws_FnLids_r4 Q [x0, x1, x2, x3, x4, x5, x6, x7, x8, x9, x10, x11, x12, x13, x14, x15, x16, x17, x18, x19, x20, .bool true, x22, x23, x24, x25, x26, x27, x28, x29, x30, x31, x32, x33, x34, x35, x36, x37, x38, x39, x40, x41, x42, x43, x44, x45, x46, x47, x48, x49, x50, x51, x52, x53, x54, x55, x56, x57, x58, x59, x60, .bool false, v1, v2, v3, v4, v5, v6, v7, v8, v9, v9, .bool false, .bool true, v11, v12, v13, v14, v15, v15, v15]) (
          shL laws_FnLids_r4 Q [x0, x1, x2, x3, x4, x5, x6, x7, x8, x9, x10, x11, x12, x13, x14, x15, x16, x17, x18, x19, x20, .bool true, x22, x23, x24, x25, x26, x27, x28, x29, x30, x31, x32, x33, x34, x35, x36, x37, x38, x39, x40, x41, x42, x43, x44, x45, x46, x47, x48, x49, x50, x51, x52, x53, x54, x55, x56, x57, x58, x59, x60, .bool false, v1, v2, v3, v4, v5, v6, v7, v8, v9, v9, .bool false, .bool false, .list [] [], .list [] [], .list [] [], .list [] [], .list [] [], .bool false, .bool false])))) (
    P1 (.un .not) [.bool false] fun v16 =>
    ifB v16 (
      P3 (.idx [.sc, .sc, .sc]) [x3, x2] fun v17 v18 v19 =>
      P1 (.call F_LeftOver 0 1) [x4, x5, x6, v17, v18, v19] fun v20 =>
      P1 (.bin .neq) [v20, .int .i64 (-1)] fun v21 =>
      shL laws_FnLids_r4 Q [x0, x1, x2, x3, x4, x5, x6, x7, x8, x9, x10, x11, x12, x13, x14, x15, x16, x17, x18, x19, x20, .bool false, x22, x23, x24, x25, x26, x27, x28, x29, x30, x31, x32, x33, x34, x35, x36, x37, x38, x39, x40, x41, x42, x43, x44, x45, x46, x47, x48, x49, x50, x51, x52, x53, x54, x55, x56, x57, x58, x59, x60, .list [] [], .list [] [], .list [] [], .list [] [], .list [] [], .list [] [], .list [] [], .list [] [], .list [] [], .list [] [], .list [] [], .bool false, .bool true, v17, v18, v19, v20, v21, v21, v21]) (
      shL laws_FnLids_r4 Q [x0, x1, x2, x3, x4, x5, x6, x7, x8, x9, x10, x11, x12, x13, x14, x15, x16, x17, x18, x19, x20, .bool false, x22, x23, x24, x25, x26, x27, x28, x29, x30, x31, x32, x33, x34, x35, x36, x37, x38, x39, x40, x41, x42, x43, x44, x45, x46, x47, x48, x49, x50, x51, x52, x53, x54, x55, x56, x57, x58, x59, x60, .list [] [], .list [] [], .list [] [], .list [] [], .list [] [], .list [] [], .list [] [], .list [] [], .list [] [], .list [] [], .list [] [], .bool false, .bool false, .list [] [], .list [] [], .list [] [], .list [] [], .list [] [], .bool false, .bool false]))) := by kernel_rfl

def laws_FnLids_r5 : L := .tup [.v 0, .v 1, .v 2, .v 3, .v 4, .v 5, .v 6, .v 7, .v 8, .v 9]
theorem laws_FnLids_r5_sh (Q : QT) (x0 x1 x2 x3 x4 x5 x6 x7 x8 x9 x10 x11 x12 x13 x14 x15 x16 x17 x18 x19 x20 x21 x22 x23 x24 x25 x26 x27 x28 x29 x30 x31 x32 x33 x34 x35 x36 x37 x38 x39 x40 x41 x42 x43 x44 x45 x46 x47 x48 x49 x50 x51 x52 x53 x54 x55 x56 x57 x58 x59 x60 x61 x62 x63 x64 x65 x66 x67 x68 x69 x70 x71 x72 x73 x74 x75 x76 x77 x78 x79 x80 : V) : shL laws_FnLids_r5 Q [x0, x1, x2, x3, x4, x5, x6, x7, x8, x9, x10, x11, x12, x13, x14, x15, x16, x17, x18, x19, x20, x21, x22, x23, x24, x25, x26, x27, x28, x29, x30, x31, x32, x33, x34, x35, x36, x37, x38, x39, x40, x41, x42, x43, x44, x45, x46, x47, x48, x49, x50, x51, x52, x53, x54, x55, x56, x57, x58, x59, x60, x61, x62, x63, x64, x65, x66, x67, x68, x69, x70, x71, x72, x73, x74, x75, x76, x77, x78, x79, x80] = (
  Q .normal [x0, x1, x2, x3, x4, x5, x6, x7, x8, x9]) := by kernel_rfl

def laws_FnLids_r6 : L := .rg [⟨[], .bin .add, [.v 2, .k (.int .i64 1)], 1⟩]
theorem laws_FnLids_r6_sh (Q : QT) (x0 x1 x2 x3 x4 x5 x6 x7 x8 x9 : V) : shL laws_FnLids_r6 Q [x0, x1, x2, x3, x4, x5, x6, x7, x8, x9] = (
  P1 (.bin .add) [x2, .int .i64 1] fun v0 =>
  Q .normal [x0, x1, x2, x3, x4, x5, x6, x7, x8, x9, v0]) := by kernel_rfl

def laws_FnLids_r7 : L := .tup [.v 0, .v 1, .v 10, .v 3, .v 4, .v 5, .v 6, .v 7, .v 8, .v 9]
theorem laws_FnLids_r7_sh (Q : QT) (x0 x1 x2 x3 x4 x5 x6 x7 x8 x9 x10 : V) : shL laws_FnLids_r7 Q [x0, x1, x2, x3, x4, x5, x6, x7, x8, x9, x10] = (
  Q .normal [x0, x1, x10, x3, x4, x5, x6, x7, x8, x9]) := by kernel_rfl

def laws_FnLids_b1 : L := .seq (.seq (.seq (.rg [⟨[], .len, [.v 3], 1⟩, ⟨[], .bin .lss, [.v 2, .v 10], 1⟩]) (.ite (.v 11) (.skip) (.seq (.tup [.v 0, .v 3, .v 4, .v 5, .v 6]) (.exit 0)))) (.seq (.block 1 (.seq (.seq (.rg [⟨[], .idx [.sc, .sc, .sc], [.v 3, .v 2], 3⟩, ⟨[], .call F_SortedBox 0 3, [.v 12, .v 13, .v 14], 3⟩]) (.seq (.rg [⟨[], .idx [.sc, .sc, .sc], [.v 3, .v 2], 3⟩, ⟨[], .call F_FitsIn 0 1, [.v 4, .v 5, .v 6, .v 18, .v 19, .v 20], 1⟩]) (.seq (.seq (.rg [⟨[], .bin .lss, [.v 15, .v 16], 1⟩, ⟨[(.v 22, false)], .bin .lss, [.v 16, .v 17], 1⟩, ⟨[], .pick, [.v 22, .k (.bool true), .v 23], 1⟩, ⟨[(.v 24, false)], .bin .mul, [.v 15, .v 16], 1⟩, ⟨[(.v 24, false)], .bin .mul, [.v 25, .v 17], 1⟩, ⟨[(.v 24, false)], .idx [.sc, .sc, .sc], [.v 3, .v 2], 3⟩, ⟨[(.v 24, false)], .idx [.sc, .sc, .sc], [.v 3, .v 2], 3⟩, ⟨[(.v 24, false)], .bin .mul, [.v 27, .v 31], 1⟩, ⟨[(.v 24, false)], .idx [.sc, .sc, .sc], [.v 3, .v 2], 3⟩, ⟨[(.v 24, false)], .bin .mul, [.v 33, .v 36], 1⟩, ⟨[(.v 24, false)], .bin .neq, [.v 26, .v 37], 1⟩, ⟨[], .pick, [.v 24, .k (.bool true), .v 38], 1⟩, ⟨[(.v 39, false)], .idx [.sc, .sc, .sc], [.v 3, .v 2], 3⟩, ⟨[(.v 39, false)], .call F_FitsIn 0 1, [.v 7, .v 8, .v 9, .v 40, .v 41, .v 42], 1⟩, ⟨[(.v 39, false)], .binb .neq, [.v 21, .v 43], 1⟩, ⟨[], .pick, [.v 39, .k (.bool true), .v 44], 1⟩, ⟨[(.v 45, false)], .call F_FitsIn 0 1, [.v 4, .v 5, .v 6, .v 15, .v 16, .v 17], 1⟩, ⟨[(.v 45, false)], .binb .neq, [.v 21, .v 46], 1⟩, ⟨[], .pick, [.v 45, .k (.bool true), .v 47], 1⟩, ⟨[(.v 48, false)], .idx [.sc, .sc, .sc], [.v 3, .v 2], 3⟩, ⟨[(.v 48, false)], .call F_FitsIn 0 1, [.v 49, .v 50, .v 51, .v 15, .v 16, .v 17], 1⟩, ⟨[(.v 48, false)], .un .not, [.v 52], 1⟩, ⟨[], .pick, [.v 48, .k (.bool true), .v 53], 1⟩, ⟨[(.v 54, false)], .idx [.sc, .sc, .sc], [.v 3, .v 2], 3⟩, ⟨[(.v 54, false)], .call F_FitsIn 0 1, [.v 15, .v 16, .v 17, .v 55, .v 56, .v 57], 1⟩, ⟨[(.v 54, false)], .un .not, [.v 58], 1⟩, ⟨[], .pick, [.v 54, .k (.bool true), .v 59], 1⟩]) (laws_FnLids_r2)) (laws_FnLids_r3)))) (laws_FnLids_r5))) (laws_FnLids_r6))) (laws_FnLids_r7)
theorem laws_FnLids_b1_sh (Q : QT) (x0 x1 x2 x3 x4 x5 x6 x7 x8 x9 : V) : shL laws_FnLids_b1 Q [x0, x1, x2, x3, x4, x5, x6, x7, x8, x9] = (
  P1 (.len) [x3] fun v0 =>
  P1 (.bin .lss) [x2, v0] fun v1 =>
  ifB v1 (
    P3 (.idx [.sc, .sc, .sc]) [x3, x2] fun v2 v3 v4 =>
    P3 (.call F_SortedBox 0 3) [v2, v3, v4] fun v5 v6 v7 =>
    P3 (.idx [.sc, .sc, .sc]) [x3, x2] fun v8 v9 v10 =>
    P1 (.call F_FitsIn 0 1) [x4, x5, x6, v8, v9, v10] fun v11 =>
    P1 (.bin .lss) [v5, v6] fun v12 =>
    ifB v12 (
      shL laws_FnLids_r2 (qS (shL laws_FnLids_r3 (qS (shL laws_FnLids_r5 (qB 1 (qS (shL laws_FnLids_r6 (qS (shL laws_FnLids_r7 Q) Q)) (qS (shL laws_FnLids_r7 Q) Q)))) (qB 1 (qS (shL laws_FnLids_r6 (qS (shL laws_FnLids_r7 Q) Q)) (qS (shL laws_FnLids_r7 Q) Q))))) (qS (shL laws_FnLids_r5 (qB 1 (qS (shL laws_FnLids_r6 (qS (shL laws_FnLids_r7 Q) Q)) (qS (shL laws_FnLids_r7 Q) Q)))) (qB 1 (qS (shL laws_FnLids_r6 (qS (shL laws_FnLids_r7 Q) Q)) (qS (shL laws_FnLids_r7 Q) Q))))) [x0, x1, x2, x3, x4, x5, x6, x7, x8, x9, v0, .bool true, v2, v3, v4, v5, v6, v7, v8, v9, v10, v11, .bool true, .list [] [], .bool true, .list [] [], .list [] [], .list [] [], .list [] [], .list [] [], .list [] [], .list [] [], .list [] [], .list [] [], .list [] [], .list [] [], .list [] [], .list [] [], .list [] [], .bool true, .list [] [], .list [] [], .list [] [], .list [] [], .list [] [], .bool true, .list [] [], .list [] [], .bool true, .list [] [], .list [] [], .list [] [], .list [] [], .list [] [], .bool true, .list [] [], .list [] [], .list [] [], .list [] [], .list [] [], .bool true]) (
      P1 (.bin .lss) [v6, v7] fun v13 =>
      ifB v13 (
        shL laws_FnLids_r2 (qS (shL laws_FnLids_r3 (qS (shL laws_FnLids_r5 (qB 1 (qS (shL laws_FnLids_r6 (qS (shL laws_FnLids_r7 Q) Q)) (qS (shL laws_FnLids_r7 Q) Q)))) (qB 1 (qS (shL laws_FnLids_r6 (qS (shL laws_FnLids_r7 Q) Q)) (qS (shL laws_FnLids_r7 Q) Q))))) (qS (shL laws_FnLids_r5 (qB 1 (qS (shL laws_FnLids_r6 (qS (shL laws_FnLids_r7 Q) Q)) (qS (shL laws_FnLids_r7 Q) Q)))) (qB 1 (qS (shL laws_FnLids_r6 (qS (shL laws_FnLids_r7 Q) Q)) (qS (shL laws_FnLids_r7 Q) Q))))) [x0, x1, x2, x3, x4, x5, x6, x7, x8, x9, v0, .bool true, v2, v3, v4, v5, v6, v7, v8, v9, v10, v11, .bool false, v13, .bool true, .list [] [], .list [] [], .list [] [], .list [] [], .list [] [], .list [] [], .list [] [], .list [] [], .list [] [], .list [] [], .list [] [], .list [] [], .list [] [], .list [] [], .bool true, .list [] [], .list [] [], .list [] [], .list [] [], .list [] [], .bool true, .list [] [], .list [] [], .bool true, .list [] [], .list [] [], .list [] [], .list [] [], .list [] [], .bool true, .list [] [], .list [] [], .list [] [], .list [] [], .list [] [], .bool true]) (
        P1 (.bin .mul) [v5, v6] fun v14 =>
        P1 (.bin .mul) [v14, v7] fun v15 =>
        P3 (.idx [.sc, .sc, .sc]) [x3, x2] fun v16 v17 v18 =>
        P3 (.idx [.sc, .sc, .sc]) [x3, x2] fun v19 v20 v21 =>
        P1 (.bin .mul) [v16, v20] fun v22 =>
        P3 (.idx [.sc, .sc, .sc]) [x3, x2] fun v23 v24 v25 =>
        P1 (.bin .mul) [v22, v25] fun v26 =>
        P1 (.bin .neq) [v15, v26] fun v27 =>
        ifB v27 (
          shL laws_FnLids_r2 (qS (shL laws_FnLids_r3 (qS (shL laws_FnLids_r5 (qB 1 (qS (shL laws_FnLids_r6 (qS (shL laws_FnLids_r7 Q) Q)) (qS (shL laws_FnLids_r7 Q) Q)))) (qB 1 (qS (shL laws_FnLids_r6 (qS (shL laws_FnLids_r7 Q) Q)) (qS (shL laws_FnLids_r7 Q) Q))))) (qS (shL laws_FnLids_r5 (qB 1 (qS (shL laws_FnLids_r6 (qS (shL laws_FnLids_r7 Q) Q)) (qS (shL laws_FnLids_r7 Q) Q)))) (qB 1 (qS (shL laws_FnLids_r6 (qS (shL laws_FnLids_r7 Q) Q)) (qS (shL laws_FnLids_r7 Q) Q))))) [x0, x1, x2, x3, x4, x5, x6, x7, x8, x9, v0, .bool true, v2, v3, v4, v5, v6, v7, v8, v9, v10, v11, .bool false, v13, .bool false, v14, v15, v16, v17, v18, v19, v20, v21, v22, v23, v24, v25, v26, v27, .bool true, .list [] [], .list [] [], .list [] [], .list [] [], .list [] [], .bool true, .list [] [], .list [] [], .bool true, .list [] [], .list [] [], .list [] [], .list [] [], .list [] [], .bool true, .list [] [], .list [] [], .list [] [], .list [] [], .list [] [], .bool true]) (
          P3 (.idx [.sc, .sc, .sc]) [x3, x2] fun v28 v29 v30 =>
          P1 (.call F_FitsIn 0 1) [x7, x8, x9, v28, v29, v30] fun v31 =>
          P1 (.binb .neq) [v11, v31] fun v32 =>
          ifB v32 (
            shL laws_FnLids_r2 (qS (shL laws_FnLids_r3 (qS (shL laws_FnLids_r5 (qB 1 (qS (shL laws_FnLids_r6 (qS (shL laws_FnLids_r7 Q) Q)) (qS (shL laws_FnLids_r7 Q) Q)))) (qB 1 (qS (shL laws_FnLids_r6 (qS (shL laws_FnLids_r7 Q) Q)) (qS (shL laws_FnLids_r7 Q) Q))))) (qS (shL laws_FnLids_r5 (qB 1 (qS (shL laws_FnLids_r6 (qS (shL laws_FnLids_r7 Q) Q)) (qS (shL laws_FnLids_r7 Q) Q)))) (qB 1 (qS (shL laws_FnLids_r6 (qS (shL laws_FnLids_r7 Q) Q)) (qS (shL laws_FnLids_r7 Q) Q))))) [x0, x1, x2, x3, x4, x5, x6, x7, x8, x9, v0, .bool true, v2, v3, v4, v5, v6, v7, v8, v9, v10, v11, .bool false, v13, .bool false, v14, v15, v16, v17, v18, v19, v20, v21, v22, v23, v24, v25, v26, v27, .bool false, v28, v29, v30, v31, v32, .bool true, .list [] [], .list [] [], .bool true, .list [] [], .list [] [], .list [] [], .list [] [], .list [] [], .bool true, .list [] [], .list [] [], .list [] [], .list [] [], .list [] [], .bool true]) (
            P1 (.call F_FitsIn 0 1) [x4, x5, x6, v5, v6, v7] fun v33 =>
            P1 (.binb .neq) [v11, v33] fun v34 =>
            ifB v34 (
              shL laws_FnLids_r2 (qS (shL laws_FnLids_r3 (qS (shL laws_FnLids_r5 (qB 1 (qS (shL laws_FnLids_r6 (qS (shL laws_FnLids_r7 Q) Q)) (qS (shL laws_FnLids_r7 Q) Q)))) (qB 1 (qS (shL laws_FnLids_r6 (qS (shL laws_FnLids_r7 Q) Q)) (qS (shL laws_FnLids_r7 Q) Q))))) (qS (shL laws_FnLids_r5 (qB 1 (qS (shL laws_FnLids_r6 (qS (shL laws_FnLids_r7 Q) Q)) (qS (shL laws_FnLids_r7 Q) Q)))) (qB 1 (qS (shL laws_FnLids_r6 (qS (shL laws_FnLids_r7 Q) Q)) (qS (shL laws_FnLids_r7 Q) Q))))) [x0, x1, x2, x3, x4, x5, x6, x7, x8, x9, v0, .bool true, v2, v3, v4, v5, v6, v7, v8, v9, v10, v11, .bool false, v13, .bool false, v14, v15, v16, v17, v18, v19, v20, v21, v22, v23, v24, v25, v26, v27, .bool false, v28, v29, v30, v31, v32, .bool false, v33, v34, .bool true, .list [] [], .list [] [], .list [] [], .list [] [], .list [] [], .bool true, .list [] [], .list [] [], .list [] [], .list [] [], .list [] [], .bool true]) (
              P3 (.idx [.sc, .sc, .sc]) [x3, x2] fun v35 v36 v37 =>
              P1 (.call F_FitsIn 0 1) [v35, v36, v37, v5, v6, v7] fun v38 =>
              P1 (.un .not) [v38] fun v39 =>
              ifB v39 (
                shL laws_FnLids_r2 (qS (shL laws_FnLids_r3 (qS (shL laws_FnLids_r5 (qB 1 (qS (shL laws_FnLids_r6 (qS (shL laws_FnLids_r7 Q) Q)) (qS (shL laws_FnLids_r7 Q) Q)))) (qB 1 (qS (shL laws_FnLids_r6 (qS (shL laws_FnLids_r7 Q) Q)) (qS (shL laws_FnLids_r7 Q) Q))))) (qS (shL laws_FnLids_r5 (qB 1 (qS (shL laws_FnLids_r6 (qS (shL laws_FnLids_r7 Q) Q)) (qS (shL laws_FnLids_r7 Q) Q)))) (qB 1 (qS (shL laws_FnLids_r6 (qS (shL laws_FnLids_r7 Q) Q)) (qS (shL laws_FnLids_r7 Q) Q))))) [x0, x1, x2, x3, x4, x5, x6, x7, x8, x9, v0, .bool true, v2, v3, v4, v5, v6, v7, v8, v9, v10, v11, .bool false, v13, .bool false, v14, v15, v16, v17, v18, v19, v20, v21, v22, v23, v24, v25, v26, v27, .bool false, v28, v29, v30, v31, v32, .bool false, v33, v34, .bool false, v35, v36, v37, v38, v39, .bool true, .list [] [], .list [] [], .list [] [], .list [] [], .list [] [], .bool true]) (
                P3 (.idx [.sc, .sc, .sc]) [x3, x2] fun v40 v41 v42 =>
                P1 (.call F_FitsIn 0 1) [v5, v6, v7, v40, v41, v42] fun v43 =>
                P1 (.un .not) [v43] fun v44 =>
                shL laws_FnLids_r2 (qS (shL laws_FnLids_r3 (qS (shL laws_FnLids_r5 (qB 1 (qS (shL laws_FnLids_r6 (qS (shL laws_FnLids_r7 Q) Q)) (qS (shL laws_FnLids_r7 Q) Q)))) (qB 1 (qS (shL laws_FnLids_r6 (qS (shL laws_FnLids_r7 Q) Q)) (qS (shL laws_FnLids_r7 Q) Q))))) (qS (shL laws_FnLids_r5 (qB 1 (qS (shL laws_FnLids_r6 (qS (shL laws_FnLids_r7 Q) Q)) (qS (shL laws_FnLids_r7 Q) Q)))) (qB 1 (qS (shL laws_FnLids_r6 (qS (shL laws_FnLids_r7 Q) Q)) (qS (shL laws_FnLids_r7 Q) Q))))) [x0, x1, x2, x3, x4, x5, x6, x7, x8, x9, v0, .bool true, v2, v3, v4, v5, v6, v7, v8, v9, v10, v11, .bool false, v13, .bool false, v14, v15, v16, v17, v18, v19, v20, v21, v22, v23, v24, v25, v26, v27, .bool false, v28, v29, v30, v31, v32, .bool false, v33, v34, .bool false, v35, v36, v37, v38, v39, .bool false, v40, v41, v42, v43, v44, v44]))))))) (
    Q (.exit 0) [x0, x3, x4, x5, x6])) := by kernel_rfl

def laws_FnLids_r8 : L := .seq (.rg [⟨[], .lst [.sc, .sc, .sc] true 0, [], 1⟩, ⟨[], .app [.sc, .sc, .sc] 24, [.v 5, .v 1], 1⟩, ⟨[], .lst [.sc, .sc, .sc] true 1, [.k (.int .i64 50), .k (.int .i64 50), .k (.int .i64 50)], 1⟩, ⟨[], .app [.sc, .sc, .sc] 24, [.v 6, .v 7], 1⟩]) (.seq (.rg [⟨[], .call F_NestedBoxes 0 1, [.v 8], 1⟩, ⟨[], .bin .add, [.v 0, .k (.int .i64 1)], 1⟩, ⟨[], .bin .eql, [.v 9, .v 10], 1⟩, ⟨[(.v 11, true)], .call F_BoxOk 0 1, [.v 2, .v 3, .v 4], 1⟩, ⟨[], .pick, [.v 11, .v 12, .k (.bool false)], 1⟩, ⟨[(.v 13, true)], .call F_FitsIn 0 1, [.k (.int .i64 1), .k (.int .i64 5), .k (.int .i64 3), .k (.int .i64 3), .k (.int .i64 1), .k (.int .i64 5)], 1⟩, ⟨[], .pick, [.v 13, .v 14, .k (.bool false)], 1⟩]) (.ret [.v 15]))
theorem laws_FnLids_r8_sh (Q : QT) (x0 x1 x2 x3 x4 : V) : shL laws_FnLids_r8 Q [x0, x1, x2, x3, x4] = (
  P1 (.lst [.sc, .sc, .sc] true 0) [] fun v0 =>
  P1 (.app [.sc, .sc, .sc] 24) [v0, x1] fun v1 =>
  P1 (.lst [.sc, .sc, .sc] true 1) [.int .i64 50, .int .i64 50, .int .i64 50] fun v2 =>
  P1 (.app [.sc, .sc, .sc] 24) [v1, v2] fun v3 =>
  P1 (.call F_NestedBoxes 0 1) [v3] fun v4 =>
  P1 (.bin .add) [x0, .int .i64 1] fun v5 =>
  P1 (.bin .eql) [v4, v5] fun v6 =>
  ifB v6 (
    P1 (.call F_BoxOk 0 1) [x2, x3, x4] fun v7 =>
    ifB v7 (
      P1 (.call F_FitsIn 0 1) [.int .i64 1, .int .i64 5, .int .i64 3, .int .i64 3, .int .i64 1, .int .i64 5] fun v8 =>
      Q .ret [v8]) (
      Q .ret [.bool false])) (
    Q .ret [.bool false])) := by kernel_rfl

def laws_FnLids_r0 : L := .seq (.rg [⟨[], .call F_at 0 1, [.v 0, .k (.int .i64 0)], 1⟩, ⟨[], .bin .rem, [.v 13, .k (.int .i64 9)], 1⟩, ⟨[], .bin .add, [.k (.int .i64 1), .v 14], 1⟩, ⟨[], .call F_at 0 1, [.v 0, .k (.int .i64 1)], 1⟩, ⟨[], .bin .rem, [.v 16, .k (.int .i64 9)], 1⟩, ⟨[], .bin .add, [.k (.int .i64 1), .v 17], 1⟩, ⟨[], .call F_at 0 1, [.v 0, .k (.int .i64 2)], 1⟩, ⟨[], .bin .rem, [.v 19, .k (.int .i64 9)], 1⟩, ⟨[], .bin .add, [.k (.int .i64 1), .v 20], 1⟩]) (.seq (.rg []) (.seq (.rg [⟨[], .call F_SmallestBox 0 1, [.v 2, .v 15, .v 18, .v 21], 1⟩]) (.seq (.seq (.rg [⟨[], .len, [.v 2], 1⟩, ⟨[], .bin .geq, [.v 22, .v 23], 1⟩, ⟨[(.v 24, false)], .bin .geq, [.v 22, .k (.int .i64 0)], 1⟩, ⟨[(.v 24, false), (.v 25, true)], .idx [.sc, .sc, .sc], [.v 2, .v 22], 3⟩, ⟨[(.v 24, false), (.v 25, true)], .call F_LeftOver 0 1, [.v 15, .v 18, .v 21, .v 26, .v 27, .v 28], 1⟩, ⟨[(.v 24, false), (.v 25, true)], .bin .lss, [.v 29, .k (.int .i64 0)], 1⟩, ⟨[(.v 24, false)], .pick, [.v 25, .v 30, .k (.bool false)], 1⟩, ⟨[], .pick, [.v 24, .k (.bool true), .v 31], 1⟩]) (.ite (.v 32) (.seq (.rg []) (.ret [.k (.bool false)])) (.skip))) (.seq (.seq (.rg []) (.block 0 (.seq (.tup [.v 3, .v 22, .k (.int .i64 0), .v 2, .v 15, .v 18, .v 21, .v 21, .v 15, .v 18]) (.loop (laws_FnLids_b1))))) (laws_FnLids_r8)))))
theorem laws_FnLids_r0_sh (Q : QT) (x0 x1 x2 x3 x4 x5 x6 x7 x8 x9 x10 x11 x12 : V) : shL laws_FnLids_r0 Q [x0, x1, x2, x3, x4, x5, x6, x7, x8, x9, x10, x11, x12] = (
  P1 (.call F_at 0 1) [x0, .int .i64 0] fun v0 =>
  P1 (.bin .rem) [v0, .int .i64 9] fun v1 =>
  P1 (.bin .add) [.int .i64 1, v1] fun v2 =>
  P1 (.call F_at 0 1) [x0, .int .i64 1] fun v3 =>
  P1 (.bin .rem) [v3, .int .i64 9] fun v4 =>
  P1 (.bin .add) [.int .i64 1, v4] fun v5 =>
  P1 (.call F_at 0 1) [x0, .int .i64 2] fun v6 =>
  P1 (.bin .rem) [v6, .int .i64 9] fun v7 =>
  P1 (.bin .add) [.int .i64 1, v7] fun v8 =>
  P1 (.call F_SmallestBox 0 1) [x2, v2, v5, v8] fun v9 =>
  P1 (.len) [x2] fun v10 =>
  P1 (.bin .geq) [v9, v10] fun v11 =>
  ifB v11 (
    Q .ret [.bool false]) (
    P1 (.bin .geq) [v9, .int .i64 0] fun v12 =>
    ifB v12 (
      P3 (.idx [.sc, .sc, .sc]) [x2, v9] fun v13 v14 v15 =>
      P1 (.call F_LeftOver 0 1) [v2, v5, v8, v13, v14, v15] fun v16 =>
      P1 (.bin .lss) [v16, .int .i64 0] fun v17 =>
      ifB v17 (
        Q .ret [.bool false]) (
        shL (.loop laws_FnLids_b1) (qB 0 (qS (shL laws_FnLids_r8 Q) Q)) [x3, v9, .int .i64 0, x2, v2, v5, v8, v8, v2, v5])) (
      shL (.loop laws_FnLids_b1) (qB 0 (qS (shL laws_FnLids_r8 Q) Q)) [x3, v9, .int .i64 0, x2, v2, v5, v8, v8, v2, v5]))) := by kernel_rfl

def laws_FnLids_L : L := .seq (.rg []) (.seq (.seq (.rg [⟨[], .call F_big 0 1, [.v 0], 1⟩]) (.ite (.v 1) (.seq (.rg []) (.ret [.k (.bool true)])) (.skip))) (.seq (.rg [⟨[], .call F_DrawBoxes 0 1, [.v 0], 1⟩]) (.seq (.rg [⟨[], .call F_NestedBoxes 0 1, [.v 2], 1⟩]) (.seq (.seq (.rg [⟨[], .bin .lss, [.v 3, .k (.int .i64 0)], 1⟩, ⟨[(.v 4, false)], .len, [.v 2], 1⟩, ⟨[(.v 4, false)], .bin .gtr, [.v 3, .v 5], 1⟩, ⟨[], .pick, [.v 4, .k (.bool true), .v 6], 1⟩, ⟨[(.v 7, false)], .bin .eql, [.v 3, .k (.int .i64 0)], 1⟩, ⟨[(.v 7, false)], .len, [.v 2], 1⟩, ⟨[(.v 7, false)], .bin .eql, [.v 9, .k (.int .i64 0)], 1⟩, ⟨[(.v 7, false)], .binb .neq, [.v 8, .v 10], 1⟩, ⟨[], .pick, [.v 7, .k (.bool true), .v 11], 1⟩]) (.ite (.v 12) (.seq (.rg []) (.ret [.k (.bool false)])) (.skip))) (laws_FnLids_r0)))))
theorem laws_FnLids_L_sh (Q : QT) (x0 : V) : shL laws_FnLids_L Q [x0] = (
  P1 (.call F_big 0 1) [x0] fun v0 =>
  ifB v0 (
    Q .ret [.bool true]) (
    P1 (.call F_DrawBoxes 0 1) [x0] fun v1 =>
    P1 (.call F_NestedBoxes 0 1) [v1] fun v2 =>
    P1 (.bin .lss) [v2, .int .i64 0] fun v3 =>
    ifB v3 (
      Q .ret [.bool false]) (
      P1 (.len) [v1] fun v4 =>
      P1 (.bin .gtr) [v2, v4] fun v5 =>
      ifB v5 (
        Q .ret [.bool false]) (
        P1 (.bin .eql) [v2, .int .i64 0] fun v6 =>
        P1 (.len) [v1] fun v7 =>
        P1 (.bin .eql) [v7, .int .i64 0] fun v8 =>
        P1 (.binb .neq) [v6, v8] fun v9 =>
        ifB v9 (
          Q .ret [.bool false]) (
          shL laws_FnLids_r0 Q [x0, .bool false, v1, v2, .bool false, v4, v5, .bool false, v6, v7, v8, v9, .bool false]))))) := by kernel_rfl
def laws_FnLids_S : Sig := ⟨[.val false [.sl [.sc]]], [(false, [.sc])], F_FnLids⟩
def laws_FnLids_hs : List NF := [⟨[(3, .sc false [.own 64]), (4, .sc false [.sc]), (5, .ptr 65 0)], [(64, true, [.sc, .sc, .sc])], [(65, [.sc, .sc, .sc])], 66⟩, ⟨[(3, .sc false [.own 64]), (4, .sc false [.sc]), (5, .ptr 65 0), (6, .ptr 66 0), (7, .sc false [.sc]), (8, .sc false [.sc])], [(64, true, [.sc, .sc, .sc])], [(65, [.sc, .sc, .sc]), (66, [.sc, .sc, .sc])], 67⟩, ⟨[(3, .sc false [.own 64]), (4, .sc false [.sc]), (5, .ptr 65 0), (6, .ptr 66 0), (7, .sc false [.sc]), (8, .sc false [.sc])], [(64, true, [.sc, .sc, .sc])], [(65, [.sc, .sc, .sc]), (66, [.sc, .sc, .sc])], 67⟩]

end
end Go.Mw

/- Nested boxes: the program's way. -/
namespace Go.Mw
theorem rowTo_succ {l : List T3} {s : List Int × Int} {i : Nat} (h : i < l.length) : rowTo l s (i + 1) = ((rowTo l s i).1.set i (inBest l (rowTo l s i).1 l[i] l.length), max (rowTo l s i).2 (inBest l (rowTo l s i).1 l[i] l.length)) := by
  simp [rowTo, List.getElem?_eq_getElem h]
theorem inBest_succ {l : List T3} {d : List Int} {x : T3} {j : Nat} (h : j < l.length) (h2 : j < d.length) : inBest l d x (j + 1) = if inside l[j] x then max (inBest l d x j) (d[j] + 1) else inBest l d x j := by
  simp [inBest, List.getElem?_eq_getElem h, List.getElem?_eq_getElem h2]
theorem impl_NestedBoxes_ok : ∀ ds outs, F_NestedBoxes ds = some outs → shL impl_NestedBoxes_L (qRet outs) ds := F_NestedBoxes_elim fun l hp => by
  rw [impl_NestedBoxes_L_sh, p_areBoxes hp]
  cases h : areBoxes l 12 with
  | false => simp [nested, h]
  | true =>
  have hn : l.length ≤ 12 := by
    have h := h
    simp only [areBoxes, Bool.and_eq_true, decide_eq_true_eq] at h; omega
  simp
  refine ⟨by omega, ?_⟩
  refine loop_upto l.length (fun r => [vL I3 v3 l, .int .i64 (dpTo l r).2, .int .i64 l.length, .int .i64 r, vL I1 v1 (dpTo l r).1]) (by intro i j _ _ h; simp at h; omega) (fun _ => True) (by simp [dpTo]) trivial ?_
  intro r hr _
  rw [impl_NestedBoxes_b0_sh]
  simp only [P1_lss, P1_len, ifB_bool, decide_eq_true_eq, decide_eq_false_iff_not]
  refine ⟨fun h1 => ?_, fun h1 => ?_⟩
  · have hr2 : r < l.length := by omega
    refine loop_upto l.length (fun i => [vL I3 v3 l, .int .i64 (rowTo l (dpTo l r) i).2, .int .i64 l.length, .int .i64 r, vL I3 v3 l, .int .i64 l.length, .int .i64 i, vL I1 v1 (rowTo l (dpTo l r) i).1]) (by intro i j _ _ h; simp at h; omega) (fun _ => True) (by simp [rowTo]) trivial ?_
    intro i hi _
    have hT := (Dp.all (l := l) r).row i hi
    have hT2 := fun (hi2 : i < l.length) => rowTo_succ (s := dpTo l r) hi2
    generalize ht : rowTo l (dpTo l r) i = t at *
    rw [impl_NestedBoxes_b1_sh]
    simp only [P1_lss, P1_len, ifB_bool, decide_eq_true_eq, decide_eq_false_iff_not]
    refine ⟨fun h2 => ?_, fun h2 => ?_⟩
    · have hi2 : i < l.length := by omega
      have e2 : (i : Int).toNat = i := by omega
      simp only [P3_idxI, e2, List.getElem?_eq_getElem hi2, Option.some.injEq, exists_eq_left']
      refine ⟨by omega, ?_⟩
      refine loop_upto l.length (fun j => [vL I3 v3 l, .int .i64 t.2, .int .i64 i, .int .i64 (inBest l t.1 l[i] j), .int .i64 l.length, .int .i64 r, vL I3 v3 l, .int .i64 l.length, .int .i64 i, vL I3 v3 l, .int .i64 l.length, .int .i64 j, vL I1 v1 t.1, .int .i64 l[i].a, .int .i64 l[i].b, .int .i64 l[i].c]) (by intro i j _ _ h; simp at h; omega) (fun _ => True) (by simp [inBest]) trivial ?_
      intro j hj _
      rw [impl_NestedBoxes_b2_sh]
      simp only [P1_lss, ifB_bool, decide_eq_true_eq, decide_eq_false_iff_not]
      refine ⟨fun h3 => ?_, fun h3 => ?_⟩
      · have hj2 : j < l.length := by omega
        have hj3 : j < t.1.length := by rw [hT.len]; exact hj2
        have hv := hT.hi j hj2 hj3
        have hv2 := dep_le l l.length l[j]
        have hv3 := hT.lo j hj2 hj3
        have hv4 := dep_le l r l[j]
        unfold D at hv
        have w1 : IntKind.i64.wrap (t.1[j] + 1) = t.1[j] + 1 := wrap_id (by omega) (by omega)
        have w2 : IntKind.i64.wrap ((j : Int) + 1) = (j : Int) + 1 := wrap_id (by omega) (by omega)
        cases hin : inside l[j] l[i] <;> simp [hj2, hj3, hin, w1, w2, inBest_succ hj2 hj3]
      · obtain rfl : j = l.length := by omega
        have hi3 : i < t.1.length := by rw [hT.len]; exact hi2
        have w2 : IntKind.i64.wrap ((i : Int) + 1) = (i : Int) + 1 := wrap_id (by omega) (by omega)
        simp [impl_NestedBoxes_r3_sh, impl_NestedBoxes_r4_sh, impl_NestedBoxes_r5_sh, impl_NestedBoxes_r6_sh, hi3, w2, hi2, hT2 hi2]
    · obtain rfl : i = l.length := by omega
      have w2 : IntKind.i64.wrap ((r : Int) + 1) = (r : Int) + 1 := wrap_id (by omega) (by omega)
      simp [impl_NestedBoxes_r7_sh, impl_NestedBoxes_r8_sh, impl_NestedBoxes_r9_sh, w2, hr2, dpTo]
      rw [ht]; exact ⟨rfl, rfl⟩
  · obtain rfl : r = l.length := by omega
    simp [impl_NestedBoxes_r10_sh, nested, h]
end Go.Mw

/- Drawn boxes; what fits. -/
namespace Go.Mw
theorem boxOf_ok (x : Cur) : (1 ≤ (boxOf x).a ∧ (boxOf x).a ≤ 20) ∧ (1 ≤ (boxOf x).b ∧ (boxOf x).b ≤ 20) ∧ (1 ≤ (boxOf x).c ∧ (boxOf x).c ≤ 20) := by
  have h1 := cBelow_range x (show (0 : Int) < 20 by omega)
  have h2 := cBelow_range (cAfter x 20) (show (0 : Int) < 20 by omega)
  have h3 := cBelow_range (cAfter (cAfter x 20) 20) (show (0 : Int) < 20 by omega)
  simp only [boxOf]; omega
@[simp] theorem boxEnd_b (x : Cur) : (boxEnd x).b = x.b := by simp [boxEnd]
theorem boxEnd_i {x : Cur} (h : 0 ≤ x.i) : 0 ≤ (boxEnd x).i := cAfter_i (cAfter_i (cAfter_i h))
theorem spec_l34Box_ok : ∀ ds outs, F_l34Box ds = some outs → shL spec_l34Box_L (qRet outs) ds := F_l34Box_elim fun x hp => by
  obtain ⟨i0, hb⟩ := hp
  have h1 := cBelow_range x (show (0 : Int) < 20 by omega)
  have h2 := cBelow_range (cAfter x 20) (show (0 : Int) < 20 by omega)
  have h3 := cBelow_range (cAfter (cAfter x 20) 20) (show (0 : Int) < 20 by omega)
  have w1 : IntKind.i64.wrap (1 + cBelow x 20) = 1 + cBelow x 20 := wrap_id (by omega) (by omega)
  have w2 : IntKind.i64.wrap (1 + cBelow (cAfter x 20) 20) = 1 + cBelow (cAfter x 20) 20 := wrap_id (by omega) (by omega)
  have w3 : IntKind.i64.wrap (1 + cBelow (cAfter (cAfter x 20) 20) 20) = 1 + cBelow (cAfter (cAfter x 20) 20) 20 := wrap_id (by omega) (by omega)
  rw [spec_l34Box_L_sh, q_below (b := x.b) x rfl i0 hb]
  simp only [P1_add, w1]
  rw [q_below (b := x.b) (cAfter x 20) (by simp) (cAfter_i i0) hb]
  simp only [P1_add, w2]
  rw [q_below (b := x.b) (cAfter (cAfter x 20) 20) (by simp) (cAfter_i (cAfter_i i0)) hb]
  simp only [P1_add, w3]
  simp [boxOf, boxEnd]
theorem q_box {b : List UInt8} (c : Cur) {m : Nat} {k : V → V → V → V → V → Prop} (hb : c.b = b) (h : 0 ≤ c.i) (hl : b.length ≤ 1048576) : P5 (.call F_l34Box 0 m) [vL I1 vY b, .int .i64 c.i, .int .i64 c.h] k ↔ k (.int .i64 (boxOf c).a) (.int .i64 (boxOf c).b) (.int .i64 (boxOf c).c) (.int .i64 (boxEnd c).i) (.int .i64 (boxEnd c).h) := by
  subst hb; exact p_l34Box ⟨h, hl⟩
theorem box_inv (x : Cur) (hi : 0 ≤ x.i) (k : Nat) : (boxTo x k).2.b = x.b ∧ 0 ≤ (boxTo x k).2.i ∧ (boxTo x k).1.length = k ∧ ∀ d ∈ (boxTo x k).1, (1 ≤ d.a ∧ d.a ≤ 20) ∧ (1 ≤ d.b ∧ d.b ≤ 20) ∧ (1 ≤ d.c ∧ d.c ≤ 20) := by
  induction k with
  | zero => exact ⟨rfl, hi, rfl, by simp [boxTo]⟩
  | succ k ih =>
    obtain ⟨h1, h2, h3, h4⟩ := ih
    refine ⟨by simp [boxTo, h1], boxEnd_i h2, by simp [boxTo, h3], fun d hd => ?_⟩
    simp only [boxTo, List.mem_append, List.mem_singleton] at hd
    rcases hd with hd | rfl
    · exact h4 d hd
    · exact boxOf_ok _
theorem spec_l34List_ok : ∀ ds outs, F_l34List ds = some outs → shL spec_l34List_L (qRet outs) ds := F_l34List_elim fun x hp => by
  obtain ⟨i0, hb⟩ := hp
  have r := cBelow_range x (show (0 : Int) < 7 by omega)
  have w1 : cBelow x 7 = (boxN x : Int) := by simp only [boxN]; omega
  have hN : boxN x ≤ 6 := by simp only [boxN]; omega
  rw [spec_l34List_L_sh]
  simp only [P1_lst0]
  rw [q_below (b := x.b) x rfl i0 hb, w1]
  refine loop_upto (boxN x) (fun k => [.int .i64 (boxN x), .int .i64 k, vL I3 v3 (boxTo (cAfter x 7) k).1, vL I1 vY x.b, .int .i64 (boxTo (cAfter x 7) k).2.i, .int .i64 (boxTo (cAfter x 7) k).2.h]) (by intro i j _ _ h; simp at h; omega) (fun _ => True) (by simp [boxTo]) trivial ?_
  intro k hk _
  obtain ⟨g1, g2, g3, -⟩ := box_inv (cAfter x 7) (cAfter_i i0) k
  rw [cAfter_b] at g1
  rw [spec_l34List_b0_sh]
  simp only [P1_lss, ifB_bool, decide_eq_true_eq, decide_eq_false_iff_not]
  refine ⟨fun h => ?_, fun h => ?_⟩
  · rw [q_box (b := x.b) _ g1 g2 hb]
    have hw : IntKind.i64.wrap ((k : Int) + 1) = ((k + 1 : Nat) : Int) := by rw [wrap_id (by omega) (by omega)]; omega
    simp only [P1_add, hw]
    simp [boxTo, g3]
    omega
  · have e : k = boxN x := by omega
    subst e
    simp [spec_l34List_r1_sh]
theorem spec_DrawBoxes_ok : ∀ ds outs, F_DrawBoxes ds = some outs → shL spec_DrawBoxes_L (qRet outs) ds := F_DrawBoxes_elim fun l hp => by
  rw [spec_DrawBoxes_L_sh, p_l01New hp]
  refine (p_l34List (x_b := (cur0 l).b) (x_i := (cur0 l).i) (x_h := (cur0 l).h) ⟨by simp [cur0], hp⟩).2 ?_
  show qRet [vL I3 v3 (boxTo (cAfter (cur0 l) 7) (boxN (cur0 l))).1] .ret [vL I3 v3 (boxTo (cAfter (cur0 l) 7) (boxN (cur0 l))).1]
  simp

/-! what fits -/
theorem sorted_eq {x : T3} (h : boxOk x = true) : sortedBox x = ⟨max (max x.a x.b) x.c, x.a + x.b + x.c - max (max x.a x.b) x.c - min (min x.a x.b) x.c, min (min x.a x.b) x.c⟩ := by simp [sortedBox, h]
theorem sorted_desc {x : T3} (h : boxOk x = true) : (sortedBox x).c ≤ (sortedBox x).b ∧ (sortedBox x).b ≤ (sortedBox x).a ∧ boxOk (sortedBox x) = true := by
  have hb := (boxOk_iff _).1 h
  rw [boxOk_iff, sorted_eq h]
  dsimp only
  omega
theorem sorted_desc_eq {x : T3} (h : boxOk x = true) (h1 : x.c ≤ x.b) (h2 : x.b ≤ x.a) : sortedBox x = x := by
  rw [sorted_eq h]
  cases x
  dsimp only at *
  simp only [T3.mk.injEq]
  omega
theorem sorted_idem {x : T3} (h : boxOk x = true) : sortedBox (sortedBox x) = sortedBox x := by
  obtain ⟨h1, h2, h3⟩ := sorted_desc h
  exact sorted_desc_eq h3 h1 h2
theorem sorted_prod {x : T3} (h : boxOk x = true) : (sortedBox x).a * (sortedBox x).b * (sortedBox x).c = x.a * x.b * x.c := by
  rw [sorted_eq h]
  obtain ⟨a, b, c⟩ := x
  dsimp only
  rcases Int.le_total a b with h1 | h1 <;> rcases Int.le_total b c with h2 | h2 <;> rcases Int.le_total a c with h3 | h3
  · rw [show max (max a b) c = c by omega, show min (min a b) c = a by omega, show a + b + c - c - a = b by omega]; simp only [Int.mul_comm, Int.mul_left_comm]
  · rw [show max (max a b) c = c by omega, show min (min a b) c = a by omega, show a + b + c - c - a = b by omega]; simp only [Int.mul_comm, Int.mul_left_comm]
  · rw [show max (max a b) c = b by omega, show min (min a b) c = a by omega, show a + b + c - b - a = c by omega]; simp only [Int.mul_comm, Int.mul_left_comm]
  · rw [show max (max a b) c = b by omega, show min (min a b) c = c by omega, show a + b + c - b - c = a by omega]; simp only [Int.mul_comm, Int.mul_left_comm]
  · rw [show max (max a b) c = c by omega, show min (min a b) c = b by omega, show a + b + c - c - b = a by omega]; simp only [Int.mul_comm, Int.mul_left_comm]
  · rw [show max (max a b) c = a by omega, show min (min a b) c = b by omega, show a + b + c - a - b = c by omega]; simp only [Int.mul_comm, Int.mul_left_comm]
  · rw [show max (max a b) c = a by omega, show min (min a b) c = c by omega, show a + b + c - a - c = b by omega]
  · rw [show max (max a b) c = a by omega, show min (min a b) c = c by omega, show a + b + c - a - c = b by omega]
theorem sorted_rot (a b c : Int) : sortedBox ⟨c, a, b⟩ = sortedBox ⟨a, b, c⟩ ∧ boxOk ⟨c, a, b⟩ = boxOk ⟨a, b, c⟩ := by
  have h : boxOk ⟨c, a, b⟩ = boxOk ⟨a, b, c⟩ := by
    rw [Bool.eq_iff_iff, boxOk_iff, boxOk_iff]; dsimp only; omega
  refine ⟨?_, h⟩
  unfold sortedBox
  rw [h]
  split
  · simp only [T3.mk.injEq]; omega
  · rfl
theorem fits_iff {x y : T3} (hx : boxOk x = true) (hy : boxOk y = true) : fitsIn x y = true ↔ (sortedBox x).a ≤ (sortedBox y).a ∧ (sortedBox x).b ≤ (sortedBox y).b ∧ (sortedBox x).c ≤ (sortedBox y).c := by
  simp [fitsIn, hx, hy, and_assoc]
theorem fits_congr {x y x' y' : T3} (hx : boxOk x' = boxOk x) (hy : boxOk y' = boxOk y) (h1 : sortedBox x' = sortedBox x) (h2 : sortedBox y' = sortedBox y) : fitsIn x' y' = fitsIn x y := by
  unfold fitsIn; rw [hx, hy, h1, h2]
theorem wrap_prod {x : T3} (h : boxOk x = true) : IntKind.i64.wrap (IntKind.i64.wrap (x.a * x.b) * x.c) = x.a * x.b * x.c ∧ 1 ≤ x.a * x.b * x.c ∧ x.a * x.b * x.c ≤ 125000000 := by
  have hb := (boxOk_iff _).1 h
  have h1 : 1 ≤ x.a * x.b := by have := Int.mul_le_mul (show (1 : Int) ≤ x.a by omega) (show (1 : Int) ≤ x.b by omega) (by omega) (by omega); omega
  have h2 : x.a * x.b ≤ 250000 := by have := Int.mul_le_mul (show x.a ≤ (500 : Int) by omega) (show x.b ≤ (500 : Int) by omega) (by omega) (by omega); omega
  have h3 : 1 ≤ x.a * x.b * x.c := by have := Int.mul_le_mul h1 (show (1 : Int) ≤ x.c by omega) (by omega) (by omega); omega
  have h4 : x.a * x.b * x.c ≤ 125000000 := by have := Int.mul_le_mul h2 (show x.c ≤ (500 : Int) by omega) (by omega) (by omega); omega
  rw [wrap_id (x := x.a * x.b) (by omega) (by omega), wrap_id (by omega) (by omega)]
  exact ⟨rfl, h3, h4⟩
theorem fits_prod {x y : T3} (hx : boxOk x = true) (hy : boxOk y = true) (h : fitsIn x y = true) : x.a * x.b * x.c ≤ y.a * y.b * y.c := by
  obtain ⟨h1, h2, h3⟩ := (fits_iff hx hy).1 h
  have bx := (boxOk_iff _).1 (sorted_desc hx).2.2
  have by' := (boxOk_iff _).1 (sorted_desc hy).2.2
  rw [← sorted_prod hx, ← sorted_prod hy]
  exact Int.mul_le_mul (Int.mul_le_mul h1 h2 (by omega) (by omega)) h3 (by omega) (Int.mul_nonneg (by omega) (by omega))
theorem left_fits {x y : T3} (hx : boxOk x = true) (hy : boxOk y = true) : (fitsIn x y = true → 0 ≤ leftOver x y) ∧ (fitsIn x y = false → leftOver x y = -1) := by
  refine ⟨fun h => ?_, fun h => by simp [leftOver, h]⟩
  have h1 := wrap_prod hx
  have h2 := wrap_prod hy
  have h3 := fits_prod hx hy h
  unfold leftOver
  rw [if_pos h, h1.1, h2.1, wrap_id (by omega) (by omega)]
  omega
theorem best_spec {l : List T3} {w : T3} : ∀ k, k ≤ l.length →
    (bestBox l w k = -1 ∧ ∀ (j : Nat) (h : j < l.length), j < k → leftOver w l[j] < 0) ∨
    (∃ (i : Nat) (hi : i < l.length), i < k ∧ bestBox l w k = i ∧ 0 ≤ leftOver w l[i] ∧ ∀ (j : Nat) (h : j < l.length), j < k → 0 ≤ leftOver w l[j] → leftOver w l[i] ≤ leftOver w l[j])
  | 0, _ => .inl ⟨rfl, fun j h hj => by omega⟩
  | k + 1, hk => by
    have hkl : k < l.length := by omega
    simp only [bestBox, List.getElem?_eq_getElem hkl]
    rcases best_spec (l := l) (w := w) k (by omega) with ⟨h1, h2⟩ | ⟨i, hi, h0, h1, h2, h3⟩
    · rw [h1]
      by_cases h4 : 0 ≤ leftOver w l[k]
      · rw [if_pos ⟨h4, .inl (by omega)⟩]
        refine .inr ⟨k, hkl, by omega, rfl, h4, fun j hj hjk hl => ?_⟩
        by_cases e : j = k
        · subst e; exact Int.le_refl _
        · have := h2 j hj (by omega); omega
      · rw [if_neg (fun h => h4 h.1)]
        refine .inl ⟨rfl, fun j hj hjk => ?_⟩
        by_cases e : j = k
        · subst e; omega
        · exact h2 j hj (by omega)
    · rw [h1]
      have e1 : (i : Int).toNat = i := by omega
      simp only [e1, List.getElem?_eq_getElem hi]
      by_cases h4 : 0 ≤ leftOver w l[k] ∧ ((i : Int) < 0 ∨ leftOver w l[k] < leftOver w l[i])
      · rw [if_pos h4]
        have h5 : leftOver w l[k] < leftOver w l[i] := h4.2.resolve_left (by omega)
        refine .inr ⟨k, hkl, by omega, rfl, h4.1, fun j hj hjk hl => ?_⟩
        by_cases e : j = k
        · subst e; exact Int.le_refl _
        · have := h3 j hj (by omega) hl; omega
      · rw [if_neg h4]
        refine .inr ⟨i, hi, by omega, rfl, h2, fun j hj hjk hl => ?_⟩
        by_cases e : j = k
        · subst e
          have : ¬ leftOver w l[j] < leftOver w l[i] := fun h => h4 ⟨hl, .inr h⟩
          omega
        · exact h3 j hj (by omega) hl
end Go.Mw

/- The law on lids. -/
namespace Go.Mw
theorem maxIn_snoc (f : T3 → Int) (t : T3) : ∀ l : List T3, maxIn f (l ++ [t]) = max (maxIn f l) (max (f t) 0)
  | [] => by simp only [List.nil_append, maxIn]; omega
  | a :: r => by simp only [List.cons_append, maxIn, maxIn_snoc f t r]; omega
theorem maxIn_congr {f g : T3 → Int} : ∀ {l : List T3}, (∀ y ∈ l, f y = g y) → maxIn f l = maxIn g l
  | [], _ => rfl
  | a :: r, h => by
    have h1 := h a (by simp)
    have h2 := maxIn_congr (l := r) (fun y hy => h y (by simp [hy]))
    simp only [maxIn, h1, h2]
theorem dep_snoc (l : List T3) (t : T3) : ∀ k y, inside t y = false → dep (l ++ [t]) k y = dep l k y
  | 0, _, _ => rfl
  | k + 1, y, h => by
    simp only [dep, maxIn_snoc, h, Bool.false_eq_true, if_false]
    have e : maxIn (fun z => if inside z y then dep (l ++ [t]) k z else 0) l = maxIn (fun z => if inside z y then dep l k z else 0) l := maxIn_congr fun z _ => by
      cases hz : inside z y with
      | false => simp
      | true =>
        have hz2 : inside t z = false := by
          cases hh : inside t z with
          | false => rfl
          | true => rw [inside_trans hh hz] at h; exact h
        simp [dep_snoc l t k z hz2]
    have := maxIn_nonneg (f := fun z => if inside z y then dep l k z else 0) (l := l)
    rw [e]; omega
theorem D_snoc {l : List T3} {t : T3} (h1 : ∀ y ∈ l, inside y t = true) : maxIn (D (l ++ [t])) (l ++ [t]) = maxIn (D l) l + 1 := by
  have h2 : ∀ y ∈ l, inside t y = false := fun y hy => by
    cases hh : inside t y with
    | false => rfl
    | true => have := inside_trans hh (h1 y hy); rw [inside_irrefl] at this; cases this
  have e1 : ∀ y ∈ l, D (l ++ [t]) y = D l y := fun y hy => by
    have g1 := dep_stable l l.length y (count_len hy)
    have g2 := dep_mono l l.length y
    unfold D
    rw [List.length_append, List.length_singleton, dep_snoc l t _ y (h2 y hy)]
    omega
  have e2 : D (l ++ [t]) t = 1 + maxIn (D l) l := by
    rw [D_eq (List.mem_append_right l (List.mem_singleton.2 rfl)), maxIn_snoc, inside_irrefl]
    have : maxIn (fun y => if inside y t then D (l ++ [t]) y else 0) l = maxIn (D l) l := maxIn_congr fun y hy => by simp [h1 y hy, e1 y hy]
    have h0 := maxIn_nonneg (f := D l) (l := l)
    rw [this]; simp; omega
  have h0 := maxIn_nonneg (f := D l) (l := l)
  rw [maxIn_snoc, e2, maxIn_congr e1]; omega
/-- Drawn boxes: few and small. -/
structure Small3 (l : List T3) : Prop where
  len : l.length ≤ 6
  ok : ∀ d ∈ l, (1 ≤ d.a ∧ d.a ≤ 20) ∧ (1 ≤ d.b ∧ d.b ≤ 20) ∧ (1 ≤ d.c ∧ d.c ≤ 20)
theorem Small3.box {l : List T3} (h : Small3 l) {d : T3} (hd : d ∈ l) : boxOk d = true := by
  have := h.ok d hd
  rw [boxOk_iff]; omega
theorem Small3.are {l : List T3} (h : Small3 l) (n : Int) (hn : 6 ≤ n) : areBoxes l n = true := by
  have := h.len
  simp only [areBoxes, Bool.and_eq_true, decide_eq_true_eq, List.all_eq_true]
  exact ⟨by omega, fun d hd => h.box hd⟩
theorem big_ok : boxOk ⟨50, 50, 50⟩ = true := by decide
theorem Small3.inside {l : List T3} (h : Small3 l) {d : T3} (hd : d ∈ l) : inside d ⟨50, 50, 50⟩ = true := by
  have h1 := h.ok d hd
  have e2 : sortedBox ⟨50, 50, 50⟩ = ⟨50, 50, 50⟩ := by decide
  simp only [Go.Mw.inside, sorted_eq (h.box hd), e2, Bool.and_eq_true, decide_eq_true_eq]
  omega
theorem Small3.nested {l : List T3} (h : Small3 l) : nested (l ++ [⟨50, 50, 50⟩]) = nested l + 1 := by
  have h1 : areBoxes (l ++ [⟨50, 50, 50⟩]) 12 = true := by
    have := h.len
    simp only [areBoxes, Bool.and_eq_true, decide_eq_true_eq, List.all_eq_true]
    refine ⟨by simp; omega, fun d hd => ?_⟩
    simp only [List.mem_append, List.mem_singleton] at hd
    rcases hd with hd | rfl
    · exact h.box hd
    · exact big_ok
  rw [nested_eq h1, nested_eq (h.are 12 (by omega))]
  exact D_snoc fun y hy => h.inside hy
theorem Small3.nested_r {l : List T3} (h : Small3 l) : 0 ≤ Go.Mw.nested l ∧ Go.Mw.nested l ≤ l.length ∧ (Go.Mw.nested l = 0 ↔ l.length = 0) := by
  rw [nested_eq (h.are 12 (by omega))]
  have h0 := maxIn_nonneg (f := D l) (l := l)
  refine ⟨h0, maxIn_le (by omega) fun y _ => (dep_le l l.length y).2, fun h1 => ?_, fun h1 => ?_⟩
  · rcases Nat.eq_zero_or_pos l.length with e | e
    · exact e
    · exfalso
      have hx : l[0] ∈ l := List.getElem_mem e
      have g1 := le_maxIn (f := D l) hx
      have g2 := D_eq hx
      have g3 := maxIn_nonneg (f := fun y => if Go.Mw.inside y l[0] then D l y else 0) (l := l)
      omega
  · have : l = [] := by simpa using h1
    subst this; rfl
theorem lids_end {l : List T3} (h : Small3 l) {p : T3} (hp : boxOk p = true) : shL laws_FnLids_r8 (qRet [.bool true]) [.int .i64 (nested l), vL I3 v3 l, .int .i64 p.a, .int .i64 p.b, .int .i64 p.c] := by
  have hn := h.nested_r
  have hl := h.len
  have a1 : l.length * 24 ≤ 140737488355328 ∧ l.length ≤ 140737488355328 := by omega
  have a2 : (l.length + 1) * 24 ≤ 140737488355328 ∧ l.length ≤ 140737488355327 := by omega
  have hl2 : (l ++ [(⟨50, 50, 50⟩ : T3)]).length ≤ 1048576 := by simp; omega
  have w1 : IntKind.i64.wrap (nested l + 1) = nested l + 1 := wrap_id (by omega) (by omega)
  have hq := fun (nr_ : Nat) (kk_ : V → Prop) => p_NestedBoxes (nr_ := nr_) (kk_ := kk_) hl2
  rw [h.nested] at hq
  have hf : fitsIn ⟨1, 5, 3⟩ ⟨3, 1, 5⟩ = true := by decide
  have ep : (⟨p.a, p.b, p.c⟩ : T3) = p := rfl
  rw [laws_FnLids_r8_sh]
  simp [a1, a2, hq, w1, hp, hf, ep]
theorem lids_loop {l : List T3} (h : Small3 l) {p : T3} (hp : boxOk p = true) :
    shL (.loop laws_FnLids_b1) (qB 0 (qS (shL laws_FnLids_r8 (qRet [.bool true])) (qRet [.bool true]))) [.int .i64 (nested l), .int .i64 (bestBox l p l.length), .int .i64 0, vL I3 v3 l, .int .i64 p.a, .int .i64 p.b, .int .i64 p.c, .int .i64 p.c, .int .i64 p.a, .int .i64 p.b] := by
  have hl := h.len
  refine loop_upto l.length (fun k => [.int .i64 (nested l), .int .i64 (bestBox l p l.length), .int .i64 k, vL I3 v3 l, .int .i64 p.a, .int .i64 p.b, .int .i64 p.c, .int .i64 p.c, .int .i64 p.a, .int .i64 p.b]) (by intro i j _ _ h; simp at h; omega) (fun _ => True) (by simp) trivial ?_
  intro k hk _
  rw [laws_FnLids_b1_sh]
  simp only [P1_len, P1_lss, ifB_bool, decide_eq_true_eq, decide_eq_false_iff_not]
  refine ⟨fun h1 => ?_, fun h1 => ?_⟩
  · have hk2 : k < l.length := by omega
    have hb := h.box (List.getElem_mem hk2)
    have e2 : (k : Int).toNat = k := by omega
    have hs := sorted_desc hb
    have hi := sorted_idem hb
    have f1 : ¬ (sortedBox l[k]).a < (sortedBox l[k]).b := by omega
    have f2 : ¬ (sortedBox l[k]).b < (sortedBox l[k]).c := by omega
    have g1 := wrap_prod hb
    have g2 := wrap_prod hs.2.2
    have g3 := sorted_prod hb
    have f3 : IntKind.i64.wrap (IntKind.i64.wrap ((sortedBox l[k]).a * (sortedBox l[k]).b) * (sortedBox l[k]).c) = IntKind.i64.wrap (IntKind.i64.wrap (l[k].a * l[k].b) * l[k].c) := by rw [g1.1, g2.1, g3]
    have ep : (⟨p.a, p.b, p.c⟩ : T3) = p := rfl
    have f4 : fitsIn ⟨p.c, p.a, p.b⟩ l[k] = fitsIn p l[k] := fits_congr (sorted_rot p.a p.b p.c).2 rfl (sorted_rot p.a p.b p.c).1 rfl
    have f5 : fitsIn p (sortedBox l[k]) = fitsIn p l[k] := fits_congr rfl (by rw [hb, hs.2.2]) rfl hi
    have f6 : fitsIn l[k] (sortedBox l[k]) = true := by rw [fits_iff hb hs.2.2, hi]; omega
    have f7 : fitsIn (sortedBox l[k]) l[k] = true := by rw [fits_iff hs.2.2 hb, hi]; omega
    have w1 : IntKind.i64.wrap ((k : Int) + 1) = (k : Int) + 1 := wrap_id (by omega) (by omega)
    have hlf := left_fits hp hb
    have hbest := best_spec (l := l) (w := p) l.length (Nat.le_refl _)
    have eb : (⟨l[k].a, l[k].b, l[k].c⟩ : T3) = l[k] := rfl
    have es : (⟨(sortedBox l[k]).a, (sortedBox l[k]).b, (sortedBox l[k]).c⟩ : T3) = sortedBox l[k] := rfl
    simp only [P3_idxI, e2, List.getElem?_eq_getElem hk2, Option.some.injEq, exists_eq_left', p_SortedBox, p_FitsIn, eb, es, ep, P1_lss, f1, f2, decide_false, ifB_bool, P1_mul, f3, P1_neq, P1_bneq, P1_not, f4, f5, f6, f7]
    simp [laws_FnLids_r2_sh, laws_FnLids_r3_sh, laws_FnLids_r4_sh, laws_FnLids_r5_sh, laws_FnLids_r6_sh, laws_FnLids_r7_sh]
    refine ⟨fun hf => ?_, fun hf => ⟨l[k], List.getElem?_eq_getElem hk2, hlf.2 hf, fun _ => ⟨hk2, w1⟩⟩⟩
    have h0 := hlf.1 hf
    rcases hbest with ⟨e, hno⟩ | ⟨i, hi', h0', e, h2', h3'⟩
    · have := hno k hk2 hk2; omega
    · rw [e]
      have e3 : (i : Int).toNat = i := by omega
      exact ⟨by omega, fun _ => ⟨l[k], List.getElem?_eq_getElem hk2, by omega, l[i], by rw [e3, List.getElem?_eq_getElem hi'], h3' k hk2 hk2 h0, fun _ => ⟨hk2, w1⟩⟩⟩
  · have e : k = l.length := by omega
    subst e
    exact lids_end h hp
theorem laws_FnLids_ok : ∀ ds outs, F_FnLids ds = some outs → shL laws_FnLids_L (qRet outs) ds := F_FnLids_elim fun l hp => by
  rw [laws_FnLids_L_sh, p_big hp]
  by_cases hb : l.length ≤ 1048576
  · have hb' : decide (1048576 < l.length) = false := by simp; omega
    rw [hb', p_DrawBoxes hb]
    have h : Small3 (boxTo (cAfter (cur0 l) 7) (boxN (cur0 l))).1 := by
      obtain ⟨-, -, h3, h4⟩ := box_inv (cAfter (cur0 l) 7) (cAfter_i (by simp [cur0])) (boxN (cur0 l))
      have := cBelow_range (cur0 l) (show (0 : Int) < 7 by omega)
      exact ⟨by rw [h3]; simp only [boxN]; omega, h4⟩
    generalize (boxTo (cAfter (cur0 l) 7) (boxN (cur0 l))).1 = b at *
    have hl := h.len
    have hbl : b.length ≤ 1048576 := by omega
    have hn := h.nested_r
    have a0 := atB_range l 0
    have a1 := atB_range l 1
    have a2 := atB_range l 2
    have m0 : (atB l 0).tmod 9 = atB l 0 % 9 := Int.tmod_eq_emod_of_nonneg a0.1
    have m1 : (atB l 1).tmod 9 = atB l 1 % 9 := Int.tmod_eq_emod_of_nonneg a1.1
    have m2 : (atB l 2).tmod 9 = atB l 2 % 9 := Int.tmod_eq_emod_of_nonneg a2.1
    have w0 : IntKind.i64.wrap (1 + atB l 0 % 9) = 1 + atB l 0 % 9 := wrap_id (by omega) (by omega)
    have w1 : IntKind.i64.wrap (1 + atB l 1 % 9) = 1 + atB l 1 % 9 := wrap_id (by omega) (by omega)
    have w2 : IntKind.i64.wrap (1 + atB l 2 % 9) = 1 + atB l 2 % 9 := wrap_id (by omega) (by omega)
    have hpk : boxOk ⟨1 + atB l 0 % 9, 1 + atB l 1 % 9, 1 + atB l 2 % 9⟩ = true := by rw [boxOk_iff]; dsimp only; omega
    have core := lids_loop h hpk
    have hbest := best_spec (l := b) (w := ⟨1 + atB l 0 % 9, 1 + atB l 1 % 9, 1 + atB l 2 % 9⟩) b.length (Nat.le_refl _)
    have hsm : smallestBox b ⟨1 + atB l 0 % 9, 1 + atB l 1 % 9, 1 + atB l 2 % 9⟩ = bestBox b ⟨1 + atB l 0 % 9, 1 + atB l 1 % 9, 1 + atB l 2 % 9⟩ b.length := by simp [smallestBox, h.are 20 (by omega), hpk]
    have q0 : l.length ≤ 1048576 ∧ (0 : Int) ≤ 0 ∧ (0 : Int) ≤ 1000000 := by omega
    have q1 : l.length ≤ 1048576 ∧ (0 : Int) ≤ 1 ∧ (1 : Int) ≤ 1000000 := by omega
    have q2 : l.length ≤ 1048576 ∧ (0 : Int) ≤ 2 ∧ (2 : Int) ≤ 1000000 := by omega
    have d1 : ¬ nested b < 0 := by omega
    have d2 : ¬ (b.length : Int) < nested b := by omega
    have d3 : (nested b == 0) = ((b.length : Int) == 0) := by
      rw [Bool.eq_iff_iff, beq_iff_eq, beq_iff_eq]; omega
    simp only [p_NestedBoxes hbl, P1_lss, P1_len, P1_gtr, P1_eql, P1_bneq, ifB_bool, d1, d2, d3, laws_FnLids_r0_sh]
    simp only [p_at q0, p_at q1, p_at q2, P1_rem, P1_add, m0, m1, m2, w0, w1, w2, p_SmallestBox hbl, hsm]
    generalize hi : bestBox b ⟨1 + atB l 0 % 9, 1 + atB l 1 % 9, 1 + atB l 2 % 9⟩ b.length = i at *
    rcases hbest with ⟨e, -⟩ | ⟨j, hj, h0, e, h2, -⟩
    · subst e
      simp
      exact ⟨by omega, fun _ => core⟩
    · subst e
      have e3 : (j : Int).toNat = j := by omega
      simp [hj]
      exact ⟨h2, fun _ => core⟩
  · have hb' : decide (1048576 < l.length) = true := by simp; omega
    rw [hb']; simp
end Go.Mw

