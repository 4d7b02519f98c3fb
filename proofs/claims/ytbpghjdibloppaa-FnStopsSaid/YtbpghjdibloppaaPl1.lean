/- What functions of the program compute, as small pure programs, shown against plain Lean functions: no condition. -/
import Derived.KernelRfl
import Derived.Test.YtbpghjdibloppaaFwG
/- What the functions of the first rows compute, in plain terms. -/
namespace Go.Mw
def within (n low high : Int) : Bool := decide (low ≤ n) && decide (n ≤ high)
def E_within : Int × Int × Int → List V := fun (a, b, c) => [.int .i64 a, .int .i64 b, .int .i64 c]
noncomputable def F_within : List V → Option (List V) := mkF E_within (fun (_, _, _) => True) (fun (a, b, c) => [.bool (within a b c)])
theorem F_within_inj : ∀ x y, E_within x = E_within y → x = y := by
  rintro ⟨a, b, c⟩ ⟨a', b', c'⟩ h
  simpa [E_within] using h
theorem F_within_elim {P : List V → List V → Prop} (h : ∀ (a : Int) (b : Int) (c : Int), P [.int .i64 a, .int .i64 b, .int .i64 c] [.bool (within a b c)]) : ∀ ds outs, F_within ds = some outs → P ds outs := by
  intro ds outs hh
  obtain ⟨⟨a, b, c⟩, rfl, -, rfl⟩ := mkF_inv hh
  exact h a b c
@[simp] theorem p_within {a : Int} {b : Int} {c : Int} {nr_ : Nat} {kk_ : V → Prop} : P1 (.call F_within 0 nr_) [.int .i64 a, .int .i64 b, .int .i64 c] kk_ ↔ kk_ (.bool (within a b c)) :=
  P1_callF (by unfold F_within; exact mkF_eq F_within_inj (a, b, c) trivial)

noncomputable abbrev F_l01In := F_within

/-! lists of pairs -/
end Go.Mw

/- Functions of the program, as small pure programs (printed by a program of ours). -/
namespace Go.Mw
noncomputable section
def spec_l01In_L : L := .seq (.rg []) (.seq (.rg [⟨[], .bin .geq, [.v 0, .v 1], 1⟩, ⟨[(.v 3, true)], .bin .leq, [.v 0, .v 2], 1⟩, ⟨[], .pick, [.v 3, .v 4, .k (.bool false)], 1⟩]) (.ret [.v 5]))
theorem spec_l01In_L_sh (Q : QT) (x0 x1 x2 : V) : shL spec_l01In_L Q [x0, x1, x2] = (
  P1 (.bin .geq) [x0, x1] fun v0 =>
  ifB v0 (
    P1 (.bin .leq) [x0, x2] fun v1 =>
    Q .ret [v1]) (
    Q .ret [.bool false])) := by kernel_rfl
def spec_l01In_S : Sig := ⟨[.val false [.sc], .val false [.sc], .val false [.sc]], [(false, [.sc])], F_l01In⟩
def spec_l01In_hs : List NF := []

def impl_within_L : L := .seq (.rg []) (.seq (.rg [⟨[], .bin .geq, [.v 0, .v 1], 1⟩, ⟨[(.v 3, true)], .bin .leq, [.v 0, .v 2], 1⟩, ⟨[], .pick, [.v 3, .v 4, .k (.bool false)], 1⟩]) (.ret [.v 5]))
theorem impl_within_L_sh (Q : QT) (x0 x1 x2 : V) : shL impl_within_L Q [x0, x1, x2] = (
  P1 (.bin .geq) [x0, x1] fun v0 =>
  ifB v0 (
    P1 (.bin .leq) [x0, x2] fun v1 =>
    Q .ret [v1]) (
    Q .ret [.bool false])) := by kernel_rfl
def impl_within_S : Sig := ⟨[.val false [.sc], .val false [.sc], .val false [.sc]], [(false, [.sc])], F_within⟩
def impl_within_hs : List NF := []

end
end Go.Mw

/- The functions of the first rows compute what was said. -/
namespace Go.Mw
theorem spec_l01In_ok : ∀ ds outs, F_l01In ds = some outs → shL spec_l01In_L (qRet outs) ds := F_within_elim fun a b c => by
  rw [spec_l01In_L_sh]; simp [within]; grind
theorem impl_within_ok : ∀ ds outs, F_within ds = some outs → shL impl_within_L (qRet outs) ds := F_within_elim fun a b c => by
  rw [impl_within_L_sh]; simp [within]; grind
end Go.Mw

/- The structs of the program, flat. -/
namespace Go.Mw
/-- A cylinder: steps, tracks, pins (track, angle). -/
structure Cyl where
  s : Int
  t : Int
  p : List T2
/-- A state: angle, on, played. -/
structure Stt where
  a : Int
  n : Bool
  p : Int
  deriving DecidableEq
/-- A bench: its cylinder, and the former pins. -/
structure Bench where
  s : Int
  t : Int
  p : List T2
  o : List (List T2)
/-- A workshop: its bench; comb; spring (turns, most, force); money; played. -/
structure Shop where
  s : Int
  t : Int
  p : List T2
  o : List (List T2)
  c : List Int
  u : Int
  m : Int
  f : Int
  y : Int
  d : Int
  deriving DecidableEq
@[simp] theorem Cyl.eta (x : Cyl) : Cyl.mk x.s x.t x.p = x := rfl
@[simp] theorem Stt.eta (x : Stt) : Stt.mk x.a x.n x.p = x := rfl
@[simp] theorem P1_eqa22 {a b c d : Int} {k : V → Prop} : P1 (.eqa false [.i, .i]) [.int .i64 a, .int .i64 b, .int .i64 c, .int .i64 d] k ↔ k (.bool (decide (a = c ∧ b = d))) := P1_of (by simp only [Prim.run, eqVs, eqV1, List.length_cons, List.length_nil, List.take, List.drop, if_true]; cases h1 : a == c <;> cases h2 : b == d <;> simp_all) k
@[simp] theorem P1_nea22 {a b c d : Int} {k : V → Prop} : P1 (.eqa true [.i, .i]) [.int .i64 a, .int .i64 b, .int .i64 c, .int .i64 d] k ↔ k (.bool (!decide (a = c ∧ b = d))) := P1_of (by simp only [Prim.run, eqVs, eqV1, List.length_cons, List.length_nil, List.take, List.drop, if_true]; cases h1 : a == c <;> cases h2 : b == d <;> simp_all) k
@[simp] theorem P1_eqaX {a c e g : Int} {b f : Bool} {k : V → Prop} : P1 (.eqa false [.i, .b, .i]) [.int .i64 a, .bool b, .int .i64 c, .int .i64 e, .bool f, .int .i64 g] k ↔ k (.bool (decide (a = e ∧ b = f ∧ c = g))) := P1_of (by simp only [Prim.run, eqVs, eqV1, List.length_cons, List.length_nil, List.take, List.drop, if_true]; cases h1 : a == e <;> cases h2 : b == f <;> cases h3 : c == g <;> simp_all) k
theorem P1_lsub2 {α : Type} {ks : List AK} {f : α → V} {l : List α} {κ κ' : IntKind} {i j : Int} {k : V → Prop} : P1 (.lsub ks) [vL ks f l, .int κ i, .int κ' j] k ↔ (0 ≤ i ∧ i ≤ j ∧ j ≤ l.length) ∧ k (vL ks f ((l.take j.toNat).drop i.toNat)) :=
  P1_opt (by simp only [Prim.run, vL, AK.eqs_refl, if_true, subB, List.length_map]; split <;> simp_all [List.map_drop, List.map_take]) k
theorem P1_lsub1 {α : Type} {ks : List AK} {f : α → V} {l : List α} {κ : IntKind} {i : Int} {k : V → Prop} : P1 (.lsub ks) [vL ks f l, .int κ i] k ↔ (0 ≤ i ∧ i ≤ l.length) ∧ k (vL ks f (l.drop i.toNat)) :=
  P1_opt (by simp only [Prim.run, vL, AK.eqs_refl, if_true, subB, List.length_map]; split <;> simp_all [List.map_drop, List.take_of_length_le]) k
@[simp] theorem P1_lsubI_2 {l : List Int} {κ κ' : IntKind} {i j : Int} {k : V → Prop} : P1 (.lsub [.sc]) [vL I1 v1 l, .int κ i, .int κ' j] k ↔ (0 ≤ i ∧ i ≤ j ∧ j ≤ l.length) ∧ k (vL I1 v1 ((l.take j.toNat).drop i.toNat)) := P1_lsub2
@[simp] theorem P1_lsubI_1 {l : List Int} {κ : IntKind} {i : Int} {k : V → Prop} : P1 (.lsub [.sc]) [vL I1 v1 l, .int κ i] k ↔ (0 ≤ i ∧ i ≤ l.length) ∧ k (vL I1 v1 (l.drop i.toNat)) := P1_lsub1
@[simp] theorem P1_appI_ {l m : List Int} {b : Nat} {k : V → Prop} : P1 (.app [.sc] b) [vL I1 v1 l, vL I1 v1 m] k ↔ ((l.length + m.length) * b ≤ 140737488355328 ∧ l.length + m.length ≤ 140737488355328) ∧ k (vL I1 v1 (l ++ m)) := P1_app
@[simp] theorem P1_appI_0 {m : List Int} {b : Nat} {k : V → Prop} : P1 (.app [.sc] b) [.list [.sc] [], vL I1 v1 m] k ↔ (m.length * b ≤ 140737488355328 ∧ m.length ≤ 140737488355328) ∧ k (vL I1 v1 m) := P1_app0
@[simp] theorem P1_appI_1 {l : List Int} {b : Nat} {k : V → Prop} : P1 (.app [.sc] b) [vL I1 v1 l, .list [.sc] []] k ↔ (l.length * b ≤ 140737488355328 ∧ l.length ≤ 140737488355328) ∧ k (vL I1 v1 l) := P1_app1
@[simp] theorem P1_lsubY_2 {l : List UInt8} {κ κ' : IntKind} {i j : Int} {k : V → Prop} : P1 (.lsub [.sc]) [vL I1 vY l, .int κ i, .int κ' j] k ↔ (0 ≤ i ∧ i ≤ j ∧ j ≤ l.length) ∧ k (vL I1 vY ((l.take j.toNat).drop i.toNat)) := P1_lsub2
@[simp] theorem P1_lsubY_1 {l : List UInt8} {κ : IntKind} {i : Int} {k : V → Prop} : P1 (.lsub [.sc]) [vL I1 vY l, .int κ i] k ↔ (0 ≤ i ∧ i ≤ l.length) ∧ k (vL I1 vY (l.drop i.toNat)) := P1_lsub1
@[simp] theorem P1_appY_ {l m : List UInt8} {b : Nat} {k : V → Prop} : P1 (.app [.sc] b) [vL I1 vY l, vL I1 vY m] k ↔ ((l.length + m.length) * b ≤ 140737488355328 ∧ l.length + m.length ≤ 140737488355328) ∧ k (vL I1 vY (l ++ m)) := P1_app
@[simp] theorem P1_appY_0 {m : List UInt8} {b : Nat} {k : V → Prop} : P1 (.app [.sc] b) [.list [.sc] [], vL I1 vY m] k ↔ (m.length * b ≤ 140737488355328 ∧ m.length ≤ 140737488355328) ∧ k (vL I1 vY m) := P1_app0
@[simp] theorem P1_appY_1 {l : List UInt8} {b : Nat} {k : V → Prop} : P1 (.app [.sc] b) [vL I1 vY l, .list [.sc] []] k ↔ (l.length * b ≤ 140737488355328 ∧ l.length ≤ 140737488355328) ∧ k (vL I1 vY l) := P1_app1
@[simp] theorem P1_lsubS_2 {l : List (List UInt8)} {κ κ' : IntKind} {i j : Int} {k : V → Prop} : P1 (.lsub [.sc]) [vL I1 vS l, .int κ i, .int κ' j] k ↔ (0 ≤ i ∧ i ≤ j ∧ j ≤ l.length) ∧ k (vL I1 vS ((l.take j.toNat).drop i.toNat)) := P1_lsub2
@[simp] theorem P1_lsubS_1 {l : List (List UInt8)} {κ : IntKind} {i : Int} {k : V → Prop} : P1 (.lsub [.sc]) [vL I1 vS l, .int κ i] k ↔ (0 ≤ i ∧ i ≤ l.length) ∧ k (vL I1 vS (l.drop i.toNat)) := P1_lsub1
@[simp] theorem P1_appS_ {l m : List (List UInt8)} {b : Nat} {k : V → Prop} : P1 (.app [.sc] b) [vL I1 vS l, vL I1 vS m] k ↔ ((l.length + m.length) * b ≤ 140737488355328 ∧ l.length + m.length ≤ 140737488355328) ∧ k (vL I1 vS (l ++ m)) := P1_app
@[simp] theorem P1_appS_0 {m : List (List UInt8)} {b : Nat} {k : V → Prop} : P1 (.app [.sc] b) [.list [.sc] [], vL I1 vS m] k ↔ (m.length * b ≤ 140737488355328 ∧ m.length ≤ 140737488355328) ∧ k (vL I1 vS m) := P1_app0
@[simp] theorem P1_appS_1 {l : List (List UInt8)} {b : Nat} {k : V → Prop} : P1 (.app [.sc] b) [vL I1 vS l, .list [.sc] []] k ↔ (l.length * b ≤ 140737488355328 ∧ l.length ≤ 140737488355328) ∧ k (vL I1 vS l) := P1_app1
@[simp] theorem P1_lsub2_2 {l : List T2} {κ κ' : IntKind} {i j : Int} {k : V → Prop} : P1 (.lsub [.sc, .sc]) [vL I2 v2 l, .int κ i, .int κ' j] k ↔ (0 ≤ i ∧ i ≤ j ∧ j ≤ l.length) ∧ k (vL I2 v2 ((l.take j.toNat).drop i.toNat)) := P1_lsub2
@[simp] theorem P1_lsub2_1 {l : List T2} {κ : IntKind} {i : Int} {k : V → Prop} : P1 (.lsub [.sc, .sc]) [vL I2 v2 l, .int κ i] k ↔ (0 ≤ i ∧ i ≤ l.length) ∧ k (vL I2 v2 (l.drop i.toNat)) := P1_lsub1
@[simp] theorem P1_app2_ {l m : List T2} {b : Nat} {k : V → Prop} : P1 (.app [.sc, .sc] b) [vL I2 v2 l, vL I2 v2 m] k ↔ ((l.length + m.length) * b ≤ 140737488355328 ∧ l.length + m.length ≤ 140737488355328) ∧ k (vL I2 v2 (l ++ m)) := P1_app
@[simp] theorem P1_app2_0 {m : List T2} {b : Nat} {k : V → Prop} : P1 (.app [.sc, .sc] b) [.list [.sc, .sc] [], vL I2 v2 m] k ↔ (m.length * b ≤ 140737488355328 ∧ m.length ≤ 140737488355328) ∧ k (vL I2 v2 m) := P1_app0
@[simp] theorem P1_app2_1 {l : List T2} {b : Nat} {k : V → Prop} : P1 (.app [.sc, .sc] b) [vL I2 v2 l, .list [.sc, .sc] []] k ↔ (l.length * b ≤ 140737488355328 ∧ l.length ≤ 140737488355328) ∧ k (vL I2 v2 l) := P1_app1
@[simp] theorem P1_lsub3_2 {l : List T3} {κ κ' : IntKind} {i j : Int} {k : V → Prop} : P1 (.lsub [.sc, .sc, .sc]) [vL I3 v3 l, .int κ i, .int κ' j] k ↔ (0 ≤ i ∧ i ≤ j ∧ j ≤ l.length) ∧ k (vL I3 v3 ((l.take j.toNat).drop i.toNat)) := P1_lsub2
@[simp] theorem P1_lsub3_1 {l : List T3} {κ : IntKind} {i : Int} {k : V → Prop} : P1 (.lsub [.sc, .sc, .sc]) [vL I3 v3 l, .int κ i] k ↔ (0 ≤ i ∧ i ≤ l.length) ∧ k (vL I3 v3 (l.drop i.toNat)) := P1_lsub1
@[simp] theorem P1_app3_ {l m : List T3} {b : Nat} {k : V → Prop} : P1 (.app [.sc, .sc, .sc] b) [vL I3 v3 l, vL I3 v3 m] k ↔ ((l.length + m.length) * b ≤ 140737488355328 ∧ l.length + m.length ≤ 140737488355328) ∧ k (vL I3 v3 (l ++ m)) := P1_app
@[simp] theorem P1_app3_0 {m : List T3} {b : Nat} {k : V → Prop} : P1 (.app [.sc, .sc, .sc] b) [.list [.sc, .sc, .sc] [], vL I3 v3 m] k ↔ (m.length * b ≤ 140737488355328 ∧ m.length ≤ 140737488355328) ∧ k (vL I3 v3 m) := P1_app0
@[simp] theorem P1_app3_1 {l : List T3} {b : Nat} {k : V → Prop} : P1 (.app [.sc, .sc, .sc] b) [vL I3 v3 l, .list [.sc, .sc, .sc] []] k ↔ (l.length * b ≤ 140737488355328 ∧ l.length ≤ 140737488355328) ∧ k (vL I3 v3 l) := P1_app1
@[simp] theorem P1_lsubL2_2 {l : List (List T2)} {κ κ' : IntKind} {i j : Int} {k : V → Prop} : P1 (.lsub [.sl [.sc, .sc]]) [vL IL2 vLL2 l, .int κ i, .int κ' j] k ↔ (0 ≤ i ∧ i ≤ j ∧ j ≤ l.length) ∧ k (vL IL2 vLL2 ((l.take j.toNat).drop i.toNat)) := P1_lsub2
@[simp] theorem P1_lsubL2_1 {l : List (List T2)} {κ : IntKind} {i : Int} {k : V → Prop} : P1 (.lsub [.sl [.sc, .sc]]) [vL IL2 vLL2 l, .int κ i] k ↔ (0 ≤ i ∧ i ≤ l.length) ∧ k (vL IL2 vLL2 (l.drop i.toNat)) := P1_lsub1
@[simp] theorem P1_appL2_ {l m : List (List T2)} {b : Nat} {k : V → Prop} : P1 (.app [.sl [.sc, .sc]] b) [vL IL2 vLL2 l, vL IL2 vLL2 m] k ↔ ((l.length + m.length) * b ≤ 140737488355328 ∧ l.length + m.length ≤ 140737488355328) ∧ k (vL IL2 vLL2 (l ++ m)) := P1_app
@[simp] theorem P1_appL2_0 {m : List (List T2)} {b : Nat} {k : V → Prop} : P1 (.app [.sl [.sc, .sc]] b) [.list [.sl [.sc, .sc]] [], vL IL2 vLL2 m] k ↔ (m.length * b ≤ 140737488355328 ∧ m.length ≤ 140737488355328) ∧ k (vL IL2 vLL2 m) := P1_app0
@[simp] theorem P1_appL2_1 {l : List (List T2)} {b : Nat} {k : V → Prop} : P1 (.app [.sl [.sc, .sc]] b) [vL IL2 vLL2 l, .list [.sl [.sc, .sc]] []] k ↔ (l.length * b ≤ 140737488355328 ∧ l.length ≤ 140737488355328) ∧ k (vL IL2 vLL2 l) := P1_app1
end Go.Mw

/- What functions compute, in plain terms: pieces, pins, cylinders, states, digits, boxes. -/
namespace Go.Mw
/-! memory -/
/-! pieces -/
/-! pins -/
def pinLess (p q : T2) : Bool := decide (p.b < q.b ∨ p.b = q.b ∧ p.a < q.a)
def E_l06Less : T2 × T2 → List V := fun (x, y) => [.int .i64 x.a, .int .i64 x.b, .int .i64 y.a, .int .i64 y.b]
noncomputable def F_l06Less : List V → Option (List V) := mkF E_l06Less (fun (_, _) => True) (fun (x, y) => [.bool (pinLess x y)])
theorem F_l06Less_inj : ∀ x y, E_l06Less x = E_l06Less y → x = y := by
  rintro ⟨⟨xa, xb⟩, ⟨ya, yb⟩⟩ ⟨⟨xa', xb'⟩, ⟨ya', yb'⟩⟩ h
  simpa [E_l06Less, and_assoc] using h
theorem F_l06Less_elim {P : List V → List V → Prop} (h : ∀ (x : T2) (y : T2), P [.int .i64 x.a, .int .i64 x.b, .int .i64 y.a, .int .i64 y.b] [.bool (pinLess x y)]) : ∀ ds outs, F_l06Less ds = some outs → P ds outs := by
  intro ds outs hh
  obtain ⟨⟨x, y⟩, rfl, -, rfl⟩ := mkF_inv hh
  exact h x y
@[simp] theorem p_l06Less {x_a : Int} {x_b : Int} {y_a : Int} {y_b : Int} {nr_ : Nat} {kk_ : V → Prop} : P1 (.call F_l06Less 0 nr_) [.int .i64 x_a, .int .i64 x_b, .int .i64 y_a, .int .i64 y_b] kk_ ↔ kk_ (.bool (pinLess (⟨x_a, x_b⟩ : T2) (⟨y_a, y_b⟩ : T2))) :=
  P1_callF (by unfold F_l06Less; exact mkF_eq F_l06Less_inj ((⟨x_a, x_b⟩ : T2), (⟨y_a, y_b⟩ : T2)) trivial)

def E_comparePins : T2 × T2 → List V := fun (x, y) => [.int .i64 x.a, .int .i64 x.b, .int .i64 y.a, .int .i64 y.b]
noncomputable def F_comparePins : List V → Option (List V) := mkF E_comparePins (fun (_, _) => True) (fun (x, y) => [.int .i64 (if pinLess x y then -1 else if x = y then 0 else 1)])
theorem F_comparePins_inj : ∀ x y, E_comparePins x = E_comparePins y → x = y := by
  rintro ⟨⟨xa, xb⟩, ⟨ya, yb⟩⟩ ⟨⟨xa', xb'⟩, ⟨ya', yb'⟩⟩ h
  simpa [E_comparePins, and_assoc] using h
theorem F_comparePins_elim {P : List V → List V → Prop} (h : ∀ (x : T2) (y : T2), P [.int .i64 x.a, .int .i64 x.b, .int .i64 y.a, .int .i64 y.b] [.int .i64 (if pinLess x y then -1 else if x = y then 0 else 1)]) : ∀ ds outs, F_comparePins ds = some outs → P ds outs := by
  intro ds outs hh
  obtain ⟨⟨x, y⟩, rfl, -, rfl⟩ := mkF_inv hh
  exact h x y
@[simp] theorem p_comparePins {x_a : Int} {x_b : Int} {y_a : Int} {y_b : Int} {nr_ : Nat} {kk_ : V → Prop} : P1 (.call F_comparePins 0 nr_) [.int .i64 x_a, .int .i64 x_b, .int .i64 y_a, .int .i64 y_b] kk_ ↔ kk_ (.int .i64 (if pinLess (⟨x_a, x_b⟩ : T2) (⟨y_a, y_b⟩ : T2) then -1 else if (⟨x_a, x_b⟩ : T2) = (⟨y_a, y_b⟩ : T2) then 0 else 1)) :=
  P1_callF (by unfold F_comparePins; exact mkF_eq F_comparePins_inj ((⟨x_a, x_b⟩ : T2), (⟨y_a, y_b⟩ : T2)) trivial)

def rising : List T2 → Bool
  | [] => true
  | [_] => true
  | a :: b :: r => pinLess a b && rising (b :: r)
def pinIn (s t : Int) (p : T2) : Bool := within p.a 0 (t - 1) && within p.b 0 (s - 1)
def cylOk (c : Cyl) : Bool := within c.s 4 96 && within c.t 1 100 && decide (c.p.length ≤ 100) && (c.p.all (pinIn c.s c.t) && rising c.p)
def E_CylinderOk (x : Cyl) : List V := [.int .i64 x.s, .int .i64 x.t, vL I2 v2 x.p]
noncomputable def F_CylinderOk : List V → Option (List V) := mkF E_CylinderOk (fun x => x.p.length ≤ 1048576) (fun x => [.bool (cylOk x)])
theorem F_CylinderOk_inj : ∀ x y, E_CylinderOk x = E_CylinderOk y → x = y := by
  rintro ⟨xs, xt, xp⟩ ⟨xs', xt', xp'⟩ h
  simpa [E_CylinderOk] using h
theorem F_CylinderOk_elim {P : List V → List V → Prop} (h : ∀ (x : Cyl), (x.p.length ≤ 1048576) → P [.int .i64 x.s, .int .i64 x.t, vL I2 v2 x.p] [.bool (cylOk x)]) : ∀ ds outs, F_CylinderOk ds = some outs → P ds outs := by
  intro ds outs hh
  obtain ⟨x, rfl, hp, rfl⟩ := mkF_inv hh
  exact h x hp
theorem p_CylinderOk {x_s : Int} {x_t : Int} {x_p : List T2} {nr_ : Nat} {kk_ : V → Prop} (hp : (⟨x_s, x_t, x_p⟩ : Cyl).p.length ≤ 1048576) : P1 (.call F_CylinderOk 0 nr_) [.int .i64 x_s, .int .i64 x_t, vL I2 v2 x_p] kk_ ↔ kk_ (.bool (cylOk (⟨x_s, x_t, x_p⟩ : Cyl))) :=
  P1_callF (by unfold F_CylinderOk; exact mkF_eq F_CylinderOk_inj ((⟨x_s, x_t, x_p⟩ : Cyl)) hp)

def sttOk (c : Cyl) (x : Stt) : Bool := cylOk c && (within x.a 0 (c.s - 1) && within x.p 0 100000)
def E_StateOk : Cyl × Stt → List V := fun (x, y) => [.int .i64 x.s, .int .i64 x.t, vL I2 v2 x.p, .int .i64 y.a, .bool y.n, .int .i64 y.p]
noncomputable def F_StateOk : List V → Option (List V) := mkF E_StateOk (fun (x, _) => x.p.length ≤ 1048576) (fun (x, y) => [.bool (sttOk x y)])
theorem F_StateOk_inj : ∀ x y, E_StateOk x = E_StateOk y → x = y := by
  rintro ⟨⟨xs, xt, xp⟩, ⟨ya, yn, yp⟩⟩ ⟨⟨xs', xt', xp'⟩, ⟨ya', yn', yp'⟩⟩ h
  simpa [E_StateOk, and_assoc] using h
theorem F_StateOk_elim {P : List V → List V → Prop} (h : ∀ (x : Cyl) (y : Stt), (x.p.length ≤ 1048576) → P [.int .i64 x.s, .int .i64 x.t, vL I2 v2 x.p, .int .i64 y.a, .bool y.n, .int .i64 y.p] [.bool (sttOk x y)]) : ∀ ds outs, F_StateOk ds = some outs → P ds outs := by
  intro ds outs hh
  obtain ⟨⟨x, y⟩, rfl, hp, rfl⟩ := mkF_inv hh
  exact h x y hp
theorem p_StateOk {x_s : Int} {x_t : Int} {x_p : List T2} {y_a : Int} {y_n : Bool} {y_p : Int} {nr_ : Nat} {kk_ : V → Prop} (hp : (⟨x_s, x_t, x_p⟩ : Cyl).p.length ≤ 1048576) : P1 (.call F_StateOk 0 nr_) [.int .i64 x_s, .int .i64 x_t, vL I2 v2 x_p, .int .i64 y_a, .bool y_n, .int .i64 y_p] kk_ ↔ kk_ (.bool (sttOk (⟨x_s, x_t, x_p⟩ : Cyl) (⟨y_a, y_n, y_p⟩ : Stt))) :=
  P1_callF (by unfold F_StateOk; exact mkF_eq F_StateOk_inj ((⟨x_s, x_t, x_p⟩ : Cyl), (⟨y_a, y_n, y_p⟩ : Stt)) hp)

def E_around : Int × Int → List V := fun (n, s) => [.int .i64 n, .int .i64 s]
noncomputable def F_around : List V → Option (List V) := mkF E_around (fun (n, s) => -1000000 ≤ n ∧ n ≤ 1000000 ∧ 1 ≤ s ∧ s ≤ 1000000) (fun (n, s) => [.int .i64 (n % s)])
theorem F_around_inj : ∀ x y, E_around x = E_around y → x = y := by
  rintro ⟨n, s⟩ ⟨n', s'⟩ h
  simpa [E_around] using h
theorem F_around_elim {P : List V → List V → Prop} (h : ∀ (n : Int) (s : Int), (-1000000 ≤ n ∧ n ≤ 1000000 ∧ 1 ≤ s ∧ s ≤ 1000000) → P [.int .i64 n, .int .i64 s] [.int .i64 (n % s)]) : ∀ ds outs, F_around ds = some outs → P ds outs := by
  intro ds outs hh
  obtain ⟨⟨n, s⟩, rfl, hp, rfl⟩ := mkF_inv hh
  exact h n s hp
theorem p_around {n : Int} {s : Int} {nr_ : Nat} {kk_ : V → Prop} (hp : -1000000 ≤ n ∧ n ≤ 1000000 ∧ 1 ≤ s ∧ s ≤ 1000000) : P1 (.call F_around 0 nr_) [.int .i64 n, .int .i64 s] kk_ ↔ kk_ (.int .i64 (n % s)) :=
  P1_callF (by unfold F_around; exact mkF_eq F_around_inj (n, s) hp)

def E_l06Mod : Int × Int → List V := fun (n, s) => [.int .i64 n, .int .i64 s]
noncomputable def F_l06Mod : List V → Option (List V) := mkF E_l06Mod (fun (n, s) => -1000000 ≤ n ∧ n ≤ 1000000 ∧ 1 ≤ s ∧ s ≤ 1000000) (fun (n, s) => [.int .i64 (n % s)])
theorem F_l06Mod_inj : ∀ x y, E_l06Mod x = E_l06Mod y → x = y := by
  rintro ⟨n, s⟩ ⟨n', s'⟩ h
  simpa [E_l06Mod] using h
theorem F_l06Mod_elim {P : List V → List V → Prop} (h : ∀ (n : Int) (s : Int), (-1000000 ≤ n ∧ n ≤ 1000000 ∧ 1 ≤ s ∧ s ≤ 1000000) → P [.int .i64 n, .int .i64 s] [.int .i64 (n % s)]) : ∀ ds outs, F_l06Mod ds = some outs → P ds outs := by
  intro ds outs hh
  obtain ⟨⟨n, s⟩, rfl, hp, rfl⟩ := mkF_inv hh
  exact h n s hp
theorem p_l06Mod {n : Int} {s : Int} {nr_ : Nat} {kk_ : V → Prop} (hp : -1000000 ≤ n ∧ n ≤ 1000000 ∧ 1 ≤ s ∧ s ≤ 1000000) : P1 (.call F_l06Mod 0 nr_) [.int .i64 n, .int .i64 s] kk_ ↔ kk_ (.int .i64 (n % s)) :=
  P1_callF (by unfold F_l06Mod; exact mkF_eq F_l06Mod_inj (n, s) hp)

def pinsAt (c : Cyl) (a : Int) : List Int := if cylOk c && within a (-1000000) 1000000 then (c.p.filter fun p => p.b == a % c.s).map (·.a) else []
def E_PinsAt : Cyl × Int → List V := fun (x, n) => [.int .i64 x.s, .int .i64 x.t, vL I2 v2 x.p, .int .i64 n]
noncomputable def F_PinsAt : List V → Option (List V) := mkF E_PinsAt (fun (x, _) => x.p.length ≤ 1048576) (fun (x, n) => [vL I1 v1 (pinsAt x n)])
theorem F_PinsAt_inj : ∀ x y, E_PinsAt x = E_PinsAt y → x = y := by
  rintro ⟨⟨xs, xt, xp⟩, n⟩ ⟨⟨xs', xt', xp'⟩, n'⟩ h
  simpa [E_PinsAt, and_assoc] using h
theorem F_PinsAt_elim {P : List V → List V → Prop} (h : ∀ (x : Cyl) (n : Int), (x.p.length ≤ 1048576) → P [.int .i64 x.s, .int .i64 x.t, vL I2 v2 x.p, .int .i64 n] [vL I1 v1 (pinsAt x n)]) : ∀ ds outs, F_PinsAt ds = some outs → P ds outs := by
  intro ds outs hh
  obtain ⟨⟨x, n⟩, rfl, hp, rfl⟩ := mkF_inv hh
  exact h x n hp
theorem p_PinsAt {x_s : Int} {x_t : Int} {x_p : List T2} {n : Int} {nr_ : Nat} {kk_ : V → Prop} (hp : (⟨x_s, x_t, x_p⟩ : Cyl).p.length ≤ 1048576) : P1 (.call F_PinsAt 0 nr_) [.int .i64 x_s, .int .i64 x_t, vL I2 v2 x_p, .int .i64 n] kk_ ↔ kk_ (vL I1 v1 (pinsAt (⟨x_s, x_t, x_p⟩ : Cyl) n)) :=
  P1_callF (by unfold F_PinsAt; exact mkF_eq F_PinsAt_inj ((⟨x_s, x_t, x_p⟩ : Cyl), n) hp)


/-! states -/
def startBox (c : Cyl) (x : Stt) : Stt × Bool := if sttOk c x && !x.n then (⟨x.a, true, x.p⟩, true) else (x, false)
def E_StartBox : Cyl × Stt → List V := fun (x, y) => [.int .i64 x.s, .int .i64 x.t, vL I2 v2 x.p, .int .i64 y.a, .bool y.n, .int .i64 y.p]
noncomputable def F_StartBox : List V → Option (List V) := mkF E_StartBox (fun (x, _) => x.p.length ≤ 1048576) (fun (x, y) => [.int .i64 ((startBox x y).1).a, .bool ((startBox x y).1).n, .int .i64 ((startBox x y).1).p, .bool ((startBox x y).2)])
theorem F_StartBox_inj : ∀ x y, E_StartBox x = E_StartBox y → x = y := by
  rintro ⟨⟨xs, xt, xp⟩, ⟨ya, yn, yp⟩⟩ ⟨⟨xs', xt', xp'⟩, ⟨ya', yn', yp'⟩⟩ h
  simpa [E_StartBox, and_assoc] using h
theorem F_StartBox_elim {P : List V → List V → Prop} (h : ∀ (x : Cyl) (y : Stt), (x.p.length ≤ 1048576) → P [.int .i64 x.s, .int .i64 x.t, vL I2 v2 x.p, .int .i64 y.a, .bool y.n, .int .i64 y.p] [.int .i64 ((startBox x y).1).a, .bool ((startBox x y).1).n, .int .i64 ((startBox x y).1).p, .bool ((startBox x y).2)]) : ∀ ds outs, F_StartBox ds = some outs → P ds outs := by
  intro ds outs hh
  obtain ⟨⟨x, y⟩, rfl, hp, rfl⟩ := mkF_inv hh
  exact h x y hp
theorem p_StartBox {x_s : Int} {x_t : Int} {x_p : List T2} {y_a : Int} {y_n : Bool} {y_p : Int} {nr_ : Nat} {kk_ : V → V → V → V → Prop} (hp : (⟨x_s, x_t, x_p⟩ : Cyl).p.length ≤ 1048576) : P4 (.call F_StartBox 0 nr_) [.int .i64 x_s, .int .i64 x_t, vL I2 v2 x_p, .int .i64 y_a, .bool y_n, .int .i64 y_p] kk_ ↔ kk_ (.int .i64 ((startBox (⟨x_s, x_t, x_p⟩ : Cyl) (⟨y_a, y_n, y_p⟩ : Stt)).1).a) (.bool ((startBox (⟨x_s, x_t, x_p⟩ : Cyl) (⟨y_a, y_n, y_p⟩ : Stt)).1).n) (.int .i64 ((startBox (⟨x_s, x_t, x_p⟩ : Cyl) (⟨y_a, y_n, y_p⟩ : Stt)).1).p) (.bool ((startBox (⟨x_s, x_t, x_p⟩ : Cyl) (⟨y_a, y_n, y_p⟩ : Stt)).2)) :=
  P4_callF (by unfold F_StartBox; exact mkF_eq F_StartBox_inj ((⟨x_s, x_t, x_p⟩ : Cyl), (⟨y_a, y_n, y_p⟩ : Stt)) hp)

def stopBox (c : Cyl) (x : Stt) : Stt × Bool := if sttOk c x && x.n then (⟨x.a, false, x.p⟩, true) else (x, false)
def E_StopBox : Cyl × Stt → List V := fun (x, y) => [.int .i64 x.s, .int .i64 x.t, vL I2 v2 x.p, .int .i64 y.a, .bool y.n, .int .i64 y.p]
noncomputable def F_StopBox : List V → Option (List V) := mkF E_StopBox (fun (x, _) => x.p.length ≤ 1048576) (fun (x, y) => [.int .i64 ((stopBox x y).1).a, .bool ((stopBox x y).1).n, .int .i64 ((stopBox x y).1).p, .bool ((stopBox x y).2)])
theorem F_StopBox_inj : ∀ x y, E_StopBox x = E_StopBox y → x = y := by
  rintro ⟨⟨xs, xt, xp⟩, ⟨ya, yn, yp⟩⟩ ⟨⟨xs', xt', xp'⟩, ⟨ya', yn', yp'⟩⟩ h
  simpa [E_StopBox, and_assoc] using h
theorem F_StopBox_elim {P : List V → List V → Prop} (h : ∀ (x : Cyl) (y : Stt), (x.p.length ≤ 1048576) → P [.int .i64 x.s, .int .i64 x.t, vL I2 v2 x.p, .int .i64 y.a, .bool y.n, .int .i64 y.p] [.int .i64 ((stopBox x y).1).a, .bool ((stopBox x y).1).n, .int .i64 ((stopBox x y).1).p, .bool ((stopBox x y).2)]) : ∀ ds outs, F_StopBox ds = some outs → P ds outs := by
  intro ds outs hh
  obtain ⟨⟨x, y⟩, rfl, hp, rfl⟩ := mkF_inv hh
  exact h x y hp
theorem p_StopBox {x_s : Int} {x_t : Int} {x_p : List T2} {y_a : Int} {y_n : Bool} {y_p : Int} {nr_ : Nat} {kk_ : V → V → V → V → Prop} (hp : (⟨x_s, x_t, x_p⟩ : Cyl).p.length ≤ 1048576) : P4 (.call F_StopBox 0 nr_) [.int .i64 x_s, .int .i64 x_t, vL I2 v2 x_p, .int .i64 y_a, .bool y_n, .int .i64 y_p] kk_ ↔ kk_ (.int .i64 ((stopBox (⟨x_s, x_t, x_p⟩ : Cyl) (⟨y_a, y_n, y_p⟩ : Stt)).1).a) (.bool ((stopBox (⟨x_s, x_t, x_p⟩ : Cyl) (⟨y_a, y_n, y_p⟩ : Stt)).1).n) (.int .i64 ((stopBox (⟨x_s, x_t, x_p⟩ : Cyl) (⟨y_a, y_n, y_p⟩ : Stt)).1).p) (.bool ((stopBox (⟨x_s, x_t, x_p⟩ : Cyl) (⟨y_a, y_n, y_p⟩ : Stt)).2)) :=
  P4_callF (by unfold F_StopBox; exact mkF_eq F_StopBox_inj ((⟨x_s, x_t, x_p⟩ : Cyl), (⟨y_a, y_n, y_p⟩ : Stt)) hp)

def stepsLeft (c : Cyl) (x : Stt) : Int := if sttOk c x then (if x.n then c.s - x.a else 0) else -1
def E_StepsLeft : Cyl × Stt → List V := fun (x, y) => [.int .i64 x.s, .int .i64 x.t, vL I2 v2 x.p, .int .i64 y.a, .bool y.n, .int .i64 y.p]
noncomputable def F_StepsLeft : List V → Option (List V) := mkF E_StepsLeft (fun (x, _) => x.p.length ≤ 1048576) (fun (x, y) => [.int .i64 (stepsLeft x y)])
theorem F_StepsLeft_inj : ∀ x y, E_StepsLeft x = E_StepsLeft y → x = y := by
  rintro ⟨⟨xs, xt, xp⟩, ⟨ya, yn, yp⟩⟩ ⟨⟨xs', xt', xp'⟩, ⟨ya', yn', yp'⟩⟩ h
  simpa [E_StepsLeft, and_assoc] using h
theorem F_StepsLeft_elim {P : List V → List V → Prop} (h : ∀ (x : Cyl) (y : Stt), (x.p.length ≤ 1048576) → P [.int .i64 x.s, .int .i64 x.t, vL I2 v2 x.p, .int .i64 y.a, .bool y.n, .int .i64 y.p] [.int .i64 (stepsLeft x y)]) : ∀ ds outs, F_StepsLeft ds = some outs → P ds outs := by
  intro ds outs hh
  obtain ⟨⟨x, y⟩, rfl, hp, rfl⟩ := mkF_inv hh
  exact h x y hp
theorem p_StepsLeft {x_s : Int} {x_t : Int} {x_p : List T2} {y_a : Int} {y_n : Bool} {y_p : Int} {nr_ : Nat} {kk_ : V → Prop} (hp : (⟨x_s, x_t, x_p⟩ : Cyl).p.length ≤ 1048576) : P1 (.call F_StepsLeft 0 nr_) [.int .i64 x_s, .int .i64 x_t, vL I2 v2 x_p, .int .i64 y_a, .bool y_n, .int .i64 y_p] kk_ ↔ kk_ (.int .i64 (stepsLeft (⟨x_s, x_t, x_p⟩ : Cyl) (⟨y_a, y_n, y_p⟩ : Stt))) :=
  P1_callF (by unfold F_StepsLeft; exact mkF_eq F_StepsLeft_inj ((⟨x_s, x_t, x_p⟩ : Cyl), (⟨y_a, y_n, y_p⟩ : Stt)) hp)

def nextStt (c : Cyl) (x : Stt) : Stt := ⟨(x.a + 1) % c.s, decide ((x.a + 1) % c.s ≠ 0), x.p + (pinsAt c x.a).length⟩
def canStep (c : Cyl) (x : Stt) : Bool := sttOk c x && x.n && sttOk c (nextStt c x)
def E_stepBox : Cyl × Stt → List V := fun (x, y) => [.int .i64 x.s, .int .i64 x.t, vL I2 v2 x.p, .int .i64 y.a, .bool y.n, .int .i64 y.p]
noncomputable def F_stepBox : List V → Option (List V) := mkF E_stepBox (fun (x, _) => x.p.length ≤ 1048576) (fun (x, y) => [.int .i64 (if canStep x y then nextStt x y else y).a, .bool (if canStep x y then nextStt x y else y).n, .int .i64 (if canStep x y then nextStt x y else y).p, vL I1 v1 (if canStep x y then pinsAt x y.a else []), .bool (canStep x y)])
theorem F_stepBox_inj : ∀ x y, E_stepBox x = E_stepBox y → x = y := by
  rintro ⟨⟨xs, xt, xp⟩, ⟨ya, yn, yp⟩⟩ ⟨⟨xs', xt', xp'⟩, ⟨ya', yn', yp'⟩⟩ h
  simpa [E_stepBox, and_assoc] using h
theorem F_stepBox_elim {P : List V → List V → Prop} (h : ∀ (x : Cyl) (y : Stt), (x.p.length ≤ 1048576) → P [.int .i64 x.s, .int .i64 x.t, vL I2 v2 x.p, .int .i64 y.a, .bool y.n, .int .i64 y.p] [.int .i64 (if canStep x y then nextStt x y else y).a, .bool (if canStep x y then nextStt x y else y).n, .int .i64 (if canStep x y then nextStt x y else y).p, vL I1 v1 (if canStep x y then pinsAt x y.a else []), .bool (canStep x y)]) : ∀ ds outs, F_stepBox ds = some outs → P ds outs := by
  intro ds outs hh
  obtain ⟨⟨x, y⟩, rfl, hp, rfl⟩ := mkF_inv hh
  exact h x y hp
theorem p_stepBox {x_s : Int} {x_t : Int} {x_p : List T2} {y_a : Int} {y_n : Bool} {y_p : Int} {nr_ : Nat} {kk_ : V → V → V → V → V → Prop} (hp : (⟨x_s, x_t, x_p⟩ : Cyl).p.length ≤ 1048576) : P5 (.call F_stepBox 0 nr_) [.int .i64 x_s, .int .i64 x_t, vL I2 v2 x_p, .int .i64 y_a, .bool y_n, .int .i64 y_p] kk_ ↔ kk_ (.int .i64 (if canStep (⟨x_s, x_t, x_p⟩ : Cyl) (⟨y_a, y_n, y_p⟩ : Stt) then nextStt (⟨x_s, x_t, x_p⟩ : Cyl) (⟨y_a, y_n, y_p⟩ : Stt) else (⟨y_a, y_n, y_p⟩ : Stt)).a) (.bool (if canStep (⟨x_s, x_t, x_p⟩ : Cyl) (⟨y_a, y_n, y_p⟩ : Stt) then nextStt (⟨x_s, x_t, x_p⟩ : Cyl) (⟨y_a, y_n, y_p⟩ : Stt) else (⟨y_a, y_n, y_p⟩ : Stt)).n) (.int .i64 (if canStep (⟨x_s, x_t, x_p⟩ : Cyl) (⟨y_a, y_n, y_p⟩ : Stt) then nextStt (⟨x_s, x_t, x_p⟩ : Cyl) (⟨y_a, y_n, y_p⟩ : Stt) else (⟨y_a, y_n, y_p⟩ : Stt)).p) (vL I1 v1 (if canStep (⟨x_s, x_t, x_p⟩ : Cyl) (⟨y_a, y_n, y_p⟩ : Stt) then pinsAt (⟨x_s, x_t, x_p⟩ : Cyl) (⟨y_a, y_n, y_p⟩ : Stt).a else [])) (.bool (canStep (⟨x_s, x_t, x_p⟩ : Cyl) (⟨y_a, y_n, y_p⟩ : Stt))) :=
  P5_callF (by unfold F_stepBox; exact mkF_eq F_stepBox_inj ((⟨x_s, x_t, x_p⟩ : Cyl), (⟨y_a, y_n, y_p⟩ : Stt)) hp)

def E_StepBox : Cyl × Stt → List V := fun (x, y) => [.int .i64 x.s, .int .i64 x.t, vL I2 v2 x.p, .int .i64 y.a, .bool y.n, .int .i64 y.p]
noncomputable def F_StepBox : List V → Option (List V) := mkF E_StepBox (fun (x, _) => x.p.length ≤ 1048576) (fun (x, y) => [.int .i64 (if canStep x y then nextStt x y else y).a, .bool (if canStep x y then nextStt x y else y).n, .int .i64 (if canStep x y then nextStt x y else y).p, vL I1 v1 (if canStep x y then pinsAt x y.a else [])])
theorem F_StepBox_inj : ∀ x y, E_StepBox x = E_StepBox y → x = y := by
  rintro ⟨⟨xs, xt, xp⟩, ⟨ya, yn, yp⟩⟩ ⟨⟨xs', xt', xp'⟩, ⟨ya', yn', yp'⟩⟩ h
  simpa [E_StepBox, and_assoc] using h
theorem F_StepBox_elim {P : List V → List V → Prop} (h : ∀ (x : Cyl) (y : Stt), (x.p.length ≤ 1048576) → P [.int .i64 x.s, .int .i64 x.t, vL I2 v2 x.p, .int .i64 y.a, .bool y.n, .int .i64 y.p] [.int .i64 (if canStep x y then nextStt x y else y).a, .bool (if canStep x y then nextStt x y else y).n, .int .i64 (if canStep x y then nextStt x y else y).p, vL I1 v1 (if canStep x y then pinsAt x y.a else [])]) : ∀ ds outs, F_StepBox ds = some outs → P ds outs := by
  intro ds outs hh
  obtain ⟨⟨x, y⟩, rfl, hp, rfl⟩ := mkF_inv hh
  exact h x y hp
theorem p_StepBox {x_s : Int} {x_t : Int} {x_p : List T2} {y_a : Int} {y_n : Bool} {y_p : Int} {nr_ : Nat} {kk_ : V → V → V → V → Prop} (hp : (⟨x_s, x_t, x_p⟩ : Cyl).p.length ≤ 1048576) : P4 (.call F_StepBox 0 nr_) [.int .i64 x_s, .int .i64 x_t, vL I2 v2 x_p, .int .i64 y_a, .bool y_n, .int .i64 y_p] kk_ ↔ kk_ (.int .i64 (if canStep (⟨x_s, x_t, x_p⟩ : Cyl) (⟨y_a, y_n, y_p⟩ : Stt) then nextStt (⟨x_s, x_t, x_p⟩ : Cyl) (⟨y_a, y_n, y_p⟩ : Stt) else (⟨y_a, y_n, y_p⟩ : Stt)).a) (.bool (if canStep (⟨x_s, x_t, x_p⟩ : Cyl) (⟨y_a, y_n, y_p⟩ : Stt) then nextStt (⟨x_s, x_t, x_p⟩ : Cyl) (⟨y_a, y_n, y_p⟩ : Stt) else (⟨y_a, y_n, y_p⟩ : Stt)).n) (.int .i64 (if canStep (⟨x_s, x_t, x_p⟩ : Cyl) (⟨y_a, y_n, y_p⟩ : Stt) then nextStt (⟨x_s, x_t, x_p⟩ : Cyl) (⟨y_a, y_n, y_p⟩ : Stt) else (⟨y_a, y_n, y_p⟩ : Stt)).p) (vL I1 v1 (if canStep (⟨x_s, x_t, x_p⟩ : Cyl) (⟨y_a, y_n, y_p⟩ : Stt) then pinsAt (⟨x_s, x_t, x_p⟩ : Cyl) (⟨y_a, y_n, y_p⟩ : Stt).a else [])) :=
  P4_callF (by unfold F_StepBox; exact mkF_eq F_StepBox_inj ((⟨x_s, x_t, x_p⟩ : Cyl), (⟨y_a, y_n, y_p⟩ : Stt)) hp)

/-- The run: so many steps from x. -/
def itS (c : Cyl) (x : Stt) : Nat → Stt
  | 0 => x
  | k + 1 => nextStt c (itS c x k)
def itL (c : Cyl) (x : Stt) : Nat → List Int
  | 0 => []
  | k + 1 => itL c x k ++ pinsAt c (itS c x k).a
def runN (c : Cyl) (x : Stt) : Nat := (c.s - x.a).toNat
def runOk (c : Cyl) (x : Stt) : Bool := sttOk c x && (x.n && (List.range (runN c x)).all fun k => canStep c (itS c x k))
def runBox (c : Cyl) (x : Stt) : Stt × List Int := if runOk c x then (itS c x (runN c x), itL c x (runN c x)) else (x, [])
def E_RunBox : Cyl × Stt → List V := fun (x, y) => [.int .i64 x.s, .int .i64 x.t, vL I2 v2 x.p, .int .i64 y.a, .bool y.n, .int .i64 y.p]
noncomputable def F_RunBox : List V → Option (List V) := mkF E_RunBox (fun (x, _) => x.p.length ≤ 1048576) (fun (x, y) => [.int .i64 ((runBox x y).1).a, .bool ((runBox x y).1).n, .int .i64 ((runBox x y).1).p, vL I1 v1 ((runBox x y).2)])
theorem F_RunBox_inj : ∀ x y, E_RunBox x = E_RunBox y → x = y := by
  rintro ⟨⟨xs, xt, xp⟩, ⟨ya, yn, yp⟩⟩ ⟨⟨xs', xt', xp'⟩, ⟨ya', yn', yp'⟩⟩ h
  simpa [E_RunBox, and_assoc] using h
theorem F_RunBox_elim {P : List V → List V → Prop} (h : ∀ (x : Cyl) (y : Stt), (x.p.length ≤ 1048576) → P [.int .i64 x.s, .int .i64 x.t, vL I2 v2 x.p, .int .i64 y.a, .bool y.n, .int .i64 y.p] [.int .i64 ((runBox x y).1).a, .bool ((runBox x y).1).n, .int .i64 ((runBox x y).1).p, vL I1 v1 ((runBox x y).2)]) : ∀ ds outs, F_RunBox ds = some outs → P ds outs := by
  intro ds outs hh
  obtain ⟨⟨x, y⟩, rfl, hp, rfl⟩ := mkF_inv hh
  exact h x y hp
theorem p_RunBox {x_s : Int} {x_t : Int} {x_p : List T2} {y_a : Int} {y_n : Bool} {y_p : Int} {nr_ : Nat} {kk_ : V → V → V → V → Prop} (hp : (⟨x_s, x_t, x_p⟩ : Cyl).p.length ≤ 1048576) : P4 (.call F_RunBox 0 nr_) [.int .i64 x_s, .int .i64 x_t, vL I2 v2 x_p, .int .i64 y_a, .bool y_n, .int .i64 y_p] kk_ ↔ kk_ (.int .i64 ((runBox (⟨x_s, x_t, x_p⟩ : Cyl) (⟨y_a, y_n, y_p⟩ : Stt)).1).a) (.bool ((runBox (⟨x_s, x_t, x_p⟩ : Cyl) (⟨y_a, y_n, y_p⟩ : Stt)).1).n) (.int .i64 ((runBox (⟨x_s, x_t, x_p⟩ : Cyl) (⟨y_a, y_n, y_p⟩ : Stt)).1).p) (vL I1 v1 ((runBox (⟨x_s, x_t, x_p⟩ : Cyl) (⟨y_a, y_n, y_p⟩ : Stt)).2)) :=
  P4_callF (by unfold F_RunBox; exact mkF_eq F_RunBox_inj ((⟨x_s, x_t, x_p⟩ : Cyl), (⟨y_a, y_n, y_p⟩ : Stt)) hp)


/-! digits -/
/-! boxes -/
end Go.Mw

/- Functions of the program, as small pure programs (printed by a program of ours). -/
namespace Go.Mw
noncomputable section
def spec_l06Less_L : L := .seq (.rg []) (.seq (.rg [⟨[], .bin .lss, [.v 1, .v 3], 1⟩, ⟨[(.v 4, false)], .bin .eql, [.v 1, .v 3], 1⟩, ⟨[(.v 4, false), (.v 5, true)], .bin .lss, [.v 0, .v 2], 1⟩, ⟨[(.v 4, false)], .pick, [.v 5, .v 6, .k (.bool false)], 1⟩, ⟨[], .pick, [.v 4, .k (.bool true), .v 7], 1⟩]) (.ret [.v 8]))
theorem spec_l06Less_L_sh (Q : QT) (x0 x1 x2 x3 : V) : shL spec_l06Less_L Q [x0, x1, x2, x3] = (
  P1 (.bin .lss) [x1, x3] fun v0 =>
  ifB v0 (
    Q .ret [.bool true]) (
    P1 (.bin .eql) [x1, x3] fun v1 =>
    ifB v1 (
      P1 (.bin .lss) [x0, x2] fun v2 =>
      Q .ret [v2]) (
      Q .ret [.bool false]))) := by kernel_rfl
def spec_l06Less_S : Sig := ⟨[.val true [.sc, .sc], .val true [.sc, .sc]], [(false, [.sc])], F_l06Less⟩
def spec_l06Less_hs : List NF := []

def spec_CylinderOk_b0 : L := .seq (.seq (.seq (.rg [⟨[], .len, [.v 3], 1⟩, ⟨[], .bin .lss, [.v 0, .v 4], 1⟩]) (.ite (.v 5) (.skip) (.seq (.tup []) (.exit 0)))) (.seq (.block 1 (.seq (.seq (.rg [⟨[], .idx [.sc, .sc], [.v 3, .v 0], 2⟩]) (.seq (.rg [⟨[], .bin .sub, [.v 2, .k (.int .i64 1)], 1⟩, ⟨[], .call F_l01In 0 1, [.v 6, .k (.int .i64 0), .v 8], 1⟩, ⟨[], .un .not, [.v 9], 1⟩, ⟨[(.v 10, false)], .bin .sub, [.v 1, .k (.int .i64 1)], 1⟩, ⟨[(.v 10, false)], .call F_l01In 0 1, [.v 7, .k (.int .i64 0), .v 11], 1⟩, ⟨[(.v 10, false)], .un .not, [.v 12], 1⟩, ⟨[], .pick, [.v 10, .k (.bool true), .v 13], 1⟩, ⟨[(.v 14, false)], .bin .gtr, [.v 0, .k (.int .i64 0)], 1⟩, ⟨[(.v 14, false), (.v 15, true)], .bin .sub, [.v 0, .k (.int .i64 1)], 1⟩, ⟨[(.v 14, false), (.v 15, true)], .idx [.sc, .sc], [.v 3, .v 16], 2⟩, ⟨[(.v 14, false), (.v 15, true)], .call F_l06Less 0 1, [.v 17, .v 18, .v 6, .v 7], 1⟩, ⟨[(.v 14, false), (.v 15, true)], .un .not, [.v 19], 1⟩, ⟨[(.v 14, false)], .pick, [.v 15, .v 20, .k (.bool false)], 1⟩, ⟨[], .pick, [.v 14, .k (.bool true), .v 21], 1⟩]) (.ite (.v 22) (.seq (.rg []) (.ret [.k (.bool false)])) (.skip)))) (.tup [.v 0, .v 1, .v 2, .v 3]))) (.rg [⟨[], .bin .add, [.v 0, .k (.int .i64 1)], 1⟩]))) (.tup [.v 4, .v 1, .v 2, .v 3])
theorem spec_CylinderOk_b0_sh (Q : QT) (x0 x1 x2 x3 : V) : shL spec_CylinderOk_b0 Q [x0, x1, x2, x3] = (
  P1 (.len) [x3] fun v0 =>
  P1 (.bin .lss) [x0, v0] fun v1 =>
  ifB v1 (
    P2 (.idx [.sc, .sc]) [x3, x0] fun v2 v3 =>
    P1 (.bin .sub) [x2, .int .i64 1] fun v4 =>
    P1 (.call F_l01In 0 1) [v2, .int .i64 0, v4] fun v5 =>
    P1 (.un .not) [v5] fun v6 =>
    ifB v6 (
      Q .ret [.bool false]) (
      P1 (.bin .sub) [x1, .int .i64 1] fun v7 =>
      P1 (.call F_l01In 0 1) [v3, .int .i64 0, v7] fun v8 =>
      P1 (.un .not) [v8] fun v9 =>
      ifB v9 (
        Q .ret [.bool false]) (
        P1 (.bin .gtr) [x0, .int .i64 0] fun v10 =>
        ifB v10 (
          P1 (.bin .sub) [x0, .int .i64 1] fun v11 =>
          P2 (.idx [.sc, .sc]) [x3, v11] fun v12 v13 =>
          P1 (.call F_l06Less 0 1) [v12, v13, v2, v3] fun v14 =>
          P1 (.un .not) [v14] fun v15 =>
          ifB v15 (
            Q .ret [.bool false]) (
            P1 (.bin .add) [x0, .int .i64 1] fun v16 =>
            Q .normal [v16, x1, x2, x3])) (
          P1 (.bin .add) [x0, .int .i64 1] fun v17 =>
          Q .normal [v17, x1, x2, x3])))) (
    Q (.exit 0) [])) := by kernel_rfl

def spec_CylinderOk_r1 : L := .seq (.rg []) (.ret [.k (.bool true)])
theorem spec_CylinderOk_r1_sh (Q : QT) : shL spec_CylinderOk_r1 Q [] = (
  Q .ret [.bool true]) := by kernel_rfl

def spec_CylinderOk_L : L := .seq (.rg []) (.seq (.seq (.rg [⟨[], .call F_l01In 0 1, [.v 0, .k (.int .i64 4), .k (.int .i64 96)], 1⟩, ⟨[], .un .not, [.v 3], 1⟩, ⟨[(.v 4, false)], .call F_l01In 0 1, [.v 1, .k (.int .i64 1), .k (.int .i64 100)], 1⟩, ⟨[(.v 4, false)], .un .not, [.v 5], 1⟩, ⟨[], .pick, [.v 4, .k (.bool true), .v 6], 1⟩, ⟨[(.v 7, false)], .len, [.v 2], 1⟩, ⟨[(.v 7, false)], .bin .gtr, [.v 8, .k (.int .i64 100)], 1⟩, ⟨[], .pick, [.v 7, .k (.bool true), .v 9], 1⟩]) (.ite (.v 10) (.seq (.rg []) (.ret [.k (.bool false)])) (.skip))) (.seq (.seq (.rg []) (.block 0 (.seq (.tup [.k (.int .i64 0), .v 0, .v 1, .v 2]) (.loop (spec_CylinderOk_b0))))) (spec_CylinderOk_r1)))
theorem spec_CylinderOk_L_sh (Q : QT) (x0 x1 x2 : V) : shL spec_CylinderOk_L Q [x0, x1, x2] = (
  P1 (.call F_l01In 0 1) [x0, .int .i64 4, .int .i64 96] fun v0 =>
  P1 (.un .not) [v0] fun v1 =>
  ifB v1 (
    Q .ret [.bool false]) (
    P1 (.call F_l01In 0 1) [x1, .int .i64 1, .int .i64 100] fun v2 =>
    P1 (.un .not) [v2] fun v3 =>
    ifB v3 (
      Q .ret [.bool false]) (
      P1 (.len) [x2] fun v4 =>
      P1 (.bin .gtr) [v4, .int .i64 100] fun v5 =>
      ifB v5 (
        Q .ret [.bool false]) (
        shL (.loop spec_CylinderOk_b0) (qB 0 (qS (shL spec_CylinderOk_r1 Q) Q)) [.int .i64 0, x0, x1, x2])))) := by kernel_rfl
def spec_CylinderOk_S : Sig := ⟨[.val true [.sc, .sc, .sl [.sc, .sc]]], [(false, [.sc])], F_CylinderOk⟩
def spec_CylinderOk_hs : List NF := [⟨[], [], [], 64⟩, ⟨[(1, .ptr 64 0), (3, .sc false [.sc])], [], [(64, [.sc, .sc, .ro [.sc, .sc]])], 65⟩, ⟨[(1, .ptr 64 0), (3, .sc false [.sc])], [], [(64, [.sc, .sc, .ro [.sc, .sc]])], 65⟩]

def impl_comparePins_L : L := .seq (.rg []) (.seq (.seq (.rg [⟨[], .bin .lss, [.v 1, .v 3], 1⟩, ⟨[(.v 4, false)], .bin .eql, [.v 1, .v 3], 1⟩, ⟨[(.v 4, false), (.v 5, true)], .bin .lss, [.v 0, .v 2], 1⟩, ⟨[(.v 4, false)], .pick, [.v 5, .v 6, .k (.bool false)], 1⟩, ⟨[], .pick, [.v 4, .k (.bool true), .v 7], 1⟩]) (.ite (.v 8) (.seq (.rg []) (.ret [.k (.int .i64 (-1))])) (.skip))) (.seq (.seq (.rg [⟨[], .eqa false [.i, .i], [.v 0, .v 1, .v 2, .v 3], 1⟩]) (.ite (.v 9) (.seq (.rg []) (.ret [.k (.int .i64 0)])) (.skip))) (.seq (.rg []) (.ret [.k (.int .i64 1)]))))
theorem impl_comparePins_L_sh (Q : QT) (x0 x1 x2 x3 : V) : shL impl_comparePins_L Q [x0, x1, x2, x3] = (
  P1 (.bin .lss) [x1, x3] fun v0 =>
  ifB v0 (
    Q .ret [.int .i64 (-1)]) (
    P1 (.bin .eql) [x1, x3] fun v1 =>
    ifB v1 (
      P1 (.bin .lss) [x0, x2] fun v2 =>
      ifB v2 (
        Q .ret [.int .i64 (-1)]) (
        P1 (.eqa false [.i, .i]) [x0, x1, x2, x3] fun v3 =>
        ifB v3 (
          Q .ret [.int .i64 0]) (
          Q .ret [.int .i64 1]))) (
      P1 (.eqa false [.i, .i]) [x0, x1, x2, x3] fun v4 =>
      ifB v4 (
        Q .ret [.int .i64 0]) (
        Q .ret [.int .i64 1])))) := by kernel_rfl
def impl_comparePins_S : Sig := ⟨[.val true [.sc, .sc], .val true [.sc, .sc]], [(false, [.sc])], F_comparePins⟩
def impl_comparePins_hs : List NF := []

def impl_CylinderOk_b0 : L := .seq (.seq (.rg [⟨[], .bin .lss, [.v 2, .v 1], 1⟩]) (.seq (.ite (.v 6) (.skip) (.seq (.tup []) (.exit 0))) (.seq (.block 1 (.seq (.seq (.rg [⟨[], .idx [.sc, .sc], [.v 0, .v 2], 2⟩]) (.seq (.seq (.rg [⟨[], .bin .sub, [.v 4, .k (.int .i64 1)], 1⟩, ⟨[], .call F_within 0 1, [.v 7, .k (.int .i64 0), .v 9], 1⟩, ⟨[], .un .not, [.v 10], 1⟩, ⟨[(.v 11, false)], .bin .sub, [.v 3, .k (.int .i64 1)], 1⟩, ⟨[(.v 11, false)], .call F_within 0 1, [.v 8, .k (.int .i64 0), .v 12], 1⟩, ⟨[(.v 11, false)], .un .not, [.v 13], 1⟩, ⟨[], .pick, [.v 11, .k (.bool true), .v 14], 1⟩]) (.ite (.v 15) (.seq (.rg []) (.ret [.k (.bool false)])) (.skip))) (.seq (.rg [⟨[], .bin .gtr, [.v 2, .k (.int .i64 0)], 1⟩, ⟨[(.v 16, true)], .bin .sub, [.v 2, .k (.int .i64 1)], 1⟩, ⟨[(.v 16, true)], .idx [.sc, .sc], [.v 5, .v 17], 2⟩, ⟨[(.v 16, true)], .call F_comparePins 0 1, [.v 18, .v 19, .v 7, .v 8], 1⟩, ⟨[(.v 16, true)], .bin .geq, [.v 20, .k (.int .i64 0)], 1⟩, ⟨[], .pick, [.v 16, .v 21, .k (.bool false)], 1⟩]) (.ite (.v 22) (.seq (.rg []) (.ret [.k (.bool false)])) (.skip))))) (.tup [.v 0, .v 1, .v 2, .v 3, .v 4, .v 5]))) (.rg [⟨[], .bin .add, [.v 2, .k (.int .i64 1)], 1⟩])))) (.tup [.v 0, .v 1, .v 6, .v 3, .v 4, .v 5])
theorem impl_CylinderOk_b0_sh (Q : QT) (x0 x1 x2 x3 x4 x5 : V) : shL impl_CylinderOk_b0 Q [x0, x1, x2, x3, x4, x5] = (
  P1 (.bin .lss) [x2, x1] fun v0 =>
  ifB v0 (
    P2 (.idx [.sc, .sc]) [x0, x2] fun v1 v2 =>
    P1 (.bin .sub) [x4, .int .i64 1] fun v3 =>
    P1 (.call F_within 0 1) [v1, .int .i64 0, v3] fun v4 =>
    P1 (.un .not) [v4] fun v5 =>
    ifB v5 (
      Q .ret [.bool false]) (
      P1 (.bin .sub) [x3, .int .i64 1] fun v6 =>
      P1 (.call F_within 0 1) [v2, .int .i64 0, v6] fun v7 =>
      P1 (.un .not) [v7] fun v8 =>
      ifB v8 (
        Q .ret [.bool false]) (
        P1 (.bin .gtr) [x2, .int .i64 0] fun v9 =>
        ifB v9 (
          P1 (.bin .sub) [x2, .int .i64 1] fun v10 =>
          P2 (.idx [.sc, .sc]) [x5, v10] fun v11 v12 =>
          P1 (.call F_comparePins 0 1) [v11, v12, v1, v2] fun v13 =>
          P1 (.bin .geq) [v13, .int .i64 0] fun v14 =>
          ifB v14 (
            Q .ret [.bool false]) (
            P1 (.bin .add) [x2, .int .i64 1] fun v15 =>
            Q .normal [x0, x1, v15, x3, x4, x5])) (
          P1 (.bin .add) [x2, .int .i64 1] fun v16 =>
          Q .normal [x0, x1, v16, x3, x4, x5])))) (
    Q (.exit 0) [])) := by kernel_rfl

def impl_CylinderOk_r1 : L := .seq (.rg []) (.ret [.k (.bool true)])
theorem impl_CylinderOk_r1_sh (Q : QT) : shL impl_CylinderOk_r1 Q [] = (
  Q .ret [.bool true]) := by kernel_rfl

def impl_CylinderOk_L : L := .seq (.rg []) (.seq (.seq (.rg [⟨[], .call F_within 0 1, [.v 0, .k (.int .i64 4), .k (.int .i64 96)], 1⟩, ⟨[], .un .not, [.v 3], 1⟩, ⟨[(.v 4, false)], .call F_within 0 1, [.v 1, .k (.int .i64 1), .k (.int .i64 100)], 1⟩, ⟨[(.v 4, false)], .un .not, [.v 5], 1⟩, ⟨[], .pick, [.v 4, .k (.bool true), .v 6], 1⟩, ⟨[(.v 7, false)], .len, [.v 2], 1⟩, ⟨[(.v 7, false)], .bin .gtr, [.v 8, .k (.int .i64 100)], 1⟩, ⟨[], .pick, [.v 7, .k (.bool true), .v 9], 1⟩]) (.ite (.v 10) (.seq (.rg []) (.ret [.k (.bool false)])) (.skip))) (.seq (.seq (.rg [⟨[], .len, [.v 2], 1⟩]) (.block 0 (.seq (.tup [.v 2, .v 11, .k (.int .i64 0), .v 0, .v 1, .v 2]) (.loop (impl_CylinderOk_b0))))) (impl_CylinderOk_r1)))
theorem impl_CylinderOk_L_sh (Q : QT) (x0 x1 x2 : V) : shL impl_CylinderOk_L Q [x0, x1, x2] = (
  P1 (.call F_within 0 1) [x0, .int .i64 4, .int .i64 96] fun v0 =>
  P1 (.un .not) [v0] fun v1 =>
  ifB v1 (
    Q .ret [.bool false]) (
    P1 (.call F_within 0 1) [x1, .int .i64 1, .int .i64 100] fun v2 =>
    P1 (.un .not) [v2] fun v3 =>
    ifB v3 (
      Q .ret [.bool false]) (
      P1 (.len) [x2] fun v4 =>
      P1 (.bin .gtr) [v4, .int .i64 100] fun v5 =>
      ifB v5 (
        Q .ret [.bool false]) (
        P1 (.len) [x2] fun v6 =>
        shL (.loop impl_CylinderOk_b0) (qB 0 (qS (shL impl_CylinderOk_r1 Q) Q)) [x2, v6, .int .i64 0, x0, x1, x2])))) := by kernel_rfl
def impl_CylinderOk_S : Sig := ⟨[.val true [.sc, .sc, .sl [.sc, .sc]]], [(false, [.sc])], F_CylinderOk⟩
def impl_CylinderOk_hs : List NF := [⟨[], [], [], 64⟩, ⟨[(1, .ptr 64 0), (22, .sc false [.ro [.sc, .sc]]), (23, .sc false [.sc]), (24, .sc false [.sc])], [], [(64, [.sc, .sc, .ro [.sc, .sc]])], 65⟩, ⟨[(1, .ptr 64 0), (22, .sc false [.ro [.sc, .sc]]), (23, .sc false [.sc]), (24, .sc false [.sc])], [], [(64, [.sc, .sc, .ro [.sc, .sc]])], 65⟩]

def impl_StateOk_L : L := .seq (.rg []) (.seq (.rg [⟨[], .call F_CylinderOk 0 1, [.v 0, .v 1, .v 2], 1⟩, ⟨[(.v 6, true)], .bin .sub, [.v 0, .k (.int .i64 1)], 1⟩, ⟨[(.v 6, true)], .call F_within 0 1, [.v 3, .k (.int .i64 0), .v 7], 1⟩, ⟨[], .pick, [.v 6, .v 8, .k (.bool false)], 1⟩, ⟨[(.v 9, true)], .call F_within 0 1, [.v 5, .k (.int .i64 0), .k (.int .i64 100000)], 1⟩, ⟨[], .pick, [.v 9, .v 10, .k (.bool false)], 1⟩]) (.ret [.v 11]))
theorem impl_StateOk_L_sh (Q : QT) (x0 x1 x2 x3 x4 x5 : V) : shL impl_StateOk_L Q [x0, x1, x2, x3, x4, x5] = (
  P1 (.call F_CylinderOk 0 1) [x0, x1, x2] fun v0 =>
  ifB v0 (
    P1 (.bin .sub) [x0, .int .i64 1] fun v1 =>
    P1 (.call F_within 0 1) [x3, .int .i64 0, v1] fun v2 =>
    ifB v2 (
      P1 (.call F_within 0 1) [x5, .int .i64 0, .int .i64 100000] fun v3 =>
      Q .ret [v3]) (
      Q .ret [.bool false])) (
    Q .ret [.bool false])) := by kernel_rfl
def impl_StateOk_S : Sig := ⟨[.val true [.sc, .sc, .sl [.sc, .sc]], .val true [.sc, .sc, .sc]], [(false, [.sc])], F_StateOk⟩
def impl_StateOk_hs : List NF := []

def impl_StepsLeft_L : L := .seq (.rg []) (.seq (.seq (.rg [⟨[], .call F_StateOk 0 1, [.v 0, .v 1, .v 2, .v 3, .v 4, .v 5], 1⟩, ⟨[], .un .not, [.v 6], 1⟩]) (.ite (.v 7) (.seq (.rg []) (.ret [.k (.int .i64 (-1))])) (.skip))) (.seq (.seq (.rg [⟨[], .un .not, [.v 4], 1⟩]) (.ite (.v 8) (.seq (.rg []) (.ret [.k (.int .i64 0)])) (.skip))) (.seq (.rg [⟨[], .bin .sub, [.v 0, .v 3], 1⟩]) (.ret [.v 9]))))
theorem impl_StepsLeft_L_sh (Q : QT) (x0 x1 x2 x3 x4 x5 : V) : shL impl_StepsLeft_L Q [x0, x1, x2, x3, x4, x5] = (
  P1 (.call F_StateOk 0 1) [x0, x1, x2, x3, x4, x5] fun v0 =>
  P1 (.un .not) [v0] fun v1 =>
  ifB v1 (
    Q .ret [.int .i64 (-1)]) (
    P1 (.un .not) [x4] fun v2 =>
    ifB v2 (
      Q .ret [.int .i64 0]) (
      P1 (.bin .sub) [x0, x3] fun v3 =>
      Q .ret [v3]))) := by kernel_rfl
def impl_StepsLeft_S : Sig := ⟨[.val true [.sc, .sc, .sl [.sc, .sc]], .val true [.sc, .sc, .sc]], [(false, [.sc])], F_StepsLeft⟩
def impl_StepsLeft_hs : List NF := []

def impl_StartBox_L : L := .seq (.rg []) (.seq (.seq (.rg [⟨[], .call F_StateOk 0 1, [.v 0, .v 1, .v 2, .v 3, .v 4, .v 5], 1⟩, ⟨[], .un .not, [.v 6], 1⟩, ⟨[], .pick, [.v 7, .k (.bool true), .v 4], 1⟩]) (.ite (.v 8) (.seq (.rg []) (.ret [.v 3, .v 4, .v 5, .k (.bool false)])) (.skip))) (.seq (.rg []) (.seq (.rg []) (.ret [.v 3, .k (.bool true), .v 5, .k (.bool true)]))))
theorem impl_StartBox_L_sh (Q : QT) (x0 x1 x2 x3 x4 x5 : V) : shL impl_StartBox_L Q [x0, x1, x2, x3, x4, x5] = (
  P1 (.call F_StateOk 0 1) [x0, x1, x2, x3, x4, x5] fun v0 =>
  P1 (.un .not) [v0] fun v1 =>
  P1 (.pick) [v1, .bool true, x4] fun v2 =>
  ifB v2 (
    Q .ret [x3, x4, x5, .bool false]) (
    Q .ret [x3, .bool true, x5, .bool true])) := by kernel_rfl
def impl_StartBox_S : Sig := ⟨[.val true [.sc, .sc, .sl [.sc, .sc]], .val true [.sc, .sc, .sc]], [(true, [.sc, .sc, .sc]), (false, [.sc])], F_StartBox⟩
def impl_StartBox_hs : List NF := []

def impl_StopBox_L : L := .seq (.rg []) (.seq (.seq (.rg [⟨[], .call F_StateOk 0 1, [.v 0, .v 1, .v 2, .v 3, .v 4, .v 5], 1⟩, ⟨[], .un .not, [.v 6], 1⟩, ⟨[(.v 7, false)], .un .not, [.v 4], 1⟩, ⟨[], .pick, [.v 7, .k (.bool true), .v 8], 1⟩]) (.ite (.v 9) (.seq (.rg []) (.ret [.v 3, .v 4, .v 5, .k (.bool false)])) (.skip))) (.seq (.rg []) (.seq (.rg []) (.ret [.v 3, .k (.bool false), .v 5, .k (.bool true)]))))
theorem impl_StopBox_L_sh (Q : QT) (x0 x1 x2 x3 x4 x5 : V) : shL impl_StopBox_L Q [x0, x1, x2, x3, x4, x5] = (
  P1 (.call F_StateOk 0 1) [x0, x1, x2, x3, x4, x5] fun v0 =>
  P1 (.un .not) [v0] fun v1 =>
  ifB v1 (
    Q .ret [x3, x4, x5, .bool false]) (
    P1 (.un .not) [x4] fun v2 =>
    ifB v2 (
      Q .ret [x3, x4, x5, .bool false]) (
      Q .ret [x3, .bool false, x5, .bool true]))) := by kernel_rfl
def impl_StopBox_S : Sig := ⟨[.val true [.sc, .sc, .sl [.sc, .sc]], .val true [.sc, .sc, .sc]], [(true, [.sc, .sc, .sc]), (false, [.sc])], F_StopBox⟩
def impl_StopBox_hs : List NF := []

def spec_l06Mod_L : L := .seq (.rg []) (.seq (.rg [⟨[], .bin .rem, [.v 0, .v 1], 1⟩, ⟨[], .bin .add, [.v 2, .v 1], 1⟩, ⟨[], .bin .rem, [.v 3, .v 1], 1⟩]) (.ret [.v 4]))
theorem spec_l06Mod_L_sh (Q : QT) (x0 x1 : V) : shL spec_l06Mod_L Q [x0, x1] = (
  P1 (.bin .rem) [x0, x1] fun v0 =>
  P1 (.bin .add) [v0, x1] fun v1 =>
  P1 (.bin .rem) [v1, x1] fun v2 =>
  Q .ret [v2]) := by kernel_rfl
def spec_l06Mod_S : Sig := ⟨[.val false [.sc], .val false [.sc]], [(false, [.sc])], F_l06Mod⟩
def spec_l06Mod_hs : List NF := []

def spec_PinsAt_b0 : L := .seq (.seq (.seq (.rg [⟨[], .len, [.v 5], 1⟩, ⟨[], .bin .lss, [.v 1, .v 6], 1⟩]) (.ite (.v 7) (.skip) (.seq (.tup [.v 2]) (.exit 0)))) (.seq (.block 1 (.seq (.seq (.rg [⟨[], .idx [.sc, .sc], [.v 5, .v 1], 2⟩, ⟨[], .call F_l06Mod 0 1, [.v 0, .v 3], 1⟩, ⟨[], .bin .eql, [.v 9, .v 10], 1⟩]) (.ite (.v 11) (.seq (.rg [⟨[], .idx [.sc, .sc], [.v 5, .v 1], 2⟩, ⟨[], .lst [.sc] false 1, [.v 12], 1⟩, ⟨[], .app [.sc] 8, [.v 2, .v 14], 1⟩]) (.tup [.v 0, .v 1, .v 15, .v 3, .v 4, .v 5])) (.seq (.skip) (.tup [.v 0, .v 1, .v 2, .v 3, .v 4, .v 5])))) (.tup [.v 0, .v 1, .v 2, .v 3, .v 4, .v 5]))) (.rg [⟨[], .bin .add, [.v 1, .k (.int .i64 1)], 1⟩]))) (.tup [.v 0, .v 6, .v 2, .v 3, .v 4, .v 5])
theorem spec_PinsAt_b0_sh (Q : QT) (x0 x1 x2 x3 x4 x5 : V) : shL spec_PinsAt_b0 Q [x0, x1, x2, x3, x4, x5] = (
  P1 (.len) [x5] fun v0 =>
  P1 (.bin .lss) [x1, v0] fun v1 =>
  ifB v1 (
    P2 (.idx [.sc, .sc]) [x5, x1] fun _ v3 =>
    P1 (.call F_l06Mod 0 1) [x0, x3] fun v4 =>
    P1 (.bin .eql) [v3, v4] fun v5 =>
    ifB v5 (
      P2 (.idx [.sc, .sc]) [x5, x1] fun v6 _ =>
      P1 (.lst [.sc] false 1) [v6] fun v8 =>
      P1 (.app [.sc] 8) [x2, v8] fun v9 =>
      P1 (.bin .add) [x1, .int .i64 1] fun v10 =>
      Q .normal [x0, v10, v9, x3, x4, x5]) (
      P1 (.bin .add) [x1, .int .i64 1] fun v11 =>
      Q .normal [x0, v11, x2, x3, x4, x5])) (
    Q (.exit 0) [x2])) := by kernel_rfl

def spec_PinsAt_r1 : L := .seq (.rg []) (.ret [.v 0])
theorem spec_PinsAt_r1_sh (Q : QT) (x0 : V) : shL spec_PinsAt_r1 Q [x0] = (
  Q .ret [x0]) := by kernel_rfl

def spec_PinsAt_L : L := .seq (.rg []) (.seq (.rg [⟨[], .lst [.sc] false 0, [], 1⟩]) (.seq (.seq (.rg [⟨[], .call F_CylinderOk 0 1, [.v 0, .v 1, .v 2], 1⟩, ⟨[], .un .not, [.v 5], 1⟩, ⟨[(.v 6, false)], .call F_l01In 0 1, [.v 3, .k (.int .i64 (-1000000)), .k (.int .i64 1000000)], 1⟩, ⟨[(.v 6, false)], .un .not, [.v 7], 1⟩, ⟨[], .pick, [.v 6, .k (.bool true), .v 8], 1⟩]) (.ite (.v 9) (.seq (.rg []) (.ret [.v 4])) (.skip))) (.seq (.seq (.rg []) (.block 0 (.seq (.tup [.v 3, .k (.int .i64 0), .v 4, .v 0, .v 1, .v 2]) (.loop (spec_PinsAt_b0))))) (spec_PinsAt_r1))))
theorem spec_PinsAt_L_sh (Q : QT) (x0 x1 x2 x3 : V) : shL spec_PinsAt_L Q [x0, x1, x2, x3] = (
  P1 (.lst [.sc] false 0) [] fun v0 =>
  P1 (.call F_CylinderOk 0 1) [x0, x1, x2] fun v1 =>
  P1 (.un .not) [v1] fun v2 =>
  ifB v2 (
    Q .ret [v0]) (
    P1 (.call F_l01In 0 1) [x3, .int .i64 (-1000000), .int .i64 1000000] fun v3 =>
    P1 (.un .not) [v3] fun v4 =>
    ifB v4 (
      Q .ret [v0]) (
      shL (.loop spec_PinsAt_b0) (qB 0 (qS (shL spec_PinsAt_r1 Q) Q)) [x3, .int .i64 0, v0, x0, x1, x2]))) := by kernel_rfl
def spec_PinsAt_S : Sig := ⟨[.val true [.sc, .sc, .sl [.sc, .sc]], .val false [.sc]], [(false, [.sl [.sc]])], F_PinsAt⟩
def spec_PinsAt_hs : List NF := [⟨[(5, .sc false [.own 64])], [(64, true, [.sc])], [], 65⟩, ⟨[(1, .sc false [.sc]), (2, .ptr 64 0), (5, .sc false [.own 65]), (6, .sc false [.sc])], [(65, true, [.sc])], [(64, [.sc, .sc, .ro [.sc, .sc]])], 66⟩, ⟨[(1, .sc false [.sc]), (2, .ptr 64 0), (5, .sc false [.own 65]), (6, .sc false [.sc])], [(65, true, [.sc])], [(64, [.sc, .sc, .ro [.sc, .sc]])], 66⟩, ⟨[(1, .sc false [.sc]), (2, .ptr 64 0), (5, .sc false [.own 65]), (6, .sc false [.sc])], [(65, true, [.sc])], [(64, [.sc, .sc, .ro [.sc, .sc]])], 66⟩]

def impl_around_L : L := .seq (.rg []) (.seq (.rg [⟨[], .bin .rem, [.v 0, .v 1], 1⟩, ⟨[], .bin .add, [.v 2, .v 1], 1⟩, ⟨[], .bin .rem, [.v 3, .v 1], 1⟩]) (.ret [.v 4]))
theorem impl_around_L_sh (Q : QT) (x0 x1 : V) : shL impl_around_L Q [x0, x1] = (
  P1 (.bin .rem) [x0, x1] fun v0 =>
  P1 (.bin .add) [v0, x1] fun v1 =>
  P1 (.bin .rem) [v1, x1] fun v2 =>
  Q .ret [v2]) := by kernel_rfl
def impl_around_S : Sig := ⟨[.val false [.sc], .val false [.sc]], [(false, [.sc])], F_around⟩
def impl_around_hs : List NF := []

def impl_PinsAt_b0 : L := .seq (.seq (.rg [⟨[], .bin .lss, [.v 3, .v 2], 1⟩]) (.seq (.ite (.v 8) (.skip) (.seq (.tup [.v 4]) (.exit 0))) (.seq (.block 1 (.seq (.seq (.rg [⟨[], .idx [.sc, .sc], [.v 1, .v 3], 2⟩]) (.seq (.rg [⟨[], .call F_around 0 1, [.v 0, .v 5], 1⟩, ⟨[], .bin .eql, [.v 10, .v 11], 1⟩]) (.ite (.v 12) (.seq (.rg [⟨[], .lst [.sc] false 1, [.v 9], 1⟩, ⟨[], .app [.sc] 8, [.v 4, .v 13], 1⟩]) (.tup [.v 0, .v 1, .v 2, .v 3, .v 14, .v 5, .v 6, .v 7])) (.seq (.skip) (.tup [.v 0, .v 1, .v 2, .v 3, .v 4, .v 5, .v 6, .v 7]))))) (.tup [.v 0, .v 1, .v 2, .v 3, .v 4, .v 5, .v 6, .v 7]))) (.rg [⟨[], .bin .add, [.v 3, .k (.int .i64 1)], 1⟩])))) (.tup [.v 0, .v 1, .v 2, .v 8, .v 4, .v 5, .v 6, .v 7])
theorem impl_PinsAt_b0_sh (Q : QT) (x0 x1 x2 x3 x4 x5 x6 x7 : V) : shL impl_PinsAt_b0 Q [x0, x1, x2, x3, x4, x5, x6, x7] = (
  P1 (.bin .lss) [x3, x2] fun v0 =>
  ifB v0 (
    P2 (.idx [.sc, .sc]) [x1, x3] fun v1 v2 =>
    P1 (.call F_around 0 1) [x0, x5] fun v3 =>
    P1 (.bin .eql) [v2, v3] fun v4 =>
    ifB v4 (
      P1 (.lst [.sc] false 1) [v1] fun v5 =>
      P1 (.app [.sc] 8) [x4, v5] fun v6 =>
      P1 (.bin .add) [x3, .int .i64 1] fun v7 =>
      Q .normal [x0, x1, x2, v7, v6, x5, x6, x7]) (
      P1 (.bin .add) [x3, .int .i64 1] fun v8 =>
      Q .normal [x0, x1, x2, v8, x4, x5, x6, x7])) (
    Q (.exit 0) [x4])) := by kernel_rfl

def impl_PinsAt_r1 : L := .seq (.rg []) (.ret [.v 0])
theorem impl_PinsAt_r1_sh (Q : QT) (x0 : V) : shL impl_PinsAt_r1 Q [x0] = (
  Q .ret [x0]) := by kernel_rfl

def impl_PinsAt_L : L := .seq (.rg []) (.seq (.seq (.rg [⟨[], .call F_CylinderOk 0 1, [.v 0, .v 1, .v 2], 1⟩, ⟨[], .un .not, [.v 4], 1⟩, ⟨[(.v 5, false)], .call F_within 0 1, [.v 3, .k (.int .i64 (-1000000)), .k (.int .i64 1000000)], 1⟩, ⟨[(.v 5, false)], .un .not, [.v 6], 1⟩, ⟨[], .pick, [.v 5, .k (.bool true), .v 7], 1⟩]) (.ite (.v 8) (.seq (.rg []) (.ret [.k (.list [.sc] [])])) (.skip))) (.seq (.rg [⟨[], .lst [.sc] false 0, [], 1⟩]) (.seq (.seq (.rg [⟨[], .len, [.v 2], 1⟩]) (.block 0 (.seq (.tup [.v 3, .v 2, .v 10, .k (.int .i64 0), .v 9, .v 0, .v 1, .v 2]) (.loop (impl_PinsAt_b0))))) (impl_PinsAt_r1))))
theorem impl_PinsAt_L_sh (Q : QT) (x0 x1 x2 x3 : V) : shL impl_PinsAt_L Q [x0, x1, x2, x3] = (
  P1 (.call F_CylinderOk 0 1) [x0, x1, x2] fun v0 =>
  P1 (.un .not) [v0] fun v1 =>
  ifB v1 (
    Q .ret [.list [.sc] []]) (
    P1 (.call F_within 0 1) [x3, .int .i64 (-1000000), .int .i64 1000000] fun v2 =>
    P1 (.un .not) [v2] fun v3 =>
    ifB v3 (
      Q .ret [.list [.sc] []]) (
      P1 (.lst [.sc] false 0) [] fun v4 =>
      P1 (.len) [x2] fun v5 =>
      shL (.loop impl_PinsAt_b0) (qB 0 (qS (shL impl_PinsAt_r1 Q) Q)) [x3, x2, v5, .int .i64 0, v4, x0, x1, x2]))) := by kernel_rfl
def impl_PinsAt_S : Sig := ⟨[.val true [.sc, .sc, .sl [.sc, .sc]], .val false [.sc]], [(false, [.sl [.sc]])], F_PinsAt⟩
def impl_PinsAt_hs : List NF := [⟨[(5, .sc false [.own 64])], [(64, true, [.sc])], [], 65⟩, ⟨[(1, .sc false [.sc]), (2, .ptr 64 0), (5, .sc false [.own 65]), (18, .sc false [.ro [.sc, .sc]]), (19, .sc false [.sc]), (20, .sc false [.sc])], [(65, true, [.sc])], [(64, [.sc, .sc, .ro [.sc, .sc]])], 66⟩, ⟨[(1, .sc false [.sc]), (2, .ptr 64 0), (5, .sc false [.own 65]), (18, .sc false [.ro [.sc, .sc]]), (19, .sc false [.sc]), (20, .sc false [.sc])], [(65, true, [.sc])], [(64, [.sc, .sc, .ro [.sc, .sc]])], 66⟩, ⟨[(1, .sc false [.sc]), (2, .ptr 64 0), (5, .sc false [.own 65]), (18, .sc false [.ro [.sc, .sc]]), (19, .sc false [.sc]), (20, .sc false [.sc])], [(65, true, [.sc])], [(64, [.sc, .sc, .ro [.sc, .sc]])], 66⟩]

def impl_stepBox_L : L := .seq (.rg []) (.seq (.seq (.rg [⟨[], .call F_StateOk 0 1, [.v 0, .v 1, .v 2, .v 3, .v 4, .v 5], 1⟩, ⟨[], .un .not, [.v 6], 1⟩, ⟨[(.v 7, false)], .un .not, [.v 4], 1⟩, ⟨[], .pick, [.v 7, .k (.bool true), .v 8], 1⟩]) (.ite (.v 9) (.seq (.rg []) (.ret [.v 3, .v 4, .v 5, .k (.list [.sc] []), .k (.bool false)])) (.skip))) (.seq (.rg [⟨[], .call F_PinsAt 0 1, [.v 0, .v 1, .v 2, .v 3], 1⟩]) (.seq (.rg [⟨[], .bin .add, [.v 3, .k (.int .i64 1)], 1⟩, ⟨[], .bin .rem, [.v 11, .v 0], 1⟩, ⟨[], .len, [.v 10], 1⟩, ⟨[], .bin .add, [.v 5, .v 13], 1⟩]) (.seq (.rg [⟨[], .bin .neq, [.v 12, .k (.int .i64 0)], 1⟩]) (.seq (.seq (.rg [⟨[], .call F_StateOk 0 1, [.v 0, .v 1, .v 2, .v 12, .v 15, .v 14], 1⟩, ⟨[], .un .not, [.v 16], 1⟩]) (.ite (.v 17) (.seq (.rg []) (.ret [.v 3, .v 4, .v 5, .k (.list [.sc] []), .k (.bool false)])) (.skip))) (.seq (.rg []) (.ret [.v 12, .v 15, .v 14, .v 10, .k (.bool true)])))))))
theorem impl_stepBox_L_sh (Q : QT) (x0 x1 x2 x3 x4 x5 : V) : shL impl_stepBox_L Q [x0, x1, x2, x3, x4, x5] = (
  P1 (.call F_StateOk 0 1) [x0, x1, x2, x3, x4, x5] fun v0 =>
  P1 (.un .not) [v0] fun v1 =>
  ifB v1 (
    Q .ret [x3, x4, x5, .list [.sc] [], .bool false]) (
    P1 (.un .not) [x4] fun v2 =>
    ifB v2 (
      Q .ret [x3, x4, x5, .list [.sc] [], .bool false]) (
      P1 (.call F_PinsAt 0 1) [x0, x1, x2, x3] fun v3 =>
      P1 (.bin .add) [x3, .int .i64 1] fun v4 =>
      P1 (.bin .rem) [v4, x0] fun v5 =>
      P1 (.len) [v3] fun v6 =>
      P1 (.bin .add) [x5, v6] fun v7 =>
      P1 (.bin .neq) [v5, .int .i64 0] fun v8 =>
      P1 (.call F_StateOk 0 1) [x0, x1, x2, v5, v8, v7] fun v9 =>
      P1 (.un .not) [v9] fun v10 =>
      ifB v10 (
        Q .ret [x3, x4, x5, .list [.sc] [], .bool false]) (
        Q .ret [v5, v8, v7, v3, .bool true])))) := by kernel_rfl
def impl_stepBox_S : Sig := ⟨[.val true [.sc, .sc, .sl [.sc, .sc]], .val true [.sc, .sc, .sc]], [(true, [.sc, .sc, .sc]), (false, [.sl [.sc]]), (false, [.sc])], F_stepBox⟩
def impl_stepBox_hs : List NF := []

def impl_StepBox_L : L := .seq (.rg []) (.seq (.rg [⟨[], .call F_stepBox 0 5, [.v 0, .v 1, .v 2, .v 3, .v 4, .v 5], 5⟩]) (.seq (.rg []) (.ret [.v 6, .v 7, .v 8, .v 9])))
theorem impl_StepBox_L_sh (Q : QT) (x0 x1 x2 x3 x4 x5 : V) : shL impl_StepBox_L Q [x0, x1, x2, x3, x4, x5] = (
  P5 (.call F_stepBox 0 5) [x0, x1, x2, x3, x4, x5] fun v0 v1 v2 v3 _ =>
  Q .ret [v0, v1, v2, v3]) := by kernel_rfl
def impl_StepBox_S : Sig := ⟨[.val true [.sc, .sc, .sl [.sc, .sc]], .val true [.sc, .sc, .sc]], [(true, [.sc, .sc, .sc]), (false, [.sl [.sc]])], F_StepBox⟩
def impl_StepBox_hs : List NF := []

def impl_RunBox_b0 : L := .seq (.seq (.seq (.rg []) (.ite (.v 11) (.skip) (.seq (.tup [.v 0, .v 7, .v 8, .v 9, .v 10, .v 11, .v 12]) (.exit 0)))) (.block 1 (.seq (.seq (.rg [⟨[], .call F_stepBox 0 5, [.v 1, .v 2, .v 3, .v 10, .v 11, .v 12], 5⟩]) (.seq (.seq (.rg [⟨[], .un .not, [.v 17], 1⟩]) (.ite (.v 18) (.seq (.rg []) (.ret [.v 4, .v 5, .v 6, .k (.list [.sc] [])])) (.skip))) (.seq (.rg []) (.rg [⟨[], .app [.sc] 8, [.v 0, .v 16], 1⟩])))) (.tup [.v 19, .v 1, .v 2, .v 3, .v 4, .v 5, .v 6, .v 7, .v 8, .v 9, .v 13, .v 14, .v 15])))) (.tup [.v 0, .v 1, .v 2, .v 3, .v 4, .v 5, .v 6, .v 7, .v 8, .v 9, .v 10, .v 11, .v 12])
theorem impl_RunBox_b0_sh (Q : QT) (x0 x1 x2 x3 x4 x5 x6 x7 x8 x9 x10 x11 x12 : V) : shL impl_RunBox_b0 Q [x0, x1, x2, x3, x4, x5, x6, x7, x8, x9, x10, x11, x12] = (
  ifB x11 (
    P5 (.call F_stepBox 0 5) [x1, x2, x3, x10, .bool true, x12] fun v0 v1 v2 v3 v4 =>
    P1 (.un .not) [v4] fun v5 =>
    ifB v5 (
      Q .ret [x4, x5, x6, .list [.sc] []]) (
      P1 (.app [.sc] 8) [x0, v3] fun v6 =>
      Q .normal [v6, x1, x2, x3, x4, x5, x6, x7, x8, x9, v0, v1, v2])) (
    Q (.exit 0) [x0, x7, x8, x9, x10, .bool false, x12])) := by kernel_rfl

def impl_RunBox_r1 : L := .seq (.rg []) (.ret [.v 4, .v 5, .v 6, .v 0])
theorem impl_RunBox_r1_sh (Q : QT) (x0 x1 x2 x3 x4 x5 x6 : V) : shL impl_RunBox_r1 Q [x0, x1, x2, x3, x4, x5, x6] = (
  Q .ret [x4, x5, x6, x0]) := by kernel_rfl

def impl_RunBox_L : L := .seq (.rg []) (.seq (.seq (.rg [⟨[], .call F_StateOk 0 1, [.v 0, .v 1, .v 2, .v 3, .v 4, .v 5], 1⟩, ⟨[], .un .not, [.v 6], 1⟩]) (.ite (.v 7) (.seq (.rg []) (.ret [.v 3, .v 4, .v 5, .k (.list [.sc] [])])) (.skip))) (.seq (.rg []) (.seq (.rg [⟨[], .lst [.sc] false 0, [], 1⟩]) (.seq (.block 0 (.seq (.tup [.v 8, .v 0, .v 1, .v 2, .v 3, .v 4, .v 5, .k (.int .i64 0), .k (.bool false), .k (.int .i64 0), .v 3, .v 4, .v 5]) (.loop (impl_RunBox_b0)))) (impl_RunBox_r1)))))
theorem impl_RunBox_L_sh (Q : QT) (x0 x1 x2 x3 x4 x5 : V) : shL impl_RunBox_L Q [x0, x1, x2, x3, x4, x5] = (
  P1 (.call F_StateOk 0 1) [x0, x1, x2, x3, x4, x5] fun v0 =>
  P1 (.un .not) [v0] fun v1 =>
  ifB v1 (
    Q .ret [x3, x4, x5, .list [.sc] []]) (
    P1 (.lst [.sc] false 0) [] fun v2 =>
    shL (.loop impl_RunBox_b0) (qB 0 (qS (shL impl_RunBox_r1 Q) Q)) [v2, x0, x1, x2, x3, x4, x5, .int .i64 0, .bool false, .int .i64 0, x3, x4, x5])) := by kernel_rfl
def impl_RunBox_S : Sig := ⟨[.val true [.sc, .sc, .sl [.sc, .sc]], .val true [.sc, .sc, .sc]], [(true, [.sc, .sc, .sc]), (false, [.sl [.sc]])], F_RunBox⟩
def impl_RunBox_hs : List NF := [⟨[(4, .ptr 64 0), (6, .ptr 65 0), (7, .sc false [.own 66])], [(66, true, [.sc])], [(64, [.sc, .sc, .sc]), (65, [.sc, .sc, .sc])], 67⟩, ⟨[(2, .ptr 64 0), (3, .ptr 65 0), (4, .ptr 66 0), (6, .ptr 67 0), (7, .sc false [.own 68])], [(68, true, [.sc])], [(64, [.sc, .sc, .ro [.sc, .sc]]), (65, [.sc, .sc, .sc]), (66, [.sc, .sc, .sc]), (67, [.sc, .sc, .sc])], 69⟩, ⟨[(2, .ptr 64 0), (3, .ptr 65 0), (4, .ptr 66 0), (6, .ptr 67 0), (7, .sc false [.own 68])], [(68, true, [.sc])], [(64, [.sc, .sc, .ro [.sc, .sc]]), (65, [.sc, .sc, .sc]), (66, [.sc, .sc, .sc]), (67, [.sc, .sc, .sc])], 69⟩]

end
end Go.Mw

/- Laws' helpers on memory, and the plain functions of pieces, pins, cylinders, states. -/
namespace Go.Mw
end Go.Mw

/- Pieces, pins, cylinders, states: the functions compute what was said. -/
namespace Go.Mw
/-! show time -/
/-! cylinders -/
theorem spec_l06Less_ok : ∀ ds outs, F_l06Less ds = some outs → shL spec_l06Less_L (qRet outs) ds := F_l06Less_elim fun x y => by
  rw [spec_l06Less_L_sh]; simp [pinLess]; grind
theorem impl_comparePins_ok : ∀ ds outs, F_comparePins ds = some outs → shL impl_comparePins_L (qRet outs) ds := F_comparePins_elim fun x y => by
  rw [impl_comparePins_L_sh]
  cases x; cases y
  simp [pinLess]
  grind
end Go.Mw

/- Cylinders and their pins. -/
namespace Go.Mw
theorem rising_iff : ∀ l : List T2, rising l = true ↔ ∀ j (_ : j < l.length), 0 < j → pinLess l[j - 1] l[j] = true
  | [] => by simp [rising]
  | [a] => by simp [rising]
  | a :: b :: r => by
    simp only [rising, Bool.and_eq_true, rising_iff (b :: r)]
    constructor
    · rintro ⟨h1, h2⟩ j hj h0
      rcases j with _ | _ | j
      · omega
      · exact h1
      · exact h2 (j + 1) (by simp at hj ⊢; omega) (by omega)
    · intro h
      refine ⟨h 1 (by simp) (by omega), fun j hj h0 => ?_⟩
      have := h (j + 1) (by simp at hj ⊢; omega) (by omega)
      rcases j with _ | j
      · omega
      · exact this

def goodPin (x : Cyl) (j : Nat) (hj : j < x.p.length) : Prop := pinIn x.s x.t x.p[j] = true ∧ (0 < j → pinLess x.p[j - 1] x.p[j] = true)
theorem cylOk_iff (x : Cyl) : cylOk x = true ↔ within x.s 4 96 = true ∧ within x.t 1 100 = true ∧ x.p.length ≤ 100 ∧ ∀ j (hj : j < x.p.length), goodPin x j hj := by
  simp only [cylOk, Bool.and_eq_true, decide_eq_true_eq, rising_iff, List.all_eq_true, goodPin, and_assoc]
  refine and_congr_right fun _ => and_congr_right fun _ => and_congr_right fun _ => ?_
  constructor
  · rintro ⟨h1, h2⟩ j hj
    exact ⟨h1 _ (List.getElem_mem hj), h2 j hj⟩
  · intro h
    refine ⟨fun p hp => ?_, fun j hj h0 => (h j hj).2 h0⟩
    obtain ⟨j, hj, rfl⟩ := List.getElem_of_mem hp
    exact (h j hj).1

theorem spec_CylinderOk_ok : ∀ ds outs, F_CylinderOk ds = some outs → shL spec_CylinderOk_L (qRet outs) ds := F_CylinderOk_elim fun x hp => by
  rw [spec_CylinderOk_L_sh]
  cases h1 : within x.s 4 96 with
  | false => simp [h1, cylOk]
  | true =>
  cases h2 : within x.t 1 100 with
  | false => simp [h1, h2, cylOk]
  | true =>
  have hs : 4 ≤ x.s ∧ x.s ≤ 96 := by simpa [within] using h1
  have ht : 1 ≤ x.t ∧ x.t ≤ 100 := by simpa [within] using h2
  simp [h1, h2]
  refine ⟨fun h => ?_, fun h3 => ?_⟩
  · cases hc : cylOk x with
    | false => rfl
    | true => have := ((cylOk_iff x).1 hc).2.2.1; omega
  have hc : cylOk x = true ↔ ∀ j (hj : j < x.p.length), goodPin x j hj := by
    rw [cylOk_iff, h1, h2]; simp; intro _; omega
  refine loop_upto x.p.length (fun k => [.int .i64 k, .int .i64 x.s, .int .i64 x.t, vL I2 v2 x.p]) (by intro i j _ _ h; simp at h; omega) (fun k => ∀ j (hj : j < x.p.length), j < k → goodPin x j hj) (by simp) (by simp) ?_
  intro k hk hP
  rw [spec_CylinderOk_b0_sh]
  simp
  refine ⟨fun h => ?_, fun h => ?_⟩
  · have hbad : ¬ goodPin x k h → cylOk x = false := fun hn => by
      cases hcc : cylOk x with
      | false => rfl
      | true => exact absurd (hc.1 hcc k h) hn
    have hgood : goodPin x k h → ∀ j (hj : j < x.p.length), j < k + 1 → goodPin x j hj := fun hg j hj hjk => by
      by_cases hjk2 : j = k
      · subst hjk2; exact hg
      · exact hP j hj (by omega)
    simp (disch := omega) only [h, List.getElem?_eq_getElem, Option.some.injEq, exists_eq_left', wrap_id]
    cases e1 : within x.p[k].a 0 (x.t - 1) with
    | false => simp; exact hbad (by simp [goodPin, pinIn, e1])
    | true =>
    cases e2 : within x.p[k].b 0 (x.s - 1) with
    | false => simp; exact hbad (by simp [goodPin, pinIn, e1, e2])
    | true =>
    have hk1 : ((k : Int) - 1).toNat = k - 1 := by omega
    have hk2 : k - 1 < x.p.length := by omega
    simp (disch := omega) [hk1]
    refine ⟨fun hk0 => ⟨by omega, fun e3 => hbad (by simp [goodPin, e3, hk0]), fun e3 => ?_⟩, fun hk0 => ?_⟩
    · exact hgood (by simp [goodPin, pinIn, e1, e2, e3])
    · exact hgood ⟨by simp [pinIn, e1, e2], fun hh => by omega⟩
  · obtain rfl : k = x.p.length := by omega
    simp [spec_CylinderOk_r1_sh]
    exact (hc.2 fun j hj => hP j hj hj)
theorem impl_CylinderOk_ok : ∀ ds outs, F_CylinderOk ds = some outs → shL impl_CylinderOk_L (qRet outs) ds := F_CylinderOk_elim fun x hp => by
  rw [impl_CylinderOk_L_sh]
  cases h1 : within x.s 4 96 with
  | false => simp [h1, cylOk]
  | true =>
  cases h2 : within x.t 1 100 with
  | false => simp [h1, h2, cylOk]
  | true =>
  have hs : 4 ≤ x.s ∧ x.s ≤ 96 := by simpa [within] using h1
  have ht : 1 ≤ x.t ∧ x.t ≤ 100 := by simpa [within] using h2
  simp [h1, h2]
  refine ⟨fun h => ?_, fun h3 => ?_⟩
  · cases hc : cylOk x with
    | false => rfl
    | true => have := ((cylOk_iff x).1 hc).2.2.1; omega
  have hc : cylOk x = true ↔ ∀ j (hj : j < x.p.length), goodPin x j hj := by
    rw [cylOk_iff, h1, h2]; simp; intro _; omega
  refine loop_upto x.p.length (fun k => [vL I2 v2 x.p, .int .i64 x.p.length, .int .i64 k, .int .i64 x.s, .int .i64 x.t, vL I2 v2 x.p]) (by intro i j _ _ h; simp at h; omega) (fun k => ∀ j (hj : j < x.p.length), j < k → goodPin x j hj) (by simp) (by simp) ?_
  intro k hk hP
  rw [impl_CylinderOk_b0_sh]
  simp
  refine ⟨fun h => ?_, fun h => ?_⟩
  · have hbad : ¬ goodPin x k h → cylOk x = false := fun hn => by
      cases hcc : cylOk x with
      | false => rfl
      | true => exact absurd (hc.1 hcc k h) hn
    have hgood : goodPin x k h → ∀ j (hj : j < x.p.length), j < k + 1 → goodPin x j hj := fun hg j hj hjk => by
      by_cases hjk2 : j = k
      · subst hjk2; exact hg
      · exact hP j hj (by omega)
    simp (disch := omega) only [h, List.getElem?_eq_getElem, Option.some.injEq, exists_eq_left', wrap_id]
    cases e1 : within x.p[k].a 0 (x.t - 1) with
    | false => simp; exact hbad (by simp [goodPin, pinIn, e1])
    | true =>
    cases e2 : within x.p[k].b 0 (x.s - 1) with
    | false => simp; exact hbad (by simp [goodPin, pinIn, e1, e2])
    | true =>
    have hk1 : ((k : Int) - 1).toNat = k - 1 := by omega
    have hk2 : k - 1 < x.p.length := by omega
    simp (disch := omega) [hk1]
    refine ⟨fun hk0 => ⟨by omega, fun e3 => hbad ?_, fun e3 => ?_⟩, fun hk0 => ?_⟩
    · simp only [goodPin, hk0, forall_const, not_and]
      intro _ e4
      simp [e4] at e3
    · refine hgood ⟨by simp [pinIn, e1, e2], fun _ => ?_⟩
      by_cases e4 : pinLess x.p[k - 1] x.p[k] = true
      · exact e4
      · rw [if_neg e4] at e3
        split at e3 <;> omega
    · exact hgood ⟨by simp [pinIn, e1, e2], fun hh => by omega⟩
  · obtain rfl : k = x.p.length := by omega
    simp [impl_CylinderOk_r1_sh]
    exact (hc.2 fun j hj => hP j hj hj)

theorem impl_StateOk_ok : ∀ ds outs, F_StateOk ds = some outs → shL impl_StateOk_L (qRet outs) ds := F_StateOk_elim fun x y hp => by
  rw [impl_StateOk_L_sh]
  rw [p_CylinderOk hp]
  cases h : cylOk x with
  | false => simp [sttOk, h]
  | true =>
    have hs : 4 ≤ x.s ∧ x.s ≤ 96 := by simpa [within] using ((cylOk_iff x).1 h).1
    simp (disch := omega) [sttOk, h, wrap_id]
    cases within y.a 0 (x.s - 1) <;> simp
end Go.Mw

/- Sums, steps, states. -/
namespace Go.Mw
theorem cylOk_bounds {x : Cyl} (h : cylOk x = true) : (4 ≤ x.s ∧ x.s ≤ 96) ∧ (1 ≤ x.t ∧ x.t ≤ 100) ∧ x.p.length ≤ 100 := by
  have h := (cylOk_iff x).1 h
  exact ⟨by simpa [within] using h.1, by simpa [within] using h.2.1, h.2.2.1⟩
theorem cylOk_pin {x : Cyl} (h : cylOk x = true) {k : Nat} (hk : k < x.p.length) : (0 ≤ x.p[k].a ∧ x.p[k].a ≤ 99) ∧ (0 ≤ x.p[k].b ∧ x.p[k].b ≤ 95) := by
  have hb := cylOk_bounds h
  have h := (((cylOk_iff x).1 h).2.2.2 k hk).1
  simp [pinIn, within] at h
  omega
end Go.Mw

/- States: around, pins at an angle, start, stop, step. -/
namespace Go.Mw
theorem around_eq {n s : Int} (hs : 1 ≤ s) : (n.tmod s + s).tmod s = n % s := by
  have h2 := Int.lt_tmod_of_pos n (b := s) (by omega)
  rw [Int.tmod_eq_emod_of_nonneg (by omega), Int.add_emod_right]
  have e := Int.tmod_add_mul_tdiv n s
  rw [show n % s = (n.tmod s + s * n.tdiv s) % s by rw [e], Int.add_mul_emod_self_left]
theorem spec_l06Mod_ok : ∀ ds outs, F_l06Mod ds = some outs → shL spec_l06Mod_L (qRet outs) ds := F_l06Mod_elim fun n s hp => by
  rw [spec_l06Mod_L_sh]
  have h1 := Int.tmod_lt_of_pos n (b := s) (by omega)
  have h2 := Int.lt_tmod_of_pos n (b := s) (by omega)
  simp (disch := omega) [wrap_id, around_eq]
  omega
theorem impl_around_ok : ∀ ds outs, F_around ds = some outs → shL impl_around_L (qRet outs) ds := F_around_elim fun n s hp => by
  rw [impl_around_L_sh]
  have h1 := Int.tmod_lt_of_pos n (b := s) (by omega)
  have h2 := Int.lt_tmod_of_pos n (b := s) (by omega)
  simp (disch := omega) [wrap_id, around_eq]
  omega

def pinsGo (x : Cyl) (a : Int) (k : Nat) : List Int := ((x.p.take k).filter fun p => p.b == a % x.s).map (·.a)
theorem pinsGo_succ {x : Cyl} {a : Int} {k : Nat} (h : k < x.p.length) : pinsGo x a (k + 1) = pinsGo x a k ++ (if x.p[k].b = a % x.s then [x.p[k].a] else []) := by
  unfold pinsGo
  rw [take_succ_get h, List.filter_append, List.map_append]
  congr 1
  by_cases h2 : x.p[k].b = a % x.s <;> simp [h2]
theorem pinsGo_len {x : Cyl} {a : Int} {k : Nat} (h : k ≤ x.p.length) : (pinsGo x a k).length ≤ k := by
  unfold pinsGo
  rw [List.length_map]
  refine Nat.le_trans (List.length_filter_le _ _) ?_
  simp; omega
theorem spec_PinsAt_ok : ∀ ds outs, F_PinsAt ds = some outs → shL spec_PinsAt_L (qRet outs) ds := F_PinsAt_elim fun x a hp => by
  rw [spec_PinsAt_L_sh]
  rw [P1_lst0, p_CylinderOk hp]
  cases h : cylOk x with
  | false => simp [pinsAt, h]
  | true =>
    have hb := cylOk_bounds h
    cases h2 : within a (-1000000) 1000000 with
    | false => simp [pinsAt, h, h2]
    | true =>
      have hw : -1000000 ≤ a ∧ a ≤ 1000000 := by simpa [within] using h2
      simp [pinsAt, h, h2]
      refine loop_upto x.p.length (fun k => [.int .i64 a, .int .i64 k, vL I1 v1 (pinsGo x a k), .int .i64 x.s, .int .i64 x.t, vL I2 v2 x.p]) (by intro i j _ _ h; simp at h; omega) (fun _ => True) (by simp [pinsGo]) trivial ?_
      intro k hk _
      have hl := pinsGo_len (a := a) hk
      rw [spec_PinsAt_b0_sh]
      simp [p_l06Mod (n := a) (s := x.s) (by omega)]
      refine ⟨fun h3 => ?_, fun h3 => ?_⟩
      · rw [pinsGo_succ h3]
        by_cases h4 : x.p[k].b = a % x.s
        · simp (disch := omega) [h3, h4, wrap_id]
          omega
        · simp (disch := omega) [h3, h4, wrap_id]
      · obtain rfl : k = x.p.length := by omega
        simp [spec_PinsAt_r1_sh, pinsGo]
theorem impl_PinsAt_ok : ∀ ds outs, F_PinsAt ds = some outs → shL impl_PinsAt_L (qRet outs) ds := F_PinsAt_elim fun x a hp => by
  rw [impl_PinsAt_L_sh]
  rw [p_CylinderOk hp]
  cases h : cylOk x with
  | false => simp [pinsAt, h]
  | true =>
    have hb := cylOk_bounds h
    cases h2 : within a (-1000000) 1000000 with
    | false => simp [pinsAt, h, h2]
    | true =>
      have hw : -1000000 ≤ a ∧ a ≤ 1000000 := by simpa [within] using h2
      simp [pinsAt, h, h2]
      refine loop_upto x.p.length (fun k => [.int .i64 a, vL I2 v2 x.p, .int .i64 x.p.length, .int .i64 k, vL I1 v1 (pinsGo x a k), .int .i64 x.s, .int .i64 x.t, vL I2 v2 x.p]) (by intro i j _ _ h; simp at h; omega) (fun _ => True) (by simp [pinsGo]) trivial ?_
      intro k hk _
      have hl := pinsGo_len (a := a) hk
      rw [impl_PinsAt_b0_sh]
      simp [p_around (n := a) (s := x.s) (by omega)]
      refine ⟨fun h3 => ?_, fun h3 => ?_⟩
      · rw [pinsGo_succ h3]
        by_cases h4 : x.p[k].b = a % x.s
        · simp (disch := omega) [h3, h4, wrap_id]
          omega
        · simp (disch := omega) [h3, h4, wrap_id]
      · obtain rfl : k = x.p.length := by omega
        simp [impl_PinsAt_r1_sh, pinsGo]
theorem pinsAt_len {x : Cyl} (_h : x.p.length ≤ 1048576) (a : Int) : (pinsAt x a).length ≤ 100 := by
  unfold pinsAt
  split
  · rename_i hc
    have hb := cylOk_bounds (by simp at hc; exact hc.1)
    rw [List.length_map]
    exact Nat.le_trans (List.length_filter_le _ _) hb.2.2
  · simp

theorem sttOk_iff (x : Cyl) (y : Stt) : sttOk x y = true ↔ cylOk x = true ∧ (0 ≤ y.a ∧ y.a ≤ x.s - 1) ∧ (0 ≤ y.p ∧ y.p ≤ 100000) := by
  simp [sttOk, within]
theorem impl_StartBox_ok : ∀ ds outs, F_StartBox ds = some outs → shL impl_StartBox_L (qRet outs) ds := F_StartBox_elim fun x y hp => by
  rw [impl_StartBox_L_sh]
  rw [p_StateOk hp]
  cases h : sttOk x y <;> cases h2 : y.n <;> simp [startBox, h, h2]
theorem impl_StopBox_ok : ∀ ds outs, F_StopBox ds = some outs → shL impl_StopBox_L (qRet outs) ds := F_StopBox_elim fun x y hp => by
  rw [impl_StopBox_L_sh]
  rw [p_StateOk hp]
  cases h : sttOk x y <;> cases h2 : y.n <;> simp [stopBox, h, h2]
theorem impl_StepsLeft_ok : ∀ ds outs, F_StepsLeft ds = some outs → shL impl_StepsLeft_L (qRet outs) ds := F_StepsLeft_elim fun x y hp => by
  rw [impl_StepsLeft_L_sh]
  rw [p_StateOk hp]
  cases h : sttOk x y with
  | false => simp [stepsLeft, h]
  | true =>
    have hs := (sttOk_iff x y).1 h
    have hb := cylOk_bounds hs.1
    cases h2 : y.n <;> simp (disch := omega) [stepsLeft, h, h2, wrap_id]
end Go.Mw

/- Steps and runs. -/
namespace Go.Mw
theorem next_a {x : Cyl} {y : Stt} (hs : 0 ≤ y.a) (_h2 : y.a ≤ x.s - 1) : (y.a + 1).tmod x.s = (y.a + 1) % x.s := Int.tmod_eq_emod_of_nonneg (by omega)
theorem next_0 {x : Cyl} {y : Stt} (h : (y.a + 1) % x.s = 0) : nextStt x y = ⟨0, false, y.p + (pinsAt x y.a).length⟩ := by simp [nextStt, h]
theorem next_1 {x : Cyl} {y : Stt} (h : ¬ (y.a + 1) % x.s = 0) : nextStt x y = ⟨(y.a + 1) % x.s, true, y.p + (pinsAt x y.a).length⟩ := by simp [nextStt, h]

theorem impl_stepBox_ok : ∀ ds outs, F_stepBox ds = some outs → shL impl_stepBox_L (qRet outs) ds := F_stepBox_elim fun x y hp => by
  rw [impl_stepBox_L_sh]
  rw [p_StateOk hp]
  cases h : sttOk x y with
  | false => simp [canStep, h]
  | true =>
    have hs := (sttOk_iff x y).1 h
    have hb := cylOk_bounds hs.1
    cases h2 : y.n with
    | false => simp [canStep, h2]
    | true =>
      have hl := pinsAt_len hp y.a
      have hn := next_a (x := x) (y := y) (by omega) (by omega)
      have hs0 : ¬ x.s = 0 := by omega
      by_cases h0 : (y.a + 1) % x.s = 0
      · have e := next_0 h0
        cases hc : sttOk x ⟨0, false, y.p + (pinsAt x y.a).length⟩ <;>
          simp (disch := omega) [canStep, h, h2, e, hc, p_PinsAt, p_StateOk, wrap_id, hn, h0, hs0]
      · have e := next_1 h0
        have h0' : ((y.a + 1) % x.s != 0) = true := by simp [h0]
        cases hc : sttOk x ⟨(y.a + 1) % x.s, true, y.p + (pinsAt x y.a).length⟩ <;>
          simp (disch := omega) [canStep, h, h2, e, hc, p_PinsAt, p_StateOk, wrap_id, hn, h0', hs0]
theorem impl_StepBox_ok : ∀ ds outs, F_StepBox ds = some outs → shL impl_StepBox_L (qRet outs) ds := F_StepBox_elim fun x y hp => by
  rw [impl_StepBox_L_sh, p_stepBox hp]; simp
theorem canStep_iff (x : Cyl) (y : Stt) : canStep x y = true ↔ sttOk x y = true ∧ y.n = true ∧ sttOk x (nextStt x y) = true := by
  simp [canStep, and_assoc]
theorem itS_on {x : Cyl} {y : Stt} (h : sttOk x y = true) (hn : y.n = true) : ∀ k, k < runN x y → (itS x y k).a = y.a + k ∧ (itS x y k).n = true
  | 0, _ => by simp [itS, hn]
  | k + 1, hk => by
    have ih := itS_on h hn k (by omega)
    have hs := (sttOk_iff x y).1 h
    unfold runN at hk
    have e : (y.a + k + 1) % x.s = y.a + k + 1 := Int.emod_eq_of_lt (by omega) (by omega)
    simp only [itS, nextStt, ih.1, e]
    simp; omega
theorem itS_off {x : Cyl} {y : Stt} (h : sttOk x y = true) (hn : y.n = true) : (itS x y (runN x y)).a = 0 ∧ (itS x y (runN x y)).n = false := by
  have hs := (sttOk_iff x y).1 h
  obtain ⟨k, hk⟩ : ∃ k, runN x y = k + 1 := ⟨runN x y - 1, by unfold runN; omega⟩
  have ih := itS_on h hn k (by omega)
  rw [hk]
  have e : (y.a + k + 1) % x.s = 0 := by
    rw [show y.a + k + 1 = x.s by unfold runN at hk; omega, Int.emod_self]
  simp only [itS, nextStt, ih.1, e]
  simp
theorem itL_len {x : Cyl} {y : Stt} (h : x.p.length ≤ 1048576) : ∀ k, (itL x y k).length ≤ 100 * k
  | 0 => by simp [itL]
  | k + 1 => by
    have ih := itL_len (y := y) h k
    have hp := pinsAt_len h (itS x y k).a
    simp only [itL, List.length_append]; omega
theorem impl_RunBox_ok : ∀ ds outs, F_RunBox ds = some outs → shL impl_RunBox_L (qRet outs) ds := F_RunBox_elim fun x y hp => by
  rw [impl_RunBox_L_sh]
  rw [p_StateOk hp]
  cases h : sttOk x y with
  | false => simp [runBox, runOk, h]
  | true =>
  have hs := (sttOk_iff x y).1 h
  have hb := cylOk_bounds hs.1
  cases h2 : y.n with
  | false =>
    simp [runBox, runOk, h, h2]
    refine loop_upto 0 (fun k => [vL I1 v1 [], .int .i64 x.s, .int .i64 x.t, vL I2 v2 x.p, .int .i64 y.a, .bool false, .int .i64 y.p, .int .i64 0, .bool false, .int .i64 0, .int .i64 y.a, .bool false, .int .i64 y.p]) (by omega) (fun _ => True) (by simp) trivial ?_
    intro k hk _
    rw [impl_RunBox_b0_sh]
    simp [impl_RunBox_r1_sh]
  | true =>
    simp []
    have hN : runN x y ≤ 96 := by unfold runN; omega
    refine loop_upto (runN x y) (fun k => [vL I1 v1 (itL x y k), .int .i64 x.s, .int .i64 x.t, vL I2 v2 x.p, .int .i64 y.a, .bool true, .int .i64 y.p, .int .i64 0, .bool false, .int .i64 0, .int .i64 (itS x y k).a, .bool (itS x y k).n, .int .i64 (itS x y k).p]) ?_ (fun k => ∀ j, j < k → canStep x (itS x y j) = true) (by simp [itS, itL, h2]) (by simp) ?_
    · intro i j hi hj he
      simp at he
      have hoff := itS_off h h2
      rcases Nat.lt_or_eq_of_le hi with hi | rfl
      · rcases Nat.lt_or_eq_of_le hj with hj | rfl
        · have := itS_on h h2 i hi
          have := itS_on h h2 j hj
          omega
        · have := itS_on h h2 i hi
          simp [this.2, hoff.2] at he
      · rcases Nat.lt_or_eq_of_le hj with hj | rfl
        · have := itS_on h h2 j hj
          simp [this.2, hoff.2] at he
        · rfl
    intro k hk hP
    have hlen := itL_len (y := y) hp k
    have hpl := pinsAt_len hp (itS x y k).a
    rw [impl_RunBox_b0_sh]
    rcases Nat.lt_or_eq_of_le hk with hk | rfl
    · have hon := itS_on h h2 k hk
      have hka : Stt.mk (itS x y k).a true (itS x y k).p = itS x y k := by rw [← hon.2]
      cases hc : canStep x (itS x y k) with
      | false =>
        have hro : runOk x y = false := by
          cases hr : runOk x y with
          | false => rfl
          | true =>
            simp [runOk] at hr
            exact absurd (hr.2.2 k hk) (by simp [hc])
        simp [hon.2, p_stepBox, hp, hka, hc, runBox, hro, h2]
      | true =>
        simp [hon.2, p_stepBox, hp, hka, hc]
        refine ⟨by omega, hk, by simp [itS, itL], fun j hj => ?_⟩
        rcases Nat.lt_or_eq_of_le (Nat.le_of_lt_succ hj) with hj | rfl
        · exact hP j hj
        · exact hc
    · have hoff := itS_off h h2
      have hro : runOk x y = true := by
        simp [runOk, h, h2]
        exact hP
      simp [hoff.2, impl_RunBox_r1_sh, runBox, hro]
end Go.Mw

/- Digits; boxes. -/
namespace Go.Mw
end Go.Mw

/- Checked digits. -/
namespace Go.Mw
end Go.Mw

/- Boxes; moods. -/
namespace Go.Mw
end Go.Mw

/- Moods. -/
namespace Go.Mw
/-- Which of the numbers below n stand in the list. -/
def seenOf (l : List Int) (n : Nat) : List Bool := (List.range n).map fun j : Nat => decide ((j : Int) ∈ l)
@[simp] theorem seenOf_len {l : List Int} {n : Nat} : (seenOf l n).length = n := by simp [seenOf]
end Go.Mw

/- What functions compute, in plain terms: benches and workshops. -/
namespace Go.Mw
/-! memory -/
/-! benches -/
/-! workshops -/
def Shop.bench (w : Shop) : Bench := ⟨w.s, w.t, w.p, w.o⟩
end Go.Mw

/- Functions of the program, as small pure programs (printed by a program of ours). -/
namespace Go.Mw
noncomputable section
end
end Go.Mw

/- Benches: memory. -/
namespace Go.Mw
end Go.Mw

/- Benches: memory that is marked. -/
namespace Go.Mw
end Go.Mw

/- Benches: memory; what is a fine bench. -/
namespace Go.Mw
end Go.Mw

/- Benches: laws, copies, changed pins. -/
namespace Go.Mw
end Go.Mw

/- Benches: changed pins, copies, new benches. -/
namespace Go.Mw
end Go.Mw

/- New benches; combs, springs, workshops. -/
namespace Go.Mw
@[simp] theorem P1_lstL2 {a : List T2} {k : V → Prop} : P1 (.lst [.sl [.sc, .sc]] false 1) [vL I2 v2 a] k ↔ k (vL IL2 vLL2 [a]) := P1_of (by simp [Prim.run, aksOk, akOk, chunk, V.pack, vL, vLL2, AK.eqs_refl, IL2]) k
end Go.Mw

/- Combs, workshops. -/
namespace Go.Mw
end Go.Mw

/- Workshops. -/
namespace Go.Mw
end Go.Mw

/- Workshops: memory, opening. -/
namespace Go.Mw
@[simp] theorem P1_lst14 {a b c d : Int} {k : V → Prop} : P1 (.lst [.sc] false 4) [.int .i64 a, .int .i64 b, .int .i64 c, .int .i64 d] k ↔ k (vL I1 v1 [a, b, c, d]) := P1_of (by simp [Prim.run, aksOk, akOk, chunk, V.pack, vL, v1]) k
end Go.Mw

/- The sample workshop: the law. -/
namespace Go.Mw
noncomputable section
end
end Go.Mw

/- What functions compute, in plain terms: the bench's steps. -/
namespace Go.Mw
end Go.Mw

/- Functions of the program, as small pure programs (printed by a program of ours). -/
namespace Go.Mw
noncomputable section
end
end Go.Mw

/- Taking back; a step of the bench; pulling a pin. -/
namespace Go.Mw
end Go.Mw

/- Copies of a bench (spec); pulling a pin. -/
namespace Go.Mw
end Go.Mw

/- What functions compute, in plain terms: draws; stops and sums. -/
namespace Go.Mw
/-- A bitwise operation of the machine. -/
def land (a b : Int) : Int := IntKind.i64.wrap (BitVec.ofInt IntKind.i64.bits a &&& BitVec.ofInt IntKind.i64.bits b).toNat
def lxor (a b : Int) : Int := IntKind.i64.wrap (BitVec.ofInt IntKind.i64.bits a ^^^ BitVec.ofInt IntKind.i64.bits b).toNat
@[simp] theorem P1_and {a b : Int} {k : V → Prop} : P1 (.bin .and) [.int .i64 a, .int .i64 b] k ↔ k (.int .i64 (land a b)) := P1_of (by simp [Prim.run, binV, binI, land]) k
@[simp] theorem P1_xor {a b : Int} {k : V → Prop} : P1 (.bin .xor) [.int .i64 a, .int .i64 b] k ↔ k (.int .i64 (lxor a b)) := P1_of (by simp [Prim.run, binV, binI, lxor]) k
theorem P1_shr {a b : Int} {κ' : IntKind} {k : V → Prop} (hb : 0 ≤ b) : P1 (.bin .shr) [.int .i64 a, .int κ' b] k ↔ k (.int .i64 (a.fdiv (2 ^ (min b.toNat IntKind.i64.bits)))) := P1_of (by simp [Prim.run, binV]; omega) k
/-- A cursor: its bytes, the place, the hash. -/
structure Cur where
  b : List UInt8
  i : Int
  h : Int
def E_big (l : List UInt8) : List V := [vL I1 vY l]
noncomputable def F_big : List V → Option (List V) := mkF E_big (fun l => l.length ≤ 9223372036854775807) (fun l => [.bool (decide (1048576 < l.length))])
theorem F_big_inj : ∀ x y, E_big x = E_big y → x = y := by
  rintro l l' h
  simpa [E_big] using h
theorem F_big_elim {P : List V → List V → Prop} (h : ∀ (l : List UInt8), (l.length ≤ 9223372036854775807) → P [vL I1 vY l] [.bool (decide (1048576 < l.length))]) : ∀ ds outs, F_big ds = some outs → P ds outs := by
  intro ds outs hh
  obtain ⟨l, rfl, hp, rfl⟩ := mkF_inv hh
  exact h l hp
theorem p_big {l : List UInt8} {nr_ : Nat} {kk_ : V → Prop} (hp : l.length ≤ 9223372036854775807) : P1 (.call F_big 0 nr_) [vL I1 vY l] kk_ ↔ kk_ (.bool (decide (1048576 < l.length))) :=
  P1_callF (by unfold F_big; exact mkF_eq F_big_inj (l) hp)

def seedTo (l : List UInt8) : Nat → Int
  | 0 => 33091 + l.length
  | k + 1 => land (IntKind.i64.wrap (IntKind.i64.wrap (IntKind.i64.wrap (seedTo l k * 131) + (match l[k]? with | some x => (x.toNat : Int) | none => 0)) + 7)) 1073741823
def seedOf (l : List UInt8) : Int := seedTo l (min l.length 4000)
def E_l01New (l : List UInt8) : List V := [vL I1 vY l]
noncomputable def F_l01New : List V → Option (List V) := mkF E_l01New (fun l => l.length ≤ 1048576) (fun l => [vL I1 vY l, .int .i64 0, .int .i64 (seedOf l)])
theorem F_l01New_inj : ∀ x y, E_l01New x = E_l01New y → x = y := by
  rintro l l' h
  simpa [E_l01New] using h
theorem F_l01New_elim {P : List V → List V → Prop} (h : ∀ (l : List UInt8), (l.length ≤ 1048576) → P [vL I1 vY l] [vL I1 vY l, .int .i64 0, .int .i64 (seedOf l)]) : ∀ ds outs, F_l01New ds = some outs → P ds outs := by
  intro ds outs hh
  obtain ⟨l, rfl, hp, rfl⟩ := mkF_inv hh
  exact h l hp
theorem p_l01New {l : List UInt8} {nr_ : Nat} {kk_ : V → V → V → Prop} (hp : l.length ≤ 1048576) : P3 (.call F_l01New 0 nr_) [vL I1 vY l] kk_ ↔ kk_ (vL I1 vY l) (.int .i64 0) (.int .i64 (seedOf l)) :=
  P3_callF (by unfold F_l01New; exact mkF_eq F_l01New_inj (l) hp)

def hNext (h : Int) : Int := IntKind.i64.wrap (IntKind.i64.wrap (h * 6364136223846793005) + 1442695040888963407)
def hByte (h : Int) : Int := land (lxor (h.fdiv (2 ^ 33)) (h.fdiv (2 ^ 45))) 255
def cByte (x : Cur) : Int := match x.b[x.i.toNat]? with | some y => land (IntKind.i64.wrap (hByte (hNext x.h) + y.toNat)) 255 | none => hByte (hNext x.h)
def cStep (x : Cur) : Cur := ⟨x.b, if x.i < x.b.length then x.i + 1 else x.i, hNext x.h⟩
def E_l01Byte (x : Cur) : List V := [vL I1 vY x.b, .int .i64 x.i, .int .i64 x.h]
noncomputable def F_l01Byte : List V → Option (List V) := mkF E_l01Byte (fun x => 0 ≤ x.i ∧ x.b.length ≤ 1048576) (fun x => [.int .i64 (cByte x), .int .i64 ((cStep x).i), .int .i64 ((cStep x).h)])
theorem F_l01Byte_inj : ∀ x y, E_l01Byte x = E_l01Byte y → x = y := by
  rintro ⟨xb, xi, xh⟩ ⟨xb', xi', xh'⟩ h
  simpa [E_l01Byte] using h
theorem F_l01Byte_elim {P : List V → List V → Prop} (h : ∀ (x : Cur), (0 ≤ x.i ∧ x.b.length ≤ 1048576) → P [vL I1 vY x.b, .int .i64 x.i, .int .i64 x.h] [.int .i64 (cByte x), .int .i64 ((cStep x).i), .int .i64 ((cStep x).h)]) : ∀ ds outs, F_l01Byte ds = some outs → P ds outs := by
  intro ds outs hh
  obtain ⟨x, rfl, hp, rfl⟩ := mkF_inv hh
  exact h x hp
theorem p_l01Byte {x_b : List UInt8} {x_i : Int} {x_h : Int} {nr_ : Nat} {kk_ : V → V → V → Prop} (hp : 0 ≤ (⟨x_b, x_i, x_h⟩ : Cur).i ∧ (⟨x_b, x_i, x_h⟩ : Cur).b.length ≤ 1048576) : P3 (.call F_l01Byte 0 nr_) [vL I1 vY x_b, .int .i64 x_i, .int .i64 x_h] kk_ ↔ kk_ (.int .i64 (cByte (⟨x_b, x_i, x_h⟩ : Cur))) (.int .i64 ((cStep (⟨x_b, x_i, x_h⟩ : Cur)).i)) (.int .i64 ((cStep (⟨x_b, x_i, x_h⟩ : Cur)).h)) :=
  P3_callF (by unfold F_l01Byte; exact mkF_eq F_l01Byte_inj ((⟨x_b, x_i, x_h⟩ : Cur)) hp)

def cBelow (x : Cur) (n : Int) : Int := if n ≤ 0 then 0 else if n ≤ 256 then (cByte x).tmod n else
  (cByte x * 16777216 + cByte (cStep x) * 65536 + cByte (cStep (cStep x)) * 256 + cByte (cStep (cStep (cStep x)))).tmod n
def cAfter (x : Cur) (n : Int) : Cur := if n ≤ 0 then x else if n ≤ 256 then cStep x else cStep (cStep (cStep (cStep x)))
def E_l01Below : Cur × Int → List V := fun (x, n) => [vL I1 vY x.b, .int .i64 x.i, .int .i64 x.h, .int .i64 n]
noncomputable def F_l01Below : List V → Option (List V) := mkF E_l01Below (fun (x, _) => 0 ≤ x.i ∧ x.b.length ≤ 1048576) (fun (x, n) => [.int .i64 (cBelow x n), .int .i64 ((cAfter x n).i), .int .i64 ((cAfter x n).h)])
theorem F_l01Below_inj : ∀ x y, E_l01Below x = E_l01Below y → x = y := by
  rintro ⟨⟨xb, xi, xh⟩, n⟩ ⟨⟨xb', xi', xh'⟩, n'⟩ h
  simpa [E_l01Below, and_assoc] using h
theorem F_l01Below_elim {P : List V → List V → Prop} (h : ∀ (x : Cur) (n : Int), (0 ≤ x.i ∧ x.b.length ≤ 1048576) → P [vL I1 vY x.b, .int .i64 x.i, .int .i64 x.h, .int .i64 n] [.int .i64 (cBelow x n), .int .i64 ((cAfter x n).i), .int .i64 ((cAfter x n).h)]) : ∀ ds outs, F_l01Below ds = some outs → P ds outs := by
  intro ds outs hh
  obtain ⟨⟨x, n⟩, rfl, hp, rfl⟩ := mkF_inv hh
  exact h x n hp
theorem p_l01Below {x_b : List UInt8} {x_i : Int} {x_h : Int} {n : Int} {nr_ : Nat} {kk_ : V → V → V → Prop} (hp : 0 ≤ (⟨x_b, x_i, x_h⟩ : Cur).i ∧ (⟨x_b, x_i, x_h⟩ : Cur).b.length ≤ 1048576) : P3 (.call F_l01Below 0 nr_) [vL I1 vY x_b, .int .i64 x_i, .int .i64 x_h, .int .i64 n] kk_ ↔ kk_ (.int .i64 (cBelow (⟨x_b, x_i, x_h⟩ : Cur) n)) (.int .i64 ((cAfter (⟨x_b, x_i, x_h⟩ : Cur) n).i)) (.int .i64 ((cAfter (⟨x_b, x_i, x_h⟩ : Cur) n).h)) :=
  P3_callF (by unfold F_l01Below; exact mkF_eq F_l01Below_inj ((⟨x_b, x_i, x_h⟩ : Cur), n) hp)


def putPin : List T2 → T2 → List T2
  | [], p => [p]
  | a :: r, p => if pinLess a p then a :: putPin r p else if a = p then a :: r else p :: a :: r
def putNew : List T2 → T2 → Bool
  | [], _ => true
  | a :: r, p => if pinLess a p then putNew r p else decide (a ≠ p)
def E_l06Put : List T2 × T2 → List V := fun (l, y) => [vL I2 v2 l, .int .i64 y.a, .int .i64 y.b]
noncomputable def F_l06Put : List V → Option (List V) := mkF E_l06Put (fun (l, _) => l.length ≤ 1048576) (fun (l, y) => [vL I2 v2 (putPin l y), .bool (putNew l y)])
theorem F_l06Put_inj : ∀ x y, E_l06Put x = E_l06Put y → x = y := by
  rintro ⟨l, ⟨ya, yb⟩⟩ ⟨l', ⟨ya', yb'⟩⟩ h
  simpa [E_l06Put, and_assoc] using h
theorem F_l06Put_elim {P : List V → List V → Prop} (h : ∀ (l : List T2) (y : T2), (l.length ≤ 1048576) → P [vL I2 v2 l, .int .i64 y.a, .int .i64 y.b] [vL I2 v2 (putPin l y), .bool (putNew l y)]) : ∀ ds outs, F_l06Put ds = some outs → P ds outs := by
  intro ds outs hh
  obtain ⟨⟨l, y⟩, rfl, hp, rfl⟩ := mkF_inv hh
  exact h l y hp
theorem p_l06Put {l : List T2} {y_a : Int} {y_b : Int} {nr_ : Nat} {kk_ : V → V → Prop} (hp : l.length ≤ 1048576) : P2 (.call F_l06Put 0 nr_) [vL I2 v2 l, .int .i64 y_a, .int .i64 y_b] kk_ ↔ kk_ (vL I2 v2 (putPin l (⟨y_a, y_b⟩ : T2))) (.bool (putNew l (⟨y_a, y_b⟩ : T2))) :=
  P2_callF (by unfold F_l06Put; exact mkF_eq F_l06Put_inj (l, (⟨y_a, y_b⟩ : T2)) hp)

def cylTo (s t : Int) (x : Cur) : Nat → List T2 × Cur
  | 0 => ([], x)
  | k + 1 => (putPin (cylTo s t x k).1 ⟨cBelow (cylTo s t x k).2 t, cBelow (cAfter (cylTo s t x k).2 t) s⟩, cAfter (cAfter (cylTo s t x k).2 t) s)
def cylS (x : Cur) : Int := 4 + cBelow x 21
def cylT (x : Cur) : Int := 1 + cBelow (cAfter x 21) 8
def cylX (x : Cur) : Cur := cAfter (cAfter (cAfter x 21) 8) 10
def cylN (x : Cur) : Int := cBelow (cAfter (cAfter x 21) 8) 10
def cylOf (x : Cur) : Cyl := ⟨cylS x, cylT x, (cylTo (cylS x) (cylT x) (cylX x) (cylN x).toNat).1⟩
def cylEnd (x : Cur) : Cur := (cylTo (cylS x) (cylT x) (cylX x) (cylN x).toNat).2
def E_l06Cylinder (x : Cur) : List V := [vL I1 vY x.b, .int .i64 x.i, .int .i64 x.h]
noncomputable def F_l06Cylinder : List V → Option (List V) := mkF E_l06Cylinder (fun x => 0 ≤ x.i ∧ x.b.length ≤ 1048576) (fun x => [.int .i64 (cylOf x).s, .int .i64 (cylOf x).t, vL I2 v2 (cylOf x).p, .int .i64 ((cylEnd x).i), .int .i64 ((cylEnd x).h)])
theorem F_l06Cylinder_inj : ∀ x y, E_l06Cylinder x = E_l06Cylinder y → x = y := by
  rintro ⟨xb, xi, xh⟩ ⟨xb', xi', xh'⟩ h
  simpa [E_l06Cylinder] using h
theorem F_l06Cylinder_elim {P : List V → List V → Prop} (h : ∀ (x : Cur), (0 ≤ x.i ∧ x.b.length ≤ 1048576) → P [vL I1 vY x.b, .int .i64 x.i, .int .i64 x.h] [.int .i64 (cylOf x).s, .int .i64 (cylOf x).t, vL I2 v2 (cylOf x).p, .int .i64 ((cylEnd x).i), .int .i64 ((cylEnd x).h)]) : ∀ ds outs, F_l06Cylinder ds = some outs → P ds outs := by
  intro ds outs hh
  obtain ⟨x, rfl, hp, rfl⟩ := mkF_inv hh
  exact h x hp
theorem p_l06Cylinder {x_b : List UInt8} {x_i : Int} {x_h : Int} {nr_ : Nat} {kk_ : V → V → V → V → V → Prop} (hp : 0 ≤ (⟨x_b, x_i, x_h⟩ : Cur).i ∧ (⟨x_b, x_i, x_h⟩ : Cur).b.length ≤ 1048576) : P5 (.call F_l06Cylinder 0 nr_) [vL I1 vY x_b, .int .i64 x_i, .int .i64 x_h] kk_ ↔ kk_ (.int .i64 (cylOf (⟨x_b, x_i, x_h⟩ : Cur)).s) (.int .i64 (cylOf (⟨x_b, x_i, x_h⟩ : Cur)).t) (vL I2 v2 (cylOf (⟨x_b, x_i, x_h⟩ : Cur)).p) (.int .i64 ((cylEnd (⟨x_b, x_i, x_h⟩ : Cur)).i)) (.int .i64 ((cylEnd (⟨x_b, x_i, x_h⟩ : Cur)).h)) :=
  P5_callF (by unfold F_l06Cylinder; exact mkF_eq F_l06Cylinder_inj ((⟨x_b, x_i, x_h⟩ : Cur)) hp)

def E_l01PickInt : Cur × List Int → List V := fun (x, l) => [vL I1 vY x.b, .int .i64 x.i, .int .i64 x.h, vL I1 v1 l]
noncomputable def F_l01PickInt : List V → Option (List V) := mkF E_l01PickInt (fun (x, l) => 0 ≤ x.i ∧ x.b.length ≤ 1048576 ∧ 1 ≤ l.length ∧ l.length ≤ 1048576) (fun (x, l) => [.int .i64 ((l[(cBelow x l.length).toNat]?.getD 0)), .int .i64 ((cAfter x l.length).i), .int .i64 ((cAfter x l.length).h)])
theorem F_l01PickInt_inj : ∀ x y, E_l01PickInt x = E_l01PickInt y → x = y := by
  rintro ⟨⟨xb, xi, xh⟩, l⟩ ⟨⟨xb', xi', xh'⟩, l'⟩ h
  simpa [E_l01PickInt, and_assoc] using h
theorem F_l01PickInt_elim {P : List V → List V → Prop} (h : ∀ (x : Cur) (l : List Int), (0 ≤ x.i ∧ x.b.length ≤ 1048576 ∧ 1 ≤ l.length ∧ l.length ≤ 1048576) → P [vL I1 vY x.b, .int .i64 x.i, .int .i64 x.h, vL I1 v1 l] [.int .i64 ((l[(cBelow x l.length).toNat]?.getD 0)), .int .i64 ((cAfter x l.length).i), .int .i64 ((cAfter x l.length).h)]) : ∀ ds outs, F_l01PickInt ds = some outs → P ds outs := by
  intro ds outs hh
  obtain ⟨⟨x, l⟩, rfl, hp, rfl⟩ := mkF_inv hh
  exact h x l hp
theorem p_l01PickInt {x_b : List UInt8} {x_i : Int} {x_h : Int} {l : List Int} {nr_ : Nat} {kk_ : V → V → V → Prop} (hp : 0 ≤ (⟨x_b, x_i, x_h⟩ : Cur).i ∧ (⟨x_b, x_i, x_h⟩ : Cur).b.length ≤ 1048576 ∧ 1 ≤ l.length ∧ l.length ≤ 1048576) : P3 (.call F_l01PickInt 0 nr_) [vL I1 vY x_b, .int .i64 x_i, .int .i64 x_h, vL I1 v1 l] kk_ ↔ kk_ (.int .i64 ((l[(cBelow (⟨x_b, x_i, x_h⟩ : Cur) l.length).toNat]?.getD 0))) (.int .i64 ((cAfter (⟨x_b, x_i, x_h⟩ : Cur) l.length).i)) (.int .i64 ((cAfter (⟨x_b, x_i, x_h⟩ : Cur) l.length).h)) :=
  P3_callF (by unfold F_l01PickInt; exact mkF_eq F_l01PickInt_inj ((⟨x_b, x_i, x_h⟩ : Cur), l) hp)

def sttN (c : Cyl) : Int := max 1 (min 96 c.s)
def sttOf (x : Cur) (c : Cyl) : Stt := ⟨cBelow x (sttN c), decide (0 < cBelow (cAfter x (sttN c)) 3), (([0, 5, 77] : List Int)[(cBelow (cAfter (cAfter x (sttN c)) 3) 3).toNat]?).getD 0⟩
def sttEnd (x : Cur) (c : Cyl) : Cur := cAfter (cAfter (cAfter x (sttN c)) 3) 3
def E_l36State : Cur × Cyl → List V := fun (x, y) => [vL I1 vY x.b, .int .i64 x.i, .int .i64 x.h, .int .i64 y.s, .int .i64 y.t, vL I2 v2 y.p]
noncomputable def F_l36State : List V → Option (List V) := mkF E_l36State (fun (x, _) => 0 ≤ x.i ∧ x.b.length ≤ 1048576) (fun (x, y) => [.int .i64 (sttOf x y).a, .bool (sttOf x y).n, .int .i64 (sttOf x y).p, .int .i64 ((sttEnd x y).i), .int .i64 ((sttEnd x y).h)])
theorem F_l36State_inj : ∀ x y, E_l36State x = E_l36State y → x = y := by
  rintro ⟨⟨xb, xi, xh⟩, ⟨ys, yt, yp⟩⟩ ⟨⟨xb', xi', xh'⟩, ⟨ys', yt', yp'⟩⟩ h
  simpa [E_l36State, and_assoc] using h
theorem F_l36State_elim {P : List V → List V → Prop} (h : ∀ (x : Cur) (y : Cyl), (0 ≤ x.i ∧ x.b.length ≤ 1048576) → P [vL I1 vY x.b, .int .i64 x.i, .int .i64 x.h, .int .i64 y.s, .int .i64 y.t, vL I2 v2 y.p] [.int .i64 (sttOf x y).a, .bool (sttOf x y).n, .int .i64 (sttOf x y).p, .int .i64 ((sttEnd x y).i), .int .i64 ((sttEnd x y).h)]) : ∀ ds outs, F_l36State ds = some outs → P ds outs := by
  intro ds outs hh
  obtain ⟨⟨x, y⟩, rfl, hp, rfl⟩ := mkF_inv hh
  exact h x y hp
theorem p_l36State {x_b : List UInt8} {x_i : Int} {x_h : Int} {y_s : Int} {y_t : Int} {y_p : List T2} {nr_ : Nat} {kk_ : V → V → V → V → V → Prop} (hp : 0 ≤ (⟨x_b, x_i, x_h⟩ : Cur).i ∧ (⟨x_b, x_i, x_h⟩ : Cur).b.length ≤ 1048576) : P5 (.call F_l36State 0 nr_) [vL I1 vY x_b, .int .i64 x_i, .int .i64 x_h, .int .i64 y_s, .int .i64 y_t, vL I2 v2 y_p] kk_ ↔ kk_ (.int .i64 (sttOf (⟨x_b, x_i, x_h⟩ : Cur) (⟨y_s, y_t, y_p⟩ : Cyl)).a) (.bool (sttOf (⟨x_b, x_i, x_h⟩ : Cur) (⟨y_s, y_t, y_p⟩ : Cyl)).n) (.int .i64 (sttOf (⟨x_b, x_i, x_h⟩ : Cur) (⟨y_s, y_t, y_p⟩ : Cyl)).p) (.int .i64 ((sttEnd (⟨x_b, x_i, x_h⟩ : Cur) (⟨y_s, y_t, y_p⟩ : Cyl)).i)) (.int .i64 ((sttEnd (⟨x_b, x_i, x_h⟩ : Cur) (⟨y_s, y_t, y_p⟩ : Cyl)).h)) :=
  P5_callF (by unfold F_l36State; exact mkF_eq F_l36State_inj ((⟨x_b, x_i, x_h⟩ : Cur), (⟨y_s, y_t, y_p⟩ : Cyl)) hp)

def cur0 (l : List UInt8) : Cur := ⟨l, 0, seedOf l⟩
def E_DrawState (l : List UInt8) : List V := [vL I1 vY l]
noncomputable def F_DrawState : List V → Option (List V) := mkF E_DrawState (fun l => l.length ≤ 1048576) (fun l => [.int .i64 (cylOf (cur0 l)).s, .int .i64 (cylOf (cur0 l)).t, vL I2 v2 (cylOf (cur0 l)).p, .int .i64 (sttOf (cylEnd (cur0 l)) (cylOf (cur0 l))).a, .bool (sttOf (cylEnd (cur0 l)) (cylOf (cur0 l))).n, .int .i64 (sttOf (cylEnd (cur0 l)) (cylOf (cur0 l))).p])
theorem F_DrawState_inj : ∀ x y, E_DrawState x = E_DrawState y → x = y := by
  rintro l l' h
  simpa [E_DrawState] using h
theorem F_DrawState_elim {P : List V → List V → Prop} (h : ∀ (l : List UInt8), (l.length ≤ 1048576) → P [vL I1 vY l] [.int .i64 (cylOf (cur0 l)).s, .int .i64 (cylOf (cur0 l)).t, vL I2 v2 (cylOf (cur0 l)).p, .int .i64 (sttOf (cylEnd (cur0 l)) (cylOf (cur0 l))).a, .bool (sttOf (cylEnd (cur0 l)) (cylOf (cur0 l))).n, .int .i64 (sttOf (cylEnd (cur0 l)) (cylOf (cur0 l))).p]) : ∀ ds outs, F_DrawState ds = some outs → P ds outs := by
  intro ds outs hh
  obtain ⟨l, rfl, hp, rfl⟩ := mkF_inv hh
  exact h l hp
theorem p_DrawState {l : List UInt8} {nr_ : Nat} {kk_ : V → V → V → V → V → V → Prop} (hp : l.length ≤ 1048576) : P6 (.call F_DrawState 0 nr_) [vL I1 vY l] kk_ ↔ kk_ (.int .i64 (cylOf (cur0 l)).s) (.int .i64 (cylOf (cur0 l)).t) (vL I2 v2 (cylOf (cur0 l)).p) (.int .i64 (sttOf (cylEnd (cur0 l)) (cylOf (cur0 l))).a) (.bool (sttOf (cylEnd (cur0 l)) (cylOf (cur0 l))).n) (.int .i64 (sttOf (cylEnd (cur0 l)) (cylOf (cur0 l))).p) :=
  P6_callF (by unfold F_DrawState; exact mkF_eq F_DrawState_inj (l) hp)

def E_sameInts : List Int × List Int → List V := fun (l, m) => [vL I1 v1 l, vL I1 v1 m]
noncomputable def F_sameInts : List V → Option (List V) := mkF E_sameInts (fun (l, m) => l.length ≤ 1048576 ∧ m.length ≤ 1048576) (fun (l, m) => [.bool (decide (l = m))])
theorem F_sameInts_inj : ∀ x y, E_sameInts x = E_sameInts y → x = y := by
  rintro ⟨l, m⟩ ⟨l', m'⟩ h
  simpa [E_sameInts] using h
theorem F_sameInts_elim {P : List V → List V → Prop} (h : ∀ (l : List Int) (m : List Int), (l.length ≤ 1048576 ∧ m.length ≤ 1048576) → P [vL I1 v1 l, vL I1 v1 m] [.bool (decide (l = m))]) : ∀ ds outs, F_sameInts ds = some outs → P ds outs := by
  intro ds outs hh
  obtain ⟨⟨l, m⟩, rfl, hp, rfl⟩ := mkF_inv hh
  exact h l m hp
theorem p_sameInts {l : List Int} {m : List Int} {nr_ : Nat} {kk_ : V → Prop} (hp : l.length ≤ 1048576 ∧ m.length ≤ 1048576) : P1 (.call F_sameInts 0 nr_) [vL I1 v1 l, vL I1 v1 m] kk_ ↔ kk_ (.bool (decide (l = m))) :=
  P1_callF (by unfold F_sameInts; exact mkF_eq F_sameInts_inj (l, m) hp)

def E_FnStops (l : List UInt8) : List V := [vL I1 vY l]
noncomputable def F_FnStops : List V → Option (List V) := mkF E_FnStops (fun l => wfLY l) (fun _ => [.bool true])
theorem F_FnStops_inj : ∀ x y, E_FnStops x = E_FnStops y → x = y := by
  rintro l l' h
  simpa [E_FnStops] using h
theorem F_FnStops_elim {P : List V → List V → Prop} (h : ∀ (l : List UInt8), (wfLY l) → P [vL I1 vY l] [.bool true]) : ∀ ds outs, F_FnStops ds = some outs → P ds outs := by
  intro ds outs hh
  obtain ⟨l, rfl, hp, rfl⟩ := mkF_inv hh
  exact h l hp
theorem F_FnStops_law : ∀ ds, okTKs [.list false [.int .u8]] ds → F_FnStops ds = some [.bool true] := by
  intro ds g0
  obtain ⟨_, _, rfl, h0, g1⟩ := okTKs_cons g0
  obtain ⟨l, rfl, r0⟩ := dec_LY h0
  obtain rfl := okTKs_nil g1
  exact mkF_eq F_FnStops_inj (l) r0


end Go.Mw

/- Functions of the program, as small pure programs (printed by a program of ours). -/
namespace Go.Mw
noncomputable section
def laws_big_L : L := .seq (.rg []) (.seq (.rg [⟨[], .len, [.v 0], 1⟩, ⟨[], .bin .gtr, [.v 1, .k (.int .i64 1048576)], 1⟩]) (.ret [.v 2]))
theorem laws_big_L_sh (Q : QT) (x0 : V) : shL laws_big_L Q [x0] = (
  P1 (.len) [x0] fun v0 =>
  P1 (.bin .gtr) [v0, .int .i64 1048576] fun v1 =>
  Q .ret [v1]) := by kernel_rfl
def laws_big_S : Sig := ⟨[.val false [.sl [.sc]]], [(false, [.sc])], F_big⟩
def laws_big_hs : List NF := []

def spec_l01New_b0 : L := .seq (.seq (.seq (.rg [⟨[], .len, [.v 0], 1⟩, ⟨[], .bin .lss, [.v 2, .v 3], 1⟩, ⟨[(.v 4, true)], .bin .lss, [.v 2, .k (.int .i64 4000)], 1⟩, ⟨[], .pick, [.v 4, .v 5, .k (.bool false)], 1⟩]) (.ite (.v 6) (.skip) (.seq (.tup [.v 0, .v 1]) (.exit 0)))) (.seq (.block 1 (.seq (.rg [⟨[], .bin .mul, [.v 1, .k (.int .i64 131)], 1⟩, ⟨[], .idx [.sc], [.v 0, .v 2], 1⟩, ⟨[], .conv .i64, [.v 8], 1⟩, ⟨[], .bin .add, [.v 7, .v 9], 1⟩, ⟨[], .bin .add, [.v 10, .k (.int .i64 7)], 1⟩, ⟨[], .bin .and, [.v 11, .k (.int .i64 1073741823)], 1⟩]) (.tup [.v 0, .v 12, .v 2]))) (.rg [⟨[], .bin .add, [.v 2, .k (.int .i64 1)], 1⟩]))) (.tup [.v 0, .v 1, .v 3])
theorem spec_l01New_b0_sh (Q : QT) (x0 x1 x2 : V) : shL spec_l01New_b0 Q [x0, x1, x2] = (
  P1 (.len) [x0] fun v0 =>
  P1 (.bin .lss) [x2, v0] fun v1 =>
  ifB v1 (
    P1 (.bin .lss) [x2, .int .i64 4000] fun v2 =>
    ifB v2 (
      P1 (.bin .mul) [x1, .int .i64 131] fun v3 =>
      P1 (.idx [.sc]) [x0, x2] fun v4 =>
      P1 (.conv .i64) [v4] fun v5 =>
      P1 (.bin .add) [v3, v5] fun v6 =>
      P1 (.bin .add) [v6, .int .i64 7] fun v7 =>
      P1 (.bin .and) [v7, .int .i64 1073741823] fun v8 =>
      P1 (.bin .add) [x2, .int .i64 1] fun v9 =>
      Q .normal [x0, v8, v9]) (
      Q (.exit 0) [x0, x1])) (
    Q (.exit 0) [x0, x1])) := by kernel_rfl

def spec_l01New_r1 : L := .seq (.rg []) (.ret [.v 0, .k (.int .i64 0), .v 1])
theorem spec_l01New_r1_sh (Q : QT) (x0 x1 : V) : shL spec_l01New_r1 Q [x0, x1] = (
  Q .ret [x0, .int .i64 0, x1]) := by kernel_rfl

def spec_l01New_L : L := .seq (.rg []) (.seq (.rg [⟨[], .len, [.v 0], 1⟩, ⟨[], .bin .add, [.k (.int .i64 33091), .v 1], 1⟩]) (.seq (.seq (.rg []) (.block 0 (.seq (.tup [.v 0, .v 2, .k (.int .i64 0)]) (.loop (spec_l01New_b0))))) (spec_l01New_r1)))
theorem spec_l01New_L_sh (Q : QT) (x0 : V) : shL spec_l01New_L Q [x0] = (
  P1 (.len) [x0] fun v0 =>
  P1 (.bin .add) [.int .i64 33091, v0] fun v1 =>
  shL (.loop spec_l01New_b0) (qB 0 (qS (shL spec_l01New_r1 Q) Q)) [x0, v1, .int .i64 0]) := by kernel_rfl
def spec_l01New_S : Sig := ⟨[.new [.sl [.sc], .sc, .sc], .val false [.sl [.sc]]], [], F_l01New⟩
def spec_l01New_hs : List NF := [⟨[(0, .sc false [.ro [.sc]]), (3, .sc false [.sc])], [], [], 64⟩, ⟨[(0, .sc false [.ro [.sc]]), (3, .sc false [.sc]), (4, .sc false [.sc])], [], [], 64⟩, ⟨[(0, .sc false [.ro [.sc]]), (3, .sc false [.sc]), (4, .sc false [.sc])], [], [], 64⟩]

def spec_l01Byte_L : L := .seq (.rg []) (.seq (.rg [⟨[], .bin .mul, [.v 2, .k (.int .i64 6364136223846793005)], 1⟩, ⟨[], .bin .add, [.v 3, .k (.int .i64 1442695040888963407)], 1⟩]) (.seq (.rg [⟨[], .bin .shr, [.v 4, .k (.int .u64 33)], 1⟩, ⟨[], .bin .shr, [.v 4, .k (.int .u64 45)], 1⟩, ⟨[], .bin .xor, [.v 5, .v 6], 1⟩, ⟨[], .bin .and, [.v 7, .k (.int .i64 255)], 1⟩]) (.seq (.seq (.rg [⟨[], .len, [.v 0], 1⟩, ⟨[], .bin .lss, [.v 1, .v 9], 1⟩]) (.ite (.v 10) (.seq (.seq (.rg [⟨[], .idx [.sc], [.v 0, .v 1], 1⟩, ⟨[], .conv .i64, [.v 11], 1⟩, ⟨[], .bin .add, [.v 8, .v 12], 1⟩, ⟨[], .bin .and, [.v 13, .k (.int .i64 255)], 1⟩]) (.rg [⟨[], .bin .add, [.v 1, .k (.int .i64 1)], 1⟩])) (.tup [.v 14, .v 0, .v 15, .v 4])) (.seq (.skip) (.tup [.v 8, .v 0, .v 1, .v 4])))) (.seq (.rg []) (.ret [.v 0, .v 2, .v 3])))))
theorem spec_l01Byte_L_sh (Q : QT) (x0 x1 x2 : V) : shL spec_l01Byte_L Q [x0, x1, x2] = (
  P1 (.bin .mul) [x2, .int .i64 6364136223846793005] fun v0 =>
  P1 (.bin .add) [v0, .int .i64 1442695040888963407] fun v1 =>
  P1 (.bin .shr) [v1, .int .u64 33] fun v2 =>
  P1 (.bin .shr) [v1, .int .u64 45] fun v3 =>
  P1 (.bin .xor) [v2, v3] fun v4 =>
  P1 (.bin .and) [v4, .int .i64 255] fun v5 =>
  P1 (.len) [x0] fun v6 =>
  P1 (.bin .lss) [x1, v6] fun v7 =>
  ifB v7 (
    P1 (.idx [.sc]) [x0, x1] fun v8 =>
    P1 (.conv .i64) [v8] fun v9 =>
    P1 (.bin .add) [v5, v9] fun v10 =>
    P1 (.bin .and) [v10, .int .i64 255] fun v11 =>
    P1 (.bin .add) [x1, .int .i64 1] fun v12 =>
    Q .ret [v11, v12, v1]) (
    Q .ret [v5, x1, v1])) := by kernel_rfl
def spec_l01Byte_S : Sig := ⟨[.ptr [.sl [.sc], .sc, .sc]], [(false, [.sc])], F_l01Byte⟩
def spec_l01Byte_hs : List NF := [⟨[(3, .sc false [.sc])], [], [(0, [.ro [.sc], .sc, .sc])], 64⟩]

def spec_l01Below_L : L := .seq (.rg []) (.seq (.seq (.rg [⟨[], .bin .leq, [.v 3, .k (.int .i64 0)], 1⟩]) (.ite (.v 4) (.seq (.rg []) (.ret [.k (.int .i64 0), .v 1, .v 2])) (.skip))) (.seq (.seq (.rg [⟨[], .bin .leq, [.v 3, .k (.int .i64 256)], 1⟩]) (.ite (.v 5) (.seq (.rg [⟨[], .call F_l01Byte 0 1, [.v 0, .v 1, .v 2], 3⟩, ⟨[], .bin .rem, [.v 6, .v 3], 1⟩]) (.ret [.v 9, .v 7, .v 8])) (.skip))) (.seq (.rg [⟨[], .call F_l01Byte 0 1, [.v 0, .v 1, .v 2], 3⟩]) (.seq (.rg [⟨[], .call F_l01Byte 0 1, [.v 0, .v 7, .v 8], 3⟩]) (.seq (.rg [⟨[], .call F_l01Byte 0 1, [.v 0, .v 10, .v 11], 3⟩]) (.seq (.rg [⟨[], .call F_l01Byte 0 1, [.v 0, .v 13, .v 14], 3⟩]) (.seq (.rg [⟨[], .bin .mul, [.v 6, .k (.int .i64 16777216)], 1⟩, ⟨[], .bin .mul, [.v 9, .k (.int .i64 65536)], 1⟩, ⟨[], .bin .add, [.v 18, .v 19], 1⟩, ⟨[], .bin .mul, [.v 12, .k (.int .i64 256)], 1⟩, ⟨[], .bin .add, [.v 20, .v 21], 1⟩, ⟨[], .bin .add, [.v 22, .v 15], 1⟩, ⟨[], .bin .rem, [.v 23, .v 3], 1⟩]) (.ret [.v 24, .v 16, .v 17]))))))))
theorem spec_l01Below_L_sh (Q : QT) (x0 x1 x2 x3 : V) : shL spec_l01Below_L Q [x0, x1, x2, x3] = (
  P1 (.bin .leq) [x3, .int .i64 0] fun v0 =>
  ifB v0 (
    Q .ret [.int .i64 0, x1, x2]) (
    P1 (.bin .leq) [x3, .int .i64 256] fun v1 =>
    ifB v1 (
      P3 (.call F_l01Byte 0 1) [x0, x1, x2] fun v2 v3 v4 =>
      P1 (.bin .rem) [v2, x3] fun v5 =>
      Q .ret [v5, v3, v4]) (
      P3 (.call F_l01Byte 0 1) [x0, x1, x2] fun v6 v7 v8 =>
      P3 (.call F_l01Byte 0 1) [x0, v7, v8] fun v9 v10 v11 =>
      P3 (.call F_l01Byte 0 1) [x0, v10, v11] fun v12 v13 v14 =>
      P3 (.call F_l01Byte 0 1) [x0, v13, v14] fun v15 v16 v17 =>
      P1 (.bin .mul) [v6, .int .i64 16777216] fun v18 =>
      P1 (.bin .mul) [v9, .int .i64 65536] fun v19 =>
      P1 (.bin .add) [v18, v19] fun v20 =>
      P1 (.bin .mul) [v12, .int .i64 256] fun v21 =>
      P1 (.bin .add) [v20, v21] fun v22 =>
      P1 (.bin .add) [v22, v15] fun v23 =>
      P1 (.bin .rem) [v23, x3] fun v24 =>
      Q .ret [v24, v16, v17]))) := by kernel_rfl
def spec_l01Below_S : Sig := ⟨[.ptr [.sl [.sc], .sc, .sc], .val false [.sc]], [(false, [.sc])], F_l01Below⟩
def spec_l01Below_hs : List NF := []

def spec_l06Put_b0 : L := .seq (.seq (.seq (.rg [⟨[], .len, [.v 0], 1⟩, ⟨[], .bin .lss, [.v 1, .v 4], 1⟩, ⟨[(.v 5, true)], .idx [.sc, .sc], [.v 0, .v 1], 2⟩, ⟨[(.v 5, true)], .call F_l06Less 0 1, [.v 6, .v 7, .v 2, .v 3], 1⟩, ⟨[], .pick, [.v 5, .v 8, .k (.bool false)], 1⟩]) (.ite (.v 9) (.skip) (.seq (.tup [.v 0, .v 1, .v 2, .v 3]) (.exit 0)))) (.block 1 (.seq (.rg [⟨[], .bin .add, [.v 1, .k (.int .i64 1)], 1⟩]) (.tup [.v 0, .v 10, .v 2, .v 3])))) (.tup [.v 0, .v 1, .v 2, .v 3])
theorem spec_l06Put_b0_sh (Q : QT) (x0 x1 x2 x3 : V) : shL spec_l06Put_b0 Q [x0, x1, x2, x3] = (
  P1 (.len) [x0] fun v0 =>
  P1 (.bin .lss) [x1, v0] fun v1 =>
  ifB v1 (
    P2 (.idx [.sc, .sc]) [x0, x1] fun v2 v3 =>
    P1 (.call F_l06Less 0 1) [v2, v3, x2, x3] fun v4 =>
    ifB v4 (
      P1 (.bin .add) [x1, .int .i64 1] fun v5 =>
      Q .normal [x0, v5, x2, x3]) (
      Q (.exit 0) [x0, x1, x2, x3])) (
    Q (.exit 0) [x0, x1, x2, x3])) := by kernel_rfl

def spec_l06Put_r1 : L := .seq (.seq (.rg [⟨[], .len, [.v 0], 1⟩, ⟨[], .bin .lss, [.v 1, .v 4], 1⟩, ⟨[(.v 5, true)], .idx [.sc, .sc], [.v 0, .v 1], 2⟩, ⟨[(.v 5, true)], .eqa false [.i, .i], [.v 6, .v 7, .v 2, .v 3], 1⟩, ⟨[], .pick, [.v 5, .v 8, .k (.bool false)], 1⟩]) (.ite (.v 9) (.seq (.rg [⟨[], .lst [.sc, .sc] true 0, [], 1⟩, ⟨[], .app [.sc, .sc] 16, [.v 10, .v 0], 1⟩]) (.ret [.v 11, .k (.bool false)])) (.skip))) (.seq (.rg [⟨[], .lst [.sc, .sc] true 0, [], 1⟩, ⟨[], .lsub [.sc, .sc], [.v 0, .k (.int .i64 0), .v 1], 1⟩, ⟨[], .app [.sc, .sc] 16, [.v 10, .v 11], 1⟩, ⟨[], .lst [.sc, .sc] true 1, [.v 2, .v 3], 1⟩, ⟨[], .app [.sc, .sc] 16, [.v 12, .v 13], 1⟩, ⟨[], .lsub [.sc, .sc], [.v 0, .v 1], 1⟩, ⟨[], .app [.sc, .sc] 16, [.v 14, .v 15], 1⟩]) (.ret [.v 16, .k (.bool true)]))
theorem spec_l06Put_r1_sh (Q : QT) (x0 x1 x2 x3 : V) : shL spec_l06Put_r1 Q [x0, x1, x2, x3] = (
  P1 (.len) [x0] fun v0 =>
  P1 (.bin .lss) [x1, v0] fun v1 =>
  ifB v1 (
    P2 (.idx [.sc, .sc]) [x0, x1] fun v2 v3 =>
    P1 (.eqa false [.i, .i]) [v2, v3, x2, x3] fun v4 =>
    ifB v4 (
      P1 (.lst [.sc, .sc] true 0) [] fun v5 =>
      P1 (.app [.sc, .sc] 16) [v5, x0] fun v6 =>
      Q .ret [v6, .bool false]) (
      P1 (.lst [.sc, .sc] true 0) [] fun v7 =>
      P1 (.lsub [.sc, .sc]) [x0, .int .i64 0, x1] fun v8 =>
      P1 (.app [.sc, .sc] 16) [v7, v8] fun v9 =>
      P1 (.lst [.sc, .sc] true 1) [x2, x3] fun v10 =>
      P1 (.app [.sc, .sc] 16) [v9, v10] fun v11 =>
      P1 (.lsub [.sc, .sc]) [x0, x1] fun v12 =>
      P1 (.app [.sc, .sc] 16) [v11, v12] fun v13 =>
      Q .ret [v13, .bool true])) (
    P1 (.lst [.sc, .sc] true 0) [] fun v14 =>
    P1 (.lsub [.sc, .sc]) [x0, .int .i64 0, x1] fun v15 =>
    P1 (.app [.sc, .sc] 16) [v14, v15] fun v16 =>
    P1 (.lst [.sc, .sc] true 1) [x2, x3] fun v17 =>
    P1 (.app [.sc, .sc] 16) [v16, v17] fun v18 =>
    P1 (.lsub [.sc, .sc]) [x0, x1] fun v19 =>
    P1 (.app [.sc, .sc] 16) [v18, v19] fun v20 =>
    Q .ret [v20, .bool true])) := by kernel_rfl

def spec_l06Put_L : L := .seq (.rg []) (.seq (.rg []) (.seq (.block 0 (.seq (.tup [.v 0, .k (.int .i64 0), .v 1, .v 2]) (.loop (spec_l06Put_b0)))) (spec_l06Put_r1)))
theorem spec_l06Put_L_sh (Q : QT) (x0 x1 x2 : V) : shL spec_l06Put_L Q [x0, x1, x2] = (
  shL (.loop spec_l06Put_b0) (qB 0 (qS (shL spec_l06Put_r1 Q) Q)) [x0, .int .i64 0, x1, x2]) := by kernel_rfl
def spec_l06Put_S : Sig := ⟨[.val false [.sl [.sc, .sc]], .val true [.sc, .sc]], [(false, [.sl [.sc, .sc]]), (false, [.sc])], F_l06Put⟩
def spec_l06Put_hs : List NF := [⟨[(0, .sc false [.ro [.sc, .sc]]), (3, .ptr 64 0), (6, .sc false [.sc])], [], [(64, [.sc, .sc])], 65⟩, ⟨[(0, .sc false [.ro [.sc, .sc]]), (3, .ptr 64 0), (6, .sc false [.sc])], [], [(64, [.sc, .sc])], 65⟩, ⟨[(0, .sc false [.ro [.sc, .sc]]), (3, .ptr 64 0), (6, .sc false [.sc])], [], [(64, [.sc, .sc])], 65⟩]

def spec_l06Cylinder_b0 : L := .seq (.seq (.seq (.rg [⟨[], .bin .gtr, [.v 0, .k (.int .i64 0)], 1⟩]) (.ite (.v 9) (.skip) (.seq (.tup [.v 1, .v 2, .v 3, .v 4, .v 5, .v 6, .v 7, .v 8]) (.exit 0)))) (.seq (.block 1 (.seq (.rg [⟨[], .call F_l01Below 0 1, [.v 2, .v 3, .v 4, .v 8], 3⟩, ⟨[], .call F_l01Below 0 1, [.v 2, .v 11, .v 12, .v 7], 3⟩, ⟨[], .call F_l06Put 0 2, [.v 1, .v 10, .v 13], 2⟩]) (.tup [.v 0, .v 16, .v 2, .v 14, .v 15, .v 5, .v 6, .v 7, .v 8]))) (.rg [⟨[], .bin .sub, [.v 0, .k (.int .i64 1)], 1⟩]))) (.tup [.v 9, .v 1, .v 2, .v 3, .v 4, .v 5, .v 6, .v 7, .v 8])
theorem spec_l06Cylinder_b0_sh (Q : QT) (x0 x1 x2 x3 x4 x5 x6 x7 x8 : V) : shL spec_l06Cylinder_b0 Q [x0, x1, x2, x3, x4, x5, x6, x7, x8] = (
  P1 (.bin .gtr) [x0, .int .i64 0] fun v0 =>
  ifB v0 (
    P3 (.call F_l01Below 0 1) [x2, x3, x4, x8] fun v1 v2 v3 =>
    P3 (.call F_l01Below 0 1) [x2, v2, v3, x7] fun v4 v5 v6 =>
    P2 (.call F_l06Put 0 2) [x1, v1, v4] fun v7 _ =>
    P1 (.bin .sub) [x0, .int .i64 1] fun v9 =>
    Q .normal [v9, v7, x2, v5, v6, x5, x6, x7, x8]) (
    Q (.exit 0) [x1, x2, x3, x4, x5, x6, x7, x8])) := by kernel_rfl

def spec_l06Cylinder_r1 : L := .seq (.rg []) (.ret [.v 6, .v 7, .v 0, .v 2, .v 3])
theorem spec_l06Cylinder_r1_sh (Q : QT) (x0 x1 x2 x3 x4 x5 x6 x7 : V) : shL spec_l06Cylinder_r1 Q [x0, x1, x2, x3, x4, x5, x6, x7] = (
  Q .ret [x6, x7, x0, x2, x3]) := by kernel_rfl

def spec_l06Cylinder_L : L := .seq (.rg []) (.seq (.rg [⟨[], .call F_l01Below 0 1, [.v 0, .v 1, .v 2, .k (.int .i64 21)], 3⟩, ⟨[], .bin .add, [.k (.int .i64 4), .v 3], 1⟩, ⟨[], .call F_l01Below 0 1, [.v 0, .v 4, .v 5, .k (.int .i64 8)], 3⟩, ⟨[], .bin .add, [.k (.int .i64 1), .v 7], 1⟩]) (.seq (.seq (.rg [⟨[], .call F_l01Below 0 1, [.v 0, .v 8, .v 9, .k (.int .i64 10)], 3⟩]) (.block 0 (.seq (.tup [.v 11, .k (.list [.sc, .sc] []), .v 0, .v 12, .v 13, .k (.int .i64 0), .k (.int .i64 0), .v 6, .v 10]) (.loop (spec_l06Cylinder_b0))))) (spec_l06Cylinder_r1)))
theorem spec_l06Cylinder_L_sh (Q : QT) (x0 x1 x2 : V) : shL spec_l06Cylinder_L Q [x0, x1, x2] = (
  P3 (.call F_l01Below 0 1) [x0, x1, x2, .int .i64 21] fun v0 v1 v2 =>
  P1 (.bin .add) [.int .i64 4, v0] fun v3 =>
  P3 (.call F_l01Below 0 1) [x0, v1, v2, .int .i64 8] fun v4 v5 v6 =>
  P1 (.bin .add) [.int .i64 1, v4] fun v7 =>
  P3 (.call F_l01Below 0 1) [x0, v5, v6, .int .i64 10] fun v8 v9 v10 =>
  shL (.loop spec_l06Cylinder_b0) (qB 0 (qS (shL spec_l06Cylinder_r1 Q) Q)) [v8, .list [.sc, .sc] [], x0, v9, v10, .int .i64 0, .int .i64 0, v3, v7]) := by kernel_rfl
def spec_l06Cylinder_S : Sig := ⟨[.ptr [.sl [.sc], .sc, .sc]], [(true, [.sc, .sc, .sl [.sc, .sc]])], F_l06Cylinder⟩
def spec_l06Cylinder_hs : List NF := [⟨[(2, .ptr 64 0), (3, .ptr 65 0)], [(66, true, [.sc, .sc])], [(0, [.ro [.sc], .sc, .sc]), (64, [.sc, .sc, .nil]), (65, [.sc, .sc, .own 66])], 67⟩, ⟨[(0, .ptr 0 0), (2, .ptr 64 0), (3, .ptr 65 0), (4, .sc false [.sc])], [(66, true, [.sc, .sc])], [(0, [.ro [.sc], .sc, .sc]), (64, [.sc, .sc, .nil]), (65, [.sc, .sc, .own 66])], 67⟩, ⟨[(0, .ptr 0 0), (2, .ptr 64 0), (3, .ptr 65 0), (4, .sc false [.sc])], [(66, true, [.sc, .sc])], [(0, [.ro [.sc], .sc, .sc]), (64, [.sc, .sc, .nil]), (65, [.sc, .sc, .own 66])], 67⟩]

def spec_l01PickInt_L : L := .seq (.rg []) (.seq (.rg [⟨[], .len, [.v 3], 1⟩, ⟨[], .call F_l01Below 0 1, [.v 0, .v 1, .v 2, .v 4], 3⟩, ⟨[], .idx [.sc], [.v 3, .v 5], 1⟩]) (.ret [.v 8, .v 6, .v 7]))
theorem spec_l01PickInt_L_sh (Q : QT) (x0 x1 x2 x3 : V) : shL spec_l01PickInt_L Q [x0, x1, x2, x3] = (
  P1 (.len) [x3] fun v0 =>
  P3 (.call F_l01Below 0 1) [x0, x1, x2, v0] fun v1 v2 v3 =>
  P1 (.idx [.sc]) [x3, v1] fun v4 =>
  Q .ret [v4, v2, v3]) := by kernel_rfl
def spec_l01PickInt_S : Sig := ⟨[.ptr [.sl [.sc], .sc, .sc], .val false [.sl [.sc]]], [(false, [.sc])], F_l01PickInt⟩
def spec_l01PickInt_hs : List NF := []

def spec_l36State_L : L := .seq (.rg []) (.seq (.rg [⟨[], .mn, [.k (.int .i64 96), .v 3], 1⟩, ⟨[], .mx, [.k (.int .i64 1), .v 6], 1⟩, ⟨[], .call F_l01Below 0 1, [.v 0, .v 1, .v 2, .v 7], 3⟩, ⟨[], .call F_l01Below 0 1, [.v 0, .v 9, .v 10, .k (.int .i64 3)], 3⟩, ⟨[], .bin .gtr, [.v 11, .k (.int .i64 0)], 1⟩, ⟨[], .lst [.sc] false 3, [.k (.int .i64 0), .k (.int .i64 5), .k (.int .i64 77)], 1⟩, ⟨[], .call F_l01PickInt 0 1, [.v 0, .v 12, .v 13, .v 15], 3⟩]) (.ret [.v 8, .v 14, .v 16, .v 17, .v 18]))
theorem spec_l36State_L_sh (Q : QT) (x0 x1 x2 x3 x4 x5 : V) : shL spec_l36State_L Q [x0, x1, x2, x3, x4, x5] = (
  P1 (.mn) [.int .i64 96, x3] fun v0 =>
  P1 (.mx) [.int .i64 1, v0] fun v1 =>
  P3 (.call F_l01Below 0 1) [x0, x1, x2, v1] fun v2 v3 v4 =>
  P3 (.call F_l01Below 0 1) [x0, v3, v4, .int .i64 3] fun v5 v6 v7 =>
  P1 (.bin .gtr) [v5, .int .i64 0] fun v8 =>
  P1 (.lst [.sc] false 3) [.int .i64 0, .int .i64 5, .int .i64 77] fun v9 =>
  P3 (.call F_l01PickInt 0 1) [x0, v6, v7, v9] fun v10 v11 v12 =>
  Q .ret [v2, v8, v10, v11, v12]) := by kernel_rfl
def spec_l36State_S : Sig := ⟨[.ptr [.sl [.sc], .sc, .sc], .val true [.sc, .sc, .sl [.sc, .sc]]], [(true, [.sc, .sc, .sc])], F_l36State⟩
def spec_l36State_hs : List NF := []

def spec_DrawState_L : L := .seq (.rg []) (.seq (.rg [⟨[], .call F_l01New 0 3, [.v 0], 3⟩]) (.seq (.rg [⟨[], .call F_l06Cylinder 0 3, [.v 1, .v 2, .v 3], 5⟩]) (.seq (.rg [⟨[], .call F_l36State 0 3, [.v 1, .v 7, .v 8, .v 4, .v 5, .v 6], 5⟩]) (.ret [.v 4, .v 5, .v 6, .v 9, .v 10, .v 11]))))
theorem spec_DrawState_L_sh (Q : QT) (x0 : V) : shL spec_DrawState_L Q [x0] = (
  P3 (.call F_l01New 0 3) [x0] fun v0 v1 v2 =>
  P5 (.call F_l06Cylinder 0 3) [v0, v1, v2] fun v3 v4 v5 v6 v7 =>
  P5 (.call F_l36State 0 3) [v0, v6, v7, v3, v4, v5] fun v8 v9 v10 _ _ =>
  Q .ret [v3, v4, v5, v8, v9, v10]) := by kernel_rfl
def spec_DrawState_S : Sig := ⟨[.val false [.sl [.sc]]], [(true, [.sc, .sc, .sl [.sc, .sc]]), (true, [.sc, .sc, .sc])], F_DrawState⟩
def spec_DrawState_hs : List NF := []

def laws_sameInts_b0 : L := .seq (.seq (.seq (.rg [⟨[], .len, [.v 0], 1⟩, ⟨[], .bin .lss, [.v 2, .v 3], 1⟩]) (.ite (.v 4) (.skip) (.seq (.tup []) (.exit 0)))) (.seq (.block 1 (.seq (.seq (.rg [⟨[], .idx [.sc], [.v 0, .v 2], 1⟩, ⟨[], .idx [.sc], [.v 1, .v 2], 1⟩, ⟨[], .bin .neq, [.v 5, .v 6], 1⟩]) (.ite (.v 7) (.seq (.rg []) (.ret [.k (.bool false)])) (.skip))) (.tup [.v 0, .v 1, .v 2]))) (.rg [⟨[], .bin .add, [.v 2, .k (.int .i64 1)], 1⟩]))) (.tup [.v 0, .v 1, .v 3])
theorem laws_sameInts_b0_sh (Q : QT) (x0 x1 x2 : V) : shL laws_sameInts_b0 Q [x0, x1, x2] = (
  P1 (.len) [x0] fun v0 =>
  P1 (.bin .lss) [x2, v0] fun v1 =>
  ifB v1 (
    P1 (.idx [.sc]) [x0, x2] fun v2 =>
    P1 (.idx [.sc]) [x1, x2] fun v3 =>
    P1 (.bin .neq) [v2, v3] fun v4 =>
    ifB v4 (
      Q .ret [.bool false]) (
      P1 (.bin .add) [x2, .int .i64 1] fun v5 =>
      Q .normal [x0, x1, v5])) (
    Q (.exit 0) [])) := by kernel_rfl

def laws_sameInts_r1 : L := .seq (.rg []) (.ret [.k (.bool true)])
theorem laws_sameInts_r1_sh (Q : QT) : shL laws_sameInts_r1 Q [] = (
  Q .ret [.bool true]) := by kernel_rfl

def laws_sameInts_L : L := .seq (.rg []) (.seq (.seq (.rg [⟨[], .len, [.v 0], 1⟩, ⟨[], .len, [.v 1], 1⟩, ⟨[], .bin .neq, [.v 2, .v 3], 1⟩]) (.ite (.v 4) (.seq (.rg []) (.ret [.k (.bool false)])) (.skip))) (.seq (.seq (.rg []) (.block 0 (.seq (.tup [.v 0, .v 1, .k (.int .i64 0)]) (.loop (laws_sameInts_b0))))) (laws_sameInts_r1)))
theorem laws_sameInts_L_sh (Q : QT) (x0 x1 : V) : shL laws_sameInts_L Q [x0, x1] = (
  P1 (.len) [x0] fun v0 =>
  P1 (.len) [x1] fun v1 =>
  P1 (.bin .neq) [v0, v1] fun v2 =>
  ifB v2 (
    Q .ret [.bool false]) (
    shL (.loop laws_sameInts_b0) (qB 0 (qS (shL laws_sameInts_r1 Q) Q)) [x0, x1, .int .i64 0])) := by kernel_rfl
def laws_sameInts_S : Sig := ⟨[.val false [.sl [.sc]], .val false [.sl [.sc]]], [(false, [.sc])], F_sameInts⟩
def laws_sameInts_hs : List NF := [⟨[], [], [], 64⟩, ⟨[(0, .sc false [.ro [.sc]]), (1, .sc false [.ro [.sc]]), (5, .sc false [.sc])], [], [], 64⟩, ⟨[(0, .sc false [.ro [.sc]]), (1, .sc false [.ro [.sc]]), (5, .sc false [.sc])], [], [], 64⟩]

def laws_FnStops_b0 : L := .seq (.seq (.seq (.rg [⟨[], .bin .lss, [.v 1, .v 0], 1⟩]) (.ite (.v 16) (.skip) (.seq (.tup [.v 2, .v 3, .v 4, .v 5, .v 6, .v 7, .v 8, .v 9, .v 10, .v 11, .v 12, .v 13, .v 14, .v 15]) (.exit 0)))) (.seq (.block 1 (.seq (.seq (.rg [⟨[], .call F_StepBox 0 4, [.v 5, .v 6, .v 4, .v 13, .v 14, .v 15], 4⟩]) (.seq (.seq (.rg [⟨[], .call F_PinsAt 0 1, [.v 5, .v 6, .v 4, .v 13], 1⟩, ⟨[], .call F_sameInts 0 1, [.v 20, .v 21], 1⟩, ⟨[], .un .not, [.v 22], 1⟩, ⟨[(.v 23, false)], .len, [.v 20], 1⟩, ⟨[(.v 23, false)], .bin .add, [.v 15, .v 24], 1⟩, ⟨[(.v 23, false)], .bin .neq, [.v 19, .v 25], 1⟩, ⟨[], .pick, [.v 23, .k (.bool true), .v 26], 1⟩, ⟨[(.v 27, false)], .bin .add, [.v 1, .k (.int .i64 1)], 1⟩, ⟨[(.v 27, false)], .bin .lss, [.v 28, .v 0], 1⟩, ⟨[(.v 27, false)], .binb .neq, [.v 18, .v 29], 1⟩, ⟨[], .pick, [.v 27, .k (.bool true), .v 30], 1⟩, ⟨[(.v 31, false)], .call F_StepsLeft 0 1, [.v 5, .v 6, .v 4, .v 17, .v 18, .v 19], 1⟩, ⟨[(.v 31, false)], .bin .sub, [.v 0, .k (.int .i64 1)], 1⟩, ⟨[(.v 31, false)], .bin .sub, [.v 33, .v 1], 1⟩, ⟨[(.v 31, false)], .bin .neq, [.v 32, .v 34], 1⟩, ⟨[], .pick, [.v 31, .k (.bool true), .v 35], 1⟩]) (.ite (.v 36) (.seq (.rg []) (.ret [.k (.bool false)])) (.skip))) (.seq (.rg [⟨[], .app [.sc] 8, [.v 3, .v 20], 1⟩]) (.rg [])))) (.tup [.v 0, .v 1, .v 2, .v 37, .v 4, .v 5, .v 6, .v 7, .v 8, .v 9, .v 10, .v 11, .v 12, .v 17, .v 18, .v 19]))) (.rg [⟨[], .bin .add, [.v 1, .k (.int .i64 1)], 1⟩]))) (.tup [.v 0, .v 16, .v 2, .v 3, .v 4, .v 5, .v 6, .v 7, .v 8, .v 9, .v 10, .v 11, .v 12, .v 13, .v 14, .v 15])
theorem laws_FnStops_b0_sh (Q : QT) (x0 x1 x2 x3 x4 x5 x6 x7 x8 x9 x10 x11 x12 x13 x14 x15 : V) : shL laws_FnStops_b0 Q [x0, x1, x2, x3, x4, x5, x6, x7, x8, x9, x10, x11, x12, x13, x14, x15] = (
  P1 (.bin .lss) [x1, x0] fun v0 =>
  ifB v0 (
    P4 (.call F_StepBox 0 4) [x5, x6, x4, x13, x14, x15] fun v1 v2 v3 v4 =>
    P1 (.call F_PinsAt 0 1) [x5, x6, x4, x13] fun v5 =>
    P1 (.call F_sameInts 0 1) [v4, v5] fun v6 =>
    P1 (.un .not) [v6] fun v7 =>
    ifB v7 (
      Q .ret [.bool false]) (
      P1 (.len) [v4] fun v8 =>
      P1 (.bin .add) [x15, v8] fun v9 =>
      P1 (.bin .neq) [v3, v9] fun v10 =>
      ifB v10 (
        Q .ret [.bool false]) (
        P1 (.bin .add) [x1, .int .i64 1] fun v11 =>
        P1 (.bin .lss) [v11, x0] fun v12 =>
        P1 (.binb .neq) [v2, v12] fun v13 =>
        ifB v13 (
          Q .ret [.bool false]) (
          P1 (.call F_StepsLeft 0 1) [x5, x6, x4, v1, v2, v3] fun v14 =>
          P1 (.bin .sub) [x0, .int .i64 1] fun v15 =>
          P1 (.bin .sub) [v15, x1] fun v16 =>
          P1 (.bin .neq) [v14, v16] fun v17 =>
          ifB v17 (
            Q .ret [.bool false]) (
            P1 (.app [.sc] 8) [x3, v4] fun v18 =>
            P1 (.bin .add) [x1, .int .i64 1] fun v19 =>
            Q .normal [x0, v19, x2, v18, x4, x5, x6, x7, x8, x9, x10, x11, x12, v1, v2, v3]))))) (
    Q (.exit 0) [x2, x3, x4, x5, x6, x7, x8, x9, x10, x11, x12, x13, x14, x15])) := by kernel_rfl

def laws_FnStops_r2 : L := .seq (.rg [⟨[], .call F_StartBox 0 4, [.v 3, .v 4, .v 2, .v 5, .v 6, .v 7], 4⟩]) (.seq (.rg [⟨[], .call F_StopBox 0 4, [.v 3, .v 4, .v 2, .v 5, .v 6, .v 7], 4⟩]) (.seq (.rg []) (.seq (.rg [⟨[], .call F_StartBox 0 4, [.v 3, .v 4, .v 2, .k (.int .i64 0), .k (.bool false), .k (.int .i64 0)], 4⟩]) (.seq (.rg [⟨[], .call F_RunBox 0 4, [.v 3, .v 4, .v 2, .v 34, .v 35, .v 36], 4⟩]) (.seq (.rg [⟨[], .un .not, [.v 6], 1⟩, ⟨[], .binb .eql, [.v 29, .v 42], 1⟩, ⟨[(.v 43, true)], .binb .eql, [.v 33, .v 6], 1⟩, ⟨[], .pick, [.v 43, .v 44, .k (.bool false)], 1⟩, ⟨[], .pick, [.v 45, .v 27, .k (.bool false)], 1⟩, ⟨[(.v 46, true)], .un .not, [.v 31], 1⟩, ⟨[], .pick, [.v 46, .v 47, .k (.bool false)], 1⟩, ⟨[], .pick, [.v 48, .v 37, .k (.bool false)], 1⟩, ⟨[(.v 49, true)], .len, [.v 41], 1⟩, ⟨[(.v 49, true)], .len, [.v 2], 1⟩, ⟨[(.v 49, true)], .bin .eql, [.v 50, .v 51], 1⟩, ⟨[], .pick, [.v 49, .v 52, .k (.bool false)], 1⟩, ⟨[(.v 53, true)], .len, [.v 2], 1⟩, ⟨[(.v 53, true)], .eqa false [.i, .b, .i], [.v 38, .v 39, .v 40, .k (.int .i64 0), .k (.bool false), .v 54], 1⟩, ⟨[], .pick, [.v 53, .v 55, .k (.bool false)], 1⟩]) (.ret [.v 56]))))))
theorem laws_FnStops_r2_sh (Q : QT) (x0 x1 x2 x3 x4 x5 x6 x7 x8 x9 x10 x11 x12 x13 x14 x15 x16 x17 x18 x19 x20 x21 x22 x23 x24 x25 : V) : shL laws_FnStops_r2 Q [x0, x1, x2, x3, x4, x5, x6, x7, x8, x9, x10, x11, x12, x13, x14, x15, x16, x17, x18, x19, x20, x21, x22, x23, x24, x25] = (
  P4 (.call F_StartBox 0 4) [x3, x4, x2, x5, x6, x7] fun _ v1 _ v3 =>
  P4 (.call F_StopBox 0 4) [x3, x4, x2, x5, x6, x7] fun _ v5 _ v7 =>
  P4 (.call F_StartBox 0 4) [x3, x4, x2, .int .i64 0, .bool false, .int .i64 0] fun v8 v9 v10 v11 =>
  P4 (.call F_RunBox 0 4) [x3, x4, x2, v8, v9, v10] fun v12 v13 v14 v15 =>
  P1 (.un .not) [x6] fun v16 =>
  P1 (.binb .eql) [v3, v16] fun v17 =>
  ifB v17 (
    P1 (.binb .eql) [v7, x6] fun v18 =>
    P1 (.pick) [v18, v1, .bool false] fun v19 =>
    ifB v19 (
      P1 (.un .not) [v5] fun v20 =>
      P1 (.pick) [v20, v11, .bool false] fun v21 =>
      ifB v21 (
        P1 (.len) [v15] fun v22 =>
        P1 (.len) [x2] fun v23 =>
        P1 (.bin .eql) [v22, v23] fun v24 =>
        ifB v24 (
          P1 (.len) [x2] fun v25 =>
          P1 (.eqa false [.i, .b, .i]) [v12, v13, v14, .int .i64 0, .bool false, v25] fun v26 =>
          Q .ret [v26]) (
          Q .ret [.bool false])) (
        Q .ret [.bool false])) (
      Q .ret [.bool false])) (
    Q .ret [.bool false])) := by kernel_rfl

def laws_FnStops_r1 : L := .seq (.seq (.rg [⟨[], .eqa true [.i, .b, .i], [.v 8, .v 9, .v 10, .v 11, .v 12, .v 13], 1⟩, ⟨[(.v 14, false)], .call F_sameInts 0 1, [.v 0, .v 1], 1⟩, ⟨[(.v 14, false)], .un .not, [.v 15], 1⟩, ⟨[], .pick, [.v 14, .k (.bool true), .v 16], 1⟩, ⟨[], .pick, [.v 17, .k (.bool true), .v 9], 1⟩, ⟨[(.v 18, false), (.v 6, true)], .bin .neq, [.v 8, .k (.int .i64 0)], 1⟩, ⟨[(.v 18, false)], .pick, [.v 6, .v 19, .k (.bool false)], 1⟩, ⟨[], .pick, [.v 18, .k (.bool true), .v 20], 1⟩, ⟨[(.v 21, false)], .len, [.v 0], 1⟩, ⟨[(.v 21, false)], .bin .add, [.v 7, .v 22], 1⟩, ⟨[(.v 21, false)], .bin .neq, [.v 10, .v 23], 1⟩, ⟨[], .pick, [.v 21, .k (.bool true), .v 24], 1⟩]) (.ite (.v 25) (.seq (.rg []) (.ret [.k (.bool false)])) (.skip))) (laws_FnStops_r2)
theorem laws_FnStops_r1_sh (Q : QT) (x0 x1 x2 x3 x4 x5 x6 x7 x8 x9 x10 x11 x12 x13 : V) : shL laws_FnStops_r1 Q [x0, x1, x2, x3, x4, x5, x6, x7, x8, x9, x10, x11, x12, x13] = (
  P1 (.eqa true [.i, .b, .i]) [x8, x9, x10, x11, x12, x13] fun v0 =>
  ifB v0 (
    Q .ret [.bool false]) (
    P1 (.call F_sameInts 0 1) [x0, x1] fun v1 =>
    P1 (.un .not) [v1] fun v2 =>
    P1 (.pick) [v2, .bool true, x9] fun v3 =>
    ifB v3 (
      Q .ret [.bool false]) (
      ifB x6 (
        P1 (.bin .neq) [x8, .int .i64 0] fun v4 =>
        ifB v4 (
          Q .ret [.bool false]) (
          P1 (.len) [x0] fun v5 =>
          P1 (.bin .add) [x7, v5] fun v6 =>
          P1 (.bin .neq) [x10, v6] fun v7 =>
          ifB v7 (
            Q .ret [.bool false]) (
            shL laws_FnStops_r2 Q [x0, x1, x2, x3, x4, x5, .bool true, x7, x8, x9, x10, x11, x12, x13, .bool false, v1, v2, v2, .bool false, v4, v4, .bool false, v5, v6, v7, .bool false]))) (
        P1 (.len) [x0] fun v8 =>
        P1 (.bin .add) [x7, v8] fun v9 =>
        P1 (.bin .neq) [x10, v9] fun v10 =>
        ifB v10 (
          Q .ret [.bool false]) (
          shL laws_FnStops_r2 Q [x0, x1, x2, x3, x4, x5, .bool false, x7, x8, x9, x10, x11, x12, x13, .bool false, v1, v2, v2, .bool false, .list [] [], .bool false, .bool false, v8, v9, v10, .bool false]))))) := by kernel_rfl

def laws_FnStops_L : L := .seq (.rg []) (.seq (.seq (.rg [⟨[], .call F_big 0 1, [.v 0], 1⟩]) (.ite (.v 1) (.seq (.rg []) (.ret [.k (.bool true)])) (.skip))) (.seq (.rg [⟨[], .call F_DrawState 0 6, [.v 0], 6⟩]) (.seq (.rg [⟨[], .call F_StepsLeft 0 1, [.v 2, .v 3, .v 4, .v 5, .v 6, .v 7], 1⟩]) (.seq (.rg [⟨[], .call F_RunBox 0 4, [.v 2, .v 3, .v 4, .v 5, .v 6, .v 7], 4⟩]) (.seq (.seq (.rg [⟨[], .bin .lss, [.v 8, .k (.int .i64 0)], 1⟩, ⟨[(.v 13, false)], .bin .eql, [.v 8, .k (.int .i64 0)], 1⟩, ⟨[(.v 13, false)], .binb .eql, [.v 14, .v 6], 1⟩, ⟨[], .pick, [.v 13, .k (.bool true), .v 15], 1⟩, ⟨[(.v 16, false)], .call F_StateOk 0 1, [.v 2, .v 3, .v 4, .v 5, .v 6, .v 7], 1⟩, ⟨[(.v 16, false)], .un .not, [.v 17], 1⟩, ⟨[], .pick, [.v 16, .k (.bool true), .v 18], 1⟩]) (.ite (.v 19) (.seq (.rg []) (.ret [.k (.bool false)])) (.skip))) (.seq (.rg []) (.seq (.rg [⟨[], .lst [.sc] false 0, [], 1⟩]) (.seq (.seq (.rg []) (.block 0 (.seq (.tup [.v 8, .k (.int .i64 0), .v 12, .v 20, .v 4, .v 2, .v 3, .v 5, .v 6, .v 7, .v 9, .v 10, .v 11, .v 5, .v 6, .v 7]) (.loop (laws_FnStops_b0))))) (laws_FnStops_r1)))))))))
theorem laws_FnStops_L_sh (Q : QT) (x0 : V) : shL laws_FnStops_L Q [x0] = (
  P1 (.call F_big 0 1) [x0] fun v0 =>
  ifB v0 (
    Q .ret [.bool true]) (
    P6 (.call F_DrawState 0 6) [x0] fun v1 v2 v3 v4 v5 v6 =>
    P1 (.call F_StepsLeft 0 1) [v1, v2, v3, v4, v5, v6] fun v7 =>
    P4 (.call F_RunBox 0 4) [v1, v2, v3, v4, v5, v6] fun v8 v9 v10 v11 =>
    P1 (.bin .lss) [v7, .int .i64 0] fun v12 =>
    ifB v12 (
      Q .ret [.bool false]) (
      P1 (.bin .eql) [v7, .int .i64 0] fun v13 =>
      P1 (.binb .eql) [v13, v5] fun v14 =>
      ifB v14 (
        Q .ret [.bool false]) (
        P1 (.call F_StateOk 0 1) [v1, v2, v3, v4, v5, v6] fun v15 =>
        P1 (.un .not) [v15] fun v16 =>
        ifB v16 (
          Q .ret [.bool false]) (
          P1 (.lst [.sc] false 0) [] fun v17 =>
          shL (.loop laws_FnStops_b0) (qB 0 (qS (shL laws_FnStops_r1 Q) Q)) [v7, .int .i64 0, v11, v17, v3, v1, v2, v4, v5, v6, v8, v9, v10, v4, v5, v6]))))) := by kernel_rfl
def laws_FnStops_S : Sig := ⟨[.val false [.sl [.sc]]], [(false, [.sc])], F_FnStops⟩
def laws_FnStops_hs : List NF := [⟨[(3, .ptr 64 0), (4, .ptr 65 0), (6, .ptr 66 0), (7, .sc false [.own 67]), (8, .ptr 68 0), (9, .sc false [.own 69])], [(67, true, [.sc]), (69, true, [.sc]), (70, true, [.sc, .sc])], [(64, [.sc, .sc, .own 70]), (65, [.sc, .sc, .sc]), (66, [.sc, .sc, .sc]), (68, [.sc, .sc, .sc])], 71⟩, ⟨[(3, .ptr 64 0), (4, .ptr 65 0), (5, .sc false [.sc]), (6, .ptr 66 0), (7, .sc false [.own 67]), (8, .ptr 68 0), (9, .sc false [.own 69]), (10, .sc false [.sc])], [(67, true, [.sc]), (69, true, [.sc]), (70, true, [.sc, .sc])], [(64, [.sc, .sc, .own 70]), (65, [.sc, .sc, .sc]), (66, [.sc, .sc, .sc]), (68, [.sc, .sc, .sc])], 71⟩, ⟨[(3, .ptr 64 0), (4, .ptr 65 0), (5, .sc false [.sc]), (6, .ptr 66 0), (7, .sc false [.own 67]), (8, .ptr 68 0), (9, .sc false [.own 69]), (10, .sc false [.sc])], [(67, true, [.sc]), (69, true, [.sc]), (70, true, [.sc, .sc])], [(64, [.sc, .sc, .own 70]), (65, [.sc, .sc, .sc]), (66, [.sc, .sc, .sc]), (68, [.sc, .sc, .sc])], 71⟩]

end
end Go.Mw

/- Draws. -/
namespace Go.Mw
theorem land_range (a : Int) (m : Nat) (hm : m < 4611686018427387904) : 0 ≤ land a m ∧ land a m ≤ m := by
  have h : (BitVec.ofInt IntKind.i64.bits a &&& BitVec.ofInt IntKind.i64.bits (m : Int)).toNat ≤ m := by
    rw [BitVec.toNat_and]
    refine Nat.le_trans Nat.and_le_right ?_
    simp [BitVec.toNat_ofInt, IntKind.bits]
    omega
  unfold land
  rw [wrap_id (by omega) (by omega)]
  omega
theorem land255 (a : Int) : 0 ≤ land a 255 ∧ land a 255 ≤ 255 := land_range a 255 (by omega)
theorem hByte_range (h : Int) : 0 ≤ hByte h ∧ hByte h ≤ 255 := land255 _
theorem cByte_range (x : Cur) : 0 ≤ cByte x ∧ cByte x ≤ 255 := by
  unfold cByte
  split
  · exact land255 _
  · exact hByte_range _
@[simp] theorem cStep_b (x : Cur) : (cStep x).b = x.b := rfl
theorem cStep_i {x : Cur} (h : 0 ≤ x.i) : 0 ≤ (cStep x).i := by unfold cStep; dsimp only; split <;> omega
@[simp] theorem cAfter_b (x : Cur) (n : Int) : (cAfter x n).b = x.b := by unfold cAfter; split <;> (try split) <;> simp
theorem cAfter_i {x : Cur} {n : Int} (h : 0 ≤ x.i) : 0 ≤ (cAfter x n).i := by
  unfold cAfter
  split
  · exact h
  · split
    · exact cStep_i h
    · exact cStep_i (cStep_i (cStep_i (cStep_i h)))
theorem tmod_range {a n : Int} (ha : 0 ≤ a) (hn : 0 < n) : 0 ≤ a.tmod n ∧ a.tmod n < n := ⟨Int.tmod_nonneg _ ha, Int.tmod_lt_of_pos _ hn⟩
theorem cBelow_range (x : Cur) {n : Int} (hn : 0 < n) : 0 ≤ cBelow x n ∧ cBelow x n < n := by
  unfold cBelow
  rw [if_neg (by omega)]
  have h1 := cByte_range x
  have h2 := cByte_range (cStep x)
  have h3 := cByte_range (cStep (cStep x))
  have h4 := cByte_range (cStep (cStep (cStep x)))
  split
  · exact tmod_range (by omega) hn
  · exact tmod_range (by omega) hn

theorem laws_big_ok : ∀ ds outs, F_big ds = some outs → shL laws_big_L (qRet outs) ds := F_big_elim fun l hp => by
  rw [laws_big_L_sh]; simp; omega
theorem spec_l01New_ok : ∀ ds outs, F_l01New ds = some outs → shL spec_l01New_L (qRet outs) ds := F_l01New_elim fun l hp => by
  rw [spec_l01New_L_sh]
  have hw : IntKind.i64.wrap (33091 + (l.length : Int)) = 33091 + l.length := wrap_id (by omega) (by omega)
  simp only [P1_len, P1_add, hw]
  refine loop_upto (min l.length 4000) (fun k => [vL I1 vY l, .int .i64 (seedTo l k), .int .i64 k]) (by intro i j _ _ h; simp at h; omega) (fun _ => True) (by simp [seedTo]) trivial ?_
  intro k hk _
  rw [spec_l01New_b0_sh]
  simp
  refine ⟨fun h => ⟨fun h2 => ?_, fun h2 => ?_⟩, fun h => ?_⟩
  · have hw2 : IntKind.i64.wrap ((k : Int) + 1) = k + 1 := wrap_id (by omega) (by omega)
    have hw3 : IntKind.i64.wrap (l[k].toNat : Int) = l[k].toNat := by have := l[k].toNat_lt; exact wrap_id (by omega) (by omega)
    simp [h, hw2, hw3, seedTo]
    omega
  · obtain rfl : k = min l.length 4000 := by omega
    simp [spec_l01New_r1_sh, seedOf]
  · obtain rfl : k = min l.length 4000 := by omega
    simp [spec_l01New_r1_sh, seedOf]
theorem spec_l01Byte_ok : ∀ ds outs, F_l01Byte ds = some outs → shL spec_l01Byte_L (qRet outs) ds := F_l01Byte_elim fun x hp => by
  rw [spec_l01Byte_L_sh]
  have e33 : min (33 : Int).toNat IntKind.i64.bits = 33 := by decide
  have e45 : min (45 : Int).toNat IntKind.i64.bits = 45 := by decide
  simp only [P1_mul, P1_add, P1_shr (show (0 : Int) ≤ 33 by omega), P1_shr (show (0 : Int) ≤ 45 by omega), e33, e45, P1_xor, P1_and, P1_len, P1_lss, ifB_bool, decide_eq_true_eq, decide_eq_false_iff_not]
  have eh : IntKind.i64.wrap (IntKind.i64.wrap (x.h * 6364136223846793005) + 1442695040888963407) = hNext x.h := rfl
  have eb : land (lxor ((hNext x.h).fdiv (2 ^ 33)) ((hNext x.h).fdiv (2 ^ 45))) 255 = hByte (hNext x.h) := rfl
  simp only [eh, eb]
  refine ⟨fun h => ?_, fun h => ?_⟩
  · have hi : x.i.toNat < x.b.length := by omega
    have hw2 : IntKind.i64.wrap (x.i + 1) = x.i + 1 := wrap_id (by omega) (by omega)
    have hw3 : IntKind.i64.wrap (x.b[x.i.toNat].toNat : Int) = x.b[x.i.toNat].toNat := by have := x.b[x.i.toNat].toNat_lt; exact wrap_id (by omega) (by omega)
    simp [hp.1, hi, h, hw2, hw3, cByte, cStep]
  · have hi : x.b[x.i.toNat]? = none := by rw [List.getElem?_eq_none_iff]; omega
    simp [hi, h, cByte, cStep]
theorem q_byte {b : List UInt8} (c : Cur) {n : Nat} {k : V → V → V → Prop} (hb : c.b = b) (h : 0 ≤ c.i) (hl : b.length ≤ 1048576) : P3 (.call F_l01Byte 0 n) [vL I1 vY b, .int .i64 c.i, .int .i64 c.h] k ↔ k (.int .i64 (cByte c)) (.int .i64 (cStep c).i) (.int .i64 (cStep c).h) := by
  subst hb; exact p_l01Byte ⟨h, hl⟩
theorem spec_l01Below_ok : ∀ ds outs, F_l01Below ds = some outs → shL spec_l01Below_L (qRet outs) ds := F_l01Below_elim fun x n hp => by
  rw [spec_l01Below_L_sh]
  have hb := hp.2
  have i0 := hp.1
  have i1 := cStep_i i0
  have i2 := cStep_i i1
  have i3 := cStep_i i2
  have h1 := cByte_range x
  have h2 := cByte_range (cStep x)
  have h3 := cByte_range (cStep (cStep x))
  have h4 := cByte_range (cStep (cStep (cStep x)))
  by_cases hn : n ≤ 0
  · simp [hn, cBelow, cAfter]
  · by_cases hn2 : n ≤ 256
    · simp [hn, hn2, cBelow, cAfter, q_byte x, i0, hb]; omega
    · have w1 : IntKind.i64.wrap (cByte x * 16777216) = cByte x * 16777216 := wrap_id (by omega) (by omega)
      have w2 : IntKind.i64.wrap (cByte (cStep x) * 65536) = cByte (cStep x) * 65536 := wrap_id (by omega) (by omega)
      have w3 : IntKind.i64.wrap (cByte x * 16777216 + cByte (cStep x) * 65536) = cByte x * 16777216 + cByte (cStep x) * 65536 := wrap_id (by omega) (by omega)
      have w4 : IntKind.i64.wrap (cByte (cStep (cStep x)) * 256) = cByte (cStep (cStep x)) * 256 := wrap_id (by omega) (by omega)
      have w5 : IntKind.i64.wrap (cByte x * 16777216 + cByte (cStep x) * 65536 + cByte (cStep (cStep x)) * 256) = cByte x * 16777216 + cByte (cStep x) * 65536 + cByte (cStep (cStep x)) * 256 := wrap_id (by omega) (by omega)
      have w6 : IntKind.i64.wrap (cByte x * 16777216 + cByte (cStep x) * 65536 + cByte (cStep (cStep x)) * 256 + cByte (cStep (cStep (cStep x)))) = cByte x * 16777216 + cByte (cStep x) * 65536 + cByte (cStep (cStep x)) * 256 + cByte (cStep (cStep (cStep x))) := wrap_id (by omega) (by omega)
      simp only [P1_leq, ifB_bool, decide_eq_true_eq, decide_eq_false_iff_not]
      refine ⟨fun h => absurd h hn, fun _ => ⟨fun h => absurd h hn2, fun _ => ?_⟩⟩
      rw [q_byte (b := x.b) x rfl i0 hb, q_byte (b := x.b) (cStep x) rfl i1 hb, q_byte (b := x.b) (cStep (cStep x)) rfl i2 hb, q_byte (b := x.b) (cStep (cStep (cStep x))) rfl i3 hb]
      simp [hn, hn2, cBelow, cAfter, w1, w2, w3, w4, w5, w6]; omega
theorem q_below {b : List UInt8} (c : Cur) {n : Int} {m : Nat} {k : V → V → V → Prop} (hb : c.b = b) (h : 0 ≤ c.i) (hl : b.length ≤ 1048576) : P3 (.call F_l01Below 0 m) [vL I1 vY b, .int .i64 c.i, .int .i64 c.h, .int .i64 n] k ↔ k (.int .i64 (cBelow c n)) (.int .i64 (cAfter c n).i) (.int .i64 (cAfter c n).h) := by
  subst hb; exact p_l01Below ⟨h, hl⟩

/-! putting a pin -/
theorem put_at : ∀ (l : List T2) (y : T2) (i : Nat), (∀ j (h : j < l.length), j < i → pinLess l[j] y = true) → i ≤ l.length → (∀ (h : i < l.length), pinLess l[i] y = false) →
    putPin l y = (if l[i]? = some y then l else l.take i ++ [y] ++ l.drop i) ∧ putNew l y = !decide (l[i]? = some y)
  | [], y, i, _, hi, _ => by
    obtain rfl : i = 0 := by simpa using hi
    simp [putPin, putNew]
  | a :: r, y, 0, _, _, h => by
    have h := h (by simp)
    simp only [List.getElem_cons_zero] at h
    by_cases e : a = y
    · subst e; simp [putPin, putNew, h]
    · simp [putPin, putNew, h, e]
  | a :: r, y, i + 1, h1, h2, h3 => by
    have ha := h1 0 (by simp) (by omega)
    simp only [List.getElem_cons_zero] at ha
    have ih := put_at r y i (fun j hj hji => by have := h1 (j + 1) (by simp; omega) (by omega); simpa using this) (by simpa using h2) (fun h => by have := h3 (by simp; omega); simpa using this)
    simp only [putPin, putNew, ha, if_true, List.getElem?_cons_succ, ih.1, ih.2, List.take_succ_cons, List.drop_succ_cons]
    refine ⟨?_, trivial⟩
    split <;> simp
theorem spec_l06Put_ok : ∀ ds outs, F_l06Put ds = some outs → shL spec_l06Put_L (qRet outs) ds := F_l06Put_elim fun l y hp => by
  rw [spec_l06Put_L_sh]
  refine loop_upto l.length (fun k => [vL I2 v2 l, .int .i64 k, .int .i64 y.a, .int .i64 y.b]) (by intro i j _ _ h; simp at h; omega) (fun k => ∀ j (h : j < l.length), j < k → pinLess l[j] y = true) (by simp) (by simp) ?_
  intro k hk hP
  have fin : (∀ (h : k < l.length), pinLess l[k] y = false) → shL spec_l06Put_r1 (qRet [vL I2 v2 (putPin l y), .bool (putNew l y)]) [vL I2 v2 l, .int .i64 k, .int .i64 y.a, .int .i64 y.b] := by
    intro h
    obtain ⟨e1, e2⟩ := put_at l y k hP hk h
    rw [spec_l06Put_r1_sh, e1, e2]
    by_cases hl : k < l.length
    · by_cases hy : l[k] = y
      · have h5 : l[k].a = y.a ∧ l[k].b = y.b := by rw [hy]; exact ⟨rfl, rfl⟩
        simp [hl, hy]; omega
      · have h5 : ¬ (l[k].a = y.a ∧ l[k].b = y.b) := fun h => hy (by cases hh : l[k]; rw [hh] at h; cases y; simp_all)
        simp [hl, hy, h5]; omega
    · have h6 : k = l.length := by omega
      subst h6
      simp; omega
  rw [spec_l06Put_b0_sh]
  simp
  refine ⟨fun h => ?_, fun h => fin (fun h2 => absurd h2 (by omega))⟩
  simp only [List.getElem?_eq_getElem h, Option.some.injEq, exists_eq_left']
  cases hl : pinLess l[k] y with
  | false =>
    simp [hl]
    exact fin (fun _ => hl)
  | true =>
    have hw : IntKind.i64.wrap ((k : Int) + 1) = k + 1 := wrap_id (by omega) (by omega)
    simp [hl, hw, h]
    intro j hj hjk
    by_cases e : j = k
    · subst e; exact hl
    · exact hP j hj (by omega)
theorem putPin_len (l : List T2) (y : T2) : (putPin l y).length ≤ l.length + 1 := by
  induction l with
  | nil => simp [putPin]
  | cons a r ih => unfold putPin; split <;> (try split) <;> simp <;> omega
end Go.Mw

/- Drawn cylinders and states. -/
namespace Go.Mw
theorem within_iff' {a b c : Int} : within a b c = true ↔ b ≤ a ∧ a ≤ c := by simp [within]
@[simp] theorem P1_lstI3 {a b c : Int} {k : V → Prop} : P1 (.lst [.sc] false 3) [.int .i64 a, .int .i64 b, .int .i64 c] k ↔ k (vL I1 v1 [a, b, c]) := P1_of (by simp [Prim.run, aksOk, akOk, chunk, V.pack, vL, v1]) k

theorem pinLess_or {a b : T2} (h : pinLess a b = false) (hne : a ≠ b) : pinLess b a = true := by
  cases a; cases b
  simp only [pinLess, decide_eq_false_iff_not, decide_eq_true_eq, ne_eq, T2.mk.injEq] at *
  omega
theorem rising_cons {a : T2} {r : List T2} : rising (a :: r) = true ↔ (∀ h, r.head? = some h → pinLess a h = true) ∧ rising r = true := by
  cases r <;> simp [rising]
theorem putPin_head {l : List T2} {y h : T2} (hh : (putPin l y).head? = some h) : h = y ∨ l.head? = some h := by
  cases l with
  | nil => simp [putPin] at hh; exact .inl hh.symm
  | cons a r =>
    unfold putPin at hh
    split at hh
    · simp at hh; exact .inr (by simp [hh])
    · split at hh
      · simp at hh; exact .inr (by simp [hh])
      · simp at hh; exact .inl hh.symm
theorem putPin_rising {l : List T2} {y : T2} (h : rising l = true) : rising (putPin l y) = true := by
  induction l with
  | nil => simp [putPin, rising]
  | cons a r ih =>
    have hr := rising_cons.1 h
    unfold putPin
    by_cases h1 : pinLess a y = true
    · rw [if_pos h1, rising_cons]
      refine ⟨fun b hb => ?_, ih hr.2⟩
      rcases putPin_head hb with rfl | hb
      · exact h1
      · exact hr.1 b hb
    · rw [if_neg h1]
      by_cases h2 : a = y
      · rw [if_pos h2]; exact h
      · rw [if_neg h2, rising_cons]
        refine ⟨fun b hb => ?_, h⟩
        simp only [List.head?_cons, Option.some.injEq] at hb
        subst hb
        exact pinLess_or (by simpa using h1) h2
theorem putPin_mem {l : List T2} {y p : T2} (h : p ∈ putPin l y) : p = y ∨ p ∈ l := by
  induction l with
  | nil => simpa [putPin] using h
  | cons a r ih =>
    unfold putPin at h
    split at h
    · rcases List.mem_cons.1 h with rfl | h
      · simp
      · rcases ih h with h | h
        · exact .inl h
        · exact .inr (by simp [h])
    · split at h
      · exact .inr h
      · rcases List.mem_cons.1 h with h | h
        · exact .inl h
        · exact .inr h

theorem cyl_inv (s t : Int) (x : Cur) (hs : 0 < s) (ht : 0 < t) (hi : 0 ≤ x.i) (k : Nat) :
    (cylTo s t x k).2.b = x.b ∧ 0 ≤ (cylTo s t x k).2.i ∧ (cylTo s t x k).1.length ≤ k ∧ rising (cylTo s t x k).1 = true ∧ ∀ p ∈ (cylTo s t x k).1, pinIn s t p = true := by
  induction k with
  | zero => exact ⟨rfl, hi, by simp [cylTo], by simp [cylTo, rising], by simp [cylTo]⟩
  | succ k ih =>
    obtain ⟨h1, h2, h3, h4, h5⟩ := ih
    refine ⟨by simp [cylTo, h1], cAfter_i (cAfter_i h2), ?_, putPin_rising h4, fun p hp => ?_⟩
    · exact Nat.le_trans (putPin_len _ _) (by omega)
    · rcases putPin_mem hp with rfl | hp
      · have g1 := cBelow_range (cylTo s t x k).2 ht
        have g2 := cBelow_range (cAfter (cylTo s t x k).2 t) hs
        simp only [pinIn, Bool.and_eq_true, within_iff']
        omega
      · exact h5 p hp
theorem cylX_i {x : Cur} (hi : 0 ≤ x.i) : 0 ≤ (cylX x).i := cAfter_i (cAfter_i (cAfter_i hi))
@[simp] theorem cylX_b (x : Cur) : (cylX x).b = x.b := by simp [cylX]
theorem cyl_r (x : Cur) : (4 ≤ cylS x ∧ cylS x ≤ 24) ∧ (1 ≤ cylT x ∧ cylT x ≤ 8) ∧ (0 ≤ cylN x ∧ cylN x ≤ 9) := by
  have h1 := cBelow_range x (show (0 : Int) < 21 by omega)
  have h2 := cBelow_range (cAfter x 21) (show (0 : Int) < 8 by omega)
  have h3 := cBelow_range (cAfter (cAfter x 21) 8) (show (0 : Int) < 10 by omega)
  simp only [cylS, cylT, cylN]; omega
theorem cylOf_ok {x : Cur} (hi : 0 ≤ x.i) : cylOk (cylOf x) = true ∧ (cylOf x).p.length ≤ 9 := by
  obtain ⟨r1, r2, r3⟩ := cyl_r x
  obtain ⟨-, -, h3, h4, h5⟩ := cyl_inv (cylS x) (cylT x) (cylX x) (by omega) (by omega) (cylX_i hi) (cylN x).toNat
  refine ⟨?_, by simp only [cylOf]; omega⟩
  simp only [cylOk, cylOf, Bool.and_eq_true, within_iff', decide_eq_true_eq, List.all_eq_true]
  have h6 : (cylTo (cylS x) (cylT x) (cylX x) (cylN x).toNat).1.length ≤ 100 := by omega
  exact ⟨⟨⟨by omega, by omega⟩, decide_eq_true h6⟩, h5, h4⟩
theorem spec_l06Cylinder_ok : ∀ ds outs, F_l06Cylinder ds = some outs → shL spec_l06Cylinder_L (qRet outs) ds := F_l06Cylinder_elim fun x hp => by
  obtain ⟨i0, hb⟩ := hp
  have i1 : 0 ≤ (cAfter x 21).i := cAfter_i i0
  have i2 : 0 ≤ (cAfter (cAfter x 21) 8).i := cAfter_i i1
  obtain ⟨r1, r2, r3⟩ := cyl_r x
  have w1 : IntKind.i64.wrap (4 + cBelow x 21) = cylS x := by have : 4 + cBelow x 21 = cylS x := rfl; rw [this]; exact wrap_id (by omega) (by omega)
  have w2 : IntKind.i64.wrap (1 + cBelow (cAfter x 21) 8) = cylT x := by have : 1 + cBelow (cAfter x 21) 8 = cylT x := rfl; rw [this]; exact wrap_id (by omega) (by omega)
  rw [spec_l06Cylinder_L_sh, q_below (b := x.b) x rfl i0 hb]
  simp only [P1_add, w1]
  rw [q_below (b := x.b) (cAfter x 21) (by simp) i1 hb]
  simp only [P1_add, w2]
  rw [q_below (b := x.b) (cAfter (cAfter x 21) 8) (by simp) i2 hb]
  refine loop_upto (cylN x).toNat (fun k => [.int .i64 (cylN x - k), vL I2 v2 (cylTo (cylS x) (cylT x) (cylX x) k).1, vL I1 vY x.b, .int .i64 (cylTo (cylS x) (cylT x) (cylX x) k).2.i, .int .i64 (cylTo (cylS x) (cylT x) (cylX x) k).2.h, .int .i64 0, .int .i64 0, .int .i64 (cylS x), .int .i64 (cylT x)]) (by intro i j _ _ h; simp at h; omega) (fun _ => True) (by simp [cylTo, cylN, cylX]) trivial ?_
  intro k hk _
  obtain ⟨g1, g2, g3, -, -⟩ := cyl_inv (cylS x) (cylT x) (cylX x) (by omega) (by omega) (cylX_i i0) k
  rw [cylX_b] at g1
  rw [spec_l06Cylinder_b0_sh]
  simp only [P1_gtr, ifB_bool, decide_eq_true_eq, decide_eq_false_iff_not]
  refine ⟨fun h => ?_, fun h => ?_⟩
  · rw [q_below (b := x.b) _ g1 g2 hb, q_below (b := x.b) (cAfter _ _) (by simp [g1]) (cAfter_i g2) hb]
    have hw : IntKind.i64.wrap (cylN x - (k : Int) - 1) = cylN x - ((k + 1 : Nat) : Int) := by rw [wrap_id (by omega) (by omega)]; omega
    have hl : (cylTo (cylS x) (cylT x) (cylX x) k).1.length ≤ 1048576 := by omega
    rw [p_l06Put (l := (cylTo (cylS x) (cylT x) (cylX x) k).1) hl]
    simp only [P1_sub, hw]
    exact ⟨by omega, rfl, trivial⟩
  · have e : k = (cylN x).toNat := by omega
    subst e
    simp [spec_l06Cylinder_r1_sh, cylOf, cylEnd]
theorem cylEnd_b {x : Cur} (hi : 0 ≤ x.i) : (cylEnd x).b = x.b ∧ 0 ≤ (cylEnd x).i := by
  obtain ⟨r1, r2, r3⟩ := cyl_r x
  obtain ⟨g1, g2, -⟩ := cyl_inv (cylS x) (cylT x) (cylX x) (by omega) (by omega) (cylX_i hi) (cylN x).toNat
  exact ⟨by rw [cylX_b] at g1; exact g1, g2⟩
theorem spec_l01PickInt_ok : ∀ ds outs, F_l01PickInt ds = some outs → shL spec_l01PickInt_L (qRet outs) ds := F_l01PickInt_elim fun x l hp => by
  obtain ⟨i0, hb, h1, h2⟩ := hp
  rw [spec_l01PickInt_L_sh]
  simp only [P1_len]
  rw [q_below (b := x.b) x rfl i0 hb]
  have hr := cBelow_range x (show (0 : Int) < l.length by omega)
  have h3 : (cBelow x l.length).toNat < l.length := by omega
  simp [h3, hr.1]
theorem q_pick {b : List UInt8} (c : Cur) {l : List Int} {m : Nat} {k : V → V → V → Prop} (hb : c.b = b) (h : 0 ≤ c.i) (hl : b.length ≤ 1048576) (h1 : 1 ≤ l.length) (h2 : l.length ≤ 1048576) : P3 (.call F_l01PickInt 0 m) [vL I1 vY b, .int .i64 c.i, .int .i64 c.h, vL I1 v1 l] k ↔ k (.int .i64 (l[(cBelow c l.length).toNat]?.getD 0)) (.int .i64 (cAfter c l.length).i) (.int .i64 (cAfter c l.length).h) := by
  subst hb; exact p_l01PickInt ⟨h, hl, h1, h2⟩
theorem spec_l36State_ok : ∀ ds outs, F_l36State ds = some outs → shL spec_l36State_L (qRet outs) ds := F_l36State_elim fun x y hp => by
  obtain ⟨i0, hb⟩ := hp
  rw [spec_l36State_L_sh]
  simp only [P1_mn2, P1_mx2]
  have e : max (1 : Int) (min 96 y.s) = sttN y := rfl
  rw [e, q_below (b := x.b) x rfl i0 hb, q_below (b := x.b) (cAfter x (sttN y)) (by simp) (cAfter_i i0) hb]
  simp only [P1_gtr, P1_lstI3]
  rw [q_pick (b := x.b) (cAfter (cAfter x (sttN y)) 3) (by simp) (cAfter_i (cAfter_i i0)) hb (by simp) (by simp)]
  simp [sttOf, sttEnd]
theorem sttOf_ok {x : Cur} {c : Cyl} (hc : cylOk c = true) : sttOk c (sttOf x c) = true ∧ (sttOf x c).p ≤ 77 := by
  have hb := cylOk_bounds hc
  have hs : sttN c = c.s := by simp only [sttN]; omega
  have h1 := cBelow_range x (show (0 : Int) < sttN c by omega)
  have h2 := cBelow_range (cAfter (cAfter x (sttN c)) 3) (show (0 : Int) < 3 by omega)
  have h3 : 0 ≤ (sttOf x c).p ∧ (sttOf x c).p ≤ 77 := by
    simp only [sttOf]
    generalize cBelow (cAfter (cAfter x (sttN c)) 3) 3 = v at *
    obtain rfl | rfl | rfl : v = 0 ∨ v = 1 ∨ v = 2 := by omega
    all_goals simp
  refine ⟨?_, h3.2⟩
  simp only [sttOk, hc, Bool.true_and, Bool.and_eq_true, within_iff']
  exact ⟨⟨h1.1, by have := h1.2; simp only [sttOf]; omega⟩, by omega, by omega⟩
theorem cur_mk {b : List UInt8} (c : Cur) (h : c.b = b) : (⟨b, c.i, c.h⟩ : Cur) = c := by subst h; rfl
theorem spec_DrawState_ok : ∀ ds outs, F_DrawState ds = some outs → shL spec_DrawState_L (qRet outs) ds := F_DrawState_elim fun l hp => by
  rw [spec_DrawState_L_sh, p_l01New hp]
  have h0 : 0 ≤ (cur0 l).i := by simp [cur0]
  have hE := cylEnd_b h0
  have e1 := p_l06Cylinder (x_b := (cur0 l).b) (x_i := (cur0 l).i) (x_h := (cur0 l).h) (nr_ := 3) (kk_ := fun v3 v4 v5 v6 v7 => P5 (.call F_l36State 0 3) [vL I1 vY l, v6, v7, v3, v4, v5] fun v8 v9 v10 _ _ => (qRet [.int .i64 (cylOf (cur0 l)).s, .int .i64 (cylOf (cur0 l)).t, vL I2 v2 (cylOf (cur0 l)).p, .int .i64 (sttOf (cylEnd (cur0 l)) (cylOf (cur0 l))).a, .bool (sttOf (cylEnd (cur0 l)) (cylOf (cur0 l))).n, .int .i64 (sttOf (cylEnd (cur0 l)) (cylOf (cur0 l))).p]) .ret [v3, v4, v5, v8, v9, v10]) ⟨h0, hp⟩
  refine e1.2 ?_
  have e2 := p_l36State (x_b := (cylEnd (cur0 l)).b) (x_i := (cylEnd (cur0 l)).i) (x_h := (cylEnd (cur0 l)).h) (y_s := (cylOf (cur0 l)).s) (y_t := (cylOf (cur0 l)).t) (y_p := (cylOf (cur0 l)).p) (nr_ := 3) (kk_ := fun v8 v9 v10 _ _ => (qRet [.int .i64 (cylOf (cur0 l)).s, .int .i64 (cylOf (cur0 l)).t, vL I2 v2 (cylOf (cur0 l)).p, .int .i64 (sttOf (cylEnd (cur0 l)) (cylOf (cur0 l))).a, .bool (sttOf (cylEnd (cur0 l)) (cylOf (cur0 l))).n, .int .i64 (sttOf (cylEnd (cur0 l)) (cylOf (cur0 l))).p]) .ret [.int .i64 (cylOf (cur0 l)).s, .int .i64 (cylOf (cur0 l)).t, vL I2 v2 (cylOf (cur0 l)).p, v8, v9, v10]) ⟨hE.2, by show (cylEnd (cur0 l)).b.length ≤ _; rw [hE.1]; exact hp⟩
  rw [show (cylEnd (cur0 l)).b = l from hE.1] at e2
  refine e2.2 ?_
  have e3 : (⟨l, (cylEnd (cur0 l)).i, (cylEnd (cur0 l)).h⟩ : Cur) = cylEnd (cur0 l) := cur_mk _ hE.1
  rw [e3]
  simp
theorem laws_sameInts_ok : ∀ ds outs, F_sameInts ds = some outs → shL laws_sameInts_L (qRet outs) ds := F_sameInts_elim fun l m hp => by
  rw [laws_sameInts_L_sh]
  simp
  refine ⟨fun h => ?_, fun hl => ?_⟩
  · rintro rfl; omega
  refine loop_upto l.length (fun k => [vL I1 v1 l, vL I1 v1 m, .int .i64 k]) (by intro i j _ _ h; simp at h; omega) (fun k => l.take k = m.take k) (by simp) (by simp) ?_
  intro k hk hP
  rw [laws_sameInts_b0_sh]
  simp
  refine ⟨fun h => ?_, fun h => ?_⟩
  · have h2 : k < m.length := by omega
    simp (disch := omega) [h, h2, wrap_id]
    refine ⟨fun hne he => ?_, fun h3 => ?_⟩
    · subst he; exact hne rfl
    · rw [take_succ_get h, take_succ_get h2, hP, h3]
  · obtain rfl : k = l.length := by omega
    rw [List.take_length, List.take_of_length_le (by omega)] at hP
    simp [laws_sameInts_r1_sh, hP]
end Go.Mw

/- Stops. -/
namespace Go.Mw
@[simp] theorem P1_neaX {a c e g : Int} {b f : Bool} {k : V → Prop} : P1 (.eqa true [.i, .b, .i]) [.int .i64 a, .bool b, .int .i64 c, .int .i64 e, .bool f, .int .i64 g] k ↔ k (.bool (!decide (a = e ∧ b = f ∧ c = g))) := P1_of (by simp only [Prim.run, eqVs, eqV1, List.length_cons, List.length_nil, List.take, List.drop, if_true]; cases b <;> cases f <;> simp <;> grind) k
theorem pinsAt_le (c : Cyl) (a : Int) : (pinsAt c a).length ≤ c.p.length := by
  unfold pinsAt
  split
  · simpa using List.length_filter_le _ _
  · simp
theorem it_p (c : Cyl) (x : Stt) : ∀ k, (itS c x k).p = x.p + (itL c x k).length ∧ (itL c x k).length ≤ k * c.p.length
  | 0 => by simp [itS, itL]
  | k + 1 => by
    obtain ⟨h1, h2⟩ := it_p c x k
    have h3 := pinsAt_le c (itS c x k).a
    simp only [itS, itL, nextStt, List.length_append, h1, Nat.add_mul]
    omega
/-- A state of a small cylinder. -/
structure Small (c : Cyl) (x : Stt) : Prop where
  ok : sttOk c x = true
  len : c.p.length ≤ 9
  p : x.p ≤ 77
theorem Small.it {c : Cyl} {x : Stt} (h : Small c x) (hn : x.n = true) {k : Nat} (hk : k ≤ runN c x) : sttOk c (itS c x k) = true := by
  have h0 := (sttOk_iff c x).1 h.ok
  have hb := cylOk_bounds h0.1
  have h1 := it_p c x k
  have h77 := h.p
  have h2 : k * c.p.length ≤ 96 * 9 := Nat.mul_le_mul (by simp only [runN] at hk; omega) h.len
  rw [sttOk_iff]
  refine ⟨h0.1, ?_, by omega⟩
  by_cases e : k < runN c x
  · have := (itS_on h.ok hn k e).1
    simp only [runN] at e
    omega
  · obtain rfl : k = runN c x := by omega
    have := (itS_off h.ok hn).1
    omega
theorem Small.can {c : Cyl} {x : Stt} (h : Small c x) (hn : x.n = true) {k : Nat} (hk : k < runN c x) : canStep c (itS c x k) = true := by
  rw [canStep_iff]
  exact ⟨h.it hn (by omega), (itS_on h.ok hn k hk).2, h.it hn (k := k + 1) hk⟩
def runM (c : Cyl) (x : Stt) : Nat := if x.n then runN c x else 0
theorem Small.steps {c : Cyl} {x : Stt} (h : Small c x) : stepsLeft c x = runM c x := by
  have h0 := (sttOk_iff c x).1 h.ok
  unfold stepsLeft runM
  rw [if_pos h.ok]
  cases x.n
  · simp
  · simp only [if_true, runN]; omega
theorem Small.run {c : Cyl} {x : Stt} (h : Small c x) : runBox c x = (itS c x (runM c x), itL c x (runM c x)) := by
  unfold runBox runM
  cases hn : x.n with
  | false =>
    have : runOk c x = false := by simp [runOk, hn]
    simp [this, itS, itL]
  | true =>
    have : runOk c x = true := by
      simp only [runOk, h.ok, hn, Bool.true_and, List.all_eq_true, List.mem_range]
      intro k hk; exact h.can hn hk
    simp [this]
theorem count_le (l : List T2) (k : Nat) : l.countP (fun p => decide (p.b < ((k + 1 : Nat) : Int))) = l.countP (fun p => decide (p.b < (k : Int))) + (l.filter fun p => p.b == (k : Int)).length := by
  induction l with
  | nil => simp
  | cons a r ih =>
    simp only [List.countP_cons, List.filter_cons, ih]
    by_cases h1 : a.b < (k : Int)
    · have h2 : a.b < ((k + 1 : Nat) : Int) := by omega
      have h3 : (a.b == (k : Int)) = false := by simp; omega
      simp only [h1, h2, h3, decide_true, if_true]
      simp; omega
    · by_cases h4 : a.b = k
      · have h2 : a.b < ((k + 1 : Nat) : Int) := by omega
        have h3 : (a.b == (k : Int)) = true := by simp [h4]
        simp only [h1, h2, h3, decide_true, decide_false, if_true]
        simp; omega
      · have h2 : ¬ a.b < ((k + 1 : Nat) : Int) := by omega
        have h3 : (a.b == (k : Int)) = false := by simp [h4]
        simp only [h1, h2, h3, decide_false]
        simp
theorem run_all {c : Cyl} (h : Small c ⟨0, true, 0⟩) : (runBox c ⟨0, true, 0⟩).2.length = c.p.length ∧ (runBox c ⟨0, true, 0⟩).1 = ⟨0, false, c.p.length⟩ := by
  have h0 := (sttOk_iff c _).1 h.ok
  have hb := cylOk_bounds h0.1
  have hN : runN c ⟨0, true, 0⟩ = c.s.toNat := by simp [runN]
  have key : ∀ k, k ≤ runN c ⟨0, true, 0⟩ → (itL c ⟨0, true, 0⟩ k).length = c.p.countP (fun p => decide (p.b < (k : Int))) := by
    intro k
    induction k with
    | zero =>
      intro _
      symm
      simp only [itL, List.length_nil, List.countP_eq_zero]
      intro p hp
      obtain ⟨j, hj, rfl⟩ := List.mem_iff_getElem.1 hp
      have := (cylOk_pin h0.1 hj).2
      simp; omega
    | succ k ih =>
      intro hk
      have ha := (itS_on h.ok rfl k (by omega)).1
      simp only [Int.zero_add] at ha
      rw [count_le, ← ih (by omega)]
      simp only [itL, List.length_append, ha]
      have hm : (k : Int) % c.s = k := Int.emod_eq_of_lt (by omega) (by omega)
      have hw : within (k : Int) (-1000000) 1000000 = true := within_iff'.2 (by omega)
      simp [pinsAt, h0.1, hw, hm]
  have hlen : (itL c ⟨0, true, 0⟩ (runN c ⟨0, true, 0⟩)).length = c.p.length := by
    rw [key _ (by omega)]
    rw [List.countP_eq_length]
    intro p hp
    obtain ⟨j, hj, rfl⟩ := List.mem_iff_getElem.1 hp
    have hg := ((cylOk_iff c).1 h0.1).2.2.2 j hj
    have h5 : within c.p[j].b 0 (c.s - 1) = true := by
      have : cylOk c = true := h0.1
      simp only [cylOk, Bool.and_eq_true, List.all_eq_true, pinIn] at this
      exact (this.2.1 _ (List.getElem_mem hj)).2
    have h6 := within_iff'.1 h5
    simp only [decide_eq_true_eq]
    omega
  have hM : runM c ⟨0, true, 0⟩ = runN c ⟨0, true, 0⟩ := by simp [runM]
  have h1 := itS_off h.ok rfl
  have h2 := (it_p c ⟨0, true, 0⟩ (runN c ⟨0, true, 0⟩)).1
  rw [h.run, hM]
  refine ⟨hlen, ?_⟩
  rw [hlen] at h2
  generalize itS c ⟨0, true, 0⟩ (runN c ⟨0, true, 0⟩) = z at *
  cases z
  simp_all
end Go.Mw

/- The law on stops. -/
namespace Go.Mw
theorem Small.start {c : Cyl} {x : Stt} (h : Small c x) : Small c ⟨0, true, 0⟩ := by
  have h0 := (sttOk_iff c x).1 h.ok
  have hb := cylOk_bounds h0.1
  exact ⟨(sttOk_iff c _).2 ⟨h0.1, by dsimp only; omega, by dsimp only; omega⟩, h.len, by dsimp only; omega⟩
theorem stops_end {c : Cyl} {x : Stt} (h : Small c x) (n0 n1 x8 x9 x10 x11 x12 x13 x14 x15 x16 x17 x18 x19 x20 x21 x22 x23 x24 x25 : V) :
    shL laws_FnStops_r2 (qRet [.bool true]) [n0, n1, vL I2 v2 c.p, .int .i64 c.s, .int .i64 c.t, .int .i64 x.a, .bool x.n, .int .i64 x.p, x8, x9, x10, x11, x12, x13, x14, x15, x16, x17, x18, x19, x20, x21, x22, x23, x24, x25] := by
  have hl : c.p.length ≤ 1048576 := by have := h.len; omega
  have hs := h.start
  have hs0 : sttOk c ⟨0, false, 0⟩ = true := by
    have := (sttOk_iff c _).1 hs.ok
    exact (sttOk_iff c _).2 this
  obtain ⟨r1, r2⟩ := run_all hs
  have e0 : startBox c ⟨0, false, 0⟩ = (⟨0, true, 0⟩, true) := by simp [startBox, hs0]
  rw [laws_FnStops_r2_sh]
  simp only [p_StartBox (x_p := c.p) hl, p_StopBox (x_p := c.p) hl, Cyl.eta, e0, p_RunBox (x_p := c.p) hl, r2]
  have q1 : (startBox c x).2 = !x.n := by simp [startBox, h.ok]; cases x.n <;> simp
  have q2 : (startBox c x).1.n = true := by simp only [startBox, h.ok]; cases hn : x.n <;> simp [hn]
  have q3 : (stopBox c x).2 = x.n := by simp [stopBox, h.ok]; cases x.n <;> simp
  have q4 : (stopBox c x).1.n = false := by simp only [stopBox, h.ok]; cases hn : x.n <;> simp [hn]
  simp only [Stt.eta, q1, q2, q3, q4]
  simp [r1]
theorem stops_core {c : Cyl} {x : Stt} (h : Small c x) :
    shL (.loop laws_FnStops_b0) (qB 0 (qS (shL laws_FnStops_r1 (qRet [.bool true])) (qRet [.bool true]))) [.int .i64 (runM c x), .int .i64 0, vL I1 v1 (itL c x (runM c x)), vL I1 v1 [], vL I2 v2 c.p, .int .i64 c.s, .int .i64 c.t, .int .i64 x.a, .bool x.n, .int .i64 x.p, .int .i64 (itS c x (runM c x)).a, .bool (itS c x (runM c x)).n, .int .i64 (itS c x (runM c x)).p, .int .i64 x.a, .bool x.n, .int .i64 x.p] := by
  have hl : c.p.length ≤ 1048576 := by have := h.len; omega
  have h0 := (sttOk_iff c x).1 h.ok
  have hb := cylOk_bounds h0.1
  have hM : runM c x ≤ 96 := by unfold runM runN; split <;> omega
  refine loop_upto (runM c x) (fun k => [.int .i64 (runM c x), .int .i64 k, vL I1 v1 (itL c x (runM c x)), vL I1 v1 (itL c x k), vL I2 v2 c.p, .int .i64 c.s, .int .i64 c.t, .int .i64 x.a, .bool x.n, .int .i64 x.p, .int .i64 (itS c x (runM c x)).a, .bool (itS c x (runM c x)).n, .int .i64 (itS c x (runM c x)).p, .int .i64 (itS c x k).a, .bool (itS c x k).n, .int .i64 (itS c x k).p]) (by intro i j _ _ h; simp at h; omega) (fun _ => True) (by simp [itS, itL]) trivial ?_
  intro k hk _
  have lenL : ∀ j, j ≤ 96 → (itL c x j).length ≤ 864 := fun j hj => by
    have h1 := (it_p c x j).2
    have h2 : j * c.p.length ≤ 96 * 9 := Nat.mul_le_mul hj h.len
    omega
  rw [laws_FnStops_b0_sh]
  simp only [P1_lss, ifB_bool, decide_eq_true_eq, decide_eq_false_iff_not]
  refine ⟨fun hk2 => ?_, fun hk2 => ?_⟩
  · have hn : x.n = true := by
      cases hn : x.n with
      | true => rfl
      | false => simp [runM, hn] at hk2; omega
    have eM : runM c x = runN c x := by simp [runM, hn]
    have hkN : k < runN c x := by omega
    have hcan := h.can hn hkN
    have hon := itS_on h.ok hn k hkN
    have hp1 := pinsAt_le c (itS c x k).a
    have hp2 := h.len
    have ip := it_p c x k
    have lk := lenL k (by omega)
    have lk1 := lenL (k + 1) (by omega)
    simp only [itL, List.length_append] at lk1
    have eN : nextStt c (itS c x k) = itS c x (k + 1) := rfl
    have ePk : (itS c x (k + 1)).p = (itS c x k).p + (pinsAt c (itS c x k).a).length := rfl
    have hoff : (itS c x (k + 1)).n = decide (((k : Int) + 1) < (runM c x : Int)) := by
      by_cases e : k + 1 < runN c x
      · rw [(itS_on h.ok hn (k + 1) e).2]; symm; simp only [decide_eq_true_eq]; omega
      · have e2 : k + 1 = runN c x := by omega
        have := (itS_off h.ok hn).2
        rw [e2, this]; symm; simp only [decide_eq_false_iff_not]; omega
    have hst : stepsLeft c (itS c x (k + 1)) = (runM c x : Int) - 1 - k := by
      unfold stepsLeft
      rw [if_pos (h.it hn (k := k + 1) (by omega))]
      by_cases e : k + 1 < runN c x
      · have := itS_on h.ok hn (k + 1) e
        rw [this.2, if_pos rfl, this.1]
        simp only [runN] at e eM
        omega
      · have e2 : k + 1 = runN c x := by omega
        have := (itS_off h.ok hn).2
        rw [e2, this]; simp; omega
    have h77 := h.p
    have w1 : IntKind.i64.wrap ((itS c x k).p + (pinsAt c (itS c x k).a).length) = (itS c x (k + 1)).p := by rw [ePk]; exact wrap_id (by omega) (by omega)
    have w2 : IntKind.i64.wrap ((k : Int) + 1) = k + 1 := wrap_id (by omega) (by omega)
    have w3 : IntKind.i64.wrap ((runM c x : Int) - 1) = (runM c x : Int) - 1 := wrap_id (by omega) (by omega)
    have w4 : IntKind.i64.wrap ((runM c x : Int) - 1 - k) = (runM c x : Int) - 1 - k := wrap_id (by omega) (by omega)
    have hpl : (pinsAt c (itS c x k).a).length ≤ 1048576 := by omega
    simp only [p_StepBox (x_p := c.p) hl, p_PinsAt (x_p := c.p) hl, Cyl.eta, Stt.eta, if_pos hcan, eN]
    rw [p_sameInts (l := pinsAt c (itS c x k).a) (m := pinsAt c (itS c x k).a) ⟨hpl, hpl⟩]
    simp only [p_StepsLeft (x_p := c.p) hl, Cyl.eta, Stt.eta, hst, P1_len, P1_add, P1_sub, w1, w2, w3, w4, P1_lss, P1_bneq, P1_not, P1_neq, ifB_bool]
    simp [hk2, itL, hoff]
    omega
  · obtain rfl : k = runM c x := by omega
    have hn9 : (itS c x (runM c x)).n = false := by
      unfold runM
      cases hn : x.n with
      | false => simpa [itS] using hn
      | true => exact (itS_off h.ok hn).2
    have lN := lenL (runM c x) hM
    have ip := (it_p c x (runM c x)).1
    have h77 := h.p
    have w1 : IntKind.i64.wrap (x.p + (itL c x (runM c x)).length) = (itS c x (runM c x)).p := by rw [ip]; exact wrap_id (by omega) (by omega)
    have hln : (itL c x (runM c x)).length ≤ 1048576 := by omega
    show shL laws_FnStops_r1 (qRet [.bool true]) _
    rw [laws_FnStops_r1_sh]
    simp only [P1_neaX]
    rw [p_sameInts (l := itL c x (runM c x)) (m := itL c x (runM c x)) ⟨hln, hln⟩]
    cases hn : x.n with
    | false =>
      rw [hn9]
      simp [w1]
      rw [← hn]
      exact stops_end h _ _ _ _ _ _ _ _ _ _ _ _ _ _ _ _ _ _ _ _
    | true =>
      have ha : (itS c x (runM c x)).a = 0 := by
        have eM : runM c x = runN c x := by simp [runM, hn]
        rw [eM]; exact (itS_off h.ok hn).1
      rw [hn9, ha]
      simp [w1]
      have key := fun n0 n1 x8 x9 x10 x11 x12 x13 x14 x15 x16 x17 x18 x19 x20 x21 x22 x23 x24 x25 => stops_end h n0 n1 x8 x9 x10 x11 x12 x13 x14 x15 x16 x17 x18 x19 x20 x21 x22 x23 x24 x25
      rw [hn] at key
      exact key _ _ _ _ _ _ _ _ _ _ _ _ _ _ _ _ _ _ _ _
theorem laws_FnStops_ok : ∀ ds outs, F_FnStops ds = some outs → shL laws_FnStops_L (qRet outs) ds := F_FnStops_elim fun l hp => by
  rw [laws_FnStops_L_sh, p_big hp]
  by_cases hb : l.length ≤ 1048576
  · have hb' : decide (1048576 < l.length) = false := by simp; omega
    rw [hb', p_DrawState hb]
    have hc := cylOf_ok (x := cur0 l) (by simp [cur0])
    have hx := sttOf_ok (x := cylEnd (cur0 l)) hc.1
    have h : Small (cylOf (cur0 l)) (sttOf (cylEnd (cur0 l)) (cylOf (cur0 l))) := ⟨hx.1, hc.2, hx.2⟩
    clear hc hx
    generalize sttOf (cylEnd (cur0 l)) (cylOf (cur0 l)) = x at *
    generalize cylOf (cur0 l) = c at *
    have hl : c.p.length ≤ 1048576 := by have := h.len; omega
    have h0 := (sttOk_iff c x).1 h.ok
    simp only [p_StepsLeft (x_p := c.p) hl, p_RunBox (x_p := c.p) hl, p_StateOk (x_p := c.p) hl, Cyl.eta, Stt.eta, h.steps, h.run, h.ok]
    have hmn : ((runM c x : Int) == 0) = !x.n := by
      cases hn : x.n with
      | false => simp [runM, hn]
      | true => simp [runM, hn, runN]; omega
    have core := stops_core h
    simp only [P1_lss, P1_eql, P1_beql, P1_not, ifB_bool, hmn]
    simp
    exact core
  · have hb' : decide (1048576 < l.length) = true := by simp; omega
    rw [hb']; simp
end Go.Mw

