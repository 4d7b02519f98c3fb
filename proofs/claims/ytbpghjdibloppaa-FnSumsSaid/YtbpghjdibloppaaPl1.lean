/- What functions of the program compute, as small pure programs, shown against plain Lean functions: no condition. -/
import Derived.KernelRfl
import Derived.Test.YtbpghjdibloppaaFwG
/- What the functions of the first rows compute, in plain terms. -/
namespace Go.Mw
def within (n low high : Int) : Bool := decide (low ≤ n) && decide (n ≤ high)
def E_within : Int × Int × Int → List V := fun (a, b, c) => [.int .i64 a, .int .i64 b, .int .i64 c]
noncomputable def F_within : List V → Option (List V) := mkF E_within (fun (_, _, _) => True) (fun (a, b, c) => [.bool (within a b c)])
theorem F_within_inj : ∀ x y, E_within x = E_within y → x = y := by
  rintro ⟨a, b, c⟩ ⟨a', b', c'⟩ h
  simpa [E_within] using h
theorem F_within_elim {P : List V → List V → Prop} (h : ∀ (a : Int) (b : Int) (c : Int), P [.int .i64 a, .int .i64 b, .int .i64 c] [.bool (within a b c)]) : ∀ ds outs, F_within ds = some outs → P ds outs := by
  intro ds outs hh
  obtain ⟨⟨a, b, c⟩, rfl, -, rfl⟩ := mkF_inv hh
  exact h a b c
@[simp] theorem p_within {a : Int} {b : Int} {c : Int} {nr_ : Nat} {kk_ : V → Prop} : P1 (.call F_within 0 nr_) [.int .i64 a, .int .i64 b, .int .i64 c] kk_ ↔ kk_ (.bool (within a b c)) :=
  P1_callF (by unfold F_within; exact mkF_eq F_within_inj (a, b, c) trivial)

/-! lists of pairs -/
end Go.Mw

/- Functions of the program, as small pure programs (printed by a program of ours). -/
namespace Go.Mw
noncomputable section
def impl_within_L : L := .seq (.rg []) (.seq (.rg [⟨[], .bin .geq, [.v 0, .v 1], 1⟩, ⟨[(.v 3, true)], .bin .leq, [.v 0, .v 2], 1⟩, ⟨[], .pick, [.v 3, .v 4, .k (.bool false)], 1⟩]) (.ret [.v 5]))
theorem impl_within_L_sh (Q : QT) (x0 x1 x2 : V) : shL impl_within_L Q [x0, x1, x2] = (
  P1 (.bin .geq) [x0, x1] fun v0 =>
  ifB v0 (
    P1 (.bin .leq) [x0, x2] fun v1 =>
    Q .ret [v1]) (
    Q .ret [.bool false])) := by kernel_rfl
def impl_within_S : Sig := ⟨[.val false [.sc], .val false [.sc], .val false [.sc]], [(false, [.sc])], F_within⟩
def impl_within_hs : List NF := []

end
end Go.Mw

/- The functions of the first rows compute what was said. -/
namespace Go.Mw
theorem impl_within_ok : ∀ ds outs, F_within ds = some outs → shL impl_within_L (qRet outs) ds := F_within_elim fun a b c => by
  rw [impl_within_L_sh]; simp [within]; grind
end Go.Mw

/- The structs of the program, flat. -/
namespace Go.Mw
/-- A cylinder: steps, tracks, pins (track, angle). -/
structure Cyl where
  s : Int
  t : Int
  p : List T2
/-- A state: angle, on, played. -/
structure Stt where
  a : Int
  n : Bool
  p : Int
  deriving DecidableEq
/-- A bench: its cylinder, and the former pins. -/
structure Bench where
  s : Int
  t : Int
  p : List T2
  o : List (List T2)
/-- A workshop: its bench; comb; spring (turns, most, force); money; played. -/
structure Shop where
  s : Int
  t : Int
  p : List T2
  o : List (List T2)
  c : List Int
  u : Int
  m : Int
  f : Int
  y : Int
  d : Int
  deriving DecidableEq
@[simp] theorem Cyl.eta (x : Cyl) : Cyl.mk x.s x.t x.p = x := rfl
@[simp] theorem Stt.eta (x : Stt) : Stt.mk x.a x.n x.p = x := rfl
@[simp] theorem P1_eqa22 {a b c d : Int} {k : V → Prop} : P1 (.eqa false [.i, .i]) [.int .i64 a, .int .i64 b, .int .i64 c, .int .i64 d] k ↔ k (.bool (decide (a = c ∧ b = d))) := P1_of (by simp only [Prim.run, eqVs, eqV1, List.length_cons, List.length_nil, List.take, List.drop, if_true]; cases h1 : a == c <;> cases h2 : b == d <;> simp_all) k
@[simp] theorem P1_nea22 {a b c d : Int} {k : V → Prop} : P1 (.eqa true [.i, .i]) [.int .i64 a, .int .i64 b, .int .i64 c, .int .i64 d] k ↔ k (.bool (!decide (a = c ∧ b = d))) := P1_of (by simp only [Prim.run, eqVs, eqV1, List.length_cons, List.length_nil, List.take, List.drop, if_true]; cases h1 : a == c <;> cases h2 : b == d <;> simp_all) k
@[simp] theorem P1_eqaX {a c e g : Int} {b f : Bool} {k : V → Prop} : P1 (.eqa false [.i, .b, .i]) [.int .i64 a, .bool b, .int .i64 c, .int .i64 e, .bool f, .int .i64 g] k ↔ k (.bool (decide (a = e ∧ b = f ∧ c = g))) := P1_of (by simp only [Prim.run, eqVs, eqV1, List.length_cons, List.length_nil, List.take, List.drop, if_true]; cases h1 : a == e <;> cases h2 : b == f <;> cases h3 : c == g <;> simp_all) k
theorem P1_lsub2 {α : Type} {ks : List AK} {f : α → V} {l : List α} {κ κ' : IntKind} {i j : Int} {k : V → Prop} : P1 (.lsub ks) [vL ks f l, .int κ i, .int κ' j] k ↔ (0 ≤ i ∧ i ≤ j ∧ j ≤ l.length) ∧ k (vL ks f ((l.take j.toNat).drop i.toNat)) :=
  P1_opt (by simp only [Prim.run, vL, AK.eqs_refl, if_true, subB, List.length_map]; split <;> simp_all [List.map_drop, List.map_take]) k
theorem P1_lsub1 {α : Type} {ks : List AK} {f : α → V} {l : List α} {κ : IntKind} {i : Int} {k : V → Prop} : P1 (.lsub ks) [vL ks f l, .int κ i] k ↔ (0 ≤ i ∧ i ≤ l.length) ∧ k (vL ks f (l.drop i.toNat)) :=
  P1_opt (by simp only [Prim.run, vL, AK.eqs_refl, if_true, subB, List.length_map]; split <;> simp_all [List.map_drop, List.take_of_length_le]) k
@[simp] theorem P1_lsubI_2 {l : List Int} {κ κ' : IntKind} {i j : Int} {k : V → Prop} : P1 (.lsub [.sc]) [vL I1 v1 l, .int κ i, .int κ' j] k ↔ (0 ≤ i ∧ i ≤ j ∧ j ≤ l.length) ∧ k (vL I1 v1 ((l.take j.toNat).drop i.toNat)) := P1_lsub2
@[simp] theorem P1_lsubI_1 {l : List Int} {κ : IntKind} {i : Int} {k : V → Prop} : P1 (.lsub [.sc]) [vL I1 v1 l, .int κ i] k ↔ (0 ≤ i ∧ i ≤ l.length) ∧ k (vL I1 v1 (l.drop i.toNat)) := P1_lsub1
@[simp] theorem P1_appI_ {l m : List Int} {b : Nat} {k : V → Prop} : P1 (.app [.sc] b) [vL I1 v1 l, vL I1 v1 m] k ↔ ((l.length + m.length) * b ≤ 140737488355328 ∧ l.length + m.length ≤ 140737488355328) ∧ k (vL I1 v1 (l ++ m)) := P1_app
@[simp] theorem P1_appI_0 {m : List Int} {b : Nat} {k : V → Prop} : P1 (.app [.sc] b) [.list [.sc] [], vL I1 v1 m] k ↔ (m.length * b ≤ 140737488355328 ∧ m.length ≤ 140737488355328) ∧ k (vL I1 v1 m) := P1_app0
@[simp] theorem P1_appI_1 {l : List Int} {b : Nat} {k : V → Prop} : P1 (.app [.sc] b) [vL I1 v1 l, .list [.sc] []] k ↔ (l.length * b ≤ 140737488355328 ∧ l.length ≤ 140737488355328) ∧ k (vL I1 v1 l) := P1_app1
@[simp] theorem P1_lsubY_2 {l : List UInt8} {κ κ' : IntKind} {i j : Int} {k : V → Prop} : P1 (.lsub [.sc]) [vL I1 vY l, .int κ i, .int κ' j] k ↔ (0 ≤ i ∧ i ≤ j ∧ j ≤ l.length) ∧ k (vL I1 vY ((l.take j.toNat).drop i.toNat)) := P1_lsub2
@[simp] theorem P1_lsubY_1 {l : List UInt8} {κ : IntKind} {i : Int} {k : V → Prop} : P1 (.lsub [.sc]) [vL I1 vY l, .int κ i] k ↔ (0 ≤ i ∧ i ≤ l.length) ∧ k (vL I1 vY (l.drop i.toNat)) := P1_lsub1
@[simp] theorem P1_appY_ {l m : List UInt8} {b : Nat} {k : V → Prop} : P1 (.app [.sc] b) [vL I1 vY l, vL I1 vY m] k ↔ ((l.length + m.length) * b ≤ 140737488355328 ∧ l.length + m.length ≤ 140737488355328) ∧ k (vL I1 vY (l ++ m)) := P1_app
@[simp] theorem P1_appY_0 {m : List UInt8} {b : Nat} {k : V → Prop} : P1 (.app [.sc] b) [.list [.sc] [], vL I1 vY m] k ↔ (m.length * b ≤ 140737488355328 ∧ m.length ≤ 140737488355328) ∧ k (vL I1 vY m) := P1_app0
@[simp] theorem P1_appY_1 {l : List UInt8} {b : Nat} {k : V → Prop} : P1 (.app [.sc] b) [vL I1 vY l, .list [.sc] []] k ↔ (l.length * b ≤ 140737488355328 ∧ l.length ≤ 140737488355328) ∧ k (vL I1 vY l) := P1_app1
@[simp] theorem P1_lsubS_2 {l : List (List UInt8)} {κ κ' : IntKind} {i j : Int} {k : V → Prop} : P1 (.lsub [.sc]) [vL I1 vS l, .int κ i, .int κ' j] k ↔ (0 ≤ i ∧ i ≤ j ∧ j ≤ l.length) ∧ k (vL I1 vS ((l.take j.toNat).drop i.toNat)) := P1_lsub2
@[simp] theorem P1_lsubS_1 {l : List (List UInt8)} {κ : IntKind} {i : Int} {k : V → Prop} : P1 (.lsub [.sc]) [vL I1 vS l, .int κ i] k ↔ (0 ≤ i ∧ i ≤ l.length) ∧ k (vL I1 vS (l.drop i.toNat)) := P1_lsub1
@[simp] theorem P1_appS_ {l m : List (List UInt8)} {b : Nat} {k : V → Prop} : P1 (.app [.sc] b) [vL I1 vS l, vL I1 vS m] k ↔ ((l.length + m.length) * b ≤ 140737488355328 ∧ l.length + m.length ≤ 140737488355328) ∧ k (vL I1 vS (l ++ m)) := P1_app
@[simp] theorem P1_appS_0 {m : List (List UInt8)} {b : Nat} {k : V → Prop} : P1 (.app [.sc] b) [.list [.sc] [], vL I1 vS m] k ↔ (m.length * b ≤ 140737488355328 ∧ m.length ≤ 140737488355328) ∧ k (vL I1 vS m) := P1_app0
@[simp] theorem P1_appS_1 {l : List (List UInt8)} {b : Nat} {k : V → Prop} : P1 (.app [.sc] b) [vL I1 vS l, .list [.sc] []] k ↔ (l.length * b ≤ 140737488355328 ∧ l.length ≤ 140737488355328) ∧ k (vL I1 vS l) := P1_app1
@[simp] theorem P1_lsub2_2 {l : List T2} {κ κ' : IntKind} {i j : Int} {k : V → Prop} : P1 (.lsub [.sc, .sc]) [vL I2 v2 l, .int κ i, .int κ' j] k ↔ (0 ≤ i ∧ i ≤ j ∧ j ≤ l.length) ∧ k (vL I2 v2 ((l.take j.toNat).drop i.toNat)) := P1_lsub2
@[simp] theorem P1_lsub2_1 {l : List T2} {κ : IntKind} {i : Int} {k : V → Prop} : P1 (.lsub [.sc, .sc]) [vL I2 v2 l, .int κ i] k ↔ (0 ≤ i ∧ i ≤ l.length) ∧ k (vL I2 v2 (l.drop i.toNat)) := P1_lsub1
@[simp] theorem P1_app2_ {l m : List T2} {b : Nat} {k : V → Prop} : P1 (.app [.sc, .sc] b) [vL I2 v2 l, vL I2 v2 m] k ↔ ((l.length + m.length) * b ≤ 140737488355328 ∧ l.length + m.length ≤ 140737488355328) ∧ k (vL I2 v2 (l ++ m)) := P1_app
@[simp] theorem P1_app2_0 {m : List T2} {b : Nat} {k : V → Prop} : P1 (.app [.sc, .sc] b) [.list [.sc, .sc] [], vL I2 v2 m] k ↔ (m.length * b ≤ 140737488355328 ∧ m.length ≤ 140737488355328) ∧ k (vL I2 v2 m) := P1_app0
@[simp] theorem P1_app2_1 {l : List T2} {b : Nat} {k : V → Prop} : P1 (.app [.sc, .sc] b) [vL I2 v2 l, .list [.sc, .sc] []] k ↔ (l.length * b ≤ 140737488355328 ∧ l.length ≤ 140737488355328) ∧ k (vL I2 v2 l) := P1_app1
@[simp] theorem P1_lsub3_2 {l : List T3} {κ κ' : IntKind} {i j : Int} {k : V → Prop} : P1 (.lsub [.sc, .sc, .sc]) [vL I3 v3 l, .int κ i, .int κ' j] k ↔ (0 ≤ i ∧ i ≤ j ∧ j ≤ l.length) ∧ k (vL I3 v3 ((l.take j.toNat).drop i.toNat)) := P1_lsub2
@[simp] theorem P1_lsub3_1 {l : List T3} {κ : IntKind} {i : Int} {k : V → Prop} : P1 (.lsub [.sc, .sc, .sc]) [vL I3 v3 l, .int κ i] k ↔ (0 ≤ i ∧ i ≤ l.length) ∧ k (vL I3 v3 (l.drop i.toNat)) := P1_lsub1
@[simp] theorem P1_app3_ {l m : List T3} {b : Nat} {k : V → Prop} : P1 (.app [.sc, .sc, .sc] b) [vL I3 v3 l, vL I3 v3 m] k ↔ ((l.length + m.length) * b ≤ 140737488355328 ∧ l.length + m.length ≤ 140737488355328) ∧ k (vL I3 v3 (l ++ m)) := P1_app
@[simp] theorem P1_app3_0 {m : List T3} {b : Nat} {k : V → Prop} : P1 (.app [.sc, .sc, .sc] b) [.list [.sc, .sc, .sc] [], vL I3 v3 m] k ↔ (m.length * b ≤ 140737488355328 ∧ m.length ≤ 140737488355328) ∧ k (vL I3 v3 m) := P1_app0
@[simp] theorem P1_app3_1 {l : List T3} {b : Nat} {k : V → Prop} : P1 (.app [.sc, .sc, .sc] b) [vL I3 v3 l, .list [.sc, .sc, .sc] []] k ↔ (l.length * b ≤ 140737488355328 ∧ l.length ≤ 140737488355328) ∧ k (vL I3 v3 l) := P1_app1
@[simp] theorem P1_lsubL2_2 {l : List (List T2)} {κ κ' : IntKind} {i j : Int} {k : V → Prop} : P1 (.lsub [.sl [.sc, .sc]]) [vL IL2 vLL2 l, .int κ i, .int κ' j] k ↔ (0 ≤ i ∧ i ≤ j ∧ j ≤ l.length) ∧ k (vL IL2 vLL2 ((l.take j.toNat).drop i.toNat)) := P1_lsub2
@[simp] theorem P1_lsubL2_1 {l : List (List T2)} {κ : IntKind} {i : Int} {k : V → Prop} : P1 (.lsub [.sl [.sc, .sc]]) [vL IL2 vLL2 l, .int κ i] k ↔ (0 ≤ i ∧ i ≤ l.length) ∧ k (vL IL2 vLL2 (l.drop i.toNat)) := P1_lsub1
@[simp] theorem P1_appL2_ {l m : List (List T2)} {b : Nat} {k : V → Prop} : P1 (.app [.sl [.sc, .sc]] b) [vL IL2 vLL2 l, vL IL2 vLL2 m] k ↔ ((l.length + m.length) * b ≤ 140737488355328 ∧ l.length + m.length ≤ 140737488355328) ∧ k (vL IL2 vLL2 (l ++ m)) := P1_app
@[simp] theorem P1_appL2_0 {m : List (List T2)} {b : Nat} {k : V → Prop} : P1 (.app [.sl [.sc, .sc]] b) [.list [.sl [.sc, .sc]] [], vL IL2 vLL2 m] k ↔ (m.length * b ≤ 140737488355328 ∧ m.length ≤ 140737488355328) ∧ k (vL IL2 vLL2 m) := P1_app0
@[simp] theorem P1_appL2_1 {l : List (List T2)} {b : Nat} {k : V → Prop} : P1 (.app [.sl [.sc, .sc]] b) [vL IL2 vLL2 l, .list [.sl [.sc, .sc]] []] k ↔ (l.length * b ≤ 140737488355328 ∧ l.length ≤ 140737488355328) ∧ k (vL IL2 vLL2 l) := P1_app1
end Go.Mw

/- What functions compute, in plain terms: pieces, pins, cylinders, states, digits, boxes. -/
namespace Go.Mw
/-! memory -/
/-! pieces -/
/-! pins -/
def pinLess (p q : T2) : Bool := decide (p.b < q.b ∨ p.b = q.b ∧ p.a < q.a)
def E_l06Less : T2 × T2 → List V := fun (x, y) => [.int .i64 x.a, .int .i64 x.b, .int .i64 y.a, .int .i64 y.b]
noncomputable def F_l06Less : List V → Option (List V) := mkF E_l06Less (fun (_, _) => True) (fun (x, y) => [.bool (pinLess x y)])
theorem F_l06Less_inj : ∀ x y, E_l06Less x = E_l06Less y → x = y := by
  rintro ⟨⟨xa, xb⟩, ⟨ya, yb⟩⟩ ⟨⟨xa', xb'⟩, ⟨ya', yb'⟩⟩ h
  simpa [E_l06Less, and_assoc] using h
theorem F_l06Less_elim {P : List V → List V → Prop} (h : ∀ (x : T2) (y : T2), P [.int .i64 x.a, .int .i64 x.b, .int .i64 y.a, .int .i64 y.b] [.bool (pinLess x y)]) : ∀ ds outs, F_l06Less ds = some outs → P ds outs := by
  intro ds outs hh
  obtain ⟨⟨x, y⟩, rfl, -, rfl⟩ := mkF_inv hh
  exact h x y
@[simp] theorem p_l06Less {x_a : Int} {x_b : Int} {y_a : Int} {y_b : Int} {nr_ : Nat} {kk_ : V → Prop} : P1 (.call F_l06Less 0 nr_) [.int .i64 x_a, .int .i64 x_b, .int .i64 y_a, .int .i64 y_b] kk_ ↔ kk_ (.bool (pinLess (⟨x_a, x_b⟩ : T2) (⟨y_a, y_b⟩ : T2))) :=
  P1_callF (by unfold F_l06Less; exact mkF_eq F_l06Less_inj ((⟨x_a, x_b⟩ : T2), (⟨y_a, y_b⟩ : T2)) trivial)

def E_comparePins : T2 × T2 → List V := fun (x, y) => [.int .i64 x.a, .int .i64 x.b, .int .i64 y.a, .int .i64 y.b]
noncomputable def F_comparePins : List V → Option (List V) := mkF E_comparePins (fun (_, _) => True) (fun (x, y) => [.int .i64 (if pinLess x y then -1 else if x = y then 0 else 1)])
theorem F_comparePins_inj : ∀ x y, E_comparePins x = E_comparePins y → x = y := by
  rintro ⟨⟨xa, xb⟩, ⟨ya, yb⟩⟩ ⟨⟨xa', xb'⟩, ⟨ya', yb'⟩⟩ h
  simpa [E_comparePins, and_assoc] using h
theorem F_comparePins_elim {P : List V → List V → Prop} (h : ∀ (x : T2) (y : T2), P [.int .i64 x.a, .int .i64 x.b, .int .i64 y.a, .int .i64 y.b] [.int .i64 (if pinLess x y then -1 else if x = y then 0 else 1)]) : ∀ ds outs, F_comparePins ds = some outs → P ds outs := by
  intro ds outs hh
  obtain ⟨⟨x, y⟩, rfl, -, rfl⟩ := mkF_inv hh
  exact h x y
@[simp] theorem p_comparePins {x_a : Int} {x_b : Int} {y_a : Int} {y_b : Int} {nr_ : Nat} {kk_ : V → Prop} : P1 (.call F_comparePins 0 nr_) [.int .i64 x_a, .int .i64 x_b, .int .i64 y_a, .int .i64 y_b] kk_ ↔ kk_ (.int .i64 (if pinLess (⟨x_a, x_b⟩ : T2) (⟨y_a, y_b⟩ : T2) then -1 else if (⟨x_a, x_b⟩ : T2) = (⟨y_a, y_b⟩ : T2) then 0 else 1)) :=
  P1_callF (by unfold F_comparePins; exact mkF_eq F_comparePins_inj ((⟨x_a, x_b⟩ : T2), (⟨y_a, y_b⟩ : T2)) trivial)

def rising : List T2 → Bool
  | [] => true
  | [_] => true
  | a :: b :: r => pinLess a b && rising (b :: r)
def pinIn (s t : Int) (p : T2) : Bool := within p.a 0 (t - 1) && within p.b 0 (s - 1)
def cylOk (c : Cyl) : Bool := within c.s 4 96 && within c.t 1 100 && decide (c.p.length ≤ 100) && (c.p.all (pinIn c.s c.t) && rising c.p)
def E_CylinderOk (x : Cyl) : List V := [.int .i64 x.s, .int .i64 x.t, vL I2 v2 x.p]
noncomputable def F_CylinderOk : List V → Option (List V) := mkF E_CylinderOk (fun x => x.p.length ≤ 1048576) (fun x => [.bool (cylOk x)])
theorem F_CylinderOk_inj : ∀ x y, E_CylinderOk x = E_CylinderOk y → x = y := by
  rintro ⟨xs, xt, xp⟩ ⟨xs', xt', xp'⟩ h
  simpa [E_CylinderOk] using h
theorem F_CylinderOk_elim {P : List V → List V → Prop} (h : ∀ (x : Cyl), (x.p.length ≤ 1048576) → P [.int .i64 x.s, .int .i64 x.t, vL I2 v2 x.p] [.bool (cylOk x)]) : ∀ ds outs, F_CylinderOk ds = some outs → P ds outs := by
  intro ds outs hh
  obtain ⟨x, rfl, hp, rfl⟩ := mkF_inv hh
  exact h x hp
theorem p_CylinderOk {x_s : Int} {x_t : Int} {x_p : List T2} {nr_ : Nat} {kk_ : V → Prop} (hp : (⟨x_s, x_t, x_p⟩ : Cyl).p.length ≤ 1048576) : P1 (.call F_CylinderOk 0 nr_) [.int .i64 x_s, .int .i64 x_t, vL I2 v2 x_p] kk_ ↔ kk_ (.bool (cylOk (⟨x_s, x_t, x_p⟩ : Cyl))) :=
  P1_callF (by unfold F_CylinderOk; exact mkF_eq F_CylinderOk_inj ((⟨x_s, x_t, x_p⟩ : Cyl)) hp)

def sttOk (c : Cyl) (x : Stt) : Bool := cylOk c && (within x.a 0 (c.s - 1) && within x.p 0 100000)
def pinSumGo : List T2 → Int → Int
  | [], _ => 0
  | p :: r, k => k * (100 * p.a + p.b + 1) + pinSumGo r (k + 1)
def pinSum (c : Cyl) : Int := if cylOk c then pinSumGo c.p 1 % 9973 else -1
def E_PinSum (x : Cyl) : List V := [.int .i64 x.s, .int .i64 x.t, vL I2 v2 x.p]
noncomputable def F_PinSum : List V → Option (List V) := mkF E_PinSum (fun x => x.p.length ≤ 1048576) (fun x => [.int .i64 (pinSum x)])
theorem F_PinSum_inj : ∀ x y, E_PinSum x = E_PinSum y → x = y := by
  rintro ⟨xs, xt, xp⟩ ⟨xs', xt', xp'⟩ h
  simpa [E_PinSum] using h
theorem F_PinSum_elim {P : List V → List V → Prop} (h : ∀ (x : Cyl), (x.p.length ≤ 1048576) → P [.int .i64 x.s, .int .i64 x.t, vL I2 v2 x.p] [.int .i64 (pinSum x)]) : ∀ ds outs, F_PinSum ds = some outs → P ds outs := by
  intro ds outs hh
  obtain ⟨x, rfl, hp, rfl⟩ := mkF_inv hh
  exact h x hp
theorem p_PinSum {x_s : Int} {x_t : Int} {x_p : List T2} {nr_ : Nat} {kk_ : V → Prop} (hp : (⟨x_s, x_t, x_p⟩ : Cyl).p.length ≤ 1048576) : P1 (.call F_PinSum 0 nr_) [.int .i64 x_s, .int .i64 x_t, vL I2 v2 x_p] kk_ ↔ kk_ (.int .i64 (pinSum (⟨x_s, x_t, x_p⟩ : Cyl))) :=
  P1_callF (by unfold F_PinSum; exact mkF_eq F_PinSum_inj ((⟨x_s, x_t, x_p⟩ : Cyl)) hp)

def pinsAt (c : Cyl) (a : Int) : List Int := if cylOk c && within a (-1000000) 1000000 then (c.p.filter fun p => p.b == a % c.s).map (·.a) else []
/-! states -/
def stepsLeft (c : Cyl) (x : Stt) : Int := if sttOk c x then (if x.n then c.s - x.a else 0) else -1
def nextStt (c : Cyl) (x : Stt) : Stt := ⟨(x.a + 1) % c.s, decide ((x.a + 1) % c.s ≠ 0), x.p + (pinsAt c x.a).length⟩
def canStep (c : Cyl) (x : Stt) : Bool := sttOk c x && x.n && sttOk c (nextStt c x)
/-- The run: so many steps from x. -/
def itS (c : Cyl) (x : Stt) : Nat → Stt
  | 0 => x
  | k + 1 => nextStt c (itS c x k)
def itL (c : Cyl) (x : Stt) : Nat → List Int
  | 0 => []
  | k + 1 => itL c x k ++ pinsAt c (itS c x k).a
def runN (c : Cyl) (x : Stt) : Nat := (c.s - x.a).toNat
def runOk (c : Cyl) (x : Stt) : Bool := sttOk c x && (x.n && (List.range (runN c x)).all fun k => canStep c (itS c x k))
def runBox (c : Cyl) (x : Stt) : Stt × List Int := if runOk c x then (itS c x (runN c x), itL c x (runN c x)) else (x, [])
/-! digits -/
def areDigits (l : List Int) (a b : Int) : Bool := within l.length a b && l.all (within · 0 9)
def E_areDigits : List Int × Int × Int → List V := fun (l, a, b) => [vL I1 v1 l, .int .i64 a, .int .i64 b]
noncomputable def F_areDigits : List V → Option (List V) := mkF E_areDigits (fun (l, _, _) => l.length ≤ 1048576) (fun (l, a, b) => [.bool (areDigits l a b)])
theorem F_areDigits_inj : ∀ x y, E_areDigits x = E_areDigits y → x = y := by
  rintro ⟨l, a, b⟩ ⟨l', a', b'⟩ h
  simpa [E_areDigits] using h
theorem F_areDigits_elim {P : List V → List V → Prop} (h : ∀ (l : List Int) (a : Int) (b : Int), (l.length ≤ 1048576) → P [vL I1 v1 l, .int .i64 a, .int .i64 b] [.bool (areDigits l a b)]) : ∀ ds outs, F_areDigits ds = some outs → P ds outs := by
  intro ds outs hh
  obtain ⟨⟨l, a, b⟩, rfl, hp, rfl⟩ := mkF_inv hh
  exact h l a b hp
theorem p_areDigits {l : List Int} {a : Int} {b : Int} {nr_ : Nat} {kk_ : V → Prop} (hp : l.length ≤ 1048576) : P1 (.call F_areDigits 0 nr_) [vL I1 v1 l, .int .i64 a, .int .i64 b] kk_ ↔ kk_ (.bool (areDigits l a b)) :=
  P1_callF (by unfold F_areDigits; exact mkF_eq F_areDigits_inj (l, a, b) hp)

def digitSum : List Int → Bool → Int
  | [], _ => 0
  | d :: r, true => 3 * d + digitSum r false
  | d :: r, false => d + digitSum r true
def checkDigit (l : List Int) : Int := if areDigits l 1 20 then (10 - digitSum l true % 10) % 10 else -1
def E_CheckDigit (l : List Int) : List V := [vL I1 v1 l]
noncomputable def F_CheckDigit : List V → Option (List V) := mkF E_CheckDigit (fun l => l.length ≤ 1048576) (fun l => [.int .i64 (checkDigit l)])
theorem F_CheckDigit_inj : ∀ x y, E_CheckDigit x = E_CheckDigit y → x = y := by
  rintro l l' h
  simpa [E_CheckDigit] using h
theorem F_CheckDigit_elim {P : List V → List V → Prop} (h : ∀ (l : List Int), (l.length ≤ 1048576) → P [vL I1 v1 l] [.int .i64 (checkDigit l)]) : ∀ ds outs, F_CheckDigit ds = some outs → P ds outs := by
  intro ds outs hh
  obtain ⟨l, rfl, hp, rfl⟩ := mkF_inv hh
  exact h l hp
theorem p_CheckDigit {l : List Int} {nr_ : Nat} {kk_ : V → Prop} (hp : l.length ≤ 1048576) : P1 (.call F_CheckDigit 0 nr_) [vL I1 v1 l] kk_ ↔ kk_ (.int .i64 (checkDigit l)) :=
  P1_callF (by unfold F_CheckDigit; exact mkF_eq F_CheckDigit_inj (l) hp)

def isChecked (l : List Int) : Bool := decide (2 ≤ l.length) && (decide (0 ≤ checkDigit (l.take (l.length - 1))) && decide (l[l.length - 1]? = some (checkDigit (l.take (l.length - 1)))))
def E_IsChecked (l : List Int) : List V := [vL I1 v1 l]
noncomputable def F_IsChecked : List V → Option (List V) := mkF E_IsChecked (fun l => l.length ≤ 1048576) (fun l => [.bool (isChecked l)])
theorem F_IsChecked_inj : ∀ x y, E_IsChecked x = E_IsChecked y → x = y := by
  rintro l l' h
  simpa [E_IsChecked] using h
theorem F_IsChecked_elim {P : List V → List V → Prop} (h : ∀ (l : List Int), (l.length ≤ 1048576) → P [vL I1 v1 l] [.bool (isChecked l)]) : ∀ ds outs, F_IsChecked ds = some outs → P ds outs := by
  intro ds outs hh
  obtain ⟨l, rfl, hp, rfl⟩ := mkF_inv hh
  exact h l hp
theorem p_IsChecked {l : List Int} {nr_ : Nat} {kk_ : V → Prop} (hp : l.length ≤ 1048576) : P1 (.call F_IsChecked 0 nr_) [vL I1 v1 l] kk_ ↔ kk_ (.bool (isChecked l)) :=
  P1_callF (by unfold F_IsChecked; exact mkF_eq F_IsChecked_inj (l) hp)

def E_copyInts (l : List Int) : List V := [vL I1 v1 l]
noncomputable def F_copyInts : List V → Option (List V) := mkF E_copyInts (fun l => l.length ≤ 4194304) (fun l => [vL I1 v1 l])
theorem F_copyInts_inj : ∀ x y, E_copyInts x = E_copyInts y → x = y := by
  rintro l l' h
  simpa [E_copyInts] using h
theorem F_copyInts_elim {P : List V → List V → Prop} (h : ∀ (l : List Int), (l.length ≤ 4194304) → P [vL I1 v1 l] [vL I1 v1 l]) : ∀ ds outs, F_copyInts ds = some outs → P ds outs := by
  intro ds outs hh
  obtain ⟨l, rfl, hp, rfl⟩ := mkF_inv hh
  exact h l hp
theorem p_copyInts {l : List Int} {nr_ : Nat} {kk_ : V → Prop} (hp : l.length ≤ 4194304) : P1 (.call F_copyInts 0 nr_) [vL I1 v1 l] kk_ ↔ kk_ (vL I1 v1 l) :=
  P1_callF (by unfold F_copyInts; exact mkF_eq F_copyInts_inj (l) hp)

/-- The digits from 9 down, so many of them: the last that is fine. -/
def scanD (f : Int → Bool) : Nat → Int
  | 0 => -1
  | n + 1 => if f (9 - n) then 9 - n else scanD f n
def wrongAt (l : List Int) (k : Nat) : Int := scanD (fun d => decide (some d ≠ l[k]?) && isChecked (l.set k d)) 10
def wrongDigits (l : List Int) : List Int := if areDigits l 2 21 then (List.range l.length).map (wrongAt l) else []
def E_WrongDigits (l : List Int) : List V := [vL I1 v1 l]
noncomputable def F_WrongDigits : List V → Option (List V) := mkF E_WrongDigits (fun l => l.length ≤ 1048576) (fun l => [vL I1 v1 (wrongDigits l)])
theorem F_WrongDigits_inj : ∀ x y, E_WrongDigits x = E_WrongDigits y → x = y := by
  rintro l l' h
  simpa [E_WrongDigits] using h
theorem F_WrongDigits_elim {P : List V → List V → Prop} (h : ∀ (l : List Int), (l.length ≤ 1048576) → P [vL I1 v1 l] [vL I1 v1 (wrongDigits l)]) : ∀ ds outs, F_WrongDigits ds = some outs → P ds outs := by
  intro ds outs hh
  obtain ⟨l, rfl, hp, rfl⟩ := mkF_inv hh
  exact h l hp
theorem p_WrongDigits {l : List Int} {nr_ : Nat} {kk_ : V → Prop} (hp : l.length ≤ 1048576) : P1 (.call F_WrongDigits 0 nr_) [vL I1 v1 l] kk_ ↔ kk_ (vL I1 v1 (wrongDigits l)) :=
  P1_callF (by unfold F_WrongDigits; exact mkF_eq F_WrongDigits_inj (l) hp)


/-! boxes -/
end Go.Mw

/- Functions of the program, as small pure programs (printed by a program of ours). -/
namespace Go.Mw
noncomputable section
def spec_l06Less_L : L := .seq (.rg []) (.seq (.rg [⟨[], .bin .lss, [.v 1, .v 3], 1⟩, ⟨[(.v 4, false)], .bin .eql, [.v 1, .v 3], 1⟩, ⟨[(.v 4, false), (.v 5, true)], .bin .lss, [.v 0, .v 2], 1⟩, ⟨[(.v 4, false)], .pick, [.v 5, .v 6, .k (.bool false)], 1⟩, ⟨[], .pick, [.v 4, .k (.bool true), .v 7], 1⟩]) (.ret [.v 8]))
theorem spec_l06Less_L_sh (Q : QT) (x0 x1 x2 x3 : V) : shL spec_l06Less_L Q [x0, x1, x2, x3] = (
  P1 (.bin .lss) [x1, x3] fun v0 =>
  ifB v0 (
    Q .ret [.bool true]) (
    P1 (.bin .eql) [x1, x3] fun v1 =>
    ifB v1 (
      P1 (.bin .lss) [x0, x2] fun v2 =>
      Q .ret [v2]) (
      Q .ret [.bool false]))) := by kernel_rfl
def spec_l06Less_S : Sig := ⟨[.val true [.sc, .sc], .val true [.sc, .sc]], [(false, [.sc])], F_l06Less⟩
def spec_l06Less_hs : List NF := []

def impl_comparePins_L : L := .seq (.rg []) (.seq (.seq (.rg [⟨[], .bin .lss, [.v 1, .v 3], 1⟩, ⟨[(.v 4, false)], .bin .eql, [.v 1, .v 3], 1⟩, ⟨[(.v 4, false), (.v 5, true)], .bin .lss, [.v 0, .v 2], 1⟩, ⟨[(.v 4, false)], .pick, [.v 5, .v 6, .k (.bool false)], 1⟩, ⟨[], .pick, [.v 4, .k (.bool true), .v 7], 1⟩]) (.ite (.v 8) (.seq (.rg []) (.ret [.k (.int .i64 (-1))])) (.skip))) (.seq (.seq (.rg [⟨[], .eqa false [.i, .i], [.v 0, .v 1, .v 2, .v 3], 1⟩]) (.ite (.v 9) (.seq (.rg []) (.ret [.k (.int .i64 0)])) (.skip))) (.seq (.rg []) (.ret [.k (.int .i64 1)]))))
theorem impl_comparePins_L_sh (Q : QT) (x0 x1 x2 x3 : V) : shL impl_comparePins_L Q [x0, x1, x2, x3] = (
  P1 (.bin .lss) [x1, x3] fun v0 =>
  ifB v0 (
    Q .ret [.int .i64 (-1)]) (
    P1 (.bin .eql) [x1, x3] fun v1 =>
    ifB v1 (
      P1 (.bin .lss) [x0, x2] fun v2 =>
      ifB v2 (
        Q .ret [.int .i64 (-1)]) (
        P1 (.eqa false [.i, .i]) [x0, x1, x2, x3] fun v3 =>
        ifB v3 (
          Q .ret [.int .i64 0]) (
          Q .ret [.int .i64 1]))) (
      P1 (.eqa false [.i, .i]) [x0, x1, x2, x3] fun v4 =>
      ifB v4 (
        Q .ret [.int .i64 0]) (
        Q .ret [.int .i64 1])))) := by kernel_rfl
def impl_comparePins_S : Sig := ⟨[.val true [.sc, .sc], .val true [.sc, .sc]], [(false, [.sc])], F_comparePins⟩
def impl_comparePins_hs : List NF := []

def impl_CylinderOk_b0 : L := .seq (.seq (.rg [⟨[], .bin .lss, [.v 2, .v 1], 1⟩]) (.seq (.ite (.v 6) (.skip) (.seq (.tup []) (.exit 0))) (.seq (.block 1 (.seq (.seq (.rg [⟨[], .idx [.sc, .sc], [.v 0, .v 2], 2⟩]) (.seq (.seq (.rg [⟨[], .bin .sub, [.v 4, .k (.int .i64 1)], 1⟩, ⟨[], .call F_within 0 1, [.v 7, .k (.int .i64 0), .v 9], 1⟩, ⟨[], .un .not, [.v 10], 1⟩, ⟨[(.v 11, false)], .bin .sub, [.v 3, .k (.int .i64 1)], 1⟩, ⟨[(.v 11, false)], .call F_within 0 1, [.v 8, .k (.int .i64 0), .v 12], 1⟩, ⟨[(.v 11, false)], .un .not, [.v 13], 1⟩, ⟨[], .pick, [.v 11, .k (.bool true), .v 14], 1⟩]) (.ite (.v 15) (.seq (.rg []) (.ret [.k (.bool false)])) (.skip))) (.seq (.rg [⟨[], .bin .gtr, [.v 2, .k (.int .i64 0)], 1⟩, ⟨[(.v 16, true)], .bin .sub, [.v 2, .k (.int .i64 1)], 1⟩, ⟨[(.v 16, true)], .idx [.sc, .sc], [.v 5, .v 17], 2⟩, ⟨[(.v 16, true)], .call F_comparePins 0 1, [.v 18, .v 19, .v 7, .v 8], 1⟩, ⟨[(.v 16, true)], .bin .geq, [.v 20, .k (.int .i64 0)], 1⟩, ⟨[], .pick, [.v 16, .v 21, .k (.bool false)], 1⟩]) (.ite (.v 22) (.seq (.rg []) (.ret [.k (.bool false)])) (.skip))))) (.tup [.v 0, .v 1, .v 2, .v 3, .v 4, .v 5]))) (.rg [⟨[], .bin .add, [.v 2, .k (.int .i64 1)], 1⟩])))) (.tup [.v 0, .v 1, .v 6, .v 3, .v 4, .v 5])
theorem impl_CylinderOk_b0_sh (Q : QT) (x0 x1 x2 x3 x4 x5 : V) : shL impl_CylinderOk_b0 Q [x0, x1, x2, x3, x4, x5] = (
  P1 (.bin .lss) [x2, x1] fun v0 =>
  ifB v0 (
    P2 (.idx [.sc, .sc]) [x0, x2] fun v1 v2 =>
    P1 (.bin .sub) [x4, .int .i64 1] fun v3 =>
    P1 (.call F_within 0 1) [v1, .int .i64 0, v3] fun v4 =>
    P1 (.un .not) [v4] fun v5 =>
    ifB v5 (
      Q .ret [.bool false]) (
      P1 (.bin .sub) [x3, .int .i64 1] fun v6 =>
      P1 (.call F_within 0 1) [v2, .int .i64 0, v6] fun v7 =>
      P1 (.un .not) [v7] fun v8 =>
      ifB v8 (
        Q .ret [.bool false]) (
        P1 (.bin .gtr) [x2, .int .i64 0] fun v9 =>
        ifB v9 (
          P1 (.bin .sub) [x2, .int .i64 1] fun v10 =>
          P2 (.idx [.sc, .sc]) [x5, v10] fun v11 v12 =>
          P1 (.call F_comparePins 0 1) [v11, v12, v1, v2] fun v13 =>
          P1 (.bin .geq) [v13, .int .i64 0] fun v14 =>
          ifB v14 (
            Q .ret [.bool false]) (
            P1 (.bin .add) [x2, .int .i64 1] fun v15 =>
            Q .normal [x0, x1, v15, x3, x4, x5])) (
          P1 (.bin .add) [x2, .int .i64 1] fun v16 =>
          Q .normal [x0, x1, v16, x3, x4, x5])))) (
    Q (.exit 0) [])) := by kernel_rfl

def impl_CylinderOk_r1 : L := .seq (.rg []) (.ret [.k (.bool true)])
theorem impl_CylinderOk_r1_sh (Q : QT) : shL impl_CylinderOk_r1 Q [] = (
  Q .ret [.bool true]) := by kernel_rfl

def impl_CylinderOk_L : L := .seq (.rg []) (.seq (.seq (.rg [⟨[], .call F_within 0 1, [.v 0, .k (.int .i64 4), .k (.int .i64 96)], 1⟩, ⟨[], .un .not, [.v 3], 1⟩, ⟨[(.v 4, false)], .call F_within 0 1, [.v 1, .k (.int .i64 1), .k (.int .i64 100)], 1⟩, ⟨[(.v 4, false)], .un .not, [.v 5], 1⟩, ⟨[], .pick, [.v 4, .k (.bool true), .v 6], 1⟩, ⟨[(.v 7, false)], .len, [.v 2], 1⟩, ⟨[(.v 7, false)], .bin .gtr, [.v 8, .k (.int .i64 100)], 1⟩, ⟨[], .pick, [.v 7, .k (.bool true), .v 9], 1⟩]) (.ite (.v 10) (.seq (.rg []) (.ret [.k (.bool false)])) (.skip))) (.seq (.seq (.rg [⟨[], .len, [.v 2], 1⟩]) (.block 0 (.seq (.tup [.v 2, .v 11, .k (.int .i64 0), .v 0, .v 1, .v 2]) (.loop (impl_CylinderOk_b0))))) (impl_CylinderOk_r1)))
theorem impl_CylinderOk_L_sh (Q : QT) (x0 x1 x2 : V) : shL impl_CylinderOk_L Q [x0, x1, x2] = (
  P1 (.call F_within 0 1) [x0, .int .i64 4, .int .i64 96] fun v0 =>
  P1 (.un .not) [v0] fun v1 =>
  ifB v1 (
    Q .ret [.bool false]) (
    P1 (.call F_within 0 1) [x1, .int .i64 1, .int .i64 100] fun v2 =>
    P1 (.un .not) [v2] fun v3 =>
    ifB v3 (
      Q .ret [.bool false]) (
      P1 (.len) [x2] fun v4 =>
      P1 (.bin .gtr) [v4, .int .i64 100] fun v5 =>
      ifB v5 (
        Q .ret [.bool false]) (
        P1 (.len) [x2] fun v6 =>
        shL (.loop impl_CylinderOk_b0) (qB 0 (qS (shL impl_CylinderOk_r1 Q) Q)) [x2, v6, .int .i64 0, x0, x1, x2])))) := by kernel_rfl
def impl_CylinderOk_S : Sig := ⟨[.val true [.sc, .sc, .sl [.sc, .sc]]], [(false, [.sc])], F_CylinderOk⟩
def impl_CylinderOk_hs : List NF := [⟨[], [], [], 64⟩, ⟨[(1, .ptr 64 0), (22, .sc false [.ro [.sc, .sc]]), (23, .sc false [.sc]), (24, .sc false [.sc])], [], [(64, [.sc, .sc, .ro [.sc, .sc]])], 65⟩, ⟨[(1, .ptr 64 0), (22, .sc false [.ro [.sc, .sc]]), (23, .sc false [.sc]), (24, .sc false [.sc])], [], [(64, [.sc, .sc, .ro [.sc, .sc]])], 65⟩]

def impl_PinSum_b0 : L := .seq (.seq (.rg [⟨[], .bin .lss, [.v 3, .v 2], 1⟩]) (.seq (.ite (.v 4) (.skip) (.seq (.tup [.v 0]) (.exit 0))) (.seq (.block 1 (.seq (.seq (.rg [⟨[], .idx [.sc, .sc], [.v 1, .v 3], 2⟩]) (.rg [⟨[], .bin .add, [.v 3, .k (.int .i64 1)], 1⟩, ⟨[], .bin .mul, [.k (.int .i64 100), .v 5], 1⟩, ⟨[], .bin .add, [.v 8, .v 6], 1⟩, ⟨[], .bin .add, [.v 9, .k (.int .i64 1)], 1⟩, ⟨[], .bin .mul, [.v 7, .v 10], 1⟩, ⟨[], .bin .add, [.v 0, .v 11], 1⟩])) (.tup [.v 12, .v 1, .v 2, .v 3]))) (.rg [⟨[], .bin .add, [.v 3, .k (.int .i64 1)], 1⟩])))) (.tup [.v 0, .v 1, .v 2, .v 4])
theorem impl_PinSum_b0_sh (Q : QT) (x0 x1 x2 x3 : V) : shL impl_PinSum_b0 Q [x0, x1, x2, x3] = (
  P1 (.bin .lss) [x3, x2] fun v0 =>
  ifB v0 (
    P2 (.idx [.sc, .sc]) [x1, x3] fun v1 v2 =>
    P1 (.bin .add) [x3, .int .i64 1] fun v3 =>
    P1 (.bin .mul) [.int .i64 100, v1] fun v4 =>
    P1 (.bin .add) [v4, v2] fun v5 =>
    P1 (.bin .add) [v5, .int .i64 1] fun v6 =>
    P1 (.bin .mul) [v3, v6] fun v7 =>
    P1 (.bin .add) [x0, v7] fun v8 =>
    P1 (.bin .add) [x3, .int .i64 1] fun v9 =>
    Q .normal [v8, x1, x2, v9]) (
    Q (.exit 0) [x0])) := by kernel_rfl

def impl_PinSum_r1 : L := .seq (.rg [⟨[], .bin .rem, [.v 0, .k (.int .i64 9973)], 1⟩]) (.ret [.v 1])
theorem impl_PinSum_r1_sh (Q : QT) (x0 : V) : shL impl_PinSum_r1 Q [x0] = (
  P1 (.bin .rem) [x0, .int .i64 9973] fun v0 =>
  Q .ret [v0]) := by kernel_rfl

def impl_PinSum_L : L := .seq (.rg []) (.seq (.seq (.rg [⟨[], .call F_CylinderOk 0 1, [.v 0, .v 1, .v 2], 1⟩, ⟨[], .un .not, [.v 3], 1⟩]) (.ite (.v 4) (.seq (.rg []) (.ret [.k (.int .i64 (-1))])) (.skip))) (.seq (.rg []) (.seq (.seq (.rg [⟨[], .len, [.v 2], 1⟩]) (.block 0 (.seq (.tup [.k (.int .i64 0), .v 2, .v 5, .k (.int .i64 0)]) (.loop (impl_PinSum_b0))))) (impl_PinSum_r1))))
theorem impl_PinSum_L_sh (Q : QT) (x0 x1 x2 : V) : shL impl_PinSum_L Q [x0, x1, x2] = (
  P1 (.call F_CylinderOk 0 1) [x0, x1, x2] fun v0 =>
  P1 (.un .not) [v0] fun v1 =>
  ifB v1 (
    Q .ret [.int .i64 (-1)]) (
    P1 (.len) [x2] fun v2 =>
    shL (.loop impl_PinSum_b0) (qB 0 (qS (shL impl_PinSum_r1 Q) Q)) [.int .i64 0, x2, v2, .int .i64 0])) := by kernel_rfl
def impl_PinSum_S : Sig := ⟨[.val true [.sc, .sc, .sl [.sc, .sc]]], [(false, [.sc])], F_PinSum⟩
def impl_PinSum_hs : List NF := [⟨[(3, .sc false [.sc])], [], [], 64⟩, ⟨[(3, .sc false [.sc]), (10, .sc false [.ro [.sc, .sc]]), (11, .sc false [.sc]), (12, .sc false [.sc])], [], [], 64⟩, ⟨[(3, .sc false [.sc]), (10, .sc false [.ro [.sc, .sc]]), (11, .sc false [.sc]), (12, .sc false [.sc])], [], [], 64⟩]

def impl_areDigits_b0 : L := .seq (.seq (.rg [⟨[], .bin .lss, [.v 2, .v 1], 1⟩]) (.seq (.ite (.v 3) (.skip) (.seq (.tup []) (.exit 0))) (.seq (.block 1 (.seq (.seq (.rg [⟨[], .idx [.sc], [.v 0, .v 2], 1⟩]) (.seq (.rg [⟨[], .call F_within 0 1, [.v 4, .k (.int .i64 0), .k (.int .i64 9)], 1⟩, ⟨[], .un .not, [.v 5], 1⟩]) (.ite (.v 6) (.seq (.rg []) (.ret [.k (.bool false)])) (.skip)))) (.tup [.v 0, .v 1, .v 2]))) (.rg [⟨[], .bin .add, [.v 2, .k (.int .i64 1)], 1⟩])))) (.tup [.v 0, .v 1, .v 3])
theorem impl_areDigits_b0_sh (Q : QT) (x0 x1 x2 : V) : shL impl_areDigits_b0 Q [x0, x1, x2] = (
  P1 (.bin .lss) [x2, x1] fun v0 =>
  ifB v0 (
    P1 (.idx [.sc]) [x0, x2] fun v1 =>
    P1 (.call F_within 0 1) [v1, .int .i64 0, .int .i64 9] fun v2 =>
    P1 (.un .not) [v2] fun v3 =>
    ifB v3 (
      Q .ret [.bool false]) (
      P1 (.bin .add) [x2, .int .i64 1] fun v4 =>
      Q .normal [x0, x1, v4])) (
    Q (.exit 0) [])) := by kernel_rfl

def impl_areDigits_r1 : L := .seq (.rg []) (.ret [.k (.bool true)])
theorem impl_areDigits_r1_sh (Q : QT) : shL impl_areDigits_r1 Q [] = (
  Q .ret [.bool true]) := by kernel_rfl

def impl_areDigits_L : L := .seq (.rg []) (.seq (.seq (.rg [⟨[], .len, [.v 0], 1⟩, ⟨[], .call F_within 0 1, [.v 3, .v 1, .v 2], 1⟩, ⟨[], .un .not, [.v 4], 1⟩]) (.ite (.v 5) (.seq (.rg []) (.ret [.k (.bool false)])) (.skip))) (.seq (.seq (.rg [⟨[], .len, [.v 0], 1⟩]) (.block 0 (.seq (.tup [.v 0, .v 6, .k (.int .i64 0)]) (.loop (impl_areDigits_b0))))) (impl_areDigits_r1)))
theorem impl_areDigits_L_sh (Q : QT) (x0 x1 x2 : V) : shL impl_areDigits_L Q [x0, x1, x2] = (
  P1 (.len) [x0] fun v0 =>
  P1 (.call F_within 0 1) [v0, x1, x2] fun v1 =>
  P1 (.un .not) [v1] fun v2 =>
  ifB v2 (
    Q .ret [.bool false]) (
    P1 (.len) [x0] fun v3 =>
    shL (.loop impl_areDigits_b0) (qB 0 (qS (shL impl_areDigits_r1 Q) Q)) [x0, v3, .int .i64 0])) := by kernel_rfl
def impl_areDigits_S : Sig := ⟨[.val false [.sl [.sc]], .val false [.sc], .val false [.sc]], [(false, [.sc])], F_areDigits⟩
def impl_areDigits_hs : List NF := [⟨[], [], [], 64⟩, ⟨[(15, .sc false [.ro [.sc]]), (16, .sc false [.sc]), (17, .sc false [.sc])], [], [], 64⟩, ⟨[(15, .sc false [.ro [.sc]]), (16, .sc false [.sc]), (17, .sc false [.sc])], [], [], 64⟩]

def impl_copyInts_L : L := .seq (.rg []) (.seq (.rg [⟨[], .lst [.sc] false 0, [], 1⟩, ⟨[], .app [.sc] 8, [.v 1, .v 0], 1⟩]) (.ret [.v 2]))
theorem impl_copyInts_L_sh (Q : QT) (x0 : V) : shL impl_copyInts_L Q [x0] = (
  P1 (.lst [.sc] false 0) [] fun v0 =>
  P1 (.app [.sc] 8) [v0, x0] fun v1 =>
  Q .ret [v1]) := by kernel_rfl
def impl_copyInts_S : Sig := ⟨[.val false [.sl [.sc]]], [(false, [.sl [.sc]])], F_copyInts⟩
def impl_copyInts_hs : List NF := []

def impl_CheckDigit_b0 : L := .seq (.seq (.rg [⟨[], .bin .lss, [.v 3, .v 2], 1⟩]) (.seq (.ite (.v 4) (.skip) (.seq (.tup [.v 0]) (.exit 0))) (.seq (.block 1 (.seq (.seq (.rg [⟨[], .idx [.sc], [.v 1, .v 3], 1⟩]) (.seq (.rg [⟨[], .bin .rem, [.v 3, .k (.int .i64 2)], 1⟩, ⟨[], .bin .eql, [.v 6, .k (.int .i64 0)], 1⟩]) (.ite (.v 7) (.seq (.rg [⟨[], .bin .mul, [.k (.int .i64 3), .v 5], 1⟩, ⟨[], .bin .add, [.v 0, .v 8], 1⟩]) (.tup [.v 9, .v 1, .v 2, .v 3])) (.seq (.rg [⟨[], .bin .add, [.v 0, .v 5], 1⟩]) (.tup [.v 8, .v 1, .v 2, .v 3]))))) (.tup [.v 0, .v 1, .v 2, .v 3]))) (.rg [⟨[], .bin .add, [.v 3, .k (.int .i64 1)], 1⟩])))) (.tup [.v 0, .v 1, .v 2, .v 4])
theorem impl_CheckDigit_b0_sh (Q : QT) (x0 x1 x2 x3 : V) : shL impl_CheckDigit_b0 Q [x0, x1, x2, x3] = (
  P1 (.bin .lss) [x3, x2] fun v0 =>
  ifB v0 (
    P1 (.idx [.sc]) [x1, x3] fun v1 =>
    P1 (.bin .rem) [x3, .int .i64 2] fun v2 =>
    P1 (.bin .eql) [v2, .int .i64 0] fun v3 =>
    ifB v3 (
      P1 (.bin .mul) [.int .i64 3, v1] fun v4 =>
      P1 (.bin .add) [x0, v4] fun v5 =>
      P1 (.bin .add) [x3, .int .i64 1] fun v6 =>
      Q .normal [v5, x1, x2, v6]) (
      P1 (.bin .add) [x0, v1] fun v7 =>
      P1 (.bin .add) [x3, .int .i64 1] fun v8 =>
      Q .normal [v7, x1, x2, v8])) (
    Q (.exit 0) [x0])) := by kernel_rfl

def impl_CheckDigit_r1 : L := .seq (.rg [⟨[], .bin .rem, [.v 0, .k (.int .i64 10)], 1⟩, ⟨[], .bin .sub, [.k (.int .i64 10), .v 1], 1⟩, ⟨[], .bin .rem, [.v 2, .k (.int .i64 10)], 1⟩]) (.ret [.v 3])
theorem impl_CheckDigit_r1_sh (Q : QT) (x0 : V) : shL impl_CheckDigit_r1 Q [x0] = (
  P1 (.bin .rem) [x0, .int .i64 10] fun v0 =>
  P1 (.bin .sub) [.int .i64 10, v0] fun v1 =>
  P1 (.bin .rem) [v1, .int .i64 10] fun v2 =>
  Q .ret [v2]) := by kernel_rfl

def impl_CheckDigit_L : L := .seq (.rg []) (.seq (.seq (.rg [⟨[], .call F_areDigits 0 1, [.v 0, .k (.int .i64 1), .k (.int .i64 20)], 1⟩, ⟨[], .un .not, [.v 1], 1⟩]) (.ite (.v 2) (.seq (.rg []) (.ret [.k (.int .i64 (-1))])) (.skip))) (.seq (.rg []) (.seq (.seq (.rg [⟨[], .len, [.v 0], 1⟩]) (.block 0 (.seq (.tup [.k (.int .i64 0), .v 0, .v 3, .k (.int .i64 0)]) (.loop (impl_CheckDigit_b0))))) (impl_CheckDigit_r1))))
theorem impl_CheckDigit_L_sh (Q : QT) (x0 : V) : shL impl_CheckDigit_L Q [x0] = (
  P1 (.call F_areDigits 0 1) [x0, .int .i64 1, .int .i64 20] fun v0 =>
  P1 (.un .not) [v0] fun v1 =>
  ifB v1 (
    Q .ret [.int .i64 (-1)]) (
    P1 (.len) [x0] fun v2 =>
    shL (.loop impl_CheckDigit_b0) (qB 0 (qS (shL impl_CheckDigit_r1 Q) Q)) [.int .i64 0, x0, v2, .int .i64 0])) := by kernel_rfl
def impl_CheckDigit_S : Sig := ⟨[.val false [.sl [.sc]]], [(false, [.sc])], F_CheckDigit⟩
def impl_CheckDigit_hs : List NF := [⟨[(3, .sc false [.sc])], [], [], 64⟩, ⟨[(3, .sc false [.sc]), (9, .sc false [.ro [.sc]]), (10, .sc false [.sc]), (11, .sc false [.sc])], [], [], 64⟩, ⟨[(3, .sc false [.sc]), (9, .sc false [.ro [.sc]]), (10, .sc false [.sc]), (11, .sc false [.sc])], [], [], 64⟩, ⟨[(3, .sc false [.sc]), (9, .sc false [.ro [.sc]]), (10, .sc false [.sc]), (11, .sc false [.sc])], [], [], 64⟩]

def impl_IsChecked_L : L := .seq (.rg []) (.seq (.rg [⟨[], .len, [.v 0], 1⟩]) (.seq (.seq (.rg [⟨[], .bin .lss, [.v 1, .k (.int .i64 2)], 1⟩]) (.ite (.v 2) (.seq (.rg []) (.ret [.k (.bool false)])) (.skip))) (.seq (.rg [⟨[], .bin .sub, [.v 1, .k (.int .i64 1)], 1⟩, ⟨[], .lsub [.sc], [.v 0, .k (.int .i64 0), .v 3], 1⟩, ⟨[], .call F_CheckDigit 0 1, [.v 4], 1⟩]) (.seq (.rg [⟨[], .bin .geq, [.v 5, .k (.int .i64 0)], 1⟩, ⟨[(.v 6, true)], .bin .sub, [.v 1, .k (.int .i64 1)], 1⟩, ⟨[(.v 6, true)], .idx [.sc], [.v 0, .v 7], 1⟩, ⟨[(.v 6, true)], .bin .eql, [.v 8, .v 5], 1⟩, ⟨[], .pick, [.v 6, .v 9, .k (.bool false)], 1⟩]) (.ret [.v 10])))))
theorem impl_IsChecked_L_sh (Q : QT) (x0 : V) : shL impl_IsChecked_L Q [x0] = (
  P1 (.len) [x0] fun v0 =>
  P1 (.bin .lss) [v0, .int .i64 2] fun v1 =>
  ifB v1 (
    Q .ret [.bool false]) (
    P1 (.bin .sub) [v0, .int .i64 1] fun v2 =>
    P1 (.lsub [.sc]) [x0, .int .i64 0, v2] fun v3 =>
    P1 (.call F_CheckDigit 0 1) [v3] fun v4 =>
    P1 (.bin .geq) [v4, .int .i64 0] fun v5 =>
    ifB v5 (
      P1 (.bin .sub) [v0, .int .i64 1] fun v6 =>
      P1 (.idx [.sc]) [x0, v6] fun v7 =>
      P1 (.bin .eql) [v7, v4] fun v8 =>
      Q .ret [v8]) (
      Q .ret [.bool false]))) := by kernel_rfl
def impl_IsChecked_S : Sig := ⟨[.val false [.sl [.sc]]], [(false, [.sc])], F_IsChecked⟩
def impl_IsChecked_hs : List NF := []

def impl_WrongDigits_b1 : L := .seq (.seq (.seq (.rg [⟨[], .bin .geq, [.v 4, .k (.int .i64 0)], 1⟩]) (.ite (.v 10) (.skip) (.seq (.tup [.v 0, .v 3, .v 5, .v 6, .v 7, .v 8]) (.exit 2)))) (.seq (.block 3 (.seq (.seq (.rg [⟨[], .idx [.sc], [.v 9, .v 1], 1⟩, ⟨[], .set [.sc] 0, [.v 9, .v 1, .v 4], 1⟩]) (.seq (.rg [⟨[], .bin .neq, [.v 4, .v 2], 1⟩, ⟨[(.v 13, true)], .call F_IsChecked 0 1, [.v 12], 1⟩, ⟨[], .pick, [.v 13, .v 14, .k (.bool false)], 1⟩]) (.ite (.v 15) (.seq (.rg []) (.tup [.v 0, .v 1, .v 2, .v 4, .v 4, .v 5, .v 6, .v 7, .v 8, .v 12])) (.seq (.skip) (.tup [.v 0, .v 1, .v 2, .v 3, .v 4, .v 5, .v 6, .v 7, .v 8, .v 12]))))) (.tup [.v 0, .v 1, .v 2, .v 3, .v 4, .v 5, .v 6, .v 7, .v 8, .v 9]))) (.rg [⟨[], .bin .sub, [.v 4, .k (.int .i64 1)], 1⟩]))) (.tup [.v 0, .v 1, .v 2, .v 3, .v 10, .v 5, .v 6, .v 7, .v 8, .v 9])
theorem impl_WrongDigits_b1_sh (Q : QT) (x0 x1 x2 x3 x4 x5 x6 x7 x8 x9 : V) : shL impl_WrongDigits_b1 Q [x0, x1, x2, x3, x4, x5, x6, x7, x8, x9] = (
  P1 (.bin .geq) [x4, .int .i64 0] fun v0 =>
  ifB v0 (
    P1 (.idx [.sc]) [x9, x1] fun _ =>
    P1 (.set [.sc] 0) [x9, x1, x4] fun v2 =>
    P1 (.bin .neq) [x4, x2] fun v3 =>
    ifB v3 (
      P1 (.call F_IsChecked 0 1) [v2] fun v4 =>
      ifB v4 (
        P1 (.bin .sub) [x4, .int .i64 1] fun v5 =>
        Q .normal [x0, x1, x2, x4, v5, x5, x6, x7, x8, v2]) (
        P1 (.bin .sub) [x4, .int .i64 1] fun v6 =>
        Q .normal [x0, x1, x2, x3, v6, x5, x6, x7, x8, v2])) (
      P1 (.bin .sub) [x4, .int .i64 1] fun v7 =>
      Q .normal [x0, x1, x2, x3, v7, x5, x6, x7, x8, v2])) (
    Q (.exit 2) [x0, x3, x5, x6, x7, x8])) := by kernel_rfl

def impl_WrongDigits_r2 : L := .rg [⟨[], .lst [.sc] false 1, [.v 1], 1⟩, ⟨[], .app [.sc] 8, [.v 5, .v 6], 1⟩]
theorem impl_WrongDigits_r2_sh (Q : QT) (x0 x1 x2 x3 x4 x5 : V) : shL impl_WrongDigits_r2 Q [x0, x1, x2, x3, x4, x5] = (
  P1 (.lst [.sc] false 1) [x1] fun v0 =>
  P1 (.app [.sc] 8) [x5, v0] fun v1 =>
  Q .normal [x0, x1, x2, x3, x4, x5, v0, v1]) := by kernel_rfl

def impl_WrongDigits_r3 : L := .tup [.v 0, .v 2, .v 3, .v 4, .v 7]
theorem impl_WrongDigits_r3_sh (Q : QT) (x0 x1 x2 x3 x4 x5 x6 x7 : V) : shL impl_WrongDigits_r3 Q [x0, x1, x2, x3, x4, x5, x6, x7] = (
  Q .normal [x0, x2, x3, x4, x7]) := by kernel_rfl

def impl_WrongDigits_r4 : L := .rg [⟨[], .bin .add, [.v 3, .k (.int .i64 1)], 1⟩]
theorem impl_WrongDigits_r4_sh (Q : QT) (x0 x1 x2 x3 x4 : V) : shL impl_WrongDigits_r4 Q [x0, x1, x2, x3, x4] = (
  P1 (.bin .add) [x3, .int .i64 1] fun v0 =>
  Q .normal [x0, x1, x2, x3, x4, v0]) := by kernel_rfl

def impl_WrongDigits_r5 : L := .tup [.v 0, .v 1, .v 2, .v 5, .v 4]
theorem impl_WrongDigits_r5_sh (Q : QT) (x0 x1 x2 x3 x4 x5 : V) : shL impl_WrongDigits_r5 Q [x0, x1, x2, x3, x4, x5] = (
  Q .normal [x0, x1, x2, x5, x4]) := by kernel_rfl

def impl_WrongDigits_b0 : L := .seq (.seq (.rg [⟨[], .bin .lss, [.v 3, .v 2], 1⟩]) (.seq (.ite (.v 5) (.skip) (.seq (.tup [.v 4]) (.exit 0))) (.seq (.block 1 (.seq (.seq (.rg [⟨[], .idx [.sc], [.v 1, .v 3], 1⟩]) (.seq (.rg [⟨[], .call F_copyInts 0 1, [.v 0], 1⟩]) (.seq (.rg []) (.seq (.seq (.rg []) (.block 2 (.seq (.tup [.v 0, .v 3, .v 6, .k (.int .i64 (-1)), .k (.int .i64 9), .v 1, .v 2, .v 3, .v 4, .v 7]) (.loop (impl_WrongDigits_b1))))) (impl_WrongDigits_r2))))) (impl_WrongDigits_r3))) (impl_WrongDigits_r4)))) (impl_WrongDigits_r5)
theorem impl_WrongDigits_b0_sh (Q : QT) (x0 x1 x2 x3 x4 : V) : shL impl_WrongDigits_b0 Q [x0, x1, x2, x3, x4] = (
  P1 (.bin .lss) [x3, x2] fun v0 =>
  ifB v0 (
    P1 (.idx [.sc]) [x1, x3] fun v1 =>
    P1 (.call F_copyInts 0 1) [x0] fun v2 =>
    shL (.loop impl_WrongDigits_b1) (qB 2 (qS (shL impl_WrongDigits_r2 (qS (shL impl_WrongDigits_r3 (qB 1 (qS (shL impl_WrongDigits_r4 (qS (shL impl_WrongDigits_r5 Q) Q)) (qS (shL impl_WrongDigits_r5 Q) Q)))) (qB 1 (qS (shL impl_WrongDigits_r4 (qS (shL impl_WrongDigits_r5 Q) Q)) (qS (shL impl_WrongDigits_r5 Q) Q))))) (qS (shL impl_WrongDigits_r3 (qB 1 (qS (shL impl_WrongDigits_r4 (qS (shL impl_WrongDigits_r5 Q) Q)) (qS (shL impl_WrongDigits_r5 Q) Q)))) (qB 1 (qS (shL impl_WrongDigits_r4 (qS (shL impl_WrongDigits_r5 Q) Q)) (qS (shL impl_WrongDigits_r5 Q) Q)))))) [x0, x3, v1, .int .i64 (-1), .int .i64 9, x1, x2, x3, x4, v2]) (
    Q (.exit 0) [x4])) := by kernel_rfl

def impl_WrongDigits_r6 : L := .seq (.rg []) (.ret [.v 0])
theorem impl_WrongDigits_r6_sh (Q : QT) (x0 : V) : shL impl_WrongDigits_r6 Q [x0] = (
  Q .ret [x0]) := by kernel_rfl

def impl_WrongDigits_L : L := .seq (.rg []) (.seq (.seq (.rg [⟨[], .call F_areDigits 0 1, [.v 0, .k (.int .i64 2), .k (.int .i64 21)], 1⟩, ⟨[], .un .not, [.v 1], 1⟩]) (.ite (.v 2) (.seq (.rg []) (.ret [.k (.list [.sc] [])])) (.skip))) (.seq (.rg [⟨[], .lst [.sc] false 0, [], 1⟩]) (.seq (.seq (.rg [⟨[], .len, [.v 0], 1⟩]) (.block 0 (.seq (.tup [.v 0, .v 0, .v 4, .k (.int .i64 0), .v 3]) (.loop (impl_WrongDigits_b0))))) (impl_WrongDigits_r6))))
theorem impl_WrongDigits_L_sh (Q : QT) (x0 : V) : shL impl_WrongDigits_L Q [x0] = (
  P1 (.call F_areDigits 0 1) [x0, .int .i64 2, .int .i64 21] fun v0 =>
  P1 (.un .not) [v0] fun v1 =>
  ifB v1 (
    Q .ret [.list [.sc] []]) (
    P1 (.lst [.sc] false 0) [] fun v2 =>
    P1 (.len) [x0] fun v3 =>
    shL (.loop impl_WrongDigits_b0) (qB 0 (qS (shL impl_WrongDigits_r6 Q) Q)) [x0, x0, v3, .int .i64 0, v2])) := by kernel_rfl
def impl_WrongDigits_S : Sig := ⟨[.val false [.sl [.sc]]], [(false, [.sl [.sc]])], F_WrongDigits⟩
def impl_WrongDigits_hs : List NF := [⟨[(3, .sc false [.own 64])], [(64, true, [.sc])], [], 65⟩, ⟨[(0, .sc false [.ro [.sc]]), (3, .sc false [.own 64]), (13, .sc false [.ro [.sc]]), (14, .sc false [.sc]), (15, .sc false [.sc])], [(64, true, [.sc])], [], 65⟩, ⟨[(0, .sc false [.ro [.sc]]), (3, .sc false [.own 64]), (13, .sc false [.ro [.sc]]), (14, .sc false [.sc]), (15, .sc false [.sc])], [(64, true, [.sc])], [], 65⟩, ⟨[(0, .sc false [.ro [.sc]]), (3, .sc false [.own 64]), (7, .sc false [.sc]), (13, .sc false [.ro [.sc]]), (14, .sc false [.sc]), (15, .sc false [.sc])], [(64, true, [.sc])], [], 65⟩, ⟨[(0, .sc false [.ro [.sc]]), (3, .sc false [.own 64]), (4, .sc false [.sc]), (5, .sc false [.sc]), (6, .sc false [.own 65]), (7, .sc false [.sc]), (8, .sc false [.sc]), (13, .sc false [.ro [.sc]]), (14, .sc false [.sc]), (15, .sc false [.sc])], [(64, true, [.sc]), (65, true, [])], [], 66⟩, ⟨[(0, .sc false [.ro [.sc]]), (3, .sc false [.own 64]), (4, .sc false [.sc]), (5, .sc false [.sc]), (6, .sc false [.own 65]), (7, .sc false [.sc]), (8, .sc false [.sc]), (13, .sc false [.ro [.sc]]), (14, .sc false [.sc]), (15, .sc false [.sc])], [(64, true, [.sc]), (65, true, [])], [], 66⟩, ⟨[(0, .sc false [.ro [.sc]]), (3, .sc false [.own 64]), (4, .sc false [.sc]), (5, .sc false [.sc]), (6, .sc false [.own 65]), (7, .sc false [.sc]), (8, .sc false [.sc]), (13, .sc false [.ro [.sc]]), (14, .sc false [.sc]), (15, .sc false [.sc])], [(64, true, [.sc]), (65, true, [])], [], 66⟩]

end
end Go.Mw

/- Laws' helpers on memory, and the plain functions of pieces, pins, cylinders, states. -/
namespace Go.Mw
end Go.Mw

/- Pieces, pins, cylinders, states: the functions compute what was said. -/
namespace Go.Mw
/-! show time -/
/-! cylinders -/
theorem spec_l06Less_ok : ∀ ds outs, F_l06Less ds = some outs → shL spec_l06Less_L (qRet outs) ds := F_l06Less_elim fun x y => by
  rw [spec_l06Less_L_sh]; simp [pinLess]; grind
theorem impl_comparePins_ok : ∀ ds outs, F_comparePins ds = some outs → shL impl_comparePins_L (qRet outs) ds := F_comparePins_elim fun x y => by
  rw [impl_comparePins_L_sh]
  cases x; cases y
  simp [pinLess]
  grind
end Go.Mw

/- Cylinders and their pins. -/
namespace Go.Mw
theorem rising_iff : ∀ l : List T2, rising l = true ↔ ∀ j (_ : j < l.length), 0 < j → pinLess l[j - 1] l[j] = true
  | [] => by simp [rising]
  | [a] => by simp [rising]
  | a :: b :: r => by
    simp only [rising, Bool.and_eq_true, rising_iff (b :: r)]
    constructor
    · rintro ⟨h1, h2⟩ j hj h0
      rcases j with _ | _ | j
      · omega
      · exact h1
      · exact h2 (j + 1) (by simp at hj ⊢; omega) (by omega)
    · intro h
      refine ⟨h 1 (by simp) (by omega), fun j hj h0 => ?_⟩
      have := h (j + 1) (by simp at hj ⊢; omega) (by omega)
      rcases j with _ | j
      · omega
      · exact this

def goodPin (x : Cyl) (j : Nat) (hj : j < x.p.length) : Prop := pinIn x.s x.t x.p[j] = true ∧ (0 < j → pinLess x.p[j - 1] x.p[j] = true)
theorem cylOk_iff (x : Cyl) : cylOk x = true ↔ within x.s 4 96 = true ∧ within x.t 1 100 = true ∧ x.p.length ≤ 100 ∧ ∀ j (hj : j < x.p.length), goodPin x j hj := by
  simp only [cylOk, Bool.and_eq_true, decide_eq_true_eq, rising_iff, List.all_eq_true, goodPin, and_assoc]
  refine and_congr_right fun _ => and_congr_right fun _ => and_congr_right fun _ => ?_
  constructor
  · rintro ⟨h1, h2⟩ j hj
    exact ⟨h1 _ (List.getElem_mem hj), h2 j hj⟩
  · intro h
    refine ⟨fun p hp => ?_, fun j hj h0 => (h j hj).2 h0⟩
    obtain ⟨j, hj, rfl⟩ := List.getElem_of_mem hp
    exact (h j hj).1

theorem impl_CylinderOk_ok : ∀ ds outs, F_CylinderOk ds = some outs → shL impl_CylinderOk_L (qRet outs) ds := F_CylinderOk_elim fun x hp => by
  rw [impl_CylinderOk_L_sh]
  cases h1 : within x.s 4 96 with
  | false => simp [h1, cylOk]
  | true =>
  cases h2 : within x.t 1 100 with
  | false => simp [h1, h2, cylOk]
  | true =>
  have hs : 4 ≤ x.s ∧ x.s ≤ 96 := by simpa [within] using h1
  have ht : 1 ≤ x.t ∧ x.t ≤ 100 := by simpa [within] using h2
  simp [h1, h2]
  refine ⟨fun h => ?_, fun h3 => ?_⟩
  · cases hc : cylOk x with
    | false => rfl
    | true => have := ((cylOk_iff x).1 hc).2.2.1; omega
  have hc : cylOk x = true ↔ ∀ j (hj : j < x.p.length), goodPin x j hj := by
    rw [cylOk_iff, h1, h2]; simp; intro _; omega
  refine loop_upto x.p.length (fun k => [vL I2 v2 x.p, .int .i64 x.p.length, .int .i64 k, .int .i64 x.s, .int .i64 x.t, vL I2 v2 x.p]) (by intro i j _ _ h; simp at h; omega) (fun k => ∀ j (hj : j < x.p.length), j < k → goodPin x j hj) (by simp) (by simp) ?_
  intro k hk hP
  rw [impl_CylinderOk_b0_sh]
  simp
  refine ⟨fun h => ?_, fun h => ?_⟩
  · have hbad : ¬ goodPin x k h → cylOk x = false := fun hn => by
      cases hcc : cylOk x with
      | false => rfl
      | true => exact absurd (hc.1 hcc k h) hn
    have hgood : goodPin x k h → ∀ j (hj : j < x.p.length), j < k + 1 → goodPin x j hj := fun hg j hj hjk => by
      by_cases hjk2 : j = k
      · subst hjk2; exact hg
      · exact hP j hj (by omega)
    simp (disch := omega) only [h, List.getElem?_eq_getElem, Option.some.injEq, exists_eq_left', wrap_id]
    cases e1 : within x.p[k].a 0 (x.t - 1) with
    | false => simp; exact hbad (by simp [goodPin, pinIn, e1])
    | true =>
    cases e2 : within x.p[k].b 0 (x.s - 1) with
    | false => simp; exact hbad (by simp [goodPin, pinIn, e1, e2])
    | true =>
    have hk1 : ((k : Int) - 1).toNat = k - 1 := by omega
    have hk2 : k - 1 < x.p.length := by omega
    simp (disch := omega) [hk1]
    refine ⟨fun hk0 => ⟨by omega, fun e3 => hbad ?_, fun e3 => ?_⟩, fun hk0 => ?_⟩
    · simp only [goodPin, hk0, forall_const, not_and]
      intro _ e4
      simp [e4] at e3
    · refine hgood ⟨by simp [pinIn, e1, e2], fun _ => ?_⟩
      by_cases e4 : pinLess x.p[k - 1] x.p[k] = true
      · exact e4
      · rw [if_neg e4] at e3
        split at e3 <;> omega
    · exact hgood ⟨by simp [pinIn, e1, e2], fun hh => by omega⟩
  · obtain rfl : k = x.p.length := by omega
    simp [impl_CylinderOk_r1_sh]
    exact (hc.2 fun j hj => hP j hj hj)

end Go.Mw

/- Sums, steps, states. -/
namespace Go.Mw
theorem cylOk_bounds {x : Cyl} (h : cylOk x = true) : (4 ≤ x.s ∧ x.s ≤ 96) ∧ (1 ≤ x.t ∧ x.t ≤ 100) ∧ x.p.length ≤ 100 := by
  have h := (cylOk_iff x).1 h
  exact ⟨by simpa [within] using h.1, by simpa [within] using h.2.1, h.2.2.1⟩
theorem cylOk_pin {x : Cyl} (h : cylOk x = true) {k : Nat} (hk : k < x.p.length) : (0 ≤ x.p[k].a ∧ x.p[k].a ≤ 99) ∧ (0 ≤ x.p[k].b ∧ x.p[k].b ≤ 95) := by
  have hb := cylOk_bounds h
  have h := (((cylOk_iff x).1 h).2.2.2 k hk).1
  simp [pinIn, within] at h
  omega
theorem pinSumGo_snoc (x : T2) : ∀ (l : List T2) (k : Int), pinSumGo (l ++ [x]) k = pinSumGo l k + (k + l.length) * (100 * x.a + x.b + 1)
  | [], k => by simp [pinSumGo]
  | p :: r, k => by
    simp only [List.cons_append, pinSumGo, pinSumGo_snoc x r (k + 1), List.length_cons]
    push_cast
    rw [show k + 1 + (r.length : Int) = k + ((r.length : Int) + 1) by omega]
    omega
theorem pinSumGo_bound {x : Cyl} (h : cylOk x = true) : ∀ k : Nat, k ≤ x.p.length → 0 ≤ pinSumGo (x.p.take k) 1 ∧ pinSumGo (x.p.take k) 1 ≤ 1000000 * k
  | 0, _ => by simp [pinSumGo]
  | k + 1, hk => by
    have ih := pinSumGo_bound h k (by omega)
    have hp := cylOk_pin h (k := k) (by omega)
    have hb := cylOk_bounds h
    rw [take_succ_get (by omega), pinSumGo_snoc]
    have e : ((x.p.take k).length : Int) = k := by simp; omega
    rw [e]
    generalize x.p[k].a = a at *
    generalize x.p[k].b = b at *
    have h1 : (0 : Int) ≤ (1 + k) * (100 * a + b + 1) := Int.mul_nonneg (by omega) (by omega)
    have h2 : (1 + (k : Int)) * (100 * a + b + 1) ≤ 100 * 10000 := Int.mul_le_mul (by omega) (by omega) (by omega) (by omega)
    omega
theorem mul_b {a b : Int} (h0 : 0 ≤ a) (h1 : a ≤ 100) (h2 : 0 ≤ b) (h3 : b ≤ 10000) : 0 ≤ a * b ∧ a * b ≤ 1000000 :=
  ⟨Int.mul_nonneg h0 h2, Int.le_trans (Int.mul_le_mul h1 h3 h2 (by omega)) (by omega)⟩
theorem impl_PinSum_ok : ∀ ds outs, F_PinSum ds = some outs → shL impl_PinSum_L (qRet outs) ds := F_PinSum_elim fun x hp => by
  rw [impl_PinSum_L_sh]
  rw [p_CylinderOk hp]
  cases h : cylOk x with
  | false => simp [pinSum, h]
  | true =>
    have hb := cylOk_bounds h
    simp [pinSum, h]
    refine loop_upto x.p.length (fun k => [.int .i64 (pinSumGo (x.p.take k) 1), vL I2 v2 x.p, .int .i64 x.p.length, .int .i64 k]) (by intro i j _ _ h; simp at h; omega) (fun _ => True) (by simp [pinSumGo]) trivial ?_
    intro k hk _
    have hs := pinSumGo_bound h k hk
    rw [impl_PinSum_b0_sh]
    simp
    refine ⟨fun h3 => ?_, fun h3 => ?_⟩
    · have hq := cylOk_pin h h3
      have e : pinSumGo (x.p.take (k + 1)) 1 = pinSumGo (x.p.take k) 1 + ((k : Int) + 1) * (100 * x.p[k].a + x.p[k].b + 1) := by
        rw [take_succ_get h3, pinSumGo_snoc, show 1 + ((x.p.take k).length : Int) = (k : Int) + 1 by simp; omega]
      rw [e]
      have hm := mul_b (a := (k : Int) + 1) (b := 100 * x.p[k].a + x.p[k].b + 1) (by omega) (by omega) (by omega) (by omega)
      simp (disch := omega) [h3, wrap_id]
    · obtain rfl : k = x.p.length := by omega
      simp [impl_PinSum_r1_sh]
      rw [List.take_length] at hs
      rw [Int.tmod_eq_emod_of_nonneg (by omega)]
end Go.Mw

/- States: around, pins at an angle, start, stop, step. -/
namespace Go.Mw
theorem sttOk_iff (x : Cyl) (y : Stt) : sttOk x y = true ↔ cylOk x = true ∧ (0 ≤ y.a ∧ y.a ≤ x.s - 1) ∧ (0 ≤ y.p ∧ y.p ≤ 100000) := by
  simp [sttOk, within]
end Go.Mw

/- Steps and runs. -/
namespace Go.Mw
theorem canStep_iff (x : Cyl) (y : Stt) : canStep x y = true ↔ sttOk x y = true ∧ y.n = true ∧ sttOk x (nextStt x y) = true := by
  simp [canStep, and_assoc]
theorem itS_on {x : Cyl} {y : Stt} (h : sttOk x y = true) (hn : y.n = true) : ∀ k, k < runN x y → (itS x y k).a = y.a + k ∧ (itS x y k).n = true
  | 0, _ => by simp [itS, hn]
  | k + 1, hk => by
    have ih := itS_on h hn k (by omega)
    have hs := (sttOk_iff x y).1 h
    unfold runN at hk
    have e : (y.a + k + 1) % x.s = y.a + k + 1 := Int.emod_eq_of_lt (by omega) (by omega)
    simp only [itS, nextStt, ih.1, e]
    simp; omega
theorem itS_off {x : Cyl} {y : Stt} (h : sttOk x y = true) (hn : y.n = true) : (itS x y (runN x y)).a = 0 ∧ (itS x y (runN x y)).n = false := by
  have hs := (sttOk_iff x y).1 h
  obtain ⟨k, hk⟩ : ∃ k, runN x y = k + 1 := ⟨runN x y - 1, by unfold runN; omega⟩
  have ih := itS_on h hn k (by omega)
  rw [hk]
  have e : (y.a + k + 1) % x.s = 0 := by
    rw [show y.a + k + 1 = x.s by unfold runN at hk; omega, Int.emod_self]
  simp only [itS, nextStt, ih.1, e]
  simp
end Go.Mw

/- Digits; boxes. -/
namespace Go.Mw
theorem areDigits_iff {l : List Int} {a b : Int} : areDigits l a b = true ↔ within l.length a b = true ∧ ∀ x ∈ l, within x 0 9 = true := by
  simp [areDigits]
theorem impl_areDigits_ok : ∀ ds outs, F_areDigits ds = some outs → shL impl_areDigits_L (qRet outs) ds := F_areDigits_elim fun l a b hp => by
  rw [impl_areDigits_L_sh]
  cases hw : within l.length a b with
  | false => simp [hw, areDigits]
  | true =>
  simp [hw]
  refine loop_upto l.length (fun k => [vL I1 v1 l, .int .i64 l.length, .int .i64 k]) (by intro i j _ _ h; simp at h; omega) (fun k => ∀ x ∈ l.take k, within x 0 9 = true) (by simp) (by simp) ?_
  intro k hk hP
  rw [impl_areDigits_b0_sh]
  simp
  refine ⟨fun h => ?_, fun h => ?_⟩
  · have hno : within l[k] 0 9 = false → areDigits l a b = false := by
      intro hf
      cases hc : areDigits l a b with
      | false => rfl
      | true => have := (areDigits_iff.1 hc).2 l[k] (by simp); simp [hf] at this
    simp (disch := omega) only [h, List.getElem?_eq_getElem, Option.some.injEq, exists_eq_left', wrap_id, all_take_succ h]
    cases h1 : within l[k] 0 9 <;> simp_all
  · obtain rfl : k = l.length := by omega
    simp [impl_areDigits_r1_sh, areDigits, hw]
    simpa using hP
def evenN (k : Nat) : Bool := k % 2 == 0
theorem digitSum_snoc (x : Int) : ∀ (l : List Int) (t : Bool), digitSum (l ++ [x]) t = digitSum l t + (if (evenN l.length == t) then 3 * x else x)
  | [], true => by simp [digitSum, evenN]
  | [], false => by simp [digitSum, evenN]
  | d :: r, true => by
    simp only [List.cons_append, digitSum, digitSum_snoc x r false, List.length_cons]
    have : evenN (r.length + 1) = !evenN r.length := by unfold evenN; rcases Nat.mod_two_eq_zero_or_one r.length with h | h <;> simp [h, Nat.add_mod]
    simp only [this]
    cases evenN r.length <;> simp <;> omega
  | d :: r, false => by
    simp only [List.cons_append, digitSum, digitSum_snoc x r true, List.length_cons]
    have : evenN (r.length + 1) = !evenN r.length := by unfold evenN; rcases Nat.mod_two_eq_zero_or_one r.length with h | h <;> simp [h, Nat.add_mod]
    simp only [this]
    cases evenN r.length <;> simp <;> omega
theorem digitSum_succ {l : List Int} {k : Nat} (h : k < l.length) : digitSum (l.take (k + 1)) true = digitSum (l.take k) true + (if evenN k then 3 * l[k] else l[k]) := by
  rw [take_succ_get h, digitSum_snoc]
  have : (l.take k).length = k := by simp; omega
  rw [this]; simp
theorem digitSum_bound {l : List Int} (h : ∀ x ∈ l, 0 ≤ x ∧ x ≤ 9) : ∀ k, k ≤ l.length → 0 ≤ digitSum (l.take k) true ∧ digitSum (l.take k) true ≤ 27 * k
  | 0, _ => by simp [digitSum]
  | k + 1, hk => by
    have ih := digitSum_bound h k (by omega)
    have hx := h l[k] (by simp)
    rw [digitSum_succ (by omega)]
    split <;> omega
theorem checkDigit_pre {l : List Int} (h : areDigits l 1 20 = true) : (l.length ≤ 20) ∧ ∀ x ∈ l, 0 ≤ x ∧ x ≤ 9 := by
  rw [areDigits_iff] at h
  simp [within] at h
  exact ⟨by omega, h.2⟩
theorem mod2 (k : Nat) : ((k : Int).tmod 2 == 0) = evenN k := by
  rw [Int.tmod_eq_emod_of_nonneg (by omega)]
  unfold evenN
  rcases Nat.mod_two_eq_zero_or_one k with h | h
  · have : (k : Int) % 2 = 0 := by omega
    simp [h, this]
  · have : (k : Int) % 2 = 1 := by omega
    simp [h, this]
theorem impl_CheckDigit_ok : ∀ ds outs, F_CheckDigit ds = some outs → shL impl_CheckDigit_L (qRet outs) ds := F_CheckDigit_elim fun l hp => by
  rw [impl_CheckDigit_L_sh]
  cases hd : areDigits l 1 20 with
  | false => simp [p_areDigits hp, hd, checkDigit]
  | true =>
    obtain ⟨hlen, hx⟩ := checkDigit_pre hd
    simp [p_areDigits hp, hd, checkDigit]
    refine loop_upto l.length (fun k => [.int .i64 (digitSum (l.take k) true), vL I1 v1 l, .int .i64 l.length, .int .i64 k]) (by intro i j _ _ h; simp at h; omega) (fun _ => True) (by simp [digitSum]) trivial ?_
    intro k hk _
    have hb := digitSum_bound hx k hk
    rw [impl_CheckDigit_b0_sh]
    simp only [P1_lss, P1_rem, P1_eql, mod2]
    simp
    refine ⟨fun h => ?_, fun h => ?_⟩
    · have hg := hx l[k] (by simp)
      rw [digitSum_succ h]
      cases he : evenN k <;> simp (disch := omega) [h, wrap_id]
    · obtain rfl : k = l.length := by omega
      rw [List.take_length] at hb
      have h5 : (digitSum l true).tmod 10 = digitSum l true % 10 := Int.tmod_eq_emod_of_nonneg (by omega)
      have h6 : (10 - digitSum l true % 10).tmod 10 = (10 - digitSum l true % 10) % 10 := Int.tmod_eq_emod_of_nonneg (by omega)
      simp (disch := omega) [impl_CheckDigit_r1_sh, h5, wrap_id, h6]
theorem impl_copyInts_ok : ∀ ds outs, F_copyInts ds = some outs → shL impl_copyInts_L (qRet outs) ds := F_copyInts_elim fun l hp => by
  rw [impl_copyInts_L_sh]
  simp []; omega
end Go.Mw

/- Checked digits. -/
namespace Go.Mw
theorem impl_IsChecked_ok : ∀ ds outs, F_IsChecked ds = some outs → shL impl_IsChecked_L (qRet outs) ds := F_IsChecked_elim fun l hp => by
  rw [impl_IsChecked_L_sh]
  by_cases h2 : 2 ≤ l.length
  · have e1 : ((l.length : Int) - 1).toNat = l.length - 1 := by omega
    have h3 : l.length - 1 < l.length := by omega
    have h5 : (l.take (l.length - 1)).length ≤ 1048576 := by simp; omega
    simp (disch := omega) [isChecked, h2, wrap_id, e1, p_CheckDigit h5]
    refine ⟨by omega, fun _ => ⟨by omega, fun h6 => ⟨by omega, by grind⟩, by omega⟩⟩
  · simp [isChecked, h2]
    intro h; omega
theorem scanD_succ (f : Int → Bool) (n : Nat) : scanD f (n + 1) = if f (9 - (n : Int)) then 9 - (n : Int) else scanD f n := rfl
def wrF (l : List Int) (i : Nat) (d : Int) : Bool := decide (some d ≠ l[i]?) && isChecked (l.set i d)
theorem wrongAt_eq (l : List Int) (i : Nat) : wrongAt l i = scanD (wrF l i) 10 := rfl
theorem impl_WrongDigits_ok : ∀ ds outs, F_WrongDigits ds = some outs → shL impl_WrongDigits_L (qRet outs) ds := F_WrongDigits_elim fun l hp => by
  rw [impl_WrongDigits_L_sh]
  cases hd : areDigits l 2 21 with
  | false => simp [wrongDigits, p_areDigits hp, hd]
  | true =>
  have hlen : l.length ≤ 21 := by rw [areDigits_iff] at hd; simp [within] at hd; omega
  simp [wrongDigits, hd, p_areDigits hp]
  refine loop_upto l.length (fun k => [vL I1 v1 l, vL I1 v1 l, .int .i64 l.length, .int .i64 k, vL I1 v1 ((List.range k).map (wrongAt l))]) (by intro i j _ _ h; simp at h; omega) (fun _ => True) (by simp) trivial ?_
  intro i hi _
  rw [impl_WrongDigits_b0_sh]
  simp
  refine ⟨fun h => ?_, fun h => ?_⟩
  · simp [h, p_copyInts (show l.length ≤ 4194304 by omega)]
    refine loop_upto 10 (fun n => [vL I1 v1 l, .int .i64 i, .int .i64 l[i], .int .i64 (scanD (wrF l i) n), .int .i64 (9 - n), vL I1 v1 l, .int .i64 l.length, .int .i64 i, vL I1 v1 ((List.range i).map (wrongAt l)), vL I1 v1 (if n = 0 then l else l.set i (10 - n))]) (by intro i j _ _ h; simp at h; omega) (fun _ => True) (by simp [scanD]) trivial ?_
    intro n hn _
    rw [impl_WrongDigits_b1_sh]
    have hgl : (if n = 0 then l else l.set i (10 - (n : Int))).length = l.length := by split <;> simp
    have hgs : (if n = 0 then l else l.set i (10 - (n : Int))).set i (9 - (n : Int)) = l.set i (9 - (n : Int)) := by split <;> simp
    have hgn : (if n + 1 = 0 then l else l.set i (10 - ((n + 1 : Nat) : Int))) = l.set i (9 - (n : Int)) := by
      rw [if_neg (by omega)]; congr 1; push_cast; omega
    rw [hgn]
    generalize (if n = 0 then l else l.set i (10 - (n : Int))) = w at *
    have hiw : i < w.length := by omega
    by_cases h9 : (n : Int) ≤ 9
    · have h10 : n < 10 := by omega
      have hs : (l.set i (9 - n)).length ≤ 1048576 := by simp; omega
      rw [scanD_succ]
      cases hf : wrF l i (9 - n) with
      | false =>
        simp (disch := omega) [h9, h10, p_IsChecked hs, wrap_id, hgs]
        simp [wrF, h] at hf
        exact ⟨fun h1 => ⟨fun h2 => by simp [h2] at hf; exact absurd hf h1, fun _ => by omega⟩, fun _ => by omega⟩
      | true =>
        simp (disch := omega) [h9, h10, p_IsChecked hs, wrap_id, hgs]
        simp [wrF, h] at hf
        exact ⟨fun _ => ⟨fun _ => by omega, fun h3 => by simp [hf.2] at h3⟩, fun h3 => absurd h3 hf.1⟩
    · obtain rfl : n = 10 := by omega
      simp [impl_WrongDigits_r2_sh, impl_WrongDigits_r3_sh, impl_WrongDigits_r4_sh, impl_WrongDigits_r5_sh]
      refine ⟨by omega, wrap_id (by omega) (by omega), ?_⟩
      rw [List.range_succ, List.map_append, ← wrongAt_eq]; rfl
  · obtain rfl : i = l.length := by omega
    simp [impl_WrongDigits_r6_sh]
end Go.Mw

/- Boxes; moods. -/
namespace Go.Mw
end Go.Mw

/- Moods. -/
namespace Go.Mw
/-- Which of the numbers below n stand in the list. -/
def seenOf (l : List Int) (n : Nat) : List Bool := (List.range n).map fun j : Nat => decide ((j : Int) ∈ l)
@[simp] theorem seenOf_len {l : List Int} {n : Nat} : (seenOf l n).length = n := by simp [seenOf]
end Go.Mw

/- What functions compute, in plain terms: benches and workshops. -/
namespace Go.Mw
/-! memory -/
/-! benches -/
/-! workshops -/
def Shop.bench (w : Shop) : Bench := ⟨w.s, w.t, w.p, w.o⟩
end Go.Mw

/- Functions of the program, as small pure programs (printed by a program of ours). -/
namespace Go.Mw
noncomputable section
end
end Go.Mw

/- Benches: memory. -/
namespace Go.Mw
end Go.Mw

/- Benches: memory that is marked. -/
namespace Go.Mw
end Go.Mw

/- Benches: memory; what is a fine bench. -/
namespace Go.Mw
end Go.Mw

/- Benches: laws, copies, changed pins. -/
namespace Go.Mw
end Go.Mw

/- Benches: changed pins, copies, new benches. -/
namespace Go.Mw
end Go.Mw

/- New benches; combs, springs, workshops. -/
namespace Go.Mw
@[simp] theorem P1_lstL2 {a : List T2} {k : V → Prop} : P1 (.lst [.sl [.sc, .sc]] false 1) [vL I2 v2 a] k ↔ k (vL IL2 vLL2 [a]) := P1_of (by simp [Prim.run, aksOk, akOk, chunk, V.pack, vL, vLL2, AK.eqs_refl, IL2]) k
end Go.Mw

/- Combs, workshops. -/
namespace Go.Mw
end Go.Mw

/- Workshops. -/
namespace Go.Mw
end Go.Mw

/- Workshops: memory, opening. -/
namespace Go.Mw
@[simp] theorem P1_lst14 {a b c d : Int} {k : V → Prop} : P1 (.lst [.sc] false 4) [.int .i64 a, .int .i64 b, .int .i64 c, .int .i64 d] k ↔ k (vL I1 v1 [a, b, c, d]) := P1_of (by simp [Prim.run, aksOk, akOk, chunk, V.pack, vL, v1]) k
end Go.Mw

/- The sample workshop: the law. -/
namespace Go.Mw
noncomputable section
end
end Go.Mw

/- What functions compute, in plain terms: the bench's steps. -/
namespace Go.Mw
end Go.Mw

/- Functions of the program, as small pure programs (printed by a program of ours). -/
namespace Go.Mw
noncomputable section
end
end Go.Mw

/- Taking back; a step of the bench; pulling a pin. -/
namespace Go.Mw
end Go.Mw

/- Copies of a bench (spec); pulling a pin. -/
namespace Go.Mw
end Go.Mw

/- What functions compute, in plain terms: draws; stops and sums. -/
namespace Go.Mw
/-- A bitwise operation of the machine. -/
def land (a b : Int) : Int := IntKind.i64.wrap (BitVec.ofInt IntKind.i64.bits a &&& BitVec.ofInt IntKind.i64.bits b).toNat
def lxor (a b : Int) : Int := IntKind.i64.wrap (BitVec.ofInt IntKind.i64.bits a ^^^ BitVec.ofInt IntKind.i64.bits b).toNat
@[simp] theorem P1_and {a b : Int} {k : V → Prop} : P1 (.bin .and) [.int .i64 a, .int .i64 b] k ↔ k (.int .i64 (land a b)) := P1_of (by simp [Prim.run, binV, binI, land]) k
@[simp] theorem P1_xor {a b : Int} {k : V → Prop} : P1 (.bin .xor) [.int .i64 a, .int .i64 b] k ↔ k (.int .i64 (lxor a b)) := P1_of (by simp [Prim.run, binV, binI, lxor]) k
theorem P1_shr {a b : Int} {κ' : IntKind} {k : V → Prop} (hb : 0 ≤ b) : P1 (.bin .shr) [.int .i64 a, .int κ' b] k ↔ k (.int .i64 (a.fdiv (2 ^ (min b.toNat IntKind.i64.bits)))) := P1_of (by simp [Prim.run, binV]; omega) k
/-- A cursor: its bytes, the place, the hash. -/
structure Cur where
  b : List UInt8
  i : Int
  h : Int
def E_big (l : List UInt8) : List V := [vL I1 vY l]
noncomputable def F_big : List V → Option (List V) := mkF E_big (fun l => l.length ≤ 9223372036854775807) (fun l => [.bool (decide (1048576 < l.length))])
theorem F_big_inj : ∀ x y, E_big x = E_big y → x = y := by
  rintro l l' h
  simpa [E_big] using h
theorem F_big_elim {P : List V → List V → Prop} (h : ∀ (l : List UInt8), (l.length ≤ 9223372036854775807) → P [vL I1 vY l] [.bool (decide (1048576 < l.length))]) : ∀ ds outs, F_big ds = some outs → P ds outs := by
  intro ds outs hh
  obtain ⟨l, rfl, hp, rfl⟩ := mkF_inv hh
  exact h l hp
theorem p_big {l : List UInt8} {nr_ : Nat} {kk_ : V → Prop} (hp : l.length ≤ 9223372036854775807) : P1 (.call F_big 0 nr_) [vL I1 vY l] kk_ ↔ kk_ (.bool (decide (1048576 < l.length))) :=
  P1_callF (by unfold F_big; exact mkF_eq F_big_inj (l) hp)

def seedTo (l : List UInt8) : Nat → Int
  | 0 => 33091 + l.length
  | k + 1 => land (IntKind.i64.wrap (IntKind.i64.wrap (IntKind.i64.wrap (seedTo l k * 131) + (match l[k]? with | some x => (x.toNat : Int) | none => 0)) + 7)) 1073741823
def seedOf (l : List UInt8) : Int := seedTo l (min l.length 4000)
def E_l01New (l : List UInt8) : List V := [vL I1 vY l]
noncomputable def F_l01New : List V → Option (List V) := mkF E_l01New (fun l => l.length ≤ 1048576) (fun l => [vL I1 vY l, .int .i64 0, .int .i64 (seedOf l)])
theorem F_l01New_inj : ∀ x y, E_l01New x = E_l01New y → x = y := by
  rintro l l' h
  simpa [E_l01New] using h
theorem F_l01New_elim {P : List V → List V → Prop} (h : ∀ (l : List UInt8), (l.length ≤ 1048576) → P [vL I1 vY l] [vL I1 vY l, .int .i64 0, .int .i64 (seedOf l)]) : ∀ ds outs, F_l01New ds = some outs → P ds outs := by
  intro ds outs hh
  obtain ⟨l, rfl, hp, rfl⟩ := mkF_inv hh
  exact h l hp
theorem p_l01New {l : List UInt8} {nr_ : Nat} {kk_ : V → V → V → Prop} (hp : l.length ≤ 1048576) : P3 (.call F_l01New 0 nr_) [vL I1 vY l] kk_ ↔ kk_ (vL I1 vY l) (.int .i64 0) (.int .i64 (seedOf l)) :=
  P3_callF (by unfold F_l01New; exact mkF_eq F_l01New_inj (l) hp)

def hNext (h : Int) : Int := IntKind.i64.wrap (IntKind.i64.wrap (h * 6364136223846793005) + 1442695040888963407)
def hByte (h : Int) : Int := land (lxor (h.fdiv (2 ^ 33)) (h.fdiv (2 ^ 45))) 255
def cByte (x : Cur) : Int := match x.b[x.i.toNat]? with | some y => land (IntKind.i64.wrap (hByte (hNext x.h) + y.toNat)) 255 | none => hByte (hNext x.h)
def cStep (x : Cur) : Cur := ⟨x.b, if x.i < x.b.length then x.i + 1 else x.i, hNext x.h⟩
def E_l01Byte (x : Cur) : List V := [vL I1 vY x.b, .int .i64 x.i, .int .i64 x.h]
noncomputable def F_l01Byte : List V → Option (List V) := mkF E_l01Byte (fun x => 0 ≤ x.i ∧ x.b.length ≤ 1048576) (fun x => [.int .i64 (cByte x), .int .i64 ((cStep x).i), .int .i64 ((cStep x).h)])
theorem F_l01Byte_inj : ∀ x y, E_l01Byte x = E_l01Byte y → x = y := by
  rintro ⟨xb, xi, xh⟩ ⟨xb', xi', xh'⟩ h
  simpa [E_l01Byte] using h
theorem F_l01Byte_elim {P : List V → List V → Prop} (h : ∀ (x : Cur), (0 ≤ x.i ∧ x.b.length ≤ 1048576) → P [vL I1 vY x.b, .int .i64 x.i, .int .i64 x.h] [.int .i64 (cByte x), .int .i64 ((cStep x).i), .int .i64 ((cStep x).h)]) : ∀ ds outs, F_l01Byte ds = some outs → P ds outs := by
  intro ds outs hh
  obtain ⟨x, rfl, hp, rfl⟩ := mkF_inv hh
  exact h x hp
theorem p_l01Byte {x_b : List UInt8} {x_i : Int} {x_h : Int} {nr_ : Nat} {kk_ : V → V → V → Prop} (hp : 0 ≤ (⟨x_b, x_i, x_h⟩ : Cur).i ∧ (⟨x_b, x_i, x_h⟩ : Cur).b.length ≤ 1048576) : P3 (.call F_l01Byte 0 nr_) [vL I1 vY x_b, .int .i64 x_i, .int .i64 x_h] kk_ ↔ kk_ (.int .i64 (cByte (⟨x_b, x_i, x_h⟩ : Cur))) (.int .i64 ((cStep (⟨x_b, x_i, x_h⟩ : Cur)).i)) (.int .i64 ((cStep (⟨x_b, x_i, x_h⟩ : Cur)).h)) :=
  P3_callF (by unfold F_l01Byte; exact mkF_eq F_l01Byte_inj ((⟨x_b, x_i, x_h⟩ : Cur)) hp)

def cBelow (x : Cur) (n : Int) : Int := if n ≤ 0 then 0 else if n ≤ 256 then (cByte x).tmod n else
  (cByte x * 16777216 + cByte (cStep x) * 65536 + cByte (cStep (cStep x)) * 256 + cByte (cStep (cStep (cStep x)))).tmod n
def cAfter (x : Cur) (n : Int) : Cur := if n ≤ 0 then x else if n ≤ 256 then cStep x else cStep (cStep (cStep (cStep x)))
def E_l01Below : Cur × Int → List V := fun (x, n) => [vL I1 vY x.b, .int .i64 x.i, .int .i64 x.h, .int .i64 n]
noncomputable def F_l01Below : List V → Option (List V) := mkF E_l01Below (fun (x, _) => 0 ≤ x.i ∧ x.b.length ≤ 1048576) (fun (x, n) => [.int .i64 (cBelow x n), .int .i64 ((cAfter x n).i), .int .i64 ((cAfter x n).h)])
theorem F_l01Below_inj : ∀ x y, E_l01Below x = E_l01Below y → x = y := by
  rintro ⟨⟨xb, xi, xh⟩, n⟩ ⟨⟨xb', xi', xh'⟩, n'⟩ h
  simpa [E_l01Below, and_assoc] using h
theorem F_l01Below_elim {P : List V → List V → Prop} (h : ∀ (x : Cur) (n : Int), (0 ≤ x.i ∧ x.b.length ≤ 1048576) → P [vL I1 vY x.b, .int .i64 x.i, .int .i64 x.h, .int .i64 n] [.int .i64 (cBelow x n), .int .i64 ((cAfter x n).i), .int .i64 ((cAfter x n).h)]) : ∀ ds outs, F_l01Below ds = some outs → P ds outs := by
  intro ds outs hh
  obtain ⟨⟨x, n⟩, rfl, hp, rfl⟩ := mkF_inv hh
  exact h x n hp
theorem p_l01Below {x_b : List UInt8} {x_i : Int} {x_h : Int} {n : Int} {nr_ : Nat} {kk_ : V → V → V → Prop} (hp : 0 ≤ (⟨x_b, x_i, x_h⟩ : Cur).i ∧ (⟨x_b, x_i, x_h⟩ : Cur).b.length ≤ 1048576) : P3 (.call F_l01Below 0 nr_) [vL I1 vY x_b, .int .i64 x_i, .int .i64 x_h, .int .i64 n] kk_ ↔ kk_ (.int .i64 (cBelow (⟨x_b, x_i, x_h⟩ : Cur) n)) (.int .i64 ((cAfter (⟨x_b, x_i, x_h⟩ : Cur) n).i)) (.int .i64 ((cAfter (⟨x_b, x_i, x_h⟩ : Cur) n).h)) :=
  P3_callF (by unfold F_l01Below; exact mkF_eq F_l01Below_inj ((⟨x_b, x_i, x_h⟩ : Cur), n) hp)


def putPin : List T2 → T2 → List T2
  | [], p => [p]
  | a :: r, p => if pinLess a p then a :: putPin r p else if a = p then a :: r else p :: a :: r
def putNew : List T2 → T2 → Bool
  | [], _ => true
  | a :: r, p => if pinLess a p then putNew r p else decide (a ≠ p)
def E_l06Put : List T2 × T2 → List V := fun (l, y) => [vL I2 v2 l, .int .i64 y.a, .int .i64 y.b]
noncomputable def F_l06Put : List V → Option (List V) := mkF E_l06Put (fun (l, _) => l.length ≤ 1048576) (fun (l, y) => [vL I2 v2 (putPin l y), .bool (putNew l y)])
theorem F_l06Put_inj : ∀ x y, E_l06Put x = E_l06Put y → x = y := by
  rintro ⟨l, ⟨ya, yb⟩⟩ ⟨l', ⟨ya', yb'⟩⟩ h
  simpa [E_l06Put, and_assoc] using h
theorem F_l06Put_elim {P : List V → List V → Prop} (h : ∀ (l : List T2) (y : T2), (l.length ≤ 1048576) → P [vL I2 v2 l, .int .i64 y.a, .int .i64 y.b] [vL I2 v2 (putPin l y), .bool (putNew l y)]) : ∀ ds outs, F_l06Put ds = some outs → P ds outs := by
  intro ds outs hh
  obtain ⟨⟨l, y⟩, rfl, hp, rfl⟩ := mkF_inv hh
  exact h l y hp
theorem p_l06Put {l : List T2} {y_a : Int} {y_b : Int} {nr_ : Nat} {kk_ : V → V → Prop} (hp : l.length ≤ 1048576) : P2 (.call F_l06Put 0 nr_) [vL I2 v2 l, .int .i64 y_a, .int .i64 y_b] kk_ ↔ kk_ (vL I2 v2 (putPin l (⟨y_a, y_b⟩ : T2))) (.bool (putNew l (⟨y_a, y_b⟩ : T2))) :=
  P2_callF (by unfold F_l06Put; exact mkF_eq F_l06Put_inj (l, (⟨y_a, y_b⟩ : T2)) hp)

def cylTo (s t : Int) (x : Cur) : Nat → List T2 × Cur
  | 0 => ([], x)
  | k + 1 => (putPin (cylTo s t x k).1 ⟨cBelow (cylTo s t x k).2 t, cBelow (cAfter (cylTo s t x k).2 t) s⟩, cAfter (cAfter (cylTo s t x k).2 t) s)
def cylS (x : Cur) : Int := 4 + cBelow x 21
def cylT (x : Cur) : Int := 1 + cBelow (cAfter x 21) 8
def cylX (x : Cur) : Cur := cAfter (cAfter (cAfter x 21) 8) 10
def cylN (x : Cur) : Int := cBelow (cAfter (cAfter x 21) 8) 10
def cylOf (x : Cur) : Cyl := ⟨cylS x, cylT x, (cylTo (cylS x) (cylT x) (cylX x) (cylN x).toNat).1⟩
def cylEnd (x : Cur) : Cur := (cylTo (cylS x) (cylT x) (cylX x) (cylN x).toNat).2
def E_l06Cylinder (x : Cur) : List V := [vL I1 vY x.b, .int .i64 x.i, .int .i64 x.h]
noncomputable def F_l06Cylinder : List V → Option (List V) := mkF E_l06Cylinder (fun x => 0 ≤ x.i ∧ x.b.length ≤ 1048576) (fun x => [.int .i64 (cylOf x).s, .int .i64 (cylOf x).t, vL I2 v2 (cylOf x).p, .int .i64 ((cylEnd x).i), .int .i64 ((cylEnd x).h)])
theorem F_l06Cylinder_inj : ∀ x y, E_l06Cylinder x = E_l06Cylinder y → x = y := by
  rintro ⟨xb, xi, xh⟩ ⟨xb', xi', xh'⟩ h
  simpa [E_l06Cylinder] using h
theorem F_l06Cylinder_elim {P : List V → List V → Prop} (h : ∀ (x : Cur), (0 ≤ x.i ∧ x.b.length ≤ 1048576) → P [vL I1 vY x.b, .int .i64 x.i, .int .i64 x.h] [.int .i64 (cylOf x).s, .int .i64 (cylOf x).t, vL I2 v2 (cylOf x).p, .int .i64 ((cylEnd x).i), .int .i64 ((cylEnd x).h)]) : ∀ ds outs, F_l06Cylinder ds = some outs → P ds outs := by
  intro ds outs hh
  obtain ⟨x, rfl, hp, rfl⟩ := mkF_inv hh
  exact h x hp
theorem p_l06Cylinder {x_b : List UInt8} {x_i : Int} {x_h : Int} {nr_ : Nat} {kk_ : V → V → V → V → V → Prop} (hp : 0 ≤ (⟨x_b, x_i, x_h⟩ : Cur).i ∧ (⟨x_b, x_i, x_h⟩ : Cur).b.length ≤ 1048576) : P5 (.call F_l06Cylinder 0 nr_) [vL I1 vY x_b, .int .i64 x_i, .int .i64 x_h] kk_ ↔ kk_ (.int .i64 (cylOf (⟨x_b, x_i, x_h⟩ : Cur)).s) (.int .i64 (cylOf (⟨x_b, x_i, x_h⟩ : Cur)).t) (vL I2 v2 (cylOf (⟨x_b, x_i, x_h⟩ : Cur)).p) (.int .i64 ((cylEnd (⟨x_b, x_i, x_h⟩ : Cur)).i)) (.int .i64 ((cylEnd (⟨x_b, x_i, x_h⟩ : Cur)).h)) :=
  P5_callF (by unfold F_l06Cylinder; exact mkF_eq F_l06Cylinder_inj ((⟨x_b, x_i, x_h⟩ : Cur)) hp)

def cur0 (l : List UInt8) : Cur := ⟨l, 0, seedOf l⟩
end Go.Mw

/- Functions of the program, as small pure programs (printed by a program of ours). -/
namespace Go.Mw
noncomputable section
def laws_big_L : L := .seq (.rg []) (.seq (.rg [⟨[], .len, [.v 0], 1⟩, ⟨[], .bin .gtr, [.v 1, .k (.int .i64 1048576)], 1⟩]) (.ret [.v 2]))
theorem laws_big_L_sh (Q : QT) (x0 : V) : shL laws_big_L Q [x0] = (
  P1 (.len) [x0] fun v0 =>
  P1 (.bin .gtr) [v0, .int .i64 1048576] fun v1 =>
  Q .ret [v1]) := by kernel_rfl
def laws_big_S : Sig := ⟨[.val false [.sl [.sc]]], [(false, [.sc])], F_big⟩
def laws_big_hs : List NF := []

def spec_l01New_b0 : L := .seq (.seq (.seq (.rg [⟨[], .len, [.v 0], 1⟩, ⟨[], .bin .lss, [.v 2, .v 3], 1⟩, ⟨[(.v 4, true)], .bin .lss, [.v 2, .k (.int .i64 4000)], 1⟩, ⟨[], .pick, [.v 4, .v 5, .k (.bool false)], 1⟩]) (.ite (.v 6) (.skip) (.seq (.tup [.v 0, .v 1]) (.exit 0)))) (.seq (.block 1 (.seq (.rg [⟨[], .bin .mul, [.v 1, .k (.int .i64 131)], 1⟩, ⟨[], .idx [.sc], [.v 0, .v 2], 1⟩, ⟨[], .conv .i64, [.v 8], 1⟩, ⟨[], .bin .add, [.v 7, .v 9], 1⟩, ⟨[], .bin .add, [.v 10, .k (.int .i64 7)], 1⟩, ⟨[], .bin .and, [.v 11, .k (.int .i64 1073741823)], 1⟩]) (.tup [.v 0, .v 12, .v 2]))) (.rg [⟨[], .bin .add, [.v 2, .k (.int .i64 1)], 1⟩]))) (.tup [.v 0, .v 1, .v 3])
theorem spec_l01New_b0_sh (Q : QT) (x0 x1 x2 : V) : shL spec_l01New_b0 Q [x0, x1, x2] = (
  P1 (.len) [x0] fun v0 =>
  P1 (.bin .lss) [x2, v0] fun v1 =>
  ifB v1 (
    P1 (.bin .lss) [x2, .int .i64 4000] fun v2 =>
    ifB v2 (
      P1 (.bin .mul) [x1, .int .i64 131] fun v3 =>
      P1 (.idx [.sc]) [x0, x2] fun v4 =>
      P1 (.conv .i64) [v4] fun v5 =>
      P1 (.bin .add) [v3, v5] fun v6 =>
      P1 (.bin .add) [v6, .int .i64 7] fun v7 =>
      P1 (.bin .and) [v7, .int .i64 1073741823] fun v8 =>
      P1 (.bin .add) [x2, .int .i64 1] fun v9 =>
      Q .normal [x0, v8, v9]) (
      Q (.exit 0) [x0, x1])) (
    Q (.exit 0) [x0, x1])) := by kernel_rfl

def spec_l01New_r1 : L := .seq (.rg []) (.ret [.v 0, .k (.int .i64 0), .v 1])
theorem spec_l01New_r1_sh (Q : QT) (x0 x1 : V) : shL spec_l01New_r1 Q [x0, x1] = (
  Q .ret [x0, .int .i64 0, x1]) := by kernel_rfl

def spec_l01New_L : L := .seq (.rg []) (.seq (.rg [⟨[], .len, [.v 0], 1⟩, ⟨[], .bin .add, [.k (.int .i64 33091), .v 1], 1⟩]) (.seq (.seq (.rg []) (.block 0 (.seq (.tup [.v 0, .v 2, .k (.int .i64 0)]) (.loop (spec_l01New_b0))))) (spec_l01New_r1)))
theorem spec_l01New_L_sh (Q : QT) (x0 : V) : shL spec_l01New_L Q [x0] = (
  P1 (.len) [x0] fun v0 =>
  P1 (.bin .add) [.int .i64 33091, v0] fun v1 =>
  shL (.loop spec_l01New_b0) (qB 0 (qS (shL spec_l01New_r1 Q) Q)) [x0, v1, .int .i64 0]) := by kernel_rfl
def spec_l01New_S : Sig := ⟨[.new [.sl [.sc], .sc, .sc], .val false [.sl [.sc]]], [], F_l01New⟩
def spec_l01New_hs : List NF := [⟨[(0, .sc false [.ro [.sc]]), (3, .sc false [.sc])], [], [], 64⟩, ⟨[(0, .sc false [.ro [.sc]]), (3, .sc false [.sc]), (4, .sc false [.sc])], [], [], 64⟩, ⟨[(0, .sc false [.ro [.sc]]), (3, .sc false [.sc]), (4, .sc false [.sc])], [], [], 64⟩]

def spec_l01Byte_L : L := .seq (.rg []) (.seq (.rg [⟨[], .bin .mul, [.v 2, .k (.int .i64 6364136223846793005)], 1⟩, ⟨[], .bin .add, [.v 3, .k (.int .i64 1442695040888963407)], 1⟩]) (.seq (.rg [⟨[], .bin .shr, [.v 4, .k (.int .u64 33)], 1⟩, ⟨[], .bin .shr, [.v 4, .k (.int .u64 45)], 1⟩, ⟨[], .bin .xor, [.v 5, .v 6], 1⟩, ⟨[], .bin .and, [.v 7, .k (.int .i64 255)], 1⟩]) (.seq (.seq (.rg [⟨[], .len, [.v 0], 1⟩, ⟨[], .bin .lss, [.v 1, .v 9], 1⟩]) (.ite (.v 10) (.seq (.seq (.rg [⟨[], .idx [.sc], [.v 0, .v 1], 1⟩, ⟨[], .conv .i64, [.v 11], 1⟩, ⟨[], .bin .add, [.v 8, .v 12], 1⟩, ⟨[], .bin .and, [.v 13, .k (.int .i64 255)], 1⟩]) (.rg [⟨[], .bin .add, [.v 1, .k (.int .i64 1)], 1⟩])) (.tup [.v 14, .v 0, .v 15, .v 4])) (.seq (.skip) (.tup [.v 8, .v 0, .v 1, .v 4])))) (.seq (.rg []) (.ret [.v 0, .v 2, .v 3])))))
theorem spec_l01Byte_L_sh (Q : QT) (x0 x1 x2 : V) : shL spec_l01Byte_L Q [x0, x1, x2] = (
  P1 (.bin .mul) [x2, .int .i64 6364136223846793005] fun v0 =>
  P1 (.bin .add) [v0, .int .i64 1442695040888963407] fun v1 =>
  P1 (.bin .shr) [v1, .int .u64 33] fun v2 =>
  P1 (.bin .shr) [v1, .int .u64 45] fun v3 =>
  P1 (.bin .xor) [v2, v3] fun v4 =>
  P1 (.bin .and) [v4, .int .i64 255] fun v5 =>
  P1 (.len) [x0] fun v6 =>
  P1 (.bin .lss) [x1, v6] fun v7 =>
  ifB v7 (
    P1 (.idx [.sc]) [x0, x1] fun v8 =>
    P1 (.conv .i64) [v8] fun v9 =>
    P1 (.bin .add) [v5, v9] fun v10 =>
    P1 (.bin .and) [v10, .int .i64 255] fun v11 =>
    P1 (.bin .add) [x1, .int .i64 1] fun v12 =>
    Q .ret [v11, v12, v1]) (
    Q .ret [v5, x1, v1])) := by kernel_rfl
def spec_l01Byte_S : Sig := ⟨[.ptr [.sl [.sc], .sc, .sc]], [(false, [.sc])], F_l01Byte⟩
def spec_l01Byte_hs : List NF := [⟨[(3, .sc false [.sc])], [], [(0, [.ro [.sc], .sc, .sc])], 64⟩]

def spec_l01Below_L : L := .seq (.rg []) (.seq (.seq (.rg [⟨[], .bin .leq, [.v 3, .k (.int .i64 0)], 1⟩]) (.ite (.v 4) (.seq (.rg []) (.ret [.k (.int .i64 0), .v 1, .v 2])) (.skip))) (.seq (.seq (.rg [⟨[], .bin .leq, [.v 3, .k (.int .i64 256)], 1⟩]) (.ite (.v 5) (.seq (.rg [⟨[], .call F_l01Byte 0 1, [.v 0, .v 1, .v 2], 3⟩, ⟨[], .bin .rem, [.v 6, .v 3], 1⟩]) (.ret [.v 9, .v 7, .v 8])) (.skip))) (.seq (.rg [⟨[], .call F_l01Byte 0 1, [.v 0, .v 1, .v 2], 3⟩]) (.seq (.rg [⟨[], .call F_l01Byte 0 1, [.v 0, .v 7, .v 8], 3⟩]) (.seq (.rg [⟨[], .call F_l01Byte 0 1, [.v 0, .v 10, .v 11], 3⟩]) (.seq (.rg [⟨[], .call F_l01Byte 0 1, [.v 0, .v 13, .v 14], 3⟩]) (.seq (.rg [⟨[], .bin .mul, [.v 6, .k (.int .i64 16777216)], 1⟩, ⟨[], .bin .mul, [.v 9, .k (.int .i64 65536)], 1⟩, ⟨[], .bin .add, [.v 18, .v 19], 1⟩, ⟨[], .bin .mul, [.v 12, .k (.int .i64 256)], 1⟩, ⟨[], .bin .add, [.v 20, .v 21], 1⟩, ⟨[], .bin .add, [.v 22, .v 15], 1⟩, ⟨[], .bin .rem, [.v 23, .v 3], 1⟩]) (.ret [.v 24, .v 16, .v 17]))))))))
theorem spec_l01Below_L_sh (Q : QT) (x0 x1 x2 x3 : V) : shL spec_l01Below_L Q [x0, x1, x2, x3] = (
  P1 (.bin .leq) [x3, .int .i64 0] fun v0 =>
  ifB v0 (
    Q .ret [.int .i64 0, x1, x2]) (
    P1 (.bin .leq) [x3, .int .i64 256] fun v1 =>
    ifB v1 (
      P3 (.call F_l01Byte 0 1) [x0, x1, x2] fun v2 v3 v4 =>
      P1 (.bin .rem) [v2, x3] fun v5 =>
      Q .ret [v5, v3, v4]) (
      P3 (.call F_l01Byte 0 1) [x0, x1, x2] fun v6 v7 v8 =>
      P3 (.call F_l01Byte 0 1) [x0, v7, v8] fun v9 v10 v11 =>
      P3 (.call F_l01Byte 0 1) [x0, v10, v11] fun v12 v13 v14 =>
      P3 (.call F_l01Byte 0 1) [x0, v13, v14] fun v15 v16 v17 =>
      P1 (.bin .mul) [v6, .int .i64 16777216] fun v18 =>
      P1 (.bin .mul) [v9, .int .i64 65536] fun v19 =>
      P1 (.bin .add) [v18, v19] fun v20 =>
      P1 (.bin .mul) [v12, .int .i64 256] fun v21 =>
      P1 (.bin .add) [v20, v21] fun v22 =>
      P1 (.bin .add) [v22, v15] fun v23 =>
      P1 (.bin .rem) [v23, x3] fun v24 =>
      Q .ret [v24, v16, v17]))) := by kernel_rfl
def spec_l01Below_S : Sig := ⟨[.ptr [.sl [.sc], .sc, .sc], .val false [.sc]], [(false, [.sc])], F_l01Below⟩
def spec_l01Below_hs : List NF := []

def spec_l06Put_b0 : L := .seq (.seq (.seq (.rg [⟨[], .len, [.v 0], 1⟩, ⟨[], .bin .lss, [.v 1, .v 4], 1⟩, ⟨[(.v 5, true)], .idx [.sc, .sc], [.v 0, .v 1], 2⟩, ⟨[(.v 5, true)], .call F_l06Less 0 1, [.v 6, .v 7, .v 2, .v 3], 1⟩, ⟨[], .pick, [.v 5, .v 8, .k (.bool false)], 1⟩]) (.ite (.v 9) (.skip) (.seq (.tup [.v 0, .v 1, .v 2, .v 3]) (.exit 0)))) (.block 1 (.seq (.rg [⟨[], .bin .add, [.v 1, .k (.int .i64 1)], 1⟩]) (.tup [.v 0, .v 10, .v 2, .v 3])))) (.tup [.v 0, .v 1, .v 2, .v 3])
theorem spec_l06Put_b0_sh (Q : QT) (x0 x1 x2 x3 : V) : shL spec_l06Put_b0 Q [x0, x1, x2, x3] = (
  P1 (.len) [x0] fun v0 =>
  P1 (.bin .lss) [x1, v0] fun v1 =>
  ifB v1 (
    P2 (.idx [.sc, .sc]) [x0, x1] fun v2 v3 =>
    P1 (.call F_l06Less 0 1) [v2, v3, x2, x3] fun v4 =>
    ifB v4 (
      P1 (.bin .add) [x1, .int .i64 1] fun v5 =>
      Q .normal [x0, v5, x2, x3]) (
      Q (.exit 0) [x0, x1, x2, x3])) (
    Q (.exit 0) [x0, x1, x2, x3])) := by kernel_rfl

def spec_l06Put_r1 : L := .seq (.seq (.rg [⟨[], .len, [.v 0], 1⟩, ⟨[], .bin .lss, [.v 1, .v 4], 1⟩, ⟨[(.v 5, true)], .idx [.sc, .sc], [.v 0, .v 1], 2⟩, ⟨[(.v 5, true)], .eqa false [.i, .i], [.v 6, .v 7, .v 2, .v 3], 1⟩, ⟨[], .pick, [.v 5, .v 8, .k (.bool false)], 1⟩]) (.ite (.v 9) (.seq (.rg [⟨[], .lst [.sc, .sc] true 0, [], 1⟩, ⟨[], .app [.sc, .sc] 16, [.v 10, .v 0], 1⟩]) (.ret [.v 11, .k (.bool false)])) (.skip))) (.seq (.rg [⟨[], .lst [.sc, .sc] true 0, [], 1⟩, ⟨[], .lsub [.sc, .sc], [.v 0, .k (.int .i64 0), .v 1], 1⟩, ⟨[], .app [.sc, .sc] 16, [.v 10, .v 11], 1⟩, ⟨[], .lst [.sc, .sc] true 1, [.v 2, .v 3], 1⟩, ⟨[], .app [.sc, .sc] 16, [.v 12, .v 13], 1⟩, ⟨[], .lsub [.sc, .sc], [.v 0, .v 1], 1⟩, ⟨[], .app [.sc, .sc] 16, [.v 14, .v 15], 1⟩]) (.ret [.v 16, .k (.bool true)]))
theorem spec_l06Put_r1_sh (Q : QT) (x0 x1 x2 x3 : V) : shL spec_l06Put_r1 Q [x0, x1, x2, x3] = (
  P1 (.len) [x0] fun v0 =>
  P1 (.bin .lss) [x1, v0] fun v1 =>
  ifB v1 (
    P2 (.idx [.sc, .sc]) [x0, x1] fun v2 v3 =>
    P1 (.eqa false [.i, .i]) [v2, v3, x2, x3] fun v4 =>
    ifB v4 (
      P1 (.lst [.sc, .sc] true 0) [] fun v5 =>
      P1 (.app [.sc, .sc] 16) [v5, x0] fun v6 =>
      Q .ret [v6, .bool false]) (
      P1 (.lst [.sc, .sc] true 0) [] fun v7 =>
      P1 (.lsub [.sc, .sc]) [x0, .int .i64 0, x1] fun v8 =>
      P1 (.app [.sc, .sc] 16) [v7, v8] fun v9 =>
      P1 (.lst [.sc, .sc] true 1) [x2, x3] fun v10 =>
      P1 (.app [.sc, .sc] 16) [v9, v10] fun v11 =>
      P1 (.lsub [.sc, .sc]) [x0, x1] fun v12 =>
      P1 (.app [.sc, .sc] 16) [v11, v12] fun v13 =>
      Q .ret [v13, .bool true])) (
    P1 (.lst [.sc, .sc] true 0) [] fun v14 =>
    P1 (.lsub [.sc, .sc]) [x0, .int .i64 0, x1] fun v15 =>
    P1 (.app [.sc, .sc] 16) [v14, v15] fun v16 =>
    P1 (.lst [.sc, .sc] true 1) [x2, x3] fun v17 =>
    P1 (.app [.sc, .sc] 16) [v16, v17] fun v18 =>
    P1 (.lsub [.sc, .sc]) [x0, x1] fun v19 =>
    P1 (.app [.sc, .sc] 16) [v18, v19] fun v20 =>
    Q .ret [v20, .bool true])) := by kernel_rfl

def spec_l06Put_L : L := .seq (.rg []) (.seq (.rg []) (.seq (.block 0 (.seq (.tup [.v 0, .k (.int .i64 0), .v 1, .v 2]) (.loop (spec_l06Put_b0)))) (spec_l06Put_r1)))
theorem spec_l06Put_L_sh (Q : QT) (x0 x1 x2 : V) : shL spec_l06Put_L Q [x0, x1, x2] = (
  shL (.loop spec_l06Put_b0) (qB 0 (qS (shL spec_l06Put_r1 Q) Q)) [x0, .int .i64 0, x1, x2]) := by kernel_rfl
def spec_l06Put_S : Sig := ⟨[.val false [.sl [.sc, .sc]], .val true [.sc, .sc]], [(false, [.sl [.sc, .sc]]), (false, [.sc])], F_l06Put⟩
def spec_l06Put_hs : List NF := [⟨[(0, .sc false [.ro [.sc, .sc]]), (3, .ptr 64 0), (6, .sc false [.sc])], [], [(64, [.sc, .sc])], 65⟩, ⟨[(0, .sc false [.ro [.sc, .sc]]), (3, .ptr 64 0), (6, .sc false [.sc])], [], [(64, [.sc, .sc])], 65⟩, ⟨[(0, .sc false [.ro [.sc, .sc]]), (3, .ptr 64 0), (6, .sc false [.sc])], [], [(64, [.sc, .sc])], 65⟩]

def spec_l06Cylinder_b0 : L := .seq (.seq (.seq (.rg [⟨[], .bin .gtr, [.v 0, .k (.int .i64 0)], 1⟩]) (.ite (.v 9) (.skip) (.seq (.tup [.v 1, .v 2, .v 3, .v 4, .v 5, .v 6, .v 7, .v 8]) (.exit 0)))) (.seq (.block 1 (.seq (.rg [⟨[], .call F_l01Below 0 1, [.v 2, .v 3, .v 4, .v 8], 3⟩, ⟨[], .call F_l01Below 0 1, [.v 2, .v 11, .v 12, .v 7], 3⟩, ⟨[], .call F_l06Put 0 2, [.v 1, .v 10, .v 13], 2⟩]) (.tup [.v 0, .v 16, .v 2, .v 14, .v 15, .v 5, .v 6, .v 7, .v 8]))) (.rg [⟨[], .bin .sub, [.v 0, .k (.int .i64 1)], 1⟩]))) (.tup [.v 9, .v 1, .v 2, .v 3, .v 4, .v 5, .v 6, .v 7, .v 8])
theorem spec_l06Cylinder_b0_sh (Q : QT) (x0 x1 x2 x3 x4 x5 x6 x7 x8 : V) : shL spec_l06Cylinder_b0 Q [x0, x1, x2, x3, x4, x5, x6, x7, x8] = (
  P1 (.bin .gtr) [x0, .int .i64 0] fun v0 =>
  ifB v0 (
    P3 (.call F_l01Below 0 1) [x2, x3, x4, x8] fun v1 v2 v3 =>
    P3 (.call F_l01Below 0 1) [x2, v2, v3, x7] fun v4 v5 v6 =>
    P2 (.call F_l06Put 0 2) [x1, v1, v4] fun v7 _ =>
    P1 (.bin .sub) [x0, .int .i64 1] fun v9 =>
    Q .normal [v9, v7, x2, v5, v6, x5, x6, x7, x8]) (
    Q (.exit 0) [x1, x2, x3, x4, x5, x6, x7, x8])) := by kernel_rfl

def spec_l06Cylinder_r1 : L := .seq (.rg []) (.ret [.v 6, .v 7, .v 0, .v 2, .v 3])
theorem spec_l06Cylinder_r1_sh (Q : QT) (x0 x1 x2 x3 x4 x5 x6 x7 : V) : shL spec_l06Cylinder_r1 Q [x0, x1, x2, x3, x4, x5, x6, x7] = (
  Q .ret [x6, x7, x0, x2, x3]) := by kernel_rfl

def spec_l06Cylinder_L : L := .seq (.rg []) (.seq (.rg [⟨[], .call F_l01Below 0 1, [.v 0, .v 1, .v 2, .k (.int .i64 21)], 3⟩, ⟨[], .bin .add, [.k (.int .i64 4), .v 3], 1⟩, ⟨[], .call F_l01Below 0 1, [.v 0, .v 4, .v 5, .k (.int .i64 8)], 3⟩, ⟨[], .bin .add, [.k (.int .i64 1), .v 7], 1⟩]) (.seq (.seq (.rg [⟨[], .call F_l01Below 0 1, [.v 0, .v 8, .v 9, .k (.int .i64 10)], 3⟩]) (.block 0 (.seq (.tup [.v 11, .k (.list [.sc, .sc] []), .v 0, .v 12, .v 13, .k (.int .i64 0), .k (.int .i64 0), .v 6, .v 10]) (.loop (spec_l06Cylinder_b0))))) (spec_l06Cylinder_r1)))
theorem spec_l06Cylinder_L_sh (Q : QT) (x0 x1 x2 : V) : shL spec_l06Cylinder_L Q [x0, x1, x2] = (
  P3 (.call F_l01Below 0 1) [x0, x1, x2, .int .i64 21] fun v0 v1 v2 =>
  P1 (.bin .add) [.int .i64 4, v0] fun v3 =>
  P3 (.call F_l01Below 0 1) [x0, v1, v2, .int .i64 8] fun v4 v5 v6 =>
  P1 (.bin .add) [.int .i64 1, v4] fun v7 =>
  P3 (.call F_l01Below 0 1) [x0, v5, v6, .int .i64 10] fun v8 v9 v10 =>
  shL (.loop spec_l06Cylinder_b0) (qB 0 (qS (shL spec_l06Cylinder_r1 Q) Q)) [v8, .list [.sc, .sc] [], x0, v9, v10, .int .i64 0, .int .i64 0, v3, v7]) := by kernel_rfl
def spec_l06Cylinder_S : Sig := ⟨[.ptr [.sl [.sc], .sc, .sc]], [(true, [.sc, .sc, .sl [.sc, .sc]])], F_l06Cylinder⟩
def spec_l06Cylinder_hs : List NF := [⟨[(2, .ptr 64 0), (3, .ptr 65 0)], [(66, true, [.sc, .sc])], [(0, [.ro [.sc], .sc, .sc]), (64, [.sc, .sc, .nil]), (65, [.sc, .sc, .own 66])], 67⟩, ⟨[(0, .ptr 0 0), (2, .ptr 64 0), (3, .ptr 65 0), (4, .sc false [.sc])], [(66, true, [.sc, .sc])], [(0, [.ro [.sc], .sc, .sc]), (64, [.sc, .sc, .nil]), (65, [.sc, .sc, .own 66])], 67⟩, ⟨[(0, .ptr 0 0), (2, .ptr 64 0), (3, .ptr 65 0), (4, .sc false [.sc])], [(66, true, [.sc, .sc])], [(0, [.ro [.sc], .sc, .sc]), (64, [.sc, .sc, .nil]), (65, [.sc, .sc, .own 66])], 67⟩]

end
end Go.Mw

/- Draws. -/
namespace Go.Mw
theorem land_range (a : Int) (m : Nat) (hm : m < 4611686018427387904) : 0 ≤ land a m ∧ land a m ≤ m := by
  have h : (BitVec.ofInt IntKind.i64.bits a &&& BitVec.ofInt IntKind.i64.bits (m : Int)).toNat ≤ m := by
    rw [BitVec.toNat_and]
    refine Nat.le_trans Nat.and_le_right ?_
    simp [BitVec.toNat_ofInt, IntKind.bits]
    omega
  unfold land
  rw [wrap_id (by omega) (by omega)]
  omega
theorem land255 (a : Int) : 0 ≤ land a 255 ∧ land a 255 ≤ 255 := land_range a 255 (by omega)
theorem hByte_range (h : Int) : 0 ≤ hByte h ∧ hByte h ≤ 255 := land255 _
theorem cByte_range (x : Cur) : 0 ≤ cByte x ∧ cByte x ≤ 255 := by
  unfold cByte
  split
  · exact land255 _
  · exact hByte_range _
@[simp] theorem cStep_b (x : Cur) : (cStep x).b = x.b := rfl
theorem cStep_i {x : Cur} (h : 0 ≤ x.i) : 0 ≤ (cStep x).i := by unfold cStep; dsimp only; split <;> omega
@[simp] theorem cAfter_b (x : Cur) (n : Int) : (cAfter x n).b = x.b := by unfold cAfter; split <;> (try split) <;> simp
theorem cAfter_i {x : Cur} {n : Int} (h : 0 ≤ x.i) : 0 ≤ (cAfter x n).i := by
  unfold cAfter
  split
  · exact h
  · split
    · exact cStep_i h
    · exact cStep_i (cStep_i (cStep_i (cStep_i h)))
theorem tmod_range {a n : Int} (ha : 0 ≤ a) (hn : 0 < n) : 0 ≤ a.tmod n ∧ a.tmod n < n := ⟨Int.tmod_nonneg _ ha, Int.tmod_lt_of_pos _ hn⟩
theorem cBelow_range (x : Cur) {n : Int} (hn : 0 < n) : 0 ≤ cBelow x n ∧ cBelow x n < n := by
  unfold cBelow
  rw [if_neg (by omega)]
  have h1 := cByte_range x
  have h2 := cByte_range (cStep x)
  have h3 := cByte_range (cStep (cStep x))
  have h4 := cByte_range (cStep (cStep (cStep x)))
  split
  · exact tmod_range (by omega) hn
  · exact tmod_range (by omega) hn

theorem laws_big_ok : ∀ ds outs, F_big ds = some outs → shL laws_big_L (qRet outs) ds := F_big_elim fun l hp => by
  rw [laws_big_L_sh]; simp; omega
theorem spec_l01New_ok : ∀ ds outs, F_l01New ds = some outs → shL spec_l01New_L (qRet outs) ds := F_l01New_elim fun l hp => by
  rw [spec_l01New_L_sh]
  have hw : IntKind.i64.wrap (33091 + (l.length : Int)) = 33091 + l.length := wrap_id (by omega) (by omega)
  simp only [P1_len, P1_add, hw]
  refine loop_upto (min l.length 4000) (fun k => [vL I1 vY l, .int .i64 (seedTo l k), .int .i64 k]) (by intro i j _ _ h; simp at h; omega) (fun _ => True) (by simp [seedTo]) trivial ?_
  intro k hk _
  rw [spec_l01New_b0_sh]
  simp
  refine ⟨fun h => ⟨fun h2 => ?_, fun h2 => ?_⟩, fun h => ?_⟩
  · have hw2 : IntKind.i64.wrap ((k : Int) + 1) = k + 1 := wrap_id (by omega) (by omega)
    have hw3 : IntKind.i64.wrap (l[k].toNat : Int) = l[k].toNat := by have := l[k].toNat_lt; exact wrap_id (by omega) (by omega)
    simp [h, hw2, hw3, seedTo]
    omega
  · obtain rfl : k = min l.length 4000 := by omega
    simp [spec_l01New_r1_sh, seedOf]
  · obtain rfl : k = min l.length 4000 := by omega
    simp [spec_l01New_r1_sh, seedOf]
theorem spec_l01Byte_ok : ∀ ds outs, F_l01Byte ds = some outs → shL spec_l01Byte_L (qRet outs) ds := F_l01Byte_elim fun x hp => by
  rw [spec_l01Byte_L_sh]
  have e33 : min (33 : Int).toNat IntKind.i64.bits = 33 := by decide
  have e45 : min (45 : Int).toNat IntKind.i64.bits = 45 := by decide
  simp only [P1_mul, P1_add, P1_shr (show (0 : Int) ≤ 33 by omega), P1_shr (show (0 : Int) ≤ 45 by omega), e33, e45, P1_xor, P1_and, P1_len, P1_lss, ifB_bool, decide_eq_true_eq, decide_eq_false_iff_not]
  have eh : IntKind.i64.wrap (IntKind.i64.wrap (x.h * 6364136223846793005) + 1442695040888963407) = hNext x.h := rfl
  have eb : land (lxor ((hNext x.h).fdiv (2 ^ 33)) ((hNext x.h).fdiv (2 ^ 45))) 255 = hByte (hNext x.h) := rfl
  simp only [eh, eb]
  refine ⟨fun h => ?_, fun h => ?_⟩
  · have hi : x.i.toNat < x.b.length := by omega
    have hw2 : IntKind.i64.wrap (x.i + 1) = x.i + 1 := wrap_id (by omega) (by omega)
    have hw3 : IntKind.i64.wrap (x.b[x.i.toNat].toNat : Int) = x.b[x.i.toNat].toNat := by have := x.b[x.i.toNat].toNat_lt; exact wrap_id (by omega) (by omega)
    simp [hp.1, hi, h, hw2, hw3, cByte, cStep]
  · have hi : x.b[x.i.toNat]? = none := by rw [List.getElem?_eq_none_iff]; omega
    simp [hi, h, cByte, cStep]
theorem q_byte {b : List UInt8} (c : Cur) {n : Nat} {k : V → V → V → Prop} (hb : c.b = b) (h : 0 ≤ c.i) (hl : b.length ≤ 1048576) : P3 (.call F_l01Byte 0 n) [vL I1 vY b, .int .i64 c.i, .int .i64 c.h] k ↔ k (.int .i64 (cByte c)) (.int .i64 (cStep c).i) (.int .i64 (cStep c).h) := by
  subst hb; exact p_l01Byte ⟨h, hl⟩
theorem spec_l01Below_ok : ∀ ds outs, F_l01Below ds = some outs → shL spec_l01Below_L (qRet outs) ds := F_l01Below_elim fun x n hp => by
  rw [spec_l01Below_L_sh]
  have hb := hp.2
  have i0 := hp.1
  have i1 := cStep_i i0
  have i2 := cStep_i i1
  have i3 := cStep_i i2
  have h1 := cByte_range x
  have h2 := cByte_range (cStep x)
  have h3 := cByte_range (cStep (cStep x))
  have h4 := cByte_range (cStep (cStep (cStep x)))
  by_cases hn : n ≤ 0
  · simp [hn, cBelow, cAfter]
  · by_cases hn2 : n ≤ 256
    · simp [hn, hn2, cBelow, cAfter, q_byte x, i0, hb]; omega
    · have w1 : IntKind.i64.wrap (cByte x * 16777216) = cByte x * 16777216 := wrap_id (by omega) (by omega)
      have w2 : IntKind.i64.wrap (cByte (cStep x) * 65536) = cByte (cStep x) * 65536 := wrap_id (by omega) (by omega)
      have w3 : IntKind.i64.wrap (cByte x * 16777216 + cByte (cStep x) * 65536) = cByte x * 16777216 + cByte (cStep x) * 65536 := wrap_id (by omega) (by omega)
      have w4 : IntKind.i64.wrap (cByte (cStep (cStep x)) * 256) = cByte (cStep (cStep x)) * 256 := wrap_id (by omega) (by omega)
      have w5 : IntKind.i64.wrap (cByte x * 16777216 + cByte (cStep x) * 65536 + cByte (cStep (cStep x)) * 256) = cByte x * 16777216 + cByte (cStep x) * 65536 + cByte (cStep (cStep x)) * 256 := wrap_id (by omega) (by omega)
      have w6 : IntKind.i64.wrap (cByte x * 16777216 + cByte (cStep x) * 65536 + cByte (cStep (cStep x)) * 256 + cByte (cStep (cStep (cStep x)))) = cByte x * 16777216 + cByte (cStep x) * 65536 + cByte (cStep (cStep x)) * 256 + cByte (cStep (cStep (cStep x))) := wrap_id (by omega) (by omega)
      simp only [P1_leq, ifB_bool, decide_eq_true_eq, decide_eq_false_iff_not]
      refine ⟨fun h => absurd h hn, fun _ => ⟨fun h => absurd h hn2, fun _ => ?_⟩⟩
      rw [q_byte (b := x.b) x rfl i0 hb, q_byte (b := x.b) (cStep x) rfl i1 hb, q_byte (b := x.b) (cStep (cStep x)) rfl i2 hb, q_byte (b := x.b) (cStep (cStep (cStep x))) rfl i3 hb]
      simp [hn, hn2, cBelow, cAfter, w1, w2, w3, w4, w5, w6]; omega
theorem q_below {b : List UInt8} (c : Cur) {n : Int} {m : Nat} {k : V → V → V → Prop} (hb : c.b = b) (h : 0 ≤ c.i) (hl : b.length ≤ 1048576) : P3 (.call F_l01Below 0 m) [vL I1 vY b, .int .i64 c.i, .int .i64 c.h, .int .i64 n] k ↔ k (.int .i64 (cBelow c n)) (.int .i64 (cAfter c n).i) (.int .i64 (cAfter c n).h) := by
  subst hb; exact p_l01Below ⟨h, hl⟩

/-! putting a pin -/
theorem put_at : ∀ (l : List T2) (y : T2) (i : Nat), (∀ j (h : j < l.length), j < i → pinLess l[j] y = true) → i ≤ l.length → (∀ (h : i < l.length), pinLess l[i] y = false) →
    putPin l y = (if l[i]? = some y then l else l.take i ++ [y] ++ l.drop i) ∧ putNew l y = !decide (l[i]? = some y)
  | [], y, i, _, hi, _ => by
    obtain rfl : i = 0 := by simpa using hi
    simp [putPin, putNew]
  | a :: r, y, 0, _, _, h => by
    have h := h (by simp)
    simp only [List.getElem_cons_zero] at h
    by_cases e : a = y
    · subst e; simp [putPin, putNew, h]
    · simp [putPin, putNew, h, e]
  | a :: r, y, i + 1, h1, h2, h3 => by
    have ha := h1 0 (by simp) (by omega)
    simp only [List.getElem_cons_zero] at ha
    have ih := put_at r y i (fun j hj hji => by have := h1 (j + 1) (by simp; omega) (by omega); simpa using this) (by simpa using h2) (fun h => by have := h3 (by simp; omega); simpa using this)
    simp only [putPin, putNew, ha, if_true, List.getElem?_cons_succ, ih.1, ih.2, List.take_succ_cons, List.drop_succ_cons]
    refine ⟨?_, trivial⟩
    split <;> simp
theorem spec_l06Put_ok : ∀ ds outs, F_l06Put ds = some outs → shL spec_l06Put_L (qRet outs) ds := F_l06Put_elim fun l y hp => by
  rw [spec_l06Put_L_sh]
  refine loop_upto l.length (fun k => [vL I2 v2 l, .int .i64 k, .int .i64 y.a, .int .i64 y.b]) (by intro i j _ _ h; simp at h; omega) (fun k => ∀ j (h : j < l.length), j < k → pinLess l[j] y = true) (by simp) (by simp) ?_
  intro k hk hP
  have fin : (∀ (h : k < l.length), pinLess l[k] y = false) → shL spec_l06Put_r1 (qRet [vL I2 v2 (putPin l y), .bool (putNew l y)]) [vL I2 v2 l, .int .i64 k, .int .i64 y.a, .int .i64 y.b] := by
    intro h
    obtain ⟨e1, e2⟩ := put_at l y k hP hk h
    rw [spec_l06Put_r1_sh, e1, e2]
    by_cases hl : k < l.length
    · by_cases hy : l[k] = y
      · have h5 : l[k].a = y.a ∧ l[k].b = y.b := by rw [hy]; exact ⟨rfl, rfl⟩
        simp [hl, hy]; omega
      · have h5 : ¬ (l[k].a = y.a ∧ l[k].b = y.b) := fun h => hy (by cases hh : l[k]; rw [hh] at h; cases y; simp_all)
        simp [hl, hy, h5]; omega
    · have h6 : k = l.length := by omega
      subst h6
      simp; omega
  rw [spec_l06Put_b0_sh]
  simp
  refine ⟨fun h => ?_, fun h => fin (fun h2 => absurd h2 (by omega))⟩
  simp only [List.getElem?_eq_getElem h, Option.some.injEq, exists_eq_left']
  cases hl : pinLess l[k] y with
  | false =>
    simp [hl]
    exact fin (fun _ => hl)
  | true =>
    have hw : IntKind.i64.wrap ((k : Int) + 1) = k + 1 := wrap_id (by omega) (by omega)
    simp [hl, hw, h]
    intro j hj hjk
    by_cases e : j = k
    · subst e; exact hl
    · exact hP j hj (by omega)
theorem putPin_len (l : List T2) (y : T2) : (putPin l y).length ≤ l.length + 1 := by
  induction l with
  | nil => simp [putPin]
  | cons a r ih => unfold putPin; split <;> (try split) <;> simp <;> omega
end Go.Mw

/- Drawn cylinders and states. -/
namespace Go.Mw
theorem within_iff' {a b c : Int} : within a b c = true ↔ b ≤ a ∧ a ≤ c := by simp [within]
@[simp] theorem P1_lstI3 {a b c : Int} {k : V → Prop} : P1 (.lst [.sc] false 3) [.int .i64 a, .int .i64 b, .int .i64 c] k ↔ k (vL I1 v1 [a, b, c]) := P1_of (by simp [Prim.run, aksOk, akOk, chunk, V.pack, vL, v1]) k

theorem pinLess_or {a b : T2} (h : pinLess a b = false) (hne : a ≠ b) : pinLess b a = true := by
  cases a; cases b
  simp only [pinLess, decide_eq_false_iff_not, decide_eq_true_eq, ne_eq, T2.mk.injEq] at *
  omega
theorem rising_cons {a : T2} {r : List T2} : rising (a :: r) = true ↔ (∀ h, r.head? = some h → pinLess a h = true) ∧ rising r = true := by
  cases r <;> simp [rising]
theorem putPin_head {l : List T2} {y h : T2} (hh : (putPin l y).head? = some h) : h = y ∨ l.head? = some h := by
  cases l with
  | nil => simp [putPin] at hh; exact .inl hh.symm
  | cons a r =>
    unfold putPin at hh
    split at hh
    · simp at hh; exact .inr (by simp [hh])
    · split at hh
      · simp at hh; exact .inr (by simp [hh])
      · simp at hh; exact .inl hh.symm
theorem putPin_rising {l : List T2} {y : T2} (h : rising l = true) : rising (putPin l y) = true := by
  induction l with
  | nil => simp [putPin, rising]
  | cons a r ih =>
    have hr := rising_cons.1 h
    unfold putPin
    by_cases h1 : pinLess a y = true
    · rw [if_pos h1, rising_cons]
      refine ⟨fun b hb => ?_, ih hr.2⟩
      rcases putPin_head hb with rfl | hb
      · exact h1
      · exact hr.1 b hb
    · rw [if_neg h1]
      by_cases h2 : a = y
      · rw [if_pos h2]; exact h
      · rw [if_neg h2, rising_cons]
        refine ⟨fun b hb => ?_, h⟩
        simp only [List.head?_cons, Option.some.injEq] at hb
        subst hb
        exact pinLess_or (by simpa using h1) h2
theorem putPin_mem {l : List T2} {y p : T2} (h : p ∈ putPin l y) : p = y ∨ p ∈ l := by
  induction l with
  | nil => simpa [putPin] using h
  | cons a r ih =>
    unfold putPin at h
    split at h
    · rcases List.mem_cons.1 h with rfl | h
      · simp
      · rcases ih h with h | h
        · exact .inl h
        · exact .inr (by simp [h])
    · split at h
      · exact .inr h
      · rcases List.mem_cons.1 h with h | h
        · exact .inl h
        · exact .inr h

theorem cyl_inv (s t : Int) (x : Cur) (hs : 0 < s) (ht : 0 < t) (hi : 0 ≤ x.i) (k : Nat) :
    (cylTo s t x k).2.b = x.b ∧ 0 ≤ (cylTo s t x k).2.i ∧ (cylTo s t x k).1.length ≤ k ∧ rising (cylTo s t x k).1 = true ∧ ∀ p ∈ (cylTo s t x k).1, pinIn s t p = true := by
  induction k with
  | zero => exact ⟨rfl, hi, by simp [cylTo], by simp [cylTo, rising], by simp [cylTo]⟩
  | succ k ih =>
    obtain ⟨h1, h2, h3, h4, h5⟩ := ih
    refine ⟨by simp [cylTo, h1], cAfter_i (cAfter_i h2), ?_, putPin_rising h4, fun p hp => ?_⟩
    · exact Nat.le_trans (putPin_len _ _) (by omega)
    · rcases putPin_mem hp with rfl | hp
      · have g1 := cBelow_range (cylTo s t x k).2 ht
        have g2 := cBelow_range (cAfter (cylTo s t x k).2 t) hs
        simp only [pinIn, Bool.and_eq_true, within_iff']
        omega
      · exact h5 p hp
theorem cylX_i {x : Cur} (hi : 0 ≤ x.i) : 0 ≤ (cylX x).i := cAfter_i (cAfter_i (cAfter_i hi))
@[simp] theorem cylX_b (x : Cur) : (cylX x).b = x.b := by simp [cylX]
theorem cyl_r (x : Cur) : (4 ≤ cylS x ∧ cylS x ≤ 24) ∧ (1 ≤ cylT x ∧ cylT x ≤ 8) ∧ (0 ≤ cylN x ∧ cylN x ≤ 9) := by
  have h1 := cBelow_range x (show (0 : Int) < 21 by omega)
  have h2 := cBelow_range (cAfter x 21) (show (0 : Int) < 8 by omega)
  have h3 := cBelow_range (cAfter (cAfter x 21) 8) (show (0 : Int) < 10 by omega)
  simp only [cylS, cylT, cylN]; omega
theorem cylOf_ok {x : Cur} (hi : 0 ≤ x.i) : cylOk (cylOf x) = true ∧ (cylOf x).p.length ≤ 9 := by
  obtain ⟨r1, r2, r3⟩ := cyl_r x
  obtain ⟨-, -, h3, h4, h5⟩ := cyl_inv (cylS x) (cylT x) (cylX x) (by omega) (by omega) (cylX_i hi) (cylN x).toNat
  refine ⟨?_, by simp only [cylOf]; omega⟩
  simp only [cylOk, cylOf, Bool.and_eq_true, within_iff', decide_eq_true_eq, List.all_eq_true]
  have h6 : (cylTo (cylS x) (cylT x) (cylX x) (cylN x).toNat).1.length ≤ 100 := by omega
  exact ⟨⟨⟨by omega, by omega⟩, decide_eq_true h6⟩, h5, h4⟩
theorem spec_l06Cylinder_ok : ∀ ds outs, F_l06Cylinder ds = some outs → shL spec_l06Cylinder_L (qRet outs) ds := F_l06Cylinder_elim fun x hp => by
  obtain ⟨i0, hb⟩ := hp
  have i1 : 0 ≤ (cAfter x 21).i := cAfter_i i0
  have i2 : 0 ≤ (cAfter (cAfter x 21) 8).i := cAfter_i i1
  obtain ⟨r1, r2, r3⟩ := cyl_r x
  have w1 : IntKind.i64.wrap (4 + cBelow x 21) = cylS x := by have : 4 + cBelow x 21 = cylS x := rfl; rw [this]; exact wrap_id (by omega) (by omega)
  have w2 : IntKind.i64.wrap (1 + cBelow (cAfter x 21) 8) = cylT x := by have : 1 + cBelow (cAfter x 21) 8 = cylT x := rfl; rw [this]; exact wrap_id (by omega) (by omega)
  rw [spec_l06Cylinder_L_sh, q_below (b := x.b) x rfl i0 hb]
  simp only [P1_add, w1]
  rw [q_below (b := x.b) (cAfter x 21) (by simp) i1 hb]
  simp only [P1_add, w2]
  rw [q_below (b := x.b) (cAfter (cAfter x 21) 8) (by simp) i2 hb]
  refine loop_upto (cylN x).toNat (fun k => [.int .i64 (cylN x - k), vL I2 v2 (cylTo (cylS x) (cylT x) (cylX x) k).1, vL I1 vY x.b, .int .i64 (cylTo (cylS x) (cylT x) (cylX x) k).2.i, .int .i64 (cylTo (cylS x) (cylT x) (cylX x) k).2.h, .int .i64 0, .int .i64 0, .int .i64 (cylS x), .int .i64 (cylT x)]) (by intro i j _ _ h; simp at h; omega) (fun _ => True) (by simp [cylTo, cylN, cylX]) trivial ?_
  intro k hk _
  obtain ⟨g1, g2, g3, -, -⟩ := cyl_inv (cylS x) (cylT x) (cylX x) (by omega) (by omega) (cylX_i i0) k
  rw [cylX_b] at g1
  rw [spec_l06Cylinder_b0_sh]
  simp only [P1_gtr, ifB_bool, decide_eq_true_eq, decide_eq_false_iff_not]
  refine ⟨fun h => ?_, fun h => ?_⟩
  · rw [q_below (b := x.b) _ g1 g2 hb, q_below (b := x.b) (cAfter _ _) (by simp [g1]) (cAfter_i g2) hb]
    have hw : IntKind.i64.wrap (cylN x - (k : Int) - 1) = cylN x - ((k + 1 : Nat) : Int) := by rw [wrap_id (by omega) (by omega)]; omega
    have hl : (cylTo (cylS x) (cylT x) (cylX x) k).1.length ≤ 1048576 := by omega
    rw [p_l06Put (l := (cylTo (cylS x) (cylT x) (cylX x) k).1) hl]
    simp only [P1_sub, hw]
    exact ⟨by omega, rfl, trivial⟩
  · have e : k = (cylN x).toNat := by omega
    subst e
    simp [spec_l06Cylinder_r1_sh, cylOf, cylEnd]
end Go.Mw

/- Stops. -/
namespace Go.Mw
@[simp] theorem P1_neaX {a c e g : Int} {b f : Bool} {k : V → Prop} : P1 (.eqa true [.i, .b, .i]) [.int .i64 a, .bool b, .int .i64 c, .int .i64 e, .bool f, .int .i64 g] k ↔ k (.bool (!decide (a = e ∧ b = f ∧ c = g))) := P1_of (by simp only [Prim.run, eqVs, eqV1, List.length_cons, List.length_nil, List.take, List.drop, if_true]; cases b <;> cases f <;> simp <;> grind) k
theorem pinsAt_le (c : Cyl) (a : Int) : (pinsAt c a).length ≤ c.p.length := by
  unfold pinsAt
  split
  · simpa using List.length_filter_le _ _
  · simp
theorem it_p (c : Cyl) (x : Stt) : ∀ k, (itS c x k).p = x.p + (itL c x k).length ∧ (itL c x k).length ≤ k * c.p.length
  | 0 => by simp [itS, itL]
  | k + 1 => by
    obtain ⟨h1, h2⟩ := it_p c x k
    have h3 := pinsAt_le c (itS c x k).a
    simp only [itS, itL, nextStt, List.length_append, h1, Nat.add_mul]
    omega
/-- A state of a small cylinder. -/
structure Small (c : Cyl) (x : Stt) : Prop where
  ok : sttOk c x = true
  len : c.p.length ≤ 9
  p : x.p ≤ 77
theorem Small.it {c : Cyl} {x : Stt} (h : Small c x) (hn : x.n = true) {k : Nat} (hk : k ≤ runN c x) : sttOk c (itS c x k) = true := by
  have h0 := (sttOk_iff c x).1 h.ok
  have hb := cylOk_bounds h0.1
  have h1 := it_p c x k
  have h77 := h.p
  have h2 : k * c.p.length ≤ 96 * 9 := Nat.mul_le_mul (by simp only [runN] at hk; omega) h.len
  rw [sttOk_iff]
  refine ⟨h0.1, ?_, by omega⟩
  by_cases e : k < runN c x
  · have := (itS_on h.ok hn k e).1
    simp only [runN] at e
    omega
  · obtain rfl : k = runN c x := by omega
    have := (itS_off h.ok hn).1
    omega
theorem Small.can {c : Cyl} {x : Stt} (h : Small c x) (hn : x.n = true) {k : Nat} (hk : k < runN c x) : canStep c (itS c x k) = true := by
  rw [canStep_iff]
  exact ⟨h.it hn (by omega), (itS_on h.ok hn k hk).2, h.it hn (k := k + 1) hk⟩
def runM (c : Cyl) (x : Stt) : Nat := if x.n then runN c x else 0
theorem Small.steps {c : Cyl} {x : Stt} (h : Small c x) : stepsLeft c x = runM c x := by
  have h0 := (sttOk_iff c x).1 h.ok
  unfold stepsLeft runM
  rw [if_pos h.ok]
  cases x.n
  · simp
  · simp only [if_true, runN]; omega
theorem Small.run {c : Cyl} {x : Stt} (h : Small c x) : runBox c x = (itS c x (runM c x), itL c x (runM c x)) := by
  unfold runBox runM
  cases hn : x.n with
  | false =>
    have : runOk c x = false := by simp [runOk, hn]
    simp [this, itS, itL]
  | true =>
    have : runOk c x = true := by
      simp only [runOk, h.ok, hn, Bool.true_and, List.all_eq_true, List.mem_range]
      intro k hk; exact h.can hn hk
    simp [this]
end Go.Mw

/- The law on stops. -/
namespace Go.Mw
end Go.Mw

/- What functions compute, in plain terms: sums. -/
namespace Go.Mw
def atB (l : List UInt8) (n : Int) : Int := match l[((n * 5 + 1) % l.length).toNat]? with | some x => x.toNat | none => 0
def E_at : List UInt8 × Int → List V := fun (l, n) => [vL I1 vY l, .int .i64 n]
noncomputable def F_at : List V → Option (List V) := mkF E_at (fun (l, n) => l.length ≤ 1048576 ∧ 0 ≤ n ∧ n ≤ 1000000) (fun (l, n) => [.int .i64 (atB l n)])
theorem F_at_inj : ∀ x y, E_at x = E_at y → x = y := by
  rintro ⟨l, n⟩ ⟨l', n'⟩ h
  simpa [E_at] using h
theorem F_at_elim {P : List V → List V → Prop} (h : ∀ (l : List UInt8) (n : Int), (l.length ≤ 1048576 ∧ 0 ≤ n ∧ n ≤ 1000000) → P [vL I1 vY l, .int .i64 n] [.int .i64 (atB l n)]) : ∀ ds outs, F_at ds = some outs → P ds outs := by
  intro ds outs hh
  obtain ⟨⟨l, n⟩, rfl, hp, rfl⟩ := mkF_inv hh
  exact h l n hp
theorem p_at {l : List UInt8} {n : Int} {nr_ : Nat} {kk_ : V → Prop} (hp : l.length ≤ 1048576 ∧ 0 ≤ n ∧ n ≤ 1000000) : P1 (.call F_at 0 nr_) [vL I1 vY l, .int .i64 n] kk_ ↔ kk_ (.int .i64 (atB l n)) :=
  P1_callF (by unfold F_at; exact mkF_eq F_at_inj (l, n) hp)

def digTo (x : Cur) : Nat → List Int × Cur
  | 0 => ([], x)
  | k + 1 => ((digTo x k).1 ++ [cBelow (digTo x k).2 10], cAfter (digTo x k).2 10)
def digN (x : Cur) : Nat := (1 + cBelow x 9).toNat
def digOf (x : Cur) : List Int := (digTo (cAfter x 9) (digN x)).1
def digEnd (x : Cur) : Cur := (digTo (cAfter x 9) (digN x)).2
def E_l33Digits (x : Cur) : List V := [vL I1 vY x.b, .int .i64 x.i, .int .i64 x.h]
noncomputable def F_l33Digits : List V → Option (List V) := mkF E_l33Digits (fun x => 0 ≤ x.i ∧ x.b.length ≤ 1048576) (fun x => [vL I1 v1 (digOf x), .int .i64 ((digEnd x).i), .int .i64 ((digEnd x).h)])
theorem F_l33Digits_inj : ∀ x y, E_l33Digits x = E_l33Digits y → x = y := by
  rintro ⟨xb, xi, xh⟩ ⟨xb', xi', xh'⟩ h
  simpa [E_l33Digits] using h
theorem F_l33Digits_elim {P : List V → List V → Prop} (h : ∀ (x : Cur), (0 ≤ x.i ∧ x.b.length ≤ 1048576) → P [vL I1 vY x.b, .int .i64 x.i, .int .i64 x.h] [vL I1 v1 (digOf x), .int .i64 ((digEnd x).i), .int .i64 ((digEnd x).h)]) : ∀ ds outs, F_l33Digits ds = some outs → P ds outs := by
  intro ds outs hh
  obtain ⟨x, rfl, hp, rfl⟩ := mkF_inv hh
  exact h x hp
theorem p_l33Digits {x_b : List UInt8} {x_i : Int} {x_h : Int} {nr_ : Nat} {kk_ : V → V → V → Prop} (hp : 0 ≤ (⟨x_b, x_i, x_h⟩ : Cur).i ∧ (⟨x_b, x_i, x_h⟩ : Cur).b.length ≤ 1048576) : P3 (.call F_l33Digits 0 nr_) [vL I1 vY x_b, .int .i64 x_i, .int .i64 x_h] kk_ ↔ kk_ (vL I1 v1 (digOf (⟨x_b, x_i, x_h⟩ : Cur))) (.int .i64 ((digEnd (⟨x_b, x_i, x_h⟩ : Cur)).i)) (.int .i64 ((digEnd (⟨x_b, x_i, x_h⟩ : Cur)).h)) :=
  P3_callF (by unfold F_l33Digits; exact mkF_eq F_l33Digits_inj ((⟨x_b, x_i, x_h⟩ : Cur)) hp)

def E_DrawDigits (l : List UInt8) : List V := [vL I1 vY l]
noncomputable def F_DrawDigits : List V → Option (List V) := mkF E_DrawDigits (fun l => l.length ≤ 1048576) (fun l => [vL I1 v1 (digOf (cur0 l))])
theorem F_DrawDigits_inj : ∀ x y, E_DrawDigits x = E_DrawDigits y → x = y := by
  rintro l l' h
  simpa [E_DrawDigits] using h
theorem F_DrawDigits_elim {P : List V → List V → Prop} (h : ∀ (l : List UInt8), (l.length ≤ 1048576) → P [vL I1 vY l] [vL I1 v1 (digOf (cur0 l))]) : ∀ ds outs, F_DrawDigits ds = some outs → P ds outs := by
  intro ds outs hh
  obtain ⟨l, rfl, hp, rfl⟩ := mkF_inv hh
  exact h l hp
theorem p_DrawDigits {l : List UInt8} {nr_ : Nat} {kk_ : V → Prop} (hp : l.length ≤ 1048576) : P1 (.call F_DrawDigits 0 nr_) [vL I1 vY l] kk_ ↔ kk_ (vL I1 v1 (digOf (cur0 l))) :=
  P1_callF (by unfold F_DrawDigits; exact mkF_eq F_DrawDigits_inj (l) hp)

def E_DrawCylinder (l : List UInt8) : List V := [vL I1 vY l]
noncomputable def F_DrawCylinder : List V → Option (List V) := mkF E_DrawCylinder (fun l => l.length ≤ 1048576) (fun l => [.int .i64 (cylOf (cur0 l)).s, .int .i64 (cylOf (cur0 l)).t, vL I2 v2 (cylOf (cur0 l)).p])
theorem F_DrawCylinder_inj : ∀ x y, E_DrawCylinder x = E_DrawCylinder y → x = y := by
  rintro l l' h
  simpa [E_DrawCylinder] using h
theorem F_DrawCylinder_elim {P : List V → List V → Prop} (h : ∀ (l : List UInt8), (l.length ≤ 1048576) → P [vL I1 vY l] [.int .i64 (cylOf (cur0 l)).s, .int .i64 (cylOf (cur0 l)).t, vL I2 v2 (cylOf (cur0 l)).p]) : ∀ ds outs, F_DrawCylinder ds = some outs → P ds outs := by
  intro ds outs hh
  obtain ⟨l, rfl, hp, rfl⟩ := mkF_inv hh
  exact h l hp
theorem p_DrawCylinder {l : List UInt8} {nr_ : Nat} {kk_ : V → V → V → Prop} (hp : l.length ≤ 1048576) : P3 (.call F_DrawCylinder 0 nr_) [vL I1 vY l] kk_ ↔ kk_ (.int .i64 (cylOf (cur0 l)).s) (.int .i64 (cylOf (cur0 l)).t) (vL I2 v2 (cylOf (cur0 l)).p) :=
  P3_callF (by unfold F_DrawCylinder; exact mkF_eq F_DrawCylinder_inj (l) hp)

def swapAt (l : List Int) (k : Nat) : List Int := (l.set k (l[k + 1]?.getD 0)).set (k + 1) (l[k]?.getD 0)
def swapsTo (l : List Int) : Nat → List Int
  | 0 => []
  | k + 1 => swapsTo l k ++ (if isChecked (swapAt l k) then [(k : Int)] else [])
def findSwap (l : List Int) : List Int := if areDigits l 2 21 then swapsTo l (l.length - 1) else []
def E_FindSwap (l : List Int) : List V := [vL I1 v1 l]
noncomputable def F_FindSwap : List V → Option (List V) := mkF E_FindSwap (fun l => l.length ≤ 1048576) (fun l => [vL I1 v1 (findSwap l)])
theorem F_FindSwap_inj : ∀ x y, E_FindSwap x = E_FindSwap y → x = y := by
  rintro l l' h
  simpa [E_FindSwap] using h
theorem F_FindSwap_elim {P : List V → List V → Prop} (h : ∀ (l : List Int), (l.length ≤ 1048576) → P [vL I1 v1 l] [vL I1 v1 (findSwap l)]) : ∀ ds outs, F_FindSwap ds = some outs → P ds outs := by
  intro ds outs hh
  obtain ⟨l, rfl, hp, rfl⟩ := mkF_inv hh
  exact h l hp
theorem p_FindSwap {l : List Int} {nr_ : Nat} {kk_ : V → Prop} (hp : l.length ≤ 1048576) : P1 (.call F_FindSwap 0 nr_) [vL I1 v1 l] kk_ ↔ kk_ (vL I1 v1 (findSwap l)) :=
  P1_callF (by unfold F_FindSwap; exact mkF_eq F_FindSwap_inj (l) hp)

def E_has : List Int × Int → List V := fun (l, n) => [vL I1 v1 l, .int .i64 n]
noncomputable def F_has : List V → Option (List V) := mkF E_has (fun (l, _) => l.length ≤ 1048576) (fun (l, n) => [.bool (decide (n ∈ l))])
theorem F_has_inj : ∀ x y, E_has x = E_has y → x = y := by
  rintro ⟨l, n⟩ ⟨l', n'⟩ h
  simpa [E_has] using h
theorem F_has_elim {P : List V → List V → Prop} (h : ∀ (l : List Int) (n : Int), (l.length ≤ 1048576) → P [vL I1 v1 l, .int .i64 n] [.bool (decide (n ∈ l))]) : ∀ ds outs, F_has ds = some outs → P ds outs := by
  intro ds outs hh
  obtain ⟨⟨l, n⟩, rfl, hp, rfl⟩ := mkF_inv hh
  exact h l n hp
theorem p_has {l : List Int} {n : Int} {nr_ : Nat} {kk_ : V → Prop} (hp : l.length ≤ 1048576) : P1 (.call F_has 0 nr_) [vL I1 v1 l, .int .i64 n] kk_ ↔ kk_ (.bool (decide (n ∈ l))) :=
  P1_callF (by unfold F_has; exact mkF_eq F_has_inj (l, n) hp)

def E_FnSums (l : List UInt8) : List V := [vL I1 vY l]
noncomputable def F_FnSums : List V → Option (List V) := mkF E_FnSums (fun l => wfLY l) (fun _ => [.bool true])
theorem F_FnSums_inj : ∀ x y, E_FnSums x = E_FnSums y → x = y := by
  rintro l l' h
  simpa [E_FnSums] using h
theorem F_FnSums_elim {P : List V → List V → Prop} (h : ∀ (l : List UInt8), (wfLY l) → P [vL I1 vY l] [.bool true]) : ∀ ds outs, F_FnSums ds = some outs → P ds outs := by
  intro ds outs hh
  obtain ⟨l, rfl, hp, rfl⟩ := mkF_inv hh
  exact h l hp
theorem F_FnSums_law : ∀ ds, okTKs [.list false [.int .u8]] ds → F_FnSums ds = some [.bool true] := by
  intro ds g0
  obtain ⟨_, _, rfl, h0, g1⟩ := okTKs_cons g0
  obtain ⟨l, rfl, r0⟩ := dec_LY h0
  obtain rfl := okTKs_nil g1
  exact mkF_eq F_FnSums_inj (l) r0


end Go.Mw

/- Functions of the program, as small pure programs (printed by a program of ours). -/
namespace Go.Mw
noncomputable section
def laws_at_L : L := .seq (.rg []) (.seq (.seq (.rg [⟨[], .len, [.v 0], 1⟩, ⟨[], .bin .eql, [.v 2, .k (.int .i64 0)], 1⟩]) (.ite (.v 3) (.seq (.rg []) (.ret [.k (.int .i64 0)])) (.skip))) (.seq (.rg [⟨[], .bin .mul, [.v 1, .k (.int .i64 5)], 1⟩, ⟨[], .bin .add, [.v 4, .k (.int .i64 1)], 1⟩, ⟨[], .len, [.v 0], 1⟩, ⟨[], .bin .rem, [.v 5, .v 6], 1⟩, ⟨[], .idx [.sc], [.v 0, .v 7], 1⟩, ⟨[], .conv .i64, [.v 8], 1⟩]) (.ret [.v 9])))
theorem laws_at_L_sh (Q : QT) (x0 x1 : V) : shL laws_at_L Q [x0, x1] = (
  P1 (.len) [x0] fun v0 =>
  P1 (.bin .eql) [v0, .int .i64 0] fun v1 =>
  ifB v1 (
    Q .ret [.int .i64 0]) (
    P1 (.bin .mul) [x1, .int .i64 5] fun v2 =>
    P1 (.bin .add) [v2, .int .i64 1] fun v3 =>
    P1 (.len) [x0] fun v4 =>
    P1 (.bin .rem) [v3, v4] fun v5 =>
    P1 (.idx [.sc]) [x0, v5] fun v6 =>
    P1 (.conv .i64) [v6] fun v7 =>
    Q .ret [v7])) := by kernel_rfl
def laws_at_S : Sig := ⟨[.val false [.sl [.sc]], .val false [.sc]], [(false, [.sc])], F_at⟩
def laws_at_hs : List NF := []

def spec_l33Digits_b0 : L := .seq (.seq (.seq (.rg [⟨[], .bin .lss, [.v 1, .v 0], 1⟩]) (.ite (.v 6) (.skip) (.seq (.tup [.v 2, .v 3, .v 4, .v 5]) (.exit 0)))) (.seq (.block 1 (.seq (.rg [⟨[], .call F_l01Below 0 1, [.v 3, .v 4, .v 5, .k (.int .i64 10)], 3⟩, ⟨[], .lst [.sc] false 1, [.v 7], 1⟩, ⟨[], .app [.sc] 8, [.v 2, .v 10], 1⟩]) (.tup [.v 0, .v 1, .v 11, .v 3, .v 8, .v 9]))) (.rg [⟨[], .bin .add, [.v 1, .k (.int .i64 1)], 1⟩]))) (.tup [.v 0, .v 6, .v 2, .v 3, .v 4, .v 5])
theorem spec_l33Digits_b0_sh (Q : QT) (x0 x1 x2 x3 x4 x5 : V) : shL spec_l33Digits_b0 Q [x0, x1, x2, x3, x4, x5] = (
  P1 (.bin .lss) [x1, x0] fun v0 =>
  ifB v0 (
    P3 (.call F_l01Below 0 1) [x3, x4, x5, .int .i64 10] fun v1 v2 v3 =>
    P1 (.lst [.sc] false 1) [v1] fun v4 =>
    P1 (.app [.sc] 8) [x2, v4] fun v5 =>
    P1 (.bin .add) [x1, .int .i64 1] fun v6 =>
    Q .normal [x0, v6, v5, x3, v2, v3]) (
    Q (.exit 0) [x2, x3, x4, x5])) := by kernel_rfl

def spec_l33Digits_r1 : L := .seq (.rg []) (.ret [.v 0, .v 2, .v 3])
theorem spec_l33Digits_r1_sh (Q : QT) (x0 x1 x2 x3 : V) : shL spec_l33Digits_r1 Q [x0, x1, x2, x3] = (
  Q .ret [x0, x2, x3]) := by kernel_rfl

def spec_l33Digits_L : L := .seq (.rg []) (.seq (.rg [⟨[], .lst [.sc] false 0, [], 1⟩]) (.seq (.rg [⟨[], .call F_l01Below 0 1, [.v 0, .v 1, .v 2, .k (.int .i64 9)], 3⟩, ⟨[], .bin .add, [.k (.int .i64 1), .v 4], 1⟩]) (.seq (.seq (.rg []) (.block 0 (.seq (.tup [.v 7, .k (.int .i64 0), .v 3, .v 0, .v 5, .v 6]) (.loop (spec_l33Digits_b0))))) (spec_l33Digits_r1))))
theorem spec_l33Digits_L_sh (Q : QT) (x0 x1 x2 : V) : shL spec_l33Digits_L Q [x0, x1, x2] = (
  P1 (.lst [.sc] false 0) [] fun v0 =>
  P3 (.call F_l01Below 0 1) [x0, x1, x2, .int .i64 9] fun v1 v2 v3 =>
  P1 (.bin .add) [.int .i64 1, v1] fun v4 =>
  shL (.loop spec_l33Digits_b0) (qB 0 (qS (shL spec_l33Digits_r1 Q) Q)) [v4, .int .i64 0, v0, x0, v2, v3]) := by kernel_rfl
def spec_l33Digits_S : Sig := ⟨[.ptr [.sl [.sc], .sc, .sc]], [(false, [.sl [.sc]])], F_l33Digits⟩
def spec_l33Digits_hs : List NF := [⟨[(3, .sc false [.own 64])], [(64, true, [.sc])], [(0, [.ro [.sc], .sc, .sc])], 65⟩, ⟨[(0, .ptr 0 0), (3, .sc false [.own 64]), (4, .sc false [.sc]), (5, .sc false [.sc])], [(64, true, [.sc])], [(0, [.ro [.sc], .sc, .sc])], 65⟩, ⟨[(0, .ptr 0 0), (3, .sc false [.own 64]), (4, .sc false [.sc]), (5, .sc false [.sc])], [(64, true, [.sc])], [(0, [.ro [.sc], .sc, .sc])], 65⟩]

def spec_DrawDigits_L : L := .seq (.rg []) (.seq (.rg [⟨[], .call F_l01New 0 3, [.v 0], 3⟩, ⟨[], .call F_l33Digits 0 1, [.v 1, .v 2, .v 3], 3⟩]) (.ret [.v 4]))
theorem spec_DrawDigits_L_sh (Q : QT) (x0 : V) : shL spec_DrawDigits_L Q [x0] = (
  P3 (.call F_l01New 0 3) [x0] fun v0 v1 v2 =>
  P3 (.call F_l33Digits 0 1) [v0, v1, v2] fun v3 _ _ =>
  Q .ret [v3]) := by kernel_rfl
def spec_DrawDigits_S : Sig := ⟨[.val false [.sl [.sc]]], [(false, [.sl [.sc]])], F_DrawDigits⟩
def spec_DrawDigits_hs : List NF := []

def impl_FindSwap_b0 : L := .seq (.seq (.seq (.rg [⟨[], .bin .add, [.v 1, .k (.int .i64 1)], 1⟩, ⟨[], .len, [.v 0], 1⟩, ⟨[], .bin .lss, [.v 3, .v 4], 1⟩]) (.ite (.v 5) (.skip) (.seq (.tup [.v 2]) (.exit 0)))) (.seq (.block 1 (.seq (.seq (.rg [⟨[], .call F_copyInts 0 1, [.v 0], 1⟩]) (.seq (.rg [⟨[], .bin .add, [.v 1, .k (.int .i64 1)], 1⟩, ⟨[], .bin .add, [.v 1, .k (.int .i64 1)], 1⟩, ⟨[], .idx [.sc], [.v 6, .v 8], 1⟩, ⟨[], .idx [.sc], [.v 6, .v 1], 1⟩, ⟨[], .idx [.sc], [.v 6, .v 1], 1⟩, ⟨[], .set [.sc] 0, [.v 6, .v 1, .v 9], 1⟩, ⟨[], .idx [.sc], [.v 12, .v 7], 1⟩, ⟨[], .set [.sc] 0, [.v 12, .v 7, .v 10], 1⟩]) (.seq (.rg [⟨[], .call F_IsChecked 0 1, [.v 14], 1⟩]) (.ite (.v 15) (.seq (.rg [⟨[], .lst [.sc] false 1, [.v 1], 1⟩, ⟨[], .app [.sc] 8, [.v 2, .v 16], 1⟩]) (.tup [.v 0, .v 1, .v 17])) (.seq (.skip) (.tup [.v 0, .v 1, .v 2])))))) (.tup [.v 0, .v 1, .v 2]))) (.rg [⟨[], .bin .add, [.v 1, .k (.int .i64 1)], 1⟩]))) (.tup [.v 0, .v 3, .v 2])
theorem impl_FindSwap_b0_sh (Q : QT) (x0 x1 x2 : V) : shL impl_FindSwap_b0 Q [x0, x1, x2] = (
  P1 (.bin .add) [x1, .int .i64 1] fun v0 =>
  P1 (.len) [x0] fun v1 =>
  P1 (.bin .lss) [v0, v1] fun v2 =>
  ifB v2 (
    P1 (.call F_copyInts 0 1) [x0] fun v3 =>
    P1 (.bin .add) [x1, .int .i64 1] fun v4 =>
    P1 (.bin .add) [x1, .int .i64 1] fun v5 =>
    P1 (.idx [.sc]) [v3, v5] fun v6 =>
    P1 (.idx [.sc]) [v3, x1] fun v7 =>
    P1 (.idx [.sc]) [v3, x1] fun _ =>
    P1 (.set [.sc] 0) [v3, x1, v6] fun v9 =>
    P1 (.idx [.sc]) [v9, v4] fun _ =>
    P1 (.set [.sc] 0) [v9, v4, v7] fun v11 =>
    P1 (.call F_IsChecked 0 1) [v11] fun v12 =>
    ifB v12 (
      P1 (.lst [.sc] false 1) [x1] fun v13 =>
      P1 (.app [.sc] 8) [x2, v13] fun v14 =>
      P1 (.bin .add) [x1, .int .i64 1] fun v15 =>
      Q .normal [x0, v15, v14]) (
      P1 (.bin .add) [x1, .int .i64 1] fun v16 =>
      Q .normal [x0, v16, x2])) (
    Q (.exit 0) [x2])) := by kernel_rfl

def impl_FindSwap_r1 : L := .seq (.rg []) (.ret [.v 0])
theorem impl_FindSwap_r1_sh (Q : QT) (x0 : V) : shL impl_FindSwap_r1 Q [x0] = (
  Q .ret [x0]) := by kernel_rfl

def impl_FindSwap_L : L := .seq (.rg []) (.seq (.seq (.rg [⟨[], .call F_areDigits 0 1, [.v 0, .k (.int .i64 2), .k (.int .i64 21)], 1⟩, ⟨[], .un .not, [.v 1], 1⟩]) (.ite (.v 2) (.seq (.rg []) (.ret [.k (.list [.sc] [])])) (.skip))) (.seq (.rg [⟨[], .lst [.sc] false 0, [], 1⟩]) (.seq (.seq (.rg []) (.block 0 (.seq (.tup [.v 0, .k (.int .i64 0), .v 3]) (.loop (impl_FindSwap_b0))))) (impl_FindSwap_r1))))
theorem impl_FindSwap_L_sh (Q : QT) (x0 : V) : shL impl_FindSwap_L Q [x0] = (
  P1 (.call F_areDigits 0 1) [x0, .int .i64 2, .int .i64 21] fun v0 =>
  P1 (.un .not) [v0] fun v1 =>
  ifB v1 (
    Q .ret [.list [.sc] []]) (
    P1 (.lst [.sc] false 0) [] fun v2 =>
    shL (.loop impl_FindSwap_b0) (qB 0 (qS (shL impl_FindSwap_r1 Q) Q)) [x0, .int .i64 0, v2])) := by kernel_rfl
def impl_FindSwap_S : Sig := ⟨[.val false [.sl [.sc]]], [(false, [.sl [.sc]])], F_FindSwap⟩
def impl_FindSwap_hs : List NF := [⟨[(3, .sc false [.own 64])], [(64, true, [.sc])], [], 65⟩, ⟨[(0, .sc false [.ro [.sc]]), (3, .sc false [.own 64]), (4, .sc false [.sc])], [(64, true, [.sc])], [], 65⟩, ⟨[(0, .sc false [.ro [.sc]]), (3, .sc false [.own 64]), (4, .sc false [.sc])], [(64, true, [.sc])], [], 65⟩, ⟨[(0, .sc false [.ro [.sc]]), (3, .sc false [.own 64]), (4, .sc false [.sc])], [(64, true, [.sc])], [], 65⟩]

def laws_has_b0 : L := .seq (.seq (.seq (.rg [⟨[], .len, [.v 0], 1⟩, ⟨[], .bin .lss, [.v 2, .v 3], 1⟩]) (.ite (.v 4) (.skip) (.seq (.tup []) (.exit 0)))) (.seq (.block 1 (.seq (.seq (.rg [⟨[], .idx [.sc], [.v 0, .v 2], 1⟩, ⟨[], .bin .eql, [.v 5, .v 1], 1⟩]) (.ite (.v 6) (.seq (.rg []) (.ret [.k (.bool true)])) (.skip))) (.tup [.v 0, .v 1, .v 2]))) (.rg [⟨[], .bin .add, [.v 2, .k (.int .i64 1)], 1⟩]))) (.tup [.v 0, .v 1, .v 3])
theorem laws_has_b0_sh (Q : QT) (x0 x1 x2 : V) : shL laws_has_b0 Q [x0, x1, x2] = (
  P1 (.len) [x0] fun v0 =>
  P1 (.bin .lss) [x2, v0] fun v1 =>
  ifB v1 (
    P1 (.idx [.sc]) [x0, x2] fun v2 =>
    P1 (.bin .eql) [v2, x1] fun v3 =>
    ifB v3 (
      Q .ret [.bool true]) (
      P1 (.bin .add) [x2, .int .i64 1] fun v4 =>
      Q .normal [x0, x1, v4])) (
    Q (.exit 0) [])) := by kernel_rfl

def laws_has_r1 : L := .seq (.rg []) (.ret [.k (.bool false)])
theorem laws_has_r1_sh (Q : QT) : shL laws_has_r1 Q [] = (
  Q .ret [.bool false]) := by kernel_rfl

def laws_has_L : L := .seq (.rg []) (.seq (.seq (.rg []) (.block 0 (.seq (.tup [.v 0, .v 1, .k (.int .i64 0)]) (.loop (laws_has_b0))))) (laws_has_r1))
theorem laws_has_L_sh (Q : QT) (x0 x1 : V) : shL laws_has_L Q [x0, x1] = (
  shL (.loop laws_has_b0) (qB 0 (qS (shL laws_has_r1 Q) Q)) [x0, x1, .int .i64 0]) := by kernel_rfl
def laws_has_S : Sig := ⟨[.val false [.sl [.sc]], .val false [.sc]], [(false, [.sc])], F_has⟩
def laws_has_hs : List NF := [⟨[], [], [], 64⟩, ⟨[(0, .sc false [.ro [.sc]]), (1, .sc false [.sc]), (5, .sc false [.sc])], [], [], 64⟩, ⟨[(0, .sc false [.ro [.sc]]), (1, .sc false [.sc]), (5, .sc false [.sc])], [], [], 64⟩]

def spec_DrawCylinder_L : L := .seq (.rg []) (.seq (.rg [⟨[], .call F_l01New 0 3, [.v 0], 3⟩, ⟨[], .call F_l06Cylinder 0 3, [.v 1, .v 2, .v 3], 5⟩]) (.ret [.v 4, .v 5, .v 6]))
theorem spec_DrawCylinder_L_sh (Q : QT) (x0 : V) : shL spec_DrawCylinder_L Q [x0] = (
  P3 (.call F_l01New 0 3) [x0] fun v0 v1 v2 =>
  P5 (.call F_l06Cylinder 0 3) [v0, v1, v2] fun v3 v4 v5 _ _ =>
  Q .ret [v3, v4, v5]) := by kernel_rfl
def spec_DrawCylinder_S : Sig := ⟨[.val false [.sl [.sc]]], [(true, [.sc, .sc, .sl [.sc, .sc]])], F_DrawCylinder⟩
def spec_DrawCylinder_hs : List NF := []

def laws_FnSums_b1 : L := .seq (.seq (.seq (.rg [⟨[], .len, [.v 2], 1⟩, ⟨[], .bin .lss, [.v 1, .v 4], 1⟩]) (.ite (.v 5) (.skip) (.seq (.tup [.v 0, .v 2]) (.exit 0)))) (.seq (.block 1 (.seq (.seq (.rg [⟨[], .lst [.sc] false 0, [], 1⟩, ⟨[], .app [.sc] 8, [.v 6, .v 2], 1⟩]) (.seq (.rg [⟨[], .idx [.sc], [.v 2, .v 1], 1⟩, ⟨[], .bin .add, [.v 8, .k (.int .i64 1)], 1⟩, ⟨[], .call F_at 0 1, [.v 0, .v 1], 1⟩, ⟨[], .bin .rem, [.v 10, .k (.int .i64 9)], 1⟩, ⟨[], .bin .add, [.v 9, .v 11], 1⟩, ⟨[], .bin .rem, [.v 12, .k (.int .i64 10)], 1⟩, ⟨[], .idx [.sc], [.v 7, .v 1], 1⟩, ⟨[], .set [.sc] 0, [.v 7, .v 1, .v 13], 1⟩]) (.seq (.rg [⟨[], .call F_WrongDigits 0 1, [.v 15], 1⟩]) (.seq (.rg [⟨[], .call F_IsChecked 0 1, [.v 15], 1⟩, ⟨[(.v 17, false)], .idx [.sc], [.v 3, .v 1], 1⟩, ⟨[(.v 17, false)], .bin .neq, [.v 18, .k (.int .i64 (-1))], 1⟩, ⟨[], .pick, [.v 17, .k (.bool true), .v 19], 1⟩, ⟨[(.v 20, false)], .len, [.v 16], 1⟩, ⟨[(.v 20, false)], .len, [.v 15], 1⟩, ⟨[(.v 20, false)], .bin .neq, [.v 21, .v 22], 1⟩, ⟨[], .pick, [.v 20, .k (.bool true), .v 23], 1⟩, ⟨[(.v 24, false)], .idx [.sc], [.v 16, .v 1], 1⟩, ⟨[(.v 24, false)], .idx [.sc], [.v 2, .v 1], 1⟩, ⟨[(.v 24, false)], .bin .neq, [.v 25, .v 26], 1⟩, ⟨[], .pick, [.v 24, .k (.bool true), .v 27], 1⟩]) (.ite (.v 28) (.seq (.rg []) (.ret [.k (.bool false)])) (.skip)))))) (.tup [.v 0, .v 1, .v 2, .v 3]))) (.rg [⟨[], .bin .add, [.v 1, .k (.int .i64 1)], 1⟩]))) (.tup [.v 0, .v 4, .v 2, .v 3])
theorem laws_FnSums_b1_sh (Q : QT) (x0 x1 x2 x3 : V) : shL laws_FnSums_b1 Q [x0, x1, x2, x3] = (
  P1 (.len) [x2] fun v0 =>
  P1 (.bin .lss) [x1, v0] fun v1 =>
  ifB v1 (
    P1 (.lst [.sc] false 0) [] fun v2 =>
    P1 (.app [.sc] 8) [v2, x2] fun v3 =>
    P1 (.idx [.sc]) [x2, x1] fun v4 =>
    P1 (.bin .add) [v4, .int .i64 1] fun v5 =>
    P1 (.call F_at 0 1) [x0, x1] fun v6 =>
    P1 (.bin .rem) [v6, .int .i64 9] fun v7 =>
    P1 (.bin .add) [v5, v7] fun v8 =>
    P1 (.bin .rem) [v8, .int .i64 10] fun v9 =>
    P1 (.idx [.sc]) [v3, x1] fun _ =>
    P1 (.set [.sc] 0) [v3, x1, v9] fun v11 =>
    P1 (.call F_WrongDigits 0 1) [v11] fun v12 =>
    P1 (.call F_IsChecked 0 1) [v11] fun v13 =>
    ifB v13 (
      Q .ret [.bool false]) (
      P1 (.idx [.sc]) [x3, x1] fun v14 =>
      P1 (.bin .neq) [v14, .int .i64 (-1)] fun v15 =>
      ifB v15 (
        Q .ret [.bool false]) (
        P1 (.len) [v12] fun v16 =>
        P1 (.len) [v11] fun v17 =>
        P1 (.bin .neq) [v16, v17] fun v18 =>
        ifB v18 (
          Q .ret [.bool false]) (
          P1 (.idx [.sc]) [v12, x1] fun v19 =>
          P1 (.idx [.sc]) [x2, x1] fun v20 =>
          P1 (.bin .neq) [v19, v20] fun v21 =>
          ifB v21 (
            Q .ret [.bool false]) (
            P1 (.bin .add) [x1, .int .i64 1] fun v22 =>
            Q .normal [x0, v22, x2, x3]))))) (
    Q (.exit 0) [x0, x2])) := by kernel_rfl

def laws_FnSums_b3 : L := .seq (.seq (.seq (.rg [⟨[], .bin .add, [.v 1, .k (.int .i64 1)], 1⟩, ⟨[], .len, [.v 2], 1⟩, ⟨[], .bin .lss, [.v 4, .v 5], 1⟩]) (.ite (.v 6) (.skip) (.seq (.tup [.v 0]) (.exit 2)))) (.seq (.block 3 (.seq (.seq (.rg [⟨[], .lst [.sc] false 0, [], 1⟩, ⟨[], .app [.sc] 8, [.v 7, .v 2], 1⟩]) (.seq (.rg [⟨[], .bin .add, [.v 1, .k (.int .i64 1)], 1⟩, ⟨[], .idx [.sc], [.v 2, .v 9], 1⟩, ⟨[], .idx [.sc], [.v 8, .v 1], 1⟩, ⟨[], .set [.sc] 0, [.v 8, .v 1, .v 10], 1⟩]) (.seq (.rg [⟨[], .bin .add, [.v 1, .k (.int .i64 1)], 1⟩, ⟨[], .idx [.sc], [.v 2, .v 1], 1⟩, ⟨[], .idx [.sc], [.v 12, .v 13], 1⟩, ⟨[], .set [.sc] 0, [.v 12, .v 13, .v 14], 1⟩]) (.seq (.rg [⟨[], .call F_has 0 1, [.v 3, .v 1], 1⟩, ⟨[], .call F_IsChecked 0 1, [.v 16], 1⟩, ⟨[], .binb .neq, [.v 17, .v 18], 1⟩]) (.ite (.v 19) (.seq (.rg []) (.ret [.k (.bool false)])) (.skip)))))) (.tup [.v 0, .v 1, .v 2, .v 3]))) (.rg [⟨[], .bin .add, [.v 1, .k (.int .i64 1)], 1⟩]))) (.tup [.v 0, .v 4, .v 2, .v 3])
theorem laws_FnSums_b3_sh (Q : QT) (x0 x1 x2 x3 : V) : shL laws_FnSums_b3 Q [x0, x1, x2, x3] = (
  P1 (.bin .add) [x1, .int .i64 1] fun v0 =>
  P1 (.len) [x2] fun v1 =>
  P1 (.bin .lss) [v0, v1] fun v2 =>
  ifB v2 (
    P1 (.lst [.sc] false 0) [] fun v3 =>
    P1 (.app [.sc] 8) [v3, x2] fun v4 =>
    P1 (.bin .add) [x1, .int .i64 1] fun v5 =>
    P1 (.idx [.sc]) [x2, v5] fun v6 =>
    P1 (.idx [.sc]) [v4, x1] fun _ =>
    P1 (.set [.sc] 0) [v4, x1, v6] fun v8 =>
    P1 (.bin .add) [x1, .int .i64 1] fun v9 =>
    P1 (.idx [.sc]) [x2, x1] fun v10 =>
    P1 (.idx [.sc]) [v8, v9] fun _ =>
    P1 (.set [.sc] 0) [v8, v9, v10] fun v12 =>
    P1 (.call F_has 0 1) [x3, x1] fun v13 =>
    P1 (.call F_IsChecked 0 1) [v12] fun v14 =>
    P1 (.binb .neq) [v13, v14] fun v15 =>
    ifB v15 (
      Q .ret [.bool false]) (
      P1 (.bin .add) [x1, .int .i64 1] fun v16 =>
      Q .normal [x0, v16, x2, x3])) (
    Q (.exit 2) [x0])) := by kernel_rfl

def laws_FnSums_b5 : L := .seq (.seq (.seq (.rg [⟨[], .len, [.v 3], 1⟩, ⟨[], .bin .lss, [.v 2, .v 6], 1⟩]) (.ite (.v 7) (.skip) (.seq (.tup [.v 0, .v 1]) (.exit 4)))) (.seq (.block 5 (.seq (.rg [⟨[], .bin .add, [.v 2, .k (.int .i64 1)], 1⟩, ⟨[], .idx [.sc, .sc], [.v 3, .v 2], 2⟩, ⟨[], .bin .mul, [.k (.int .i64 100), .v 9], 1⟩, ⟨[], .idx [.sc, .sc], [.v 3, .v 2], 2⟩, ⟨[], .bin .add, [.v 11, .v 13], 1⟩, ⟨[], .bin .add, [.v 14, .k (.int .i64 1)], 1⟩, ⟨[], .bin .mul, [.v 8, .v 15], 1⟩, ⟨[], .bin .add, [.v 1, .v 16], 1⟩]) (.tup [.v 0, .v 17, .v 2, .v 3, .v 4, .v 5]))) (.rg [⟨[], .bin .add, [.v 2, .k (.int .i64 1)], 1⟩]))) (.tup [.v 0, .v 1, .v 6, .v 3, .v 4, .v 5])
theorem laws_FnSums_b5_sh (Q : QT) (x0 x1 x2 x3 x4 x5 : V) : shL laws_FnSums_b5 Q [x0, x1, x2, x3, x4, x5] = (
  P1 (.len) [x3] fun v0 =>
  P1 (.bin .lss) [x2, v0] fun v1 =>
  ifB v1 (
    P1 (.bin .add) [x2, .int .i64 1] fun v2 =>
    P2 (.idx [.sc, .sc]) [x3, x2] fun v3 _ =>
    P1 (.bin .mul) [.int .i64 100, v3] fun v5 =>
    P2 (.idx [.sc, .sc]) [x3, x2] fun _ v7 =>
    P1 (.bin .add) [v5, v7] fun v8 =>
    P1 (.bin .add) [v8, .int .i64 1] fun v9 =>
    P1 (.bin .mul) [v2, v9] fun v10 =>
    P1 (.bin .add) [x1, v10] fun v11 =>
    P1 (.bin .add) [x2, .int .i64 1] fun v12 =>
    Q .normal [x0, v11, v12, x3, x4, x5]) (
    Q (.exit 4) [x0, x1])) := by kernel_rfl

def laws_FnSums_r6 : L := .seq (.rg [⟨[], .bin .rem, [.v 1, .k (.int .i64 9973)], 1⟩, ⟨[], .bin .eql, [.v 0, .v 2], 1⟩, ⟨[(.v 3, true)], .lst [.sc] false 3, [.k (.int .i64 1), .k (.int .i64 2), .k (.int .i64 3)], 1⟩, ⟨[(.v 3, true)], .call F_CheckDigit 0 1, [.v 4], 1⟩, ⟨[(.v 3, true)], .bin .eql, [.v 5, .k (.int .i64 6)], 1⟩, ⟨[], .pick, [.v 3, .v 6, .k (.bool false)], 1⟩]) (.ret [.v 7])
theorem laws_FnSums_r6_sh (Q : QT) (x0 x1 : V) : shL laws_FnSums_r6 Q [x0, x1] = (
  P1 (.bin .rem) [x1, .int .i64 9973] fun v0 =>
  P1 (.bin .eql) [x0, v0] fun v1 =>
  ifB v1 (
    P1 (.lst [.sc] false 3) [.int .i64 1, .int .i64 2, .int .i64 3] fun v2 =>
    P1 (.call F_CheckDigit 0 1) [v2] fun v3 =>
    P1 (.bin .eql) [v3, .int .i64 6] fun v4 =>
    Q .ret [v4]) (
    Q .ret [.bool false])) := by kernel_rfl

def laws_FnSums_r4 : L := .seq (.rg [⟨[], .call F_DrawCylinder 0 3, [.v 0], 3⟩]) (.seq (.rg [⟨[], .call F_PinSum 0 1, [.v 1, .v 2, .v 3], 1⟩]) (.seq (.rg []) (.seq (.seq (.rg []) (.block 4 (.seq (.tup [.v 4, .k (.int .i64 0), .k (.int .i64 0), .v 3, .v 1, .v 2]) (.loop (laws_FnSums_b5))))) (laws_FnSums_r6))))
theorem laws_FnSums_r4_sh (Q : QT) (x0 : V) : shL laws_FnSums_r4 Q [x0] = (
  P3 (.call F_DrawCylinder 0 3) [x0] fun v0 v1 v2 =>
  P1 (.call F_PinSum 0 1) [v0, v1, v2] fun v3 =>
  shL (.loop laws_FnSums_b5) (qB 4 (qS (shL laws_FnSums_r6 Q) Q)) [v3, .int .i64 0, .int .i64 0, v2, v0, v1]) := by kernel_rfl

def laws_FnSums_r2 : L := .seq (.rg [⟨[], .call F_FindSwap 0 1, [.v 1], 1⟩]) (.seq (.seq (.rg []) (.block 2 (.seq (.tup [.v 0, .k (.int .i64 0), .v 1, .v 2]) (.loop (laws_FnSums_b3))))) (laws_FnSums_r4))
theorem laws_FnSums_r2_sh (Q : QT) (x0 x1 : V) : shL laws_FnSums_r2 Q [x0, x1] = (
  P1 (.call F_FindSwap 0 1) [x1] fun v0 =>
  shL (.loop laws_FnSums_b3) (qB 2 (qS (shL laws_FnSums_r4 Q) Q)) [x0, .int .i64 0, x1, v0]) := by kernel_rfl

def laws_FnSums_r0 : L := .seq (.rg [⟨[], .lst [.sc] false 0, [], 1⟩, ⟨[], .app [.sc] 8, [.v 7, .v 2], 1⟩, ⟨[], .lst [.sc] false 1, [.v 3], 1⟩, ⟨[], .app [.sc] 8, [.v 8, .v 9], 1⟩]) (.seq (.rg [⟨[], .call F_WrongDigits 0 1, [.v 10], 1⟩]) (.seq (.seq (.rg [⟨[], .call F_IsChecked 0 1, [.v 10], 1⟩, ⟨[], .un .not, [.v 12], 1⟩, ⟨[(.v 13, false)], .len, [.v 11], 1⟩, ⟨[(.v 13, false)], .len, [.v 10], 1⟩, ⟨[(.v 13, false)], .bin .neq, [.v 14, .v 15], 1⟩, ⟨[], .pick, [.v 13, .k (.bool true), .v 16], 1⟩]) (.ite (.v 17) (.seq (.rg []) (.ret [.k (.bool false)])) (.skip))) (.seq (.seq (.rg []) (.block 0 (.seq (.tup [.v 0, .k (.int .i64 0), .v 10, .v 11]) (.loop (laws_FnSums_b1))))) (laws_FnSums_r2))))
theorem laws_FnSums_r0_sh (Q : QT) (x0 x1 x2 x3 x4 x5 x6 : V) : shL laws_FnSums_r0 Q [x0, x1, x2, x3, x4, x5, x6] = (
  P1 (.lst [.sc] false 0) [] fun v0 =>
  P1 (.app [.sc] 8) [v0, x2] fun v1 =>
  P1 (.lst [.sc] false 1) [x3] fun v2 =>
  P1 (.app [.sc] 8) [v1, v2] fun v3 =>
  P1 (.call F_WrongDigits 0 1) [v3] fun v4 =>
  P1 (.call F_IsChecked 0 1) [v3] fun v5 =>
  P1 (.un .not) [v5] fun v6 =>
  ifB v6 (
    Q .ret [.bool false]) (
    P1 (.len) [v4] fun v7 =>
    P1 (.len) [v3] fun v8 =>
    P1 (.bin .neq) [v7, v8] fun v9 =>
    ifB v9 (
      Q .ret [.bool false]) (
      shL (.loop laws_FnSums_b1) (qB 0 (qS (shL laws_FnSums_r2 Q) Q)) [x0, .int .i64 0, v3, v4]))) := by kernel_rfl

def laws_FnSums_L : L := .seq (.rg []) (.seq (.seq (.rg [⟨[], .call F_big 0 1, [.v 0], 1⟩]) (.ite (.v 1) (.seq (.rg []) (.ret [.k (.bool true)])) (.skip))) (.seq (.rg [⟨[], .call F_DrawDigits 0 1, [.v 0], 1⟩]) (.seq (.rg [⟨[], .call F_CheckDigit 0 1, [.v 2], 1⟩]) (.seq (.seq (.rg [⟨[], .bin .lss, [.v 3, .k (.int .i64 0)], 1⟩, ⟨[(.v 4, false)], .bin .gtr, [.v 3, .k (.int .i64 9)], 1⟩, ⟨[], .pick, [.v 4, .k (.bool true), .v 5], 1⟩]) (.ite (.v 6) (.seq (.rg []) (.ret [.k (.bool false)])) (.skip))) (laws_FnSums_r0)))))
theorem laws_FnSums_L_sh (Q : QT) (x0 : V) : shL laws_FnSums_L Q [x0] = (
  P1 (.call F_big 0 1) [x0] fun v0 =>
  ifB v0 (
    Q .ret [.bool true]) (
    P1 (.call F_DrawDigits 0 1) [x0] fun v1 =>
    P1 (.call F_CheckDigit 0 1) [v1] fun v2 =>
    P1 (.bin .lss) [v2, .int .i64 0] fun v3 =>
    ifB v3 (
      Q .ret [.bool false]) (
      P1 (.bin .gtr) [v2, .int .i64 9] fun v4 =>
      ifB v4 (
        Q .ret [.bool false]) (
        shL laws_FnSums_r0 Q [x0, .bool false, v1, v2, .bool false, v4, .bool false])))) := by kernel_rfl
def laws_FnSums_S : Sig := ⟨[.val false [.sl [.sc]]], [(false, [.sc])], F_FnSums⟩
def laws_FnSums_hs : List NF := [⟨[(0, .sc false [.ro [.sc]]), (5, .sc false [.own 64])], [(64, true, [.sc])], [], 65⟩, ⟨[(0, .sc false [.ro [.sc]]), (5, .sc false [.own 64]), (6, .sc false [.own 65]), (7, .sc false [.sc])], [(64, true, [.sc]), (65, true, [.sc])], [], 66⟩, ⟨[(0, .sc false [.ro [.sc]]), (5, .sc false [.own 64]), (6, .sc false [.own 65]), (7, .sc false [.sc])], [(64, true, [.sc]), (65, true, [.sc])], [], 66⟩, ⟨[(0, .sc false [.ro [.sc]])], [], [], 64⟩, ⟨[(0, .sc false [.ro [.sc]]), (5, .sc false [.own 64]), (10, .sc false [.own 65]), (11, .sc false [.sc])], [(64, true, [.sc]), (65, true, [.sc])], [], 66⟩, ⟨[(0, .sc false [.ro [.sc]]), (5, .sc false [.own 64]), (10, .sc false [.own 65]), (11, .sc false [.sc])], [(64, true, [.sc]), (65, true, [.sc])], [], 66⟩, ⟨[(14, .sc false [.sc]), (15, .sc false [.sc])], [], [], 64⟩, ⟨[(13, .ptr 64 0), (14, .sc false [.sc]), (15, .sc false [.sc]), (16, .sc false [.sc])], [(65, true, [.sc, .sc])], [(64, [.sc, .sc, .own 65])], 66⟩, ⟨[(13, .ptr 64 0), (14, .sc false [.sc]), (15, .sc false [.sc]), (16, .sc false [.sc])], [(65, true, [.sc, .sc])], [(64, [.sc, .sc, .own 65])], 66⟩]

end
end Go.Mw

/- Drawn digits; swaps. -/
namespace Go.Mw
theorem laws_at_ok : ∀ ds outs, F_at ds = some outs → shL laws_at_L (qRet outs) ds := F_at_elim fun l n hp => by
  obtain ⟨h1, h2, h3⟩ := hp
  rw [laws_at_L_sh]
  have w1 : IntKind.i64.wrap (n * 5) = n * 5 := wrap_id (by omega) (by omega)
  have w2 : IntKind.i64.wrap (n * 5 + 1) = n * 5 + 1 := wrap_id (by omega) (by omega)
  by_cases h : l = []
  · subst h; simp [atB]
  · have hl : 0 < l.length := List.length_pos_iff.2 h
    have e : (n * 5 + 1).tmod l.length = (n * 5 + 1) % l.length := Int.tmod_eq_emod_of_nonneg (by omega)
    have r1 := Int.emod_nonneg (n * 5 + 1) (show (l.length : Int) ≠ 0 by omega)
    have r2 := Int.emod_lt_of_pos (n * 5 + 1) (show (0 : Int) < l.length by omega)
    have r3 : ((n * 5 + 1) % l.length).toNat < l.length := by omega
    have hw3 : IntKind.i64.wrap (l[((n * 5 + 1) % l.length).toNat].toNat : Int) = l[((n * 5 + 1) % l.length).toNat].toNat := by have := l[((n * 5 + 1) % l.length).toNat].toNat_lt; exact wrap_id (by omega) (by omega)
    have h0 : ¬ ((l.length : Int) = 0) := by omega
    simp [w1, w2, h, e, r1, r3, hw3, atB]
theorem atB_range (l : List UInt8) (n : Int) : 0 ≤ atB l n ∧ atB l n ≤ 255 := by
  unfold atB
  split
  · rename_i x _; have := x.toNat_lt; omega
  · omega
theorem dig_inv (x : Cur) (hi : 0 ≤ x.i) (k : Nat) : (digTo x k).2.b = x.b ∧ 0 ≤ (digTo x k).2.i ∧ (digTo x k).1.length = k ∧ ∀ d ∈ (digTo x k).1, 0 ≤ d ∧ d ≤ 9 := by
  induction k with
  | zero => exact ⟨rfl, hi, rfl, by simp [digTo]⟩
  | succ k ih =>
    obtain ⟨h1, h2, h3, h4⟩ := ih
    refine ⟨by simp [digTo, h1], cAfter_i h2, by simp [digTo, h3], fun d hd => ?_⟩
    have := cBelow_range (digTo x k).2 (show (0 : Int) < 10 by omega)
    simp only [digTo, List.mem_append, List.mem_singleton] at hd
    rcases hd with hd | rfl
    · exact h4 d hd
    · omega
theorem digOf_ok {x : Cur} (hi : 0 ≤ x.i) : (1 ≤ (digOf x).length ∧ (digOf x).length ≤ 9) ∧ ∀ d ∈ digOf x, 0 ≤ d ∧ d ≤ 9 := by
  obtain ⟨-, -, h3, h4⟩ := dig_inv (cAfter x 9) (cAfter_i hi) (digN x)
  have := cBelow_range x (show (0 : Int) < 9 by omega)
  refine ⟨?_, h4⟩
  unfold digOf
  rw [h3]
  simp only [digN]; omega
theorem spec_l33Digits_ok : ∀ ds outs, F_l33Digits ds = some outs → shL spec_l33Digits_L (qRet outs) ds := F_l33Digits_elim fun x hp => by
  obtain ⟨i0, hb⟩ := hp
  have r := cBelow_range x (show (0 : Int) < 9 by omega)
  have w1 : IntKind.i64.wrap (1 + cBelow x 9) = (digN x : Int) := by rw [wrap_id (by omega) (by omega)]; simp only [digN]; omega
  have hN : digN x ≤ 9 := by simp only [digN]; omega
  rw [spec_l33Digits_L_sh]
  simp only [P1_lst0]
  rw [q_below (b := x.b) x rfl i0 hb]
  simp only [P1_add, w1]
  refine loop_upto (digN x) (fun k => [.int .i64 (digN x), .int .i64 k, vL I1 v1 (digTo (cAfter x 9) k).1, vL I1 vY x.b, .int .i64 (digTo (cAfter x 9) k).2.i, .int .i64 (digTo (cAfter x 9) k).2.h]) (by intro i j _ _ h; simp at h; omega) (fun _ => True) (by simp [digTo]) trivial ?_
  intro k hk _
  obtain ⟨g1, g2, g3, -⟩ := dig_inv (cAfter x 9) (cAfter_i i0) k
  rw [cAfter_b] at g1
  rw [spec_l33Digits_b0_sh]
  simp only [P1_lss, ifB_bool, decide_eq_true_eq, decide_eq_false_iff_not]
  refine ⟨fun h => ?_, fun h => ?_⟩
  · rw [q_below (b := x.b) _ g1 g2 hb]
    have hw : IntKind.i64.wrap ((k : Int) + 1) = ((k + 1 : Nat) : Int) := by rw [wrap_id (by omega) (by omega)]; omega
    simp only [P1_add, hw]
    simp [digTo, g3]
    omega
  · have e : k = digN x := by omega
    subst e
    simp [spec_l33Digits_r1_sh, digOf, digEnd]
theorem spec_DrawDigits_ok : ∀ ds outs, F_DrawDigits ds = some outs → shL spec_DrawDigits_L (qRet outs) ds := F_DrawDigits_elim fun l hp => by
  rw [spec_DrawDigits_L_sh, p_l01New hp]
  refine (p_l33Digits (x_b := (cur0 l).b) (x_i := (cur0 l).i) (x_h := (cur0 l).h) ⟨by simp [cur0], hp⟩).2 ?_
  show qRet [vL I1 v1 (digOf (cur0 l))] .ret [vL I1 v1 (digOf (cur0 l))]
  simp
theorem spec_DrawCylinder_ok : ∀ ds outs, F_DrawCylinder ds = some outs → shL spec_DrawCylinder_L (qRet outs) ds := F_DrawCylinder_elim fun l hp => by
  rw [spec_DrawCylinder_L_sh, p_l01New hp]
  refine (p_l06Cylinder (x_b := (cur0 l).b) (x_i := (cur0 l).i) (x_h := (cur0 l).h) ⟨by simp [cur0], hp⟩).2 ?_
  show qRet [.int .i64 (cylOf (cur0 l)).s, .int .i64 (cylOf (cur0 l)).t, vL I2 v2 (cylOf (cur0 l)).p] .ret [.int .i64 (cylOf (cur0 l)).s, .int .i64 (cylOf (cur0 l)).t, vL I2 v2 (cylOf (cur0 l)).p]
  simp
theorem swapsTo_len (l : List Int) (k : Nat) : (swapsTo l k).length ≤ k := by
  induction k with
  | zero => simp [swapsTo]
  | succ k ih => simp only [swapsTo, List.length_append]; split <;> simp <;> omega
theorem impl_FindSwap_ok : ∀ ds outs, F_FindSwap ds = some outs → shL impl_FindSwap_L (qRet outs) ds := F_FindSwap_elim fun l hp => by
  rw [impl_FindSwap_L_sh, p_areDigits hp]
  cases h : areDigits l 2 21 with
  | false => simp [findSwap, h]
  | true =>
  have hd := areDigits_iff.1 h
  have hln : 2 ≤ (l.length : Int) ∧ (l.length : Int) ≤ 21 := within_iff'.1 hd.1
  simp
  refine loop_upto (l.length - 1) (fun k => [vL I1 v1 l, .int .i64 k, vL I1 v1 (swapsTo l k)]) (by intro i j _ _ h; simp at h; omega) (fun _ => True) (by simp [swapsTo]) trivial ?_
  intro k hk _
  have hw : IntKind.i64.wrap ((k : Int) + 1) = ((k + 1 : Nat) : Int) := by rw [wrap_id (by omega) (by omega)]; omega
  rw [impl_FindSwap_b0_sh]
  simp only [P1_add, hw, P1_len, P1_lss, ifB_bool, decide_eq_true_eq, decide_eq_false_iff_not]
  refine ⟨fun h1 => ?_, fun h1 => ?_⟩
  · have h2 : k + 1 < l.length := by omega
    have h3 : k < l.length := by omega
    have hs := swapsTo_len l k
    rw [p_copyInts (by omega)]
    have e1 : ((k + 1 : Nat) : Int).toNat = k + 1 := by omega
    have e2 : (k : Int).toNat = k := by omega
    have e3 : (l.set k l[k + 1]).set (k + 1) l[k] = swapAt l k := by simp [swapAt, h2, h3]
    have h4 : (swapAt l k).length ≤ 1048576 := by simp [swapAt]; omega
    simp only [P1_idxI, P1_setI, e1, e2, List.getElem?_eq_getElem h2, List.getElem?_eq_getElem h3, Option.some.injEq, exists_eq_left', List.length_set, List.getElem?_set, e3]
    have hk1 : ¬ k = k + 1 := by omega
    have h5 : k < l.length - 1 := by omega
    rw [p_IsChecked h4]
    cases hc : isChecked (swapAt l k) <;> simp [hk1, h5, swapsTo, hc] <;> omega
  · have e : k = l.length - 1 := by omega
    subst e
    simp [impl_FindSwap_r1_sh, findSwap, h]
theorem laws_has_ok : ∀ ds outs, F_has ds = some outs → shL laws_has_L (qRet outs) ds := F_has_elim fun l n hp => by
  rw [laws_has_L_sh]
  refine loop_upto l.length (fun k => [vL I1 v1 l, .int .i64 n, .int .i64 k]) (by intro i j _ _ h; simp at h; omega) (fun k => n ∉ l.take k) (by simp) (by simp) ?_
  intro k hk hP
  rw [laws_has_b0_sh]
  simp
  refine ⟨fun h => ?_, fun h => ?_⟩
  · have hw : IntKind.i64.wrap ((k : Int) + 1) = k + 1 := wrap_id (by omega) (by omega)
    simp [h, hw]
    refine ⟨fun e => by rw [← e]; exact List.getElem_mem h, fun e => ?_⟩
    rw [take_succ_get h]
    simp only [List.mem_append, List.mem_singleton, not_or]
    exact ⟨hP, fun h => e h.symm⟩
  · obtain rfl : k = l.length := by omega
    rw [List.take_length] at hP
    simp [laws_has_r1_sh, hP]
end Go.Mw

/- Words of digits with a check; the law on sums. -/
namespace Go.Mw
theorem scanD_none {f : Int → Bool} (h : ∀ d, 0 ≤ d → d ≤ 9 → f d = false) : scanD f 10 = -1 := by
  have : ∀ n, n ≤ 10 → scanD f n = -1 := by
    intro n
    induction n with
    | zero => intro _; rfl
    | succ n ih => intro hn; rw [scanD_succ, h _ (by omega) (by omega), ih (by omega)]; rfl
  exact this 10 (by omega)
theorem scanD_one {f : Int → Bool} {e : Int} (h0 : 0 ≤ e ∧ e ≤ 9) (h : ∀ d, 0 ≤ d → d ≤ 9 → (f d = true ↔ d = e)) : scanD f 10 = e := by
  have : ∀ n : Nat, n ≤ 10 → 9 - (n : Int) < e → scanD f n = e := by
    intro n
    induction n with
    | zero => intro _ hn; omega
    | succ n ih =>
      intro hn h1
      rw [scanD_succ]
      by_cases h2 : (9 : Int) - n = e
      · rw [if_pos ((h _ (by omega) (by omega)).2 h2)]; exact h2
      · rw [if_neg (fun h3 => h2 ((h _ (by omega) (by omega)).1 h3))]
        exact ih (by omega) (by omega)
  exact this 10 (by omega) (by omega)
theorem evenN_succ (k : Nat) : evenN (k + 1) = !evenN k := by
  unfold evenN; rcases Nat.mod_two_eq_zero_or_one k with h | h <;> simp [h, Nat.add_mod]
theorem digitSum_set (e : Int) : ∀ (l : List Int) (t : Bool) (k : Nat) (h : k < l.length), digitSum (l.set k e) t = digitSum l t + (if (evenN k == t) then 3 else 1) * (e - l[k])
  | d :: r, true, 0, _ => by simp [digitSum, evenN]; omega
  | d :: r, false, 0, _ => by simp [digitSum, evenN]; omega
  | d :: r, true, k + 1, h => by
    have ih := digitSum_set e r false k (by simpa using h)
    simp only [List.set_cons_succ, digitSum, ih, evenN_succ, List.getElem_cons_succ]
    cases evenN k <;> simp <;> omega
  | d :: r, false, k + 1, h => by
    have ih := digitSum_set e r true k (by simpa using h)
    simp only [List.set_cons_succ, digitSum, ih, evenN_succ, List.getElem_cons_succ]
    cases evenN k <;> simp <;> omega
/-- A word of digits. -/
structure Word (w : List Int) : Prop where
  lo : 2 ≤ w.length
  hi : w.length ≤ 21
  dig : ∀ x ∈ w, 0 ≤ x ∧ x ≤ 9
theorem Word.are {w : List Int} (h : Word w) : areDigits w 2 21 = true := by
  rw [areDigits_iff]
  have h1 := h.lo; have h2 := h.hi
  exact ⟨within_iff'.2 (by omega), fun x hx => within_iff'.2 (h.dig x hx)⟩
theorem Word.set {w : List Int} (h : Word w) {k : Nat} {e : Int} (he : 0 ≤ e ∧ e ≤ 9) : Word (w.set k e) := by
  refine ⟨by simpa using h.lo, by simpa using h.hi, fun x hx => ?_⟩
  rcases List.mem_or_eq_of_mem_set hx with hx | rfl
  · exact h.dig x hx
  · exact he
theorem take_are {w : List Int} (h : Word w) : areDigits (w.take (w.length - 1)) 1 20 = true := by
  rw [areDigits_iff]
  have h1 := h.lo; have h2 := h.hi
  refine ⟨within_iff'.2 ?_, fun x hx => within_iff'.2 (h.dig x (List.mem_of_mem_take hx))⟩
  rw [List.length_take]; omega
theorem checkDigit_eq {l : List Int} (h : areDigits l 1 20 = true) : checkDigit l = (10 - digitSum l true % 10) % 10 := by simp [checkDigit, h]
theorem Word.iff {w : List Int} (h : Word w) (hk : w.length - 1 < w.length) : isChecked w = true ↔ (digitSum (w.take (w.length - 1)) true + w[w.length - 1]) % 10 = 0 := by
  have h1 := h.dig w[w.length - 1] (List.getElem_mem _)
  have h2 : 0 ≤ checkDigit (w.take (w.length - 1)) := by rw [checkDigit_eq (take_are h)]; omega
  have h3 := h.lo
  unfold isChecked
  simp only [h3, h2, decide_true, Bool.true_and, List.getElem?_eq_getElem hk, Option.some.injEq, decide_eq_true_eq]
  rw [checkDigit_eq (take_are h)]
  omega
theorem Word.checked_set {w : List Int} (h : Word w) (hc : isChecked w = true) {k : Nat} (hk : k < w.length) {e : Int} (he : 0 ≤ e ∧ e ≤ 9) : isChecked (w.set k e) = true ↔ e = w[k] := by
  have hl : w.length - 1 < w.length := by have := h.lo; omega
  have h0 := (h.iff hl).1 hc
  have hs := h.set (k := k) he
  have hd := h.dig w[k] (List.getElem_mem _)
  have e1 : (w.set k e).length = w.length := List.length_set
  rw [hs.iff (by omega)]
  simp only [e1, List.getElem_set, List.take_set]
  by_cases h1 : k = w.length - 1
  · subst h1
    rw [if_pos rfl, List.set_eq_of_length_le (by simp)]
    omega
  · rw [if_neg h1]
    have h2 : k < (w.take (w.length - 1)).length := by rw [List.length_take]; omega
    rw [digitSum_set e _ _ _ h2]
    simp only [List.getElem_take]
    split <;> omega
theorem Word.mk_check {d : List Int} (h1 : 1 ≤ d.length) (h2 : d.length ≤ 9) (h3 : ∀ x ∈ d, 0 ≤ x ∧ x ≤ 9) : Word (d ++ [checkDigit d]) ∧ isChecked (d ++ [checkDigit d]) = true ∧ (0 ≤ checkDigit d ∧ checkDigit d ≤ 9) := by
  have ha : areDigits d 1 20 = true := by
    rw [areDigits_iff]
    exact ⟨within_iff'.2 (by omega), fun x hx => within_iff'.2 (h3 x hx)⟩
  have hc : 0 ≤ checkDigit d ∧ checkDigit d ≤ 9 := by rw [checkDigit_eq ha]; omega
  have hw : Word (d ++ [checkDigit d]) := by
    refine ⟨by simp; omega, by simp; omega, fun x hx => ?_⟩
    simp only [List.mem_append, List.mem_singleton] at hx
    rcases hx with hx | rfl
    · exact h3 x hx
    · exact hc
  refine ⟨hw, ?_, hc⟩
  rw [hw.iff (by simp)]
  simp only [List.length_append, List.length_singleton, Nat.add_sub_cancel, List.take_left', List.getElem_concat_length]
  rw [checkDigit_eq ha]
  omega
theorem wrong_none {w : List Int} (h : Word w) (hc : isChecked w = true) {k : Nat} (hk : k < w.length) : wrongAt w k = -1 := by
  rw [wrongAt_eq]
  refine scanD_none fun d h0 h9 => ?_
  simp only [wrF, List.getElem?_eq_getElem hk]
  cases hh : isChecked (w.set k d) with
  | false => simp
  | true => have := (h.checked_set hc hk ⟨h0, h9⟩).1 hh; simp [this]
theorem wrong_one {w : List Int} (h : Word w) (hc : isChecked w = true) {k : Nat} (hk : k < w.length) {e : Int} (hne : e ≠ w[k]) : wrongAt (w.set k e) k = w[k] := by
  rw [wrongAt_eq]
  refine scanD_one (h.dig _ (List.getElem_mem _)) fun d h0 h9 => ?_
  have hk2 : k < (w.set k e).length := by simpa using hk
  simp only [wrF, List.getElem?_eq_getElem hk2, List.set_set, List.getElem_set_self]
  have hq := h.checked_set hc hk ⟨h0, h9⟩
  simp only [ne_eq, Option.some.injEq, decide_not, Bool.and_eq_true, Bool.not_eq_true', decide_eq_false_iff_not, hq]
  constructor
  · exact fun h => h.2
  · rintro rfl; exact ⟨fun h => hne h.symm, rfl⟩
theorem mem_swaps {w : List Int} {k n : Nat} : ((k : Int) ∈ swapsTo w n) ↔ k < n ∧ isChecked (swapAt w k) = true := by
  induction n with
  | zero => simp [swapsTo]
  | succ n ih =>
    simp only [swapsTo, List.mem_append, ih]
    by_cases e : k = n
    · subst e
      cases isChecked (swapAt w k) <;> simp
    · constructor
      · rintro (h | h)
        · exact ⟨by omega, h.2⟩
        · split at h
          · simp at h; omega
          · simp at h
      · intro h; exact .inl ⟨by omega, h.2⟩
end Go.Mw

/- The law on sums. -/
namespace Go.Mw
theorem sums_pins (l : List UInt8) (hb : l.length ≤ 1048576) : shL laws_FnSums_r4 (qRet [.bool true]) [vL I1 vY l] := by
  have hc := cylOf_ok (x := cur0 l) (by simp [cur0])
  rw [laws_FnSums_r4_sh, p_DrawCylinder hb]
  generalize cylOf (cur0 l) = c at *
  have hl : c.p.length ≤ 1048576 := by omega
  simp only [p_PinSum (x_p := c.p) hl, Cyl.eta]
  refine loop_upto c.p.length (fun k => [.int .i64 (pinSum c), .int .i64 (pinSumGo (c.p.take k) 1), .int .i64 k, vL I2 v2 c.p, .int .i64 c.s, .int .i64 c.t]) (by intro i j _ _ h; simp at h; omega) (fun _ => True) (by simp [pinSumGo]) trivial ?_
  intro k hk _
  rw [laws_FnSums_b5_sh]
  simp only [P1_len, P1_lss, ifB_bool, decide_eq_true_eq, decide_eq_false_iff_not]
  refine ⟨fun h => ?_, fun h => ?_⟩
  · have h1 : k < c.p.length := by omega
    have hp := cylOk_pin hc.1 h1
    have b1 := pinSumGo_bound hc.1 k hk
    have b2 := pinSumGo_bound hc.1 (k + 1) (by omega)
    have e : pinSumGo (c.p.take (k + 1)) 1 = pinSumGo (c.p.take k) 1 + ((k : Int) + 1) * (100 * c.p[k].a + c.p[k].b + 1) := by
      rw [take_succ_get h1, pinSumGo_snoc, List.length_take, Nat.min_eq_left (by omega), Int.add_comm (k : Int) 1]
    have e2 : 0 ≤ ((k : Int) + 1) * (100 * c.p[k].a + c.p[k].b + 1) := Int.mul_nonneg (by omega) (by omega)
    have w1 : IntKind.i64.wrap ((k : Int) + 1) = (k : Int) + 1 := wrap_id (by omega) (by omega)
    have w2 : IntKind.i64.wrap (100 * c.p[k].a) = 100 * c.p[k].a := wrap_id (by omega) (by omega)
    have w3 : IntKind.i64.wrap (100 * c.p[k].a + c.p[k].b) = 100 * c.p[k].a + c.p[k].b := wrap_id (by omega) (by omega)
    have w4 : IntKind.i64.wrap (100 * c.p[k].a + c.p[k].b + 1) = 100 * c.p[k].a + c.p[k].b + 1 := wrap_id (by omega) (by omega)
    have w5 : IntKind.i64.wrap (((k : Int) + 1) * (100 * c.p[k].a + c.p[k].b + 1)) = ((k : Int) + 1) * (100 * c.p[k].a + c.p[k].b + 1) := wrap_id (by omega) (by omega)
    have w6 : IntKind.i64.wrap (pinSumGo (c.p.take k) 1 + ((k : Int) + 1) * (100 * c.p[k].a + c.p[k].b + 1)) = pinSumGo (c.p.take (k + 1)) 1 := by rw [e]; exact wrap_id (by omega) (by omega)
    simp [h1, w1, w2, w3, w4, w5, w6]
  · have e : k = c.p.length := by omega
    subst e
    have b1 := pinSumGo_bound hc.1 c.p.length (by omega)
    have e1 : (pinSumGo c.p 1).tmod 9973 = pinSumGo c.p 1 % 9973 := Int.tmod_eq_emod_of_nonneg (by rw [List.take_length] at b1; exact b1.1)
    have e2 : pinSum c = pinSumGo c.p 1 % 9973 := by simp [pinSum, hc.1]
    have e3 : checkDigit [1, 2, 3] = 6 := by decide
    show shL laws_FnSums_r6 (qRet [.bool true]) _
    rw [laws_FnSums_r6_sh]
    simp [e1, e2, p_CheckDigit, e3]
theorem sums_swaps (l : List UInt8) (hb : l.length ≤ 1048576) {w : List Int} (hw : Word w) : shL laws_FnSums_r2 (qRet [.bool true]) [vL I1 vY l, vL I1 v1 w] := by
  have h1 := hw.lo; have h2 := hw.hi
  have hl : w.length ≤ 1048576 := by omega
  rw [laws_FnSums_r2_sh, p_FindSwap hl]
  have ef : findSwap w = swapsTo w (w.length - 1) := by simp [findSwap, hw.are]
  have hfl : (findSwap w).length ≤ 1048576 := by rw [ef]; have := swapsTo_len w (w.length - 1); omega
  refine loop_upto (w.length - 1) (fun k => [vL I1 vY l, .int .i64 k, vL I1 v1 w, vL I1 v1 (findSwap w)]) (by intro i j _ _ h; simp at h; omega) (fun _ => True) (by simp) trivial ?_
  intro k hk _
  have hwr : IntKind.i64.wrap ((k : Int) + 1) = ((k + 1 : Nat) : Int) := by rw [wrap_id (by omega) (by omega)]; omega
  rw [laws_FnSums_b3_sh]
  simp only [P1_add, hwr, P1_len, P1_lss, ifB_bool, decide_eq_true_eq, decide_eq_false_iff_not]
  refine ⟨fun h3 => ?_, fun h3 => ?_⟩
  · have g2 : k + 1 < w.length := by omega
    have g3 : k < w.length := by omega
    have e1 : ((k + 1 : Nat) : Int).toNat = k + 1 := by omega
    have e2 : (k : Int).toNat = k := by omega
    have e3 : (w.set k w[k + 1]).set (k + 1) w[k] = swapAt w k := by simp [swapAt, g2, g3]
    have h4 : (swapAt w k).length ≤ 1048576 := by simp [swapAt]; omega
    have hk1 : ¬ k = k + 1 := by omega
    have h5 : k < w.length - 1 := by omega
    have hm : decide ((k : Int) ∈ findSwap w) = isChecked (swapAt w k) := by
      rw [ef, Bool.eq_iff_iff, decide_eq_true_eq, mem_swaps]
      exact ⟨fun h => h.2, fun h => ⟨h5, h⟩⟩
    have a1 : w.length * 8 ≤ 140737488355328 ∧ w.length ≤ 140737488355328 := by omega
    simp only [P1_lst0, P1_appI_0, a1]
    simp only [P1_idxI, P1_setI, e1, e2, List.getElem?_eq_getElem g2, List.getElem?_eq_getElem g3, Option.some.injEq, exists_eq_left', List.length_set, List.getElem?_set, e3]
    rw [p_has hfl, p_IsChecked h4, hm]
    simp [hk1, h5]
    omega
  · have e : k = w.length - 1 := by omega
    subst e
    exact sums_pins l hb
theorem sums_wrong (l : List UInt8) (hb : l.length ≤ 1048576) {w : List Int} (hw : Word w) (hc : isChecked w = true) :
    shL (.loop laws_FnSums_b1) (qB 0 (qS (shL laws_FnSums_r2 (qRet [.bool true])) (qRet [.bool true]))) [vL I1 vY l, .int .i64 0, vL I1 v1 w, vL I1 v1 (wrongDigits w)] := by
  have h1 := hw.lo; have h2 := hw.hi
  refine loop_upto w.length (fun k => [vL I1 vY l, .int .i64 k, vL I1 v1 w, vL I1 v1 (wrongDigits w)]) (by intro i j _ _ h; simp at h; omega) (fun _ => True) (by simp) trivial ?_
  intro k hk _
  rw [laws_FnSums_b1_sh]
  simp only [P1_len, P1_lss, ifB_bool, decide_eq_true_eq, decide_eq_false_iff_not]
  refine ⟨fun h3 => ?_, fun h3 => ?_⟩
  · have g3 : k < w.length := by omega
    have e2 : (k : Int).toNat = k := by omega
    have hd := hw.dig w[k] (List.getElem_mem _)
    have ha := atB_range l k
    have r1 : (atB l k).tmod 9 = atB l k % 9 := Int.tmod_eq_emod_of_nonneg ha.1
    have w1 : IntKind.i64.wrap (w[k] + 1) = w[k] + 1 := wrap_id (by omega) (by omega)
    have w2 : IntKind.i64.wrap (w[k] + 1 + atB l k % 9) = w[k] + 1 + atB l k % 9 := wrap_id (by omega) (by omega)
    have r2 : (w[k] + 1 + atB l k % 9).tmod 10 = (w[k] + 1 + atB l k % 9) % 10 := Int.tmod_eq_emod_of_nonneg (by omega)
    have w3 : IntKind.i64.wrap ((k : Int) + 1) = (k : Int) + 1 := wrap_id (by omega) (by omega)
    have a1 : w.length * 8 ≤ 140737488355328 ∧ w.length ≤ 140737488355328 := by omega
    have he : (w[k] + 1 + atB l k % 9) % 10 ≠ w[k] := by omega
    have her : 0 ≤ (w[k] + 1 + atB l k % 9) % 10 ∧ (w[k] + 1 + atB l k % 9) % 10 ≤ 9 := by omega
    simp only [P1_lst0, P1_appI_0, a1, P1_idxI, e2, List.getElem?_eq_getElem g3, Option.some.injEq, exists_eq_left', P1_add, w1]
    have hat : l.length ≤ 1048576 ∧ (0 : Int) ≤ k ∧ (k : Int) ≤ 1000000 := by omega
    rw [p_at hat]
    simp only [P1_rem, r1, P1_add, w2, r2, P1_idxI, P1_setI, e2, List.getElem?_eq_getElem g3, Option.some.injEq, exists_eq_left']
    generalize (w[k] + 1 + atB l k % 9) % 10 = e at *
    have hm := hw.set (k := k) her
    have hml : (w.set k e).length ≤ 1048576 := by simp; omega
    rw [p_WrongDigits hml, p_IsChecked hml]
    have hcf : isChecked (w.set k e) = false := by
      cases hh : isChecked (w.set k e) with
      | false => rfl
      | true => exact absurd ((hw.checked_set hc g3 her).1 hh) he
    have q1 : (wrongDigits w)[k]? = some (-1) := by
      simp only [wrongDigits, hw.are, if_true]
      rw [List.getElem?_map, List.getElem?_range g3]
      simp [wrong_none hw hc g3]
    have q2 : (wrongDigits (w.set k e))[k]? = some w[k] := by
      simp only [wrongDigits, hm.are, if_true]
      rw [List.getElem?_map, List.getElem?_range (by simpa using g3)]
      simp [wrong_one hw hc g3 he]
    have q3 : (wrongDigits (w.set k e)).length = w.length := by simp [wrongDigits, hm.are]
    rw [hcf]
    simp only [P1_len, P1_idxI, e2, q1, q2, q3, List.length_set, List.getElem?_eq_getElem g3, Option.some.injEq, exists_eq_left', P1_neq, P1_add, w3, ifB_bool]
    simp [g3, a1]
  · have e : k = w.length := by omega
    subst e
    exact sums_swaps l hb hw
theorem laws_FnSums_ok : ∀ ds outs, F_FnSums ds = some outs → shL laws_FnSums_L (qRet outs) ds := F_FnSums_elim fun l hp => by
  rw [laws_FnSums_L_sh, p_big hp]
  by_cases hb : l.length ≤ 1048576
  · have hb' : decide (1048576 < l.length) = false := by simp; omega
    rw [hb', p_DrawDigits hb]
    have hd := digOf_ok (x := cur0 l) (by simp [cur0])
    generalize digOf (cur0 l) = d at *
    have hl : d.length ≤ 1048576 := by omega
    obtain ⟨hw, hc, hr⟩ := Word.mk_check hd.1.1 hd.1.2 hd.2
    have key := sums_wrong l hb hw hc
    have hwl : (d ++ [checkDigit d]).length ≤ 1048576 := by simp; omega
    have hln : (wrongDigits (d ++ [checkDigit d])).length = (d ++ [checkDigit d]).length := by simp [wrongDigits, hw.are]
    have n1 : ¬ checkDigit d < 0 := by omega
    have n2 : ¬ 9 < checkDigit d := by omega
    have a1 : (d.length * 8 ≤ 140737488355328 ∧ d.length ≤ 140737488355328) ∧ ((d.length + 1) * 8 ≤ 140737488355328 ∧ d.length + 1 ≤ 140737488355328) := by omega
    simp only [p_CheckDigit hl, P1_lss, P1_gtr, ifB_bool, laws_FnSums_r0_sh, P1_lst0, P1_appI_0, P1_lst1, P1_appI_, List.length_singleton, a1, p_WrongDigits hwl, p_IsChecked hwl, hc, hln, P1_len]
    simp [n1, n2]
    exact key
  · have hb' : decide (1048576 < l.length) = true := by simp; omega
    rw [hb']; simp
end Go.Mw

