/- What functions of the program compute, as small pure programs, shown against plain Lean functions: no condition. -/
import Derived.KernelRfl
import Derived.Test.YtobecpmneaninaaGreatFwH
namespace Go.Mw
def zt (l : List Nat) : L := .tup (l.map .v)
def zb (o : BinOp) (a b : Nat) : In := ⟨[], .bin o, [.v a, .v b], 1⟩
def zk (o : BinOp) (a : Nat) (c : Int) : In := ⟨[], .bin o, [.v a, .k (.int .i64 c)], 1⟩
def zi (a b : Nat) : In := ⟨[], .idx [.sc], [.v a, .v b], 1⟩
def zj (a b : Nat) : In := ⟨[], .idx [.sc, .sc], [.v a, .v b], 2⟩
def zl (a : Nat) : In := ⟨[], .len, [.v a], 1⟩
def zn (a : Nat) : In := ⟨[], .un .not, [.v a], 1⟩
def zc (F : List V → Option (List V)) (n : Nat) (l : List Nat) : In := ⟨[], .call F 0 n, l.map .v, n⟩
def zs : SVS := .sc false [.sc]
def zo (r : Nat) : SVS := .sc false [.own r]
def zr : SVS := .sc false [.ro [.sc]]
def zq : SVS := .sc false [.ro [.sc, .sc]]
end Go.Mw
namespace Go.Mw
def within (n low high : Int) : Bool := decide (low ≤ n) && decide (n ≤ high)
def E_within : Int × Int × Int → List V := fun (a, b, c) => [.int .i64 a, .int .i64 b, .int .i64 c]
noncomputable def F_within : List V → Option (List V) := mkF E_within (fun (_, _, _) => True) (fun (a, b, c) => [.bool (within a b c)])
theorem F_within_inj : ∀ x y, E_within x = E_within y → x = y := by
  rintro ⟨a, b, c⟩ ⟨a', b', c'⟩ h
  simpa [E_within] using h
theorem F_within_elim {P : List V → List V → Prop} (h : ∀ (a : Int) (b : Int) (c : Int), P [.int .i64 a, .int .i64 b, .int .i64 c] [.bool (within a b c)]) : ∀ ds outs, F_within ds = some outs → P ds outs := by
  intro ds outs hh
  obtain ⟨⟨a, b, c⟩, rfl, -, rfl⟩ := mkF_inv hh
  exact h a b c
@[simp] theorem p_within {a : Int} {b : Int} {c : Int} {nr_ : Nat} {kk_ : V → Prop} : P1 (.call F_within 0 nr_) [.int .i64 a, .int .i64 b, .int .i64 c] kk_ ↔ kk_ (.bool (within a b c)) :=
  P1_callF (by unfold F_within; exact mkF_eq F_within_inj (a, b, c) trivial)

noncomputable abbrev F_l01In := F_within

end Go.Mw

namespace Go.Mw
noncomputable section
def spec_l01In_L : L := .seq (.rg []) (.seq (.rg [zb .geq 0 1, ⟨[(.v 3, true)], .bin .leq, [.v 0, .v 2], 1⟩, ⟨[], .pick, [.v 3, .v 4, .k (.bool false)], 1⟩]) (.ret [.v 5]))
theorem spec_l01In_L_sh (Q : QT) (x0 x1 x2 : V) : shL spec_l01In_L Q [x0, x1, x2] = (
  P1 (.bin .geq) [x0, x1] fun v0 =>
  ifB v0 (
    P1 (.bin .leq) [x0, x2] fun v1 =>
    Q .ret [v1]) (
    Q .ret [.bool false])) := by kernel_rfl
def spec_l01In_S : Sig := ⟨[.val false [.sc], .val false [.sc], .val false [.sc]], [(false, [.sc])], F_l01In⟩
def spec_l01In_hs : List NF := []

def impl_within_L : L := .seq (.rg []) (.seq (.rg [zb .geq 0 1, ⟨[(.v 3, true)], .bin .leq, [.v 0, .v 2], 1⟩, ⟨[], .pick, [.v 3, .v 4, .k (.bool false)], 1⟩]) (.ret [.v 5]))
theorem impl_within_L_sh (Q : QT) (x0 x1 x2 : V) : shL impl_within_L Q [x0, x1, x2] = (
  P1 (.bin .geq) [x0, x1] fun v0 =>
  ifB v0 (
    P1 (.bin .leq) [x0, x2] fun v1 =>
    Q .ret [v1]) (
    Q .ret [.bool false])) := by kernel_rfl
def impl_within_S : Sig := ⟨[.val false [.sc], .val false [.sc], .val false [.sc]], [(false, [.sc])], F_within⟩
def impl_within_hs : List NF := []

end
end Go.Mw

namespace Go.Mw
theorem spec_l01In_ok : ∀ ds outs, F_l01In ds = some outs → shL spec_l01In_L (qRet outs) ds := F_within_elim fun a b c => by
  rw [spec_l01In_L_sh]; simp [within]; grind
theorem impl_within_ok : ∀ ds outs, F_within ds = some outs → shL impl_within_L (qRet outs) ds := F_within_elim fun a b c => by
  rw [impl_within_L_sh]; simp [within]; grind
end Go.Mw

namespace Go.Mw
structure Cyl where
  s : Int
  t : Int
  p : List T2
structure Stt where
  a : Int
  n : Bool
  p : Int
  deriving DecidableEq
structure Bench where
  s : Int
  t : Int
  p : List T2
  o : List (List T2)
structure Shop where
  s : Int
  t : Int
  p : List T2
  o : List (List T2)
  c : List Int
  u : Int
  m : Int
  f : Int
  y : Int
  d : Int
  deriving DecidableEq
@[simp] theorem Cyl.eta (x : Cyl) : Cyl.mk x.s x.t x.p = x := rfl
@[simp] theorem Stt.eta (x : Stt) : Stt.mk x.a x.n x.p = x := rfl
@[simp] theorem P1_eqa22 {a b c d : Int} {k : V → Prop} : P1 (.eqa false [.i, .i]) [.int .i64 a, .int .i64 b, .int .i64 c, .int .i64 d] k ↔ k (.bool (decide (a = c ∧ b = d))) := P1_of (by simp only [Prim.run, eqVs, eqV1, List.length_cons, List.length_nil, List.take, List.drop, if_true]; cases h1 : a == c <;> cases h2 : b == d <;> simp_all) k
@[simp] theorem P1_nea22 {a b c d : Int} {k : V → Prop} : P1 (.eqa true [.i, .i]) [.int .i64 a, .int .i64 b, .int .i64 c, .int .i64 d] k ↔ k (.bool (!decide (a = c ∧ b = d))) := P1_of (by simp only [Prim.run, eqVs, eqV1, List.length_cons, List.length_nil, List.take, List.drop, if_true]; cases h1 : a == c <;> cases h2 : b == d <;> simp_all) k
@[simp] theorem P1_eqaX {a c e g : Int} {b f : Bool} {k : V → Prop} : P1 (.eqa false [.i, .b, .i]) [.int .i64 a, .bool b, .int .i64 c, .int .i64 e, .bool f, .int .i64 g] k ↔ k (.bool (decide (a = e ∧ b = f ∧ c = g))) := P1_of (by simp only [Prim.run, eqVs, eqV1, List.length_cons, List.length_nil, List.take, List.drop, if_true]; cases h1 : a == e <;> cases h2 : b == f <;> cases h3 : c == g <;> simp_all) k
theorem P1_lsub2 {α : Type} {ks : List AK} {f : α → V} {l : List α} {κ κ' : IntKind} {i j : Int} {k : V → Prop} : P1 (.lsub ks) [vL ks f l, .int κ i, .int κ' j] k ↔ (0 ≤ i ∧ i ≤ j ∧ j ≤ l.length) ∧ k (vL ks f ((l.take j.toNat).drop i.toNat)) :=
  P1_opt (by simp only [Prim.run, vL, AK.eqs_refl, if_true, subB, List.length_map]; split <;> simp_all [List.map_drop, List.map_take]) k
theorem P1_lsub1 {α : Type} {ks : List AK} {f : α → V} {l : List α} {κ : IntKind} {i : Int} {k : V → Prop} : P1 (.lsub ks) [vL ks f l, .int κ i] k ↔ (0 ≤ i ∧ i ≤ l.length) ∧ k (vL ks f (l.drop i.toNat)) :=
  P1_opt (by simp only [Prim.run, vL, AK.eqs_refl, if_true, subB, List.length_map]; split <;> simp_all [List.map_drop, List.take_of_length_le]) k
@[simp] theorem P1_lsubI_2 {l : List Int} {κ κ' : IntKind} {i j : Int} {k : V → Prop} : P1 (.lsub [.sc]) [vL I1 v1 l, .int κ i, .int κ' j] k ↔ (0 ≤ i ∧ i ≤ j ∧ j ≤ l.length) ∧ k (vL I1 v1 ((l.take j.toNat).drop i.toNat)) := P1_lsub2
@[simp] theorem P1_lsubI_1 {l : List Int} {κ : IntKind} {i : Int} {k : V → Prop} : P1 (.lsub [.sc]) [vL I1 v1 l, .int κ i] k ↔ (0 ≤ i ∧ i ≤ l.length) ∧ k (vL I1 v1 (l.drop i.toNat)) := P1_lsub1
@[simp] theorem P1_appI_ {l m : List Int} {b : Nat} {k : V → Prop} : P1 (.app [.sc] b) [vL I1 v1 l, vL I1 v1 m] k ↔ ((l.length + m.length) * b ≤ 140737488355328 ∧ l.length + m.length ≤ 140737488355328) ∧ k (vL I1 v1 (l ++ m)) := P1_app
@[simp] theorem P1_appI_0 {m : List Int} {b : Nat} {k : V → Prop} : P1 (.app [.sc] b) [.list [.sc] [], vL I1 v1 m] k ↔ (m.length * b ≤ 140737488355328 ∧ m.length ≤ 140737488355328) ∧ k (vL I1 v1 m) := P1_app0
@[simp] theorem P1_appI_1 {l : List Int} {b : Nat} {k : V → Prop} : P1 (.app [.sc] b) [vL I1 v1 l, .list [.sc] []] k ↔ (l.length * b ≤ 140737488355328 ∧ l.length ≤ 140737488355328) ∧ k (vL I1 v1 l) := P1_app1
@[simp] theorem P1_lsubY_2 {l : List UInt8} {κ κ' : IntKind} {i j : Int} {k : V → Prop} : P1 (.lsub [.sc]) [vL I1 vY l, .int κ i, .int κ' j] k ↔ (0 ≤ i ∧ i ≤ j ∧ j ≤ l.length) ∧ k (vL I1 vY ((l.take j.toNat).drop i.toNat)) := P1_lsub2
@[simp] theorem P1_lsubY_1 {l : List UInt8} {κ : IntKind} {i : Int} {k : V → Prop} : P1 (.lsub [.sc]) [vL I1 vY l, .int κ i] k ↔ (0 ≤ i ∧ i ≤ l.length) ∧ k (vL I1 vY (l.drop i.toNat)) := P1_lsub1
@[simp] theorem P1_appY_ {l m : List UInt8} {b : Nat} {k : V → Prop} : P1 (.app [.sc] b) [vL I1 vY l, vL I1 vY m] k ↔ ((l.length + m.length) * b ≤ 140737488355328 ∧ l.length + m.length ≤ 140737488355328) ∧ k (vL I1 vY (l ++ m)) := P1_app
@[simp] theorem P1_appY_0 {m : List UInt8} {b : Nat} {k : V → Prop} : P1 (.app [.sc] b) [.list [.sc] [], vL I1 vY m] k ↔ (m.length * b ≤ 140737488355328 ∧ m.length ≤ 140737488355328) ∧ k (vL I1 vY m) := P1_app0
@[simp] theorem P1_appY_1 {l : List UInt8} {b : Nat} {k : V → Prop} : P1 (.app [.sc] b) [vL I1 vY l, .list [.sc] []] k ↔ (l.length * b ≤ 140737488355328 ∧ l.length ≤ 140737488355328) ∧ k (vL I1 vY l) := P1_app1
@[simp] theorem P1_lsubS_2 {l : List (List UInt8)} {κ κ' : IntKind} {i j : Int} {k : V → Prop} : P1 (.lsub [.sc]) [vL I1 vS l, .int κ i, .int κ' j] k ↔ (0 ≤ i ∧ i ≤ j ∧ j ≤ l.length) ∧ k (vL I1 vS ((l.take j.toNat).drop i.toNat)) := P1_lsub2
@[simp] theorem P1_lsubS_1 {l : List (List UInt8)} {κ : IntKind} {i : Int} {k : V → Prop} : P1 (.lsub [.sc]) [vL I1 vS l, .int κ i] k ↔ (0 ≤ i ∧ i ≤ l.length) ∧ k (vL I1 vS (l.drop i.toNat)) := P1_lsub1
@[simp] theorem P1_appS_ {l m : List (List UInt8)} {b : Nat} {k : V → Prop} : P1 (.app [.sc] b) [vL I1 vS l, vL I1 vS m] k ↔ ((l.length + m.length) * b ≤ 140737488355328 ∧ l.length + m.length ≤ 140737488355328) ∧ k (vL I1 vS (l ++ m)) := P1_app
@[simp] theorem P1_appS_0 {m : List (List UInt8)} {b : Nat} {k : V → Prop} : P1 (.app [.sc] b) [.list [.sc] [], vL I1 vS m] k ↔ (m.length * b ≤ 140737488355328 ∧ m.length ≤ 140737488355328) ∧ k (vL I1 vS m) := P1_app0
@[simp] theorem P1_appS_1 {l : List (List UInt8)} {b : Nat} {k : V → Prop} : P1 (.app [.sc] b) [vL I1 vS l, .list [.sc] []] k ↔ (l.length * b ≤ 140737488355328 ∧ l.length ≤ 140737488355328) ∧ k (vL I1 vS l) := P1_app1
@[simp] theorem P1_lsub2_2 {l : List T2} {κ κ' : IntKind} {i j : Int} {k : V → Prop} : P1 (.lsub [.sc, .sc]) [vL I2 v2 l, .int κ i, .int κ' j] k ↔ (0 ≤ i ∧ i ≤ j ∧ j ≤ l.length) ∧ k (vL I2 v2 ((l.take j.toNat).drop i.toNat)) := P1_lsub2
@[simp] theorem P1_lsub2_1 {l : List T2} {κ : IntKind} {i : Int} {k : V → Prop} : P1 (.lsub [.sc, .sc]) [vL I2 v2 l, .int κ i] k ↔ (0 ≤ i ∧ i ≤ l.length) ∧ k (vL I2 v2 (l.drop i.toNat)) := P1_lsub1
@[simp] theorem P1_app2_ {l m : List T2} {b : Nat} {k : V → Prop} : P1 (.app [.sc, .sc] b) [vL I2 v2 l, vL I2 v2 m] k ↔ ((l.length + m.length) * b ≤ 140737488355328 ∧ l.length + m.length ≤ 140737488355328) ∧ k (vL I2 v2 (l ++ m)) := P1_app
@[simp] theorem P1_app2_0 {m : List T2} {b : Nat} {k : V → Prop} : P1 (.app [.sc, .sc] b) [.list [.sc, .sc] [], vL I2 v2 m] k ↔ (m.length * b ≤ 140737488355328 ∧ m.length ≤ 140737488355328) ∧ k (vL I2 v2 m) := P1_app0
@[simp] theorem P1_app2_1 {l : List T2} {b : Nat} {k : V → Prop} : P1 (.app [.sc, .sc] b) [vL I2 v2 l, .list [.sc, .sc] []] k ↔ (l.length * b ≤ 140737488355328 ∧ l.length ≤ 140737488355328) ∧ k (vL I2 v2 l) := P1_app1
@[simp] theorem P1_lsub3_2 {l : List T3} {κ κ' : IntKind} {i j : Int} {k : V → Prop} : P1 (.lsub [.sc, .sc, .sc]) [vL I3 v3 l, .int κ i, .int κ' j] k ↔ (0 ≤ i ∧ i ≤ j ∧ j ≤ l.length) ∧ k (vL I3 v3 ((l.take j.toNat).drop i.toNat)) := P1_lsub2
@[simp] theorem P1_lsub3_1 {l : List T3} {κ : IntKind} {i : Int} {k : V → Prop} : P1 (.lsub [.sc, .sc, .sc]) [vL I3 v3 l, .int κ i] k ↔ (0 ≤ i ∧ i ≤ l.length) ∧ k (vL I3 v3 (l.drop i.toNat)) := P1_lsub1
@[simp] theorem P1_app3_ {l m : List T3} {b : Nat} {k : V → Prop} : P1 (.app [.sc, .sc, .sc] b) [vL I3 v3 l, vL I3 v3 m] k ↔ ((l.length + m.length) * b ≤ 140737488355328 ∧ l.length + m.length ≤ 140737488355328) ∧ k (vL I3 v3 (l ++ m)) := P1_app
@[simp] theorem P1_app3_0 {m : List T3} {b : Nat} {k : V → Prop} : P1 (.app [.sc, .sc, .sc] b) [.list [.sc, .sc, .sc] [], vL I3 v3 m] k ↔ (m.length * b ≤ 140737488355328 ∧ m.length ≤ 140737488355328) ∧ k (vL I3 v3 m) := P1_app0
@[simp] theorem P1_app3_1 {l : List T3} {b : Nat} {k : V → Prop} : P1 (.app [.sc, .sc, .sc] b) [vL I3 v3 l, .list [.sc, .sc, .sc] []] k ↔ (l.length * b ≤ 140737488355328 ∧ l.length ≤ 140737488355328) ∧ k (vL I3 v3 l) := P1_app1
@[simp] theorem P1_lsubL2_2 {l : List (List T2)} {κ κ' : IntKind} {i j : Int} {k : V → Prop} : P1 (.lsub [.sl [.sc, .sc]]) [vL IL2 vLL2 l, .int κ i, .int κ' j] k ↔ (0 ≤ i ∧ i ≤ j ∧ j ≤ l.length) ∧ k (vL IL2 vLL2 ((l.take j.toNat).drop i.toNat)) := P1_lsub2
@[simp] theorem P1_lsubL2_1 {l : List (List T2)} {κ : IntKind} {i : Int} {k : V → Prop} : P1 (.lsub [.sl [.sc, .sc]]) [vL IL2 vLL2 l, .int κ i] k ↔ (0 ≤ i ∧ i ≤ l.length) ∧ k (vL IL2 vLL2 (l.drop i.toNat)) := P1_lsub1
@[simp] theorem P1_appL2_ {l m : List (List T2)} {b : Nat} {k : V → Prop} : P1 (.app [.sl [.sc, .sc]] b) [vL IL2 vLL2 l, vL IL2 vLL2 m] k ↔ ((l.length + m.length) * b ≤ 140737488355328 ∧ l.length + m.length ≤ 140737488355328) ∧ k (vL IL2 vLL2 (l ++ m)) := P1_app
@[simp] theorem P1_appL2_0 {m : List (List T2)} {b : Nat} {k : V → Prop} : P1 (.app [.sl [.sc, .sc]] b) [.list [.sl [.sc, .sc]] [], vL IL2 vLL2 m] k ↔ (m.length * b ≤ 140737488355328 ∧ m.length ≤ 140737488355328) ∧ k (vL IL2 vLL2 m) := P1_app0
@[simp] theorem P1_appL2_1 {l : List (List T2)} {b : Nat} {k : V → Prop} : P1 (.app [.sl [.sc, .sc]] b) [vL IL2 vLL2 l, .list [.sl [.sc, .sc]] []] k ↔ (l.length * b ≤ 140737488355328 ∧ l.length ≤ 140737488355328) ∧ k (vL IL2 vLL2 l) := P1_app1
end Go.Mw

namespace Go.Mw
def mag (n : Int) : Int := if n < 0 then -n else n
def E_magnitude (n : Int) : List V := [.int .i64 n]
noncomputable def F_magnitude : List V → Option (List V) := mkF E_magnitude (fun n => -9223372036854775807 ≤ n ∧ n ≤ 9223372036854775807) (fun n => [.int .i64 (mag n)])
theorem F_magnitude_inj : ∀ x y, E_magnitude x = E_magnitude y → x = y := by
  rintro n n' h
  simpa [E_magnitude] using h
theorem F_magnitude_elim {P : List V → List V → Prop} (h : ∀ (n : Int), (-9223372036854775807 ≤ n ∧ n ≤ 9223372036854775807) → P [.int .i64 n] [.int .i64 (mag n)]) : ∀ ds outs, F_magnitude ds = some outs → P ds outs := by
  intro ds outs hh
  obtain ⟨n, rfl, hp, rfl⟩ := mkF_inv hh
  exact h n hp
theorem p_magnitude {n : Int} {nr_ : Nat} {kk_ : V → Prop} (hp : -9223372036854775807 ≤ n ∧ n ≤ 9223372036854775807) : P1 (.call F_magnitude 0 nr_) [.int .i64 n] kk_ ↔ kk_ (.int .i64 (mag n)) :=
  P1_callF (by unfold F_magnitude; exact mkF_eq F_magnitude_inj (n) hp)

def pinLess (p q : T2) : Bool := decide (p.b < q.b ∨ p.b = q.b ∧ p.a < q.a)
def E_l06Less : T2 × T2 → List V := fun (x, y) => [.int .i64 x.a, .int .i64 x.b, .int .i64 y.a, .int .i64 y.b]
noncomputable def F_l06Less : List V → Option (List V) := mkF E_l06Less (fun (_, _) => True) (fun (x, y) => [.bool (pinLess x y)])
theorem F_l06Less_inj : ∀ x y, E_l06Less x = E_l06Less y → x = y := by
  rintro ⟨⟨xa, xb⟩, ⟨ya, yb⟩⟩ ⟨⟨xa', xb'⟩, ⟨ya', yb'⟩⟩ h
  simpa [E_l06Less, and_assoc] using h
theorem F_l06Less_elim {P : List V → List V → Prop} (h : ∀ (x : T2) (y : T2), P [.int .i64 x.a, .int .i64 x.b, .int .i64 y.a, .int .i64 y.b] [.bool (pinLess x y)]) : ∀ ds outs, F_l06Less ds = some outs → P ds outs := by
  intro ds outs hh
  obtain ⟨⟨x, y⟩, rfl, -, rfl⟩ := mkF_inv hh
  exact h x y
@[simp] theorem p_l06Less {x_a : Int} {x_b : Int} {y_a : Int} {y_b : Int} {nr_ : Nat} {kk_ : V → Prop} : P1 (.call F_l06Less 0 nr_) [.int .i64 x_a, .int .i64 x_b, .int .i64 y_a, .int .i64 y_b] kk_ ↔ kk_ (.bool (pinLess (⟨x_a, x_b⟩ : T2) (⟨y_a, y_b⟩ : T2))) :=
  P1_callF (by unfold F_l06Less; exact mkF_eq F_l06Less_inj ((⟨x_a, x_b⟩ : T2), (⟨y_a, y_b⟩ : T2)) trivial)

def E_comparePins : T2 × T2 → List V := fun (x, y) => [.int .i64 x.a, .int .i64 x.b, .int .i64 y.a, .int .i64 y.b]
noncomputable def F_comparePins : List V → Option (List V) := mkF E_comparePins (fun (_, _) => True) (fun (x, y) => [.int .i64 (if pinLess x y then -1 else if x = y then 0 else 1)])
theorem F_comparePins_inj : ∀ x y, E_comparePins x = E_comparePins y → x = y := by
  rintro ⟨⟨xa, xb⟩, ⟨ya, yb⟩⟩ ⟨⟨xa', xb'⟩, ⟨ya', yb'⟩⟩ h
  simpa [E_comparePins, and_assoc] using h
theorem F_comparePins_elim {P : List V → List V → Prop} (h : ∀ (x : T2) (y : T2), P [.int .i64 x.a, .int .i64 x.b, .int .i64 y.a, .int .i64 y.b] [.int .i64 (if pinLess x y then -1 else if x = y then 0 else 1)]) : ∀ ds outs, F_comparePins ds = some outs → P ds outs := by
  intro ds outs hh
  obtain ⟨⟨x, y⟩, rfl, -, rfl⟩ := mkF_inv hh
  exact h x y
@[simp] theorem p_comparePins {x_a : Int} {x_b : Int} {y_a : Int} {y_b : Int} {nr_ : Nat} {kk_ : V → Prop} : P1 (.call F_comparePins 0 nr_) [.int .i64 x_a, .int .i64 x_b, .int .i64 y_a, .int .i64 y_b] kk_ ↔ kk_ (.int .i64 (if pinLess (⟨x_a, x_b⟩ : T2) (⟨y_a, y_b⟩ : T2) then -1 else if (⟨x_a, x_b⟩ : T2) = (⟨y_a, y_b⟩ : T2) then 0 else 1)) :=
  P1_callF (by unfold F_comparePins; exact mkF_eq F_comparePins_inj ((⟨x_a, x_b⟩ : T2), (⟨y_a, y_b⟩ : T2)) trivial)

def rising : List T2 → Bool
  | [] => true
  | [_] => true
  | a :: b :: r => pinLess a b && rising (b :: r)
def pinIn (s t : Int) (p : T2) : Bool := within p.a 0 (t - 1) && within p.b 0 (s - 1)
def cylOk (c : Cyl) : Bool := within c.s 4 96 && within c.t 1 100 && decide (c.p.length ≤ 100) && (c.p.all (pinIn c.s c.t) && rising c.p)
def E_CylinderOk (x : Cyl) : List V := [.int .i64 x.s, .int .i64 x.t, vL I2 v2 x.p]
noncomputable def F_CylinderOk : List V → Option (List V) := mkF E_CylinderOk (fun x => x.p.length ≤ 1048576) (fun x => [.bool (cylOk x)])
theorem F_CylinderOk_inj : ∀ x y, E_CylinderOk x = E_CylinderOk y → x = y := by
  rintro ⟨xs, xt, xp⟩ ⟨xs', xt', xp'⟩ h
  simpa [E_CylinderOk] using h
theorem F_CylinderOk_elim {P : List V → List V → Prop} (h : ∀ (x : Cyl), (x.p.length ≤ 1048576) → P [.int .i64 x.s, .int .i64 x.t, vL I2 v2 x.p] [.bool (cylOk x)]) : ∀ ds outs, F_CylinderOk ds = some outs → P ds outs := by
  intro ds outs hh
  obtain ⟨x, rfl, hp, rfl⟩ := mkF_inv hh
  exact h x hp
theorem p_CylinderOk {x_s : Int} {x_t : Int} {x_p : List T2} {nr_ : Nat} {kk_ : V → Prop} (hp : (⟨x_s, x_t, x_p⟩ : Cyl).p.length ≤ 1048576) : P1 (.call F_CylinderOk 0 nr_) [.int .i64 x_s, .int .i64 x_t, vL I2 v2 x_p] kk_ ↔ kk_ (.bool (cylOk (⟨x_s, x_t, x_p⟩ : Cyl))) :=
  P1_callF (by unfold F_CylinderOk; exact mkF_eq F_CylinderOk_inj ((⟨x_s, x_t, x_p⟩ : Cyl)) hp)

def sttOk (c : Cyl) (x : Stt) : Bool := cylOk c && (within x.a 0 (c.s - 1) && within x.p 0 100000)
def E_l06Mod : Int × Int → List V := fun (n, s) => [.int .i64 n, .int .i64 s]
noncomputable def F_l06Mod : List V → Option (List V) := mkF E_l06Mod (fun (n, s) => -1000000 ≤ n ∧ n ≤ 1000000 ∧ 1 ≤ s ∧ s ≤ 1000000) (fun (n, s) => [.int .i64 (n % s)])
theorem F_l06Mod_inj : ∀ x y, E_l06Mod x = E_l06Mod y → x = y := by
  rintro ⟨n, s⟩ ⟨n', s'⟩ h
  simpa [E_l06Mod] using h
theorem F_l06Mod_elim {P : List V → List V → Prop} (h : ∀ (n : Int) (s : Int), (-1000000 ≤ n ∧ n ≤ 1000000 ∧ 1 ≤ s ∧ s ≤ 1000000) → P [.int .i64 n, .int .i64 s] [.int .i64 (n % s)]) : ∀ ds outs, F_l06Mod ds = some outs → P ds outs := by
  intro ds outs hh
  obtain ⟨⟨n, s⟩, rfl, hp, rfl⟩ := mkF_inv hh
  exact h n s hp
theorem p_l06Mod {n : Int} {s : Int} {nr_ : Nat} {kk_ : V → Prop} (hp : -1000000 ≤ n ∧ n ≤ 1000000 ∧ 1 ≤ s ∧ s ≤ 1000000) : P1 (.call F_l06Mod 0 nr_) [.int .i64 n, .int .i64 s] kk_ ↔ kk_ (.int .i64 (n % s)) :=
  P1_callF (by unfold F_l06Mod; exact mkF_eq F_l06Mod_inj (n, s) hp)

def pinsAt (c : Cyl) (a : Int) : List Int := if cylOk c && within a (-1000000) 1000000 then (c.p.filter fun p => p.b == a % c.s).map (·.a) else []
def E_PinsAt : Cyl × Int → List V := fun (x, n) => [.int .i64 x.s, .int .i64 x.t, vL I2 v2 x.p, .int .i64 n]
noncomputable def F_PinsAt : List V → Option (List V) := mkF E_PinsAt (fun (x, _) => x.p.length ≤ 1048576) (fun (x, n) => [vL I1 v1 (pinsAt x n)])
theorem F_PinsAt_inj : ∀ x y, E_PinsAt x = E_PinsAt y → x = y := by
  rintro ⟨⟨xs, xt, xp⟩, n⟩ ⟨⟨xs', xt', xp'⟩, n'⟩ h
  simpa [E_PinsAt, and_assoc] using h
theorem F_PinsAt_elim {P : List V → List V → Prop} (h : ∀ (x : Cyl) (n : Int), (x.p.length ≤ 1048576) → P [.int .i64 x.s, .int .i64 x.t, vL I2 v2 x.p, .int .i64 n] [vL I1 v1 (pinsAt x n)]) : ∀ ds outs, F_PinsAt ds = some outs → P ds outs := by
  intro ds outs hh
  obtain ⟨⟨x, n⟩, rfl, hp, rfl⟩ := mkF_inv hh
  exact h x n hp
theorem p_PinsAt {x_s : Int} {x_t : Int} {x_p : List T2} {n : Int} {nr_ : Nat} {kk_ : V → Prop} (hp : (⟨x_s, x_t, x_p⟩ : Cyl).p.length ≤ 1048576) : P1 (.call F_PinsAt 0 nr_) [.int .i64 x_s, .int .i64 x_t, vL I2 v2 x_p, .int .i64 n] kk_ ↔ kk_ (vL I1 v1 (pinsAt (⟨x_s, x_t, x_p⟩ : Cyl) n)) :=
  P1_callF (by unfold F_PinsAt; exact mkF_eq F_PinsAt_inj ((⟨x_s, x_t, x_p⟩ : Cyl), n) hp)


def stepsLeft (c : Cyl) (x : Stt) : Int := if sttOk c x then (if x.n then c.s - x.a else 0) else -1
def nextStt (c : Cyl) (x : Stt) : Stt := ⟨(x.a + 1) % c.s, decide ((x.a + 1) % c.s ≠ 0), x.p + (pinsAt c x.a).length⟩
def canStep (c : Cyl) (x : Stt) : Bool := sttOk c x && x.n && sttOk c (nextStt c x)
def itS (c : Cyl) (x : Stt) : Nat → Stt
  | 0 => x
  | k + 1 => nextStt c (itS c x k)
def itL (c : Cyl) (x : Stt) : Nat → List Int
  | 0 => []
  | k + 1 => itL c x k ++ pinsAt c (itS c x k).a
def runN (c : Cyl) (x : Stt) : Nat := (c.s - x.a).toNat
def runOk (c : Cyl) (x : Stt) : Bool := sttOk c x && (x.n && (List.range (runN c x)).all fun k => canStep c (itS c x k))
def runBox (c : Cyl) (x : Stt) : Stt × List Int := if runOk c x then (itS c x (runN c x), itL c x (runN c x)) else (x, [])
def areDigits (l : List Int) (a b : Int) : Bool := within l.length a b && l.all (within · 0 9)
def E_copyInts (l : List Int) : List V := [vL I1 v1 l]
noncomputable def F_copyInts : List V → Option (List V) := mkF E_copyInts (fun l => l.length ≤ 4194304) (fun l => [vL I1 v1 l])
theorem F_copyInts_inj : ∀ x y, E_copyInts x = E_copyInts y → x = y := by
  rintro l l' h
  simpa [E_copyInts] using h
theorem F_copyInts_elim {P : List V → List V → Prop} (h : ∀ (l : List Int), (l.length ≤ 4194304) → P [vL I1 v1 l] [vL I1 v1 l]) : ∀ ds outs, F_copyInts ds = some outs → P ds outs := by
  intro ds outs hh
  obtain ⟨l, rfl, hp, rfl⟩ := mkF_inv hh
  exact h l hp
theorem p_copyInts {l : List Int} {nr_ : Nat} {kk_ : V → Prop} (hp : l.length ≤ 4194304) : P1 (.call F_copyInts 0 nr_) [vL I1 v1 l] kk_ ↔ kk_ (vL I1 v1 l) :=
  P1_callF (by unfold F_copyInts; exact mkF_eq F_copyInts_inj (l) hp)

end Go.Mw

namespace Go.Mw
noncomputable section
def spec_l06Less_L : L := .seq (.rg []) (.seq (.rg [zb .lss 1 3, ⟨[(.v 4, false)], .bin .eql, [.v 1, .v 3], 1⟩, ⟨[(.v 4, false), (.v 5, true)], .bin .lss, [.v 0, .v 2], 1⟩, ⟨[(.v 4, false)], .pick, [.v 5, .v 6, .k (.bool false)], 1⟩, ⟨[], .pick, [.v 4, .k (.bool true), .v 7], 1⟩]) (.ret [.v 8]))
theorem spec_l06Less_L_sh (Q : QT) (x0 x1 x2 x3 : V) : shL spec_l06Less_L Q [x0, x1, x2, x3] = (
  P1 (.bin .lss) [x1, x3] fun v0 =>
  ifB v0 (
    Q .ret [.bool true]) (
    P1 (.bin .eql) [x1, x3] fun v1 =>
    ifB v1 (
      P1 (.bin .lss) [x0, x2] fun v2 =>
      Q .ret [v2]) (
      Q .ret [.bool false]))) := by kernel_rfl
def spec_l06Less_S : Sig := ⟨[.val true [.sc, .sc], .val true [.sc, .sc]], [(false, [.sc])], F_l06Less⟩
def spec_l06Less_hs : List NF := []

def spec_CylinderOk_b0 : L := .seq (.seq (.seq (.rg [zl 3, zb .lss 0 4]) (.ite (.v 5) (.skip) (.seq (.tup []) (.exit 0)))) (.seq (.block 1 (.seq (.seq (.rg [zj 3 0]) (.seq (.rg [zk .sub 2 1, ⟨[], .call F_l01In 0 1, [.v 6, .k (.int .i64 0), .v 8], 1⟩, zn 9, ⟨[(.v 10, false)], .bin .sub, [.v 1, .k (.int .i64 1)], 1⟩, ⟨[(.v 10, false)], .call F_l01In 0 1, [.v 7, .k (.int .i64 0), .v 11], 1⟩, ⟨[(.v 10, false)], .un .not, [.v 12], 1⟩, ⟨[], .pick, [.v 10, .k (.bool true), .v 13], 1⟩, ⟨[(.v 14, false)], .bin .gtr, [.v 0, .k (.int .i64 0)], 1⟩, ⟨[(.v 14, false), (.v 15, true)], .bin .sub, [.v 0, .k (.int .i64 1)], 1⟩, ⟨[(.v 14, false), (.v 15, true)], .idx [.sc, .sc], [.v 3, .v 16], 2⟩, ⟨[(.v 14, false), (.v 15, true)], .call F_l06Less 0 1, [.v 17, .v 18, .v 6, .v 7], 1⟩, ⟨[(.v 14, false), (.v 15, true)], .un .not, [.v 19], 1⟩, ⟨[(.v 14, false)], .pick, [.v 15, .v 20, .k (.bool false)], 1⟩, ⟨[], .pick, [.v 14, .k (.bool true), .v 21], 1⟩]) (.ite (.v 22) (.seq (.rg []) (.ret [.k (.bool false)])) (.skip)))) (zt [0, 1, 2, 3]))) (.rg [zk .add 0 1]))) (zt [4, 1, 2, 3])
theorem spec_CylinderOk_b0_sh (Q : QT) (x0 x1 x2 x3 : V) : shL spec_CylinderOk_b0 Q [x0, x1, x2, x3] = (
  P1 (.len) [x3] fun v0 =>
  P1 (.bin .lss) [x0, v0] fun v1 =>
  ifB v1 (
    P2 (.idx [.sc, .sc]) [x3, x0] fun v2 v3 =>
    P1 (.bin .sub) [x2, .int .i64 1] fun v4 =>
    P1 (.call F_l01In 0 1) [v2, .int .i64 0, v4] fun v5 =>
    P1 (.un .not) [v5] fun v6 =>
    ifB v6 (
      Q .ret [.bool false]) (
      P1 (.bin .sub) [x1, .int .i64 1] fun v7 =>
      P1 (.call F_l01In 0 1) [v3, .int .i64 0, v7] fun v8 =>
      P1 (.un .not) [v8] fun v9 =>
      ifB v9 (
        Q .ret [.bool false]) (
        P1 (.bin .gtr) [x0, .int .i64 0] fun v10 =>
        ifB v10 (
          P1 (.bin .sub) [x0, .int .i64 1] fun v11 =>
          P2 (.idx [.sc, .sc]) [x3, v11] fun v12 v13 =>
          P1 (.call F_l06Less 0 1) [v12, v13, v2, v3] fun v14 =>
          P1 (.un .not) [v14] fun v15 =>
          ifB v15 (
            Q .ret [.bool false]) (
            P1 (.bin .add) [x0, .int .i64 1] fun v16 =>
            Q .normal [v16, x1, x2, x3])) (
          P1 (.bin .add) [x0, .int .i64 1] fun v17 =>
          Q .normal [v17, x1, x2, x3])))) (
    Q (.exit 0) [])) := by kernel_rfl

def spec_CylinderOk_r1 : L := .seq (.rg []) (.ret [.k (.bool true)])
theorem spec_CylinderOk_r1_sh (Q : QT) : shL spec_CylinderOk_r1 Q [] = (
  Q .ret [.bool true]) := by kernel_rfl

def spec_CylinderOk_L : L := .seq (.rg []) (.seq (.seq (.rg [⟨[], .call F_l01In 0 1, [.v 0, .k (.int .i64 4), .k (.int .i64 96)], 1⟩, zn 3, ⟨[(.v 4, false)], .call F_l01In 0 1, [.v 1, .k (.int .i64 1), .k (.int .i64 100)], 1⟩, ⟨[(.v 4, false)], .un .not, [.v 5], 1⟩, ⟨[], .pick, [.v 4, .k (.bool true), .v 6], 1⟩, ⟨[(.v 7, false)], .len, [.v 2], 1⟩, ⟨[(.v 7, false)], .bin .gtr, [.v 8, .k (.int .i64 100)], 1⟩, ⟨[], .pick, [.v 7, .k (.bool true), .v 9], 1⟩]) (.ite (.v 10) (.seq (.rg []) (.ret [.k (.bool false)])) (.skip))) (.seq (.seq (.rg []) (.block 0 (.seq (.tup [.k (.int .i64 0), .v 0, .v 1, .v 2]) (.loop (spec_CylinderOk_b0))))) (spec_CylinderOk_r1)))
theorem spec_CylinderOk_L_sh (Q : QT) (x0 x1 x2 : V) : shL spec_CylinderOk_L Q [x0, x1, x2] = (
  P1 (.call F_l01In 0 1) [x0, .int .i64 4, .int .i64 96] fun v0 =>
  P1 (.un .not) [v0] fun v1 =>
  ifB v1 (
    Q .ret [.bool false]) (
    P1 (.call F_l01In 0 1) [x1, .int .i64 1, .int .i64 100] fun v2 =>
    P1 (.un .not) [v2] fun v3 =>
    ifB v3 (
      Q .ret [.bool false]) (
      P1 (.len) [x2] fun v4 =>
      P1 (.bin .gtr) [v4, .int .i64 100] fun v5 =>
      ifB v5 (
        Q .ret [.bool false]) (
        shL (.loop spec_CylinderOk_b0) (qB 0 (qS (shL spec_CylinderOk_r1 Q) Q)) [.int .i64 0, x0, x1, x2])))) := by kernel_rfl
def spec_CylinderOk_S : Sig := ⟨[.val true [.sc, .sc, .sl [.sc, .sc]]], [(false, [.sc])], F_CylinderOk⟩
def spec_CylinderOk_hs : List NF := [⟨[], [], [], 64⟩, ⟨[(1, .ptr 64 0), (3, zs)], [], [(64, [.sc, .sc, .ro [.sc, .sc]])], 65⟩, ⟨[(1, .ptr 64 0), (3, zs)], [], [(64, [.sc, .sc, .ro [.sc, .sc]])], 65⟩]

def impl_comparePins_L : L := .seq (.rg []) (.seq (.seq (.rg [zb .lss 1 3, ⟨[(.v 4, false)], .bin .eql, [.v 1, .v 3], 1⟩, ⟨[(.v 4, false), (.v 5, true)], .bin .lss, [.v 0, .v 2], 1⟩, ⟨[(.v 4, false)], .pick, [.v 5, .v 6, .k (.bool false)], 1⟩, ⟨[], .pick, [.v 4, .k (.bool true), .v 7], 1⟩]) (.ite (.v 8) (.seq (.rg []) (.ret [.k (.int .i64 (-1))])) (.skip))) (.seq (.seq (.rg [⟨[], .eqa false [.i, .i], [.v 0, .v 1, .v 2, .v 3], 1⟩]) (.ite (.v 9) (.seq (.rg []) (.ret [.k (.int .i64 0)])) (.skip))) (.seq (.rg []) (.ret [.k (.int .i64 1)]))))
theorem impl_comparePins_L_sh (Q : QT) (x0 x1 x2 x3 : V) : shL impl_comparePins_L Q [x0, x1, x2, x3] = (
  P1 (.bin .lss) [x1, x3] fun v0 =>
  ifB v0 (
    Q .ret [.int .i64 (-1)]) (
    P1 (.bin .eql) [x1, x3] fun v1 =>
    ifB v1 (
      P1 (.bin .lss) [x0, x2] fun v2 =>
      ifB v2 (
        Q .ret [.int .i64 (-1)]) (
        P1 (.eqa false [.i, .i]) [x0, x1, x2, x3] fun v3 =>
        ifB v3 (
          Q .ret [.int .i64 0]) (
          Q .ret [.int .i64 1]))) (
      P1 (.eqa false [.i, .i]) [x0, x1, x2, x3] fun v4 =>
      ifB v4 (
        Q .ret [.int .i64 0]) (
        Q .ret [.int .i64 1])))) := by kernel_rfl
def impl_comparePins_S : Sig := ⟨[.val true [.sc, .sc], .val true [.sc, .sc]], [(false, [.sc])], F_comparePins⟩
def impl_comparePins_hs : List NF := []

def impl_CylinderOk_b0 : L := .seq (.seq (.rg [zb .lss 2 1]) (.seq (.ite (.v 6) (.skip) (.seq (.tup []) (.exit 0))) (.seq (.block 1 (.seq (.seq (.rg [zj 0 2]) (.seq (.seq (.rg [zk .sub 4 1, ⟨[], .call F_within 0 1, [.v 7, .k (.int .i64 0), .v 9], 1⟩, zn 10, ⟨[(.v 11, false)], .bin .sub, [.v 3, .k (.int .i64 1)], 1⟩, ⟨[(.v 11, false)], .call F_within 0 1, [.v 8, .k (.int .i64 0), .v 12], 1⟩, ⟨[(.v 11, false)], .un .not, [.v 13], 1⟩, ⟨[], .pick, [.v 11, .k (.bool true), .v 14], 1⟩]) (.ite (.v 15) (.seq (.rg []) (.ret [.k (.bool false)])) (.skip))) (.seq (.rg [zk .gtr 2 0, ⟨[(.v 16, true)], .bin .sub, [.v 2, .k (.int .i64 1)], 1⟩, ⟨[(.v 16, true)], .idx [.sc, .sc], [.v 5, .v 17], 2⟩, ⟨[(.v 16, true)], .call F_comparePins 0 1, [.v 18, .v 19, .v 7, .v 8], 1⟩, ⟨[(.v 16, true)], .bin .geq, [.v 20, .k (.int .i64 0)], 1⟩, ⟨[], .pick, [.v 16, .v 21, .k (.bool false)], 1⟩]) (.ite (.v 22) (.seq (.rg []) (.ret [.k (.bool false)])) (.skip))))) (zt [0, 1, 2, 3, 4, 5]))) (.rg [zk .add 2 1])))) (zt [0, 1, 6, 3, 4, 5])
theorem impl_CylinderOk_b0_sh (Q : QT) (x0 x1 x2 x3 x4 x5 : V) : shL impl_CylinderOk_b0 Q [x0, x1, x2, x3, x4, x5] = (
  P1 (.bin .lss) [x2, x1] fun v0 =>
  ifB v0 (
    P2 (.idx [.sc, .sc]) [x0, x2] fun v1 v2 =>
    P1 (.bin .sub) [x4, .int .i64 1] fun v3 =>
    P1 (.call F_within 0 1) [v1, .int .i64 0, v3] fun v4 =>
    P1 (.un .not) [v4] fun v5 =>
    ifB v5 (
      Q .ret [.bool false]) (
      P1 (.bin .sub) [x3, .int .i64 1] fun v6 =>
      P1 (.call F_within 0 1) [v2, .int .i64 0, v6] fun v7 =>
      P1 (.un .not) [v7] fun v8 =>
      ifB v8 (
        Q .ret [.bool false]) (
        P1 (.bin .gtr) [x2, .int .i64 0] fun v9 =>
        ifB v9 (
          P1 (.bin .sub) [x2, .int .i64 1] fun v10 =>
          P2 (.idx [.sc, .sc]) [x5, v10] fun v11 v12 =>
          P1 (.call F_comparePins 0 1) [v11, v12, v1, v2] fun v13 =>
          P1 (.bin .geq) [v13, .int .i64 0] fun v14 =>
          ifB v14 (
            Q .ret [.bool false]) (
            P1 (.bin .add) [x2, .int .i64 1] fun v15 =>
            Q .normal [x0, x1, v15, x3, x4, x5])) (
          P1 (.bin .add) [x2, .int .i64 1] fun v16 =>
          Q .normal [x0, x1, v16, x3, x4, x5])))) (
    Q (.exit 0) [])) := by kernel_rfl

def impl_CylinderOk_r1 : L := .seq (.rg []) (.ret [.k (.bool true)])
theorem impl_CylinderOk_r1_sh (Q : QT) : shL impl_CylinderOk_r1 Q [] = (
  Q .ret [.bool true]) := by kernel_rfl

def impl_CylinderOk_L : L := .seq (.rg []) (.seq (.seq (.rg [⟨[], .call F_within 0 1, [.v 0, .k (.int .i64 4), .k (.int .i64 96)], 1⟩, zn 3, ⟨[(.v 4, false)], .call F_within 0 1, [.v 1, .k (.int .i64 1), .k (.int .i64 100)], 1⟩, ⟨[(.v 4, false)], .un .not, [.v 5], 1⟩, ⟨[], .pick, [.v 4, .k (.bool true), .v 6], 1⟩, ⟨[(.v 7, false)], .len, [.v 2], 1⟩, ⟨[(.v 7, false)], .bin .gtr, [.v 8, .k (.int .i64 100)], 1⟩, ⟨[], .pick, [.v 7, .k (.bool true), .v 9], 1⟩]) (.ite (.v 10) (.seq (.rg []) (.ret [.k (.bool false)])) (.skip))) (.seq (.seq (.rg [zl 2]) (.block 0 (.seq (.tup [.v 2, .v 11, .k (.int .i64 0), .v 0, .v 1, .v 2]) (.loop (impl_CylinderOk_b0))))) (impl_CylinderOk_r1)))
theorem impl_CylinderOk_L_sh (Q : QT) (x0 x1 x2 : V) : shL impl_CylinderOk_L Q [x0, x1, x2] = (
  P1 (.call F_within 0 1) [x0, .int .i64 4, .int .i64 96] fun v0 =>
  P1 (.un .not) [v0] fun v1 =>
  ifB v1 (
    Q .ret [.bool false]) (
    P1 (.call F_within 0 1) [x1, .int .i64 1, .int .i64 100] fun v2 =>
    P1 (.un .not) [v2] fun v3 =>
    ifB v3 (
      Q .ret [.bool false]) (
      P1 (.len) [x2] fun v4 =>
      P1 (.bin .gtr) [v4, .int .i64 100] fun v5 =>
      ifB v5 (
        Q .ret [.bool false]) (
        P1 (.len) [x2] fun v6 =>
        shL (.loop impl_CylinderOk_b0) (qB 0 (qS (shL impl_CylinderOk_r1 Q) Q)) [x2, v6, .int .i64 0, x0, x1, x2])))) := by kernel_rfl
def impl_CylinderOk_S : Sig := ⟨[.val true [.sc, .sc, .sl [.sc, .sc]]], [(false, [.sc])], F_CylinderOk⟩
def impl_CylinderOk_hs : List NF := [⟨[], [], [], 64⟩, ⟨[(1, .ptr 64 0), (22, zq), (23, zs), (24, zs)], [], [(64, [.sc, .sc, .ro [.sc, .sc]])], 65⟩, ⟨[(1, .ptr 64 0), (22, zq), (23, zs), (24, zs)], [], [(64, [.sc, .sc, .ro [.sc, .sc]])], 65⟩]

def impl_magnitude_L : L := .seq (.rg []) (.seq (.seq (.rg [zk .lss 0 0]) (.ite (.v 1) (.seq (.rg [⟨[], .un .neg, [.v 0], 1⟩]) (.ret [.v 2])) (.skip))) (.seq (.rg []) (.ret [.v 0])))
theorem impl_magnitude_L_sh (Q : QT) (x0 : V) : shL impl_magnitude_L Q [x0] = (
  P1 (.bin .lss) [x0, .int .i64 0] fun v0 =>
  ifB v0 (
    P1 (.un .neg) [x0] fun v1 =>
    Q .ret [v1]) (
    Q .ret [x0])) := by kernel_rfl
def impl_magnitude_S : Sig := ⟨[.val false [.sc]], [(false, [.sc])], F_magnitude⟩
def impl_magnitude_hs : List NF := []

def impl_copyInts_L : L := .seq (.rg []) (.seq (.rg [⟨[], .lst [.sc] false 0, [], 1⟩, ⟨[], .app [.sc] 8, [.v 1, .v 0], 1⟩]) (.ret [.v 2]))
theorem impl_copyInts_L_sh (Q : QT) (x0 : V) : shL impl_copyInts_L Q [x0] = (
  P1 (.lst [.sc] false 0) [] fun v0 =>
  P1 (.app [.sc] 8) [v0, x0] fun v1 =>
  Q .ret [v1]) := by kernel_rfl
def impl_copyInts_S : Sig := ⟨[.val false [.sl [.sc]]], [(false, [.sl [.sc]])], F_copyInts⟩
def impl_copyInts_hs : List NF := []

def spec_l06Mod_L : L := .seq (.rg []) (.seq (.rg [zb .rem 0 1, zb .add 2 1, zb .rem 3 1]) (.ret [.v 4]))
theorem spec_l06Mod_L_sh (Q : QT) (x0 x1 : V) : shL spec_l06Mod_L Q [x0, x1] = (
  P1 (.bin .rem) [x0, x1] fun v0 =>
  P1 (.bin .add) [v0, x1] fun v1 =>
  P1 (.bin .rem) [v1, x1] fun v2 =>
  Q .ret [v2]) := by kernel_rfl
def spec_l06Mod_S : Sig := ⟨[.val false [.sc], .val false [.sc]], [(false, [.sc])], F_l06Mod⟩
def spec_l06Mod_hs : List NF := []

def spec_PinsAt_b0 : L := .seq (.seq (.seq (.rg [zl 5, zb .lss 1 6]) (.ite (.v 7) (.skip) (.seq (zt [2]) (.exit 0)))) (.seq (.block 1 (.seq (.seq (.rg [zj 5 1, zc F_l06Mod 1 [0, 3], zb .eql 9 10]) (.ite (.v 11) (.seq (.rg [zj 5 1, ⟨[], .lst [.sc] false 1, [.v 12], 1⟩, ⟨[], .app [.sc] 8, [.v 2, .v 14], 1⟩]) (zt [0, 1, 15, 3, 4, 5])) (.seq (.skip) (zt [0, 1, 2, 3, 4, 5])))) (zt [0, 1, 2, 3, 4, 5]))) (.rg [zk .add 1 1]))) (zt [0, 6, 2, 3, 4, 5])
theorem spec_PinsAt_b0_sh (Q : QT) (x0 x1 x2 x3 x4 x5 : V) : shL spec_PinsAt_b0 Q [x0, x1, x2, x3, x4, x5] = (
  P1 (.len) [x5] fun v0 =>
  P1 (.bin .lss) [x1, v0] fun v1 =>
  ifB v1 (
    P2 (.idx [.sc, .sc]) [x5, x1] fun _ v3 =>
    P1 (.call F_l06Mod 0 1) [x0, x3] fun v4 =>
    P1 (.bin .eql) [v3, v4] fun v5 =>
    ifB v5 (
      P2 (.idx [.sc, .sc]) [x5, x1] fun v6 _ =>
      P1 (.lst [.sc] false 1) [v6] fun v8 =>
      P1 (.app [.sc] 8) [x2, v8] fun v9 =>
      P1 (.bin .add) [x1, .int .i64 1] fun v10 =>
      Q .normal [x0, v10, v9, x3, x4, x5]) (
      P1 (.bin .add) [x1, .int .i64 1] fun v11 =>
      Q .normal [x0, v11, x2, x3, x4, x5])) (
    Q (.exit 0) [x2])) := by kernel_rfl

def spec_PinsAt_r1 : L := .seq (.rg []) (.ret [.v 0])
theorem spec_PinsAt_r1_sh (Q : QT) (x0 : V) : shL spec_PinsAt_r1 Q [x0] = (
  Q .ret [x0]) := by kernel_rfl

def spec_PinsAt_L : L := .seq (.rg []) (.seq (.rg [⟨[], .lst [.sc] false 0, [], 1⟩]) (.seq (.seq (.rg [zc F_CylinderOk 1 [0, 1, 2], zn 5, ⟨[(.v 6, false)], .call F_l01In 0 1, [.v 3, .k (.int .i64 (-1000000)), .k (.int .i64 1000000)], 1⟩, ⟨[(.v 6, false)], .un .not, [.v 7], 1⟩, ⟨[], .pick, [.v 6, .k (.bool true), .v 8], 1⟩]) (.ite (.v 9) (.seq (.rg []) (.ret [.v 4])) (.skip))) (.seq (.seq (.rg []) (.block 0 (.seq (.tup [.v 3, .k (.int .i64 0), .v 4, .v 0, .v 1, .v 2]) (.loop (spec_PinsAt_b0))))) (spec_PinsAt_r1))))
theorem spec_PinsAt_L_sh (Q : QT) (x0 x1 x2 x3 : V) : shL spec_PinsAt_L Q [x0, x1, x2, x3] = (
  P1 (.lst [.sc] false 0) [] fun v0 =>
  P1 (.call F_CylinderOk 0 1) [x0, x1, x2] fun v1 =>
  P1 (.un .not) [v1] fun v2 =>
  ifB v2 (
    Q .ret [v0]) (
    P1 (.call F_l01In 0 1) [x3, .int .i64 (-1000000), .int .i64 1000000] fun v3 =>
    P1 (.un .not) [v3] fun v4 =>
    ifB v4 (
      Q .ret [v0]) (
      shL (.loop spec_PinsAt_b0) (qB 0 (qS (shL spec_PinsAt_r1 Q) Q)) [x3, .int .i64 0, v0, x0, x1, x2]))) := by kernel_rfl
def spec_PinsAt_S : Sig := ⟨[.val true [.sc, .sc, .sl [.sc, .sc]], .val false [.sc]], [(false, [.sl [.sc]])], F_PinsAt⟩
def spec_PinsAt_hs : List NF := [⟨[(5, zo 64)], [(64, true, [.sc])], [], 65⟩, ⟨[(1, zs), (2, .ptr 64 0), (5, zo 65), (6, zs)], [(65, true, [.sc])], [(64, [.sc, .sc, .ro [.sc, .sc]])], 66⟩, ⟨[(1, zs), (2, .ptr 64 0), (5, zo 65), (6, zs)], [(65, true, [.sc])], [(64, [.sc, .sc, .ro [.sc, .sc]])], 66⟩, ⟨[(1, zs), (2, .ptr 64 0), (5, zo 65), (6, zs)], [(65, true, [.sc])], [(64, [.sc, .sc, .ro [.sc, .sc]])], 66⟩]

end
end Go.Mw

namespace Go.Mw
end Go.Mw

namespace Go.Mw
theorem spec_l06Less_ok : ∀ ds outs, F_l06Less ds = some outs → shL spec_l06Less_L (qRet outs) ds := F_l06Less_elim fun x y => by
  rw [spec_l06Less_L_sh]; simp [pinLess]; grind
theorem impl_comparePins_ok : ∀ ds outs, F_comparePins ds = some outs → shL impl_comparePins_L (qRet outs) ds := F_comparePins_elim fun x y => by
  rw [impl_comparePins_L_sh]
  cases x; cases y
  simp [pinLess]
  grind
end Go.Mw

namespace Go.Mw
theorem rising_iff : ∀ l : List T2, rising l = true ↔ ∀ j (_ : j < l.length), 0 < j → pinLess l[j - 1] l[j] = true
  | [] => by simp [rising]
  | [a] => by simp [rising]
  | a :: b :: r => by
    simp only [rising, Bool.and_eq_true, rising_iff (b :: r)]
    constructor
    · rintro ⟨h1, h2⟩ j hj h0
      rcases j with _ | _ | j
      · omega
      · exact h1
      · exact h2 (j + 1) (by simp at hj ⊢; omega) (by omega)
    · intro h
      refine ⟨h 1 (by simp) (by omega), fun j hj h0 => ?_⟩
      have := h (j + 1) (by simp at hj ⊢; omega) (by omega)
      rcases j with _ | j
      · omega
      · exact this

def goodPin (x : Cyl) (j : Nat) (hj : j < x.p.length) : Prop := pinIn x.s x.t x.p[j] = true ∧ (0 < j → pinLess x.p[j - 1] x.p[j] = true)
theorem cylOk_iff (x : Cyl) : cylOk x = true ↔ within x.s 4 96 = true ∧ within x.t 1 100 = true ∧ x.p.length ≤ 100 ∧ ∀ j (hj : j < x.p.length), goodPin x j hj := by
  simp only [cylOk, Bool.and_eq_true, decide_eq_true_eq, rising_iff, List.all_eq_true, goodPin, and_assoc]
  refine and_congr_right fun _ => and_congr_right fun _ => and_congr_right fun _ => ?_
  constructor
  · rintro ⟨h1, h2⟩ j hj
    exact ⟨h1 _ (List.getElem_mem hj), h2 j hj⟩
  · intro h
    refine ⟨fun p hp => ?_, fun j hj h0 => (h j hj).2 h0⟩
    obtain ⟨j, hj, rfl⟩ := List.getElem_of_mem hp
    exact (h j hj).1

theorem spec_CylinderOk_ok : ∀ ds outs, F_CylinderOk ds = some outs → shL spec_CylinderOk_L (qRet outs) ds := F_CylinderOk_elim fun x hp => by
  rw [spec_CylinderOk_L_sh]
  cases h1 : within x.s 4 96 with
  | false => simp [h1, cylOk]
  | true =>
  cases h2 : within x.t 1 100 with
  | false => simp [h1, h2, cylOk]
  | true =>
  have hs : 4 ≤ x.s ∧ x.s ≤ 96 := by simpa [within] using h1
  have ht : 1 ≤ x.t ∧ x.t ≤ 100 := by simpa [within] using h2
  simp [h1, h2]
  refine ⟨fun h => ?_, fun h3 => ?_⟩
  · cases hc : cylOk x with
    | false => rfl
    | true => have := ((cylOk_iff x).1 hc).2.2.1; omega
  have hc : cylOk x = true ↔ ∀ j (hj : j < x.p.length), goodPin x j hj := by
    rw [cylOk_iff, h1, h2]; simp; intro _; omega
  refine loop_upto x.p.length (fun k => [.int .i64 k, .int .i64 x.s, .int .i64 x.t, vL I2 v2 x.p]) (by intro i j _ _ h; simp at h; omega) (fun k => ∀ j (hj : j < x.p.length), j < k → goodPin x j hj) (by simp) (by simp) ?_
  intro k hk hP
  rw [spec_CylinderOk_b0_sh]
  simp
  refine ⟨fun h => ?_, fun h => ?_⟩
  · have hbad : ¬ goodPin x k h → cylOk x = false := fun hn => by
      cases hcc : cylOk x with
      | false => rfl
      | true => exact absurd (hc.1 hcc k h) hn
    have hgood : goodPin x k h → ∀ j (hj : j < x.p.length), j < k + 1 → goodPin x j hj := fun hg j hj hjk => by
      by_cases hjk2 : j = k
      · subst hjk2; exact hg
      · exact hP j hj (by omega)
    simp (disch := omega) only [h, List.getElem?_eq_getElem, Option.some.injEq, exists_eq_left', wrap_id]
    cases e1 : within x.p[k].a 0 (x.t - 1) with
    | false => simp; exact hbad (by simp [goodPin, pinIn, e1])
    | true =>
    cases e2 : within x.p[k].b 0 (x.s - 1) with
    | false => simp; exact hbad (by simp [goodPin, pinIn, e1, e2])
    | true =>
    have hk1 : ((k : Int) - 1).toNat = k - 1 := by omega
    have hk2 : k - 1 < x.p.length := by omega
    simp (disch := omega) [hk1]
    refine ⟨fun hk0 => ⟨by omega, fun e3 => hbad (by simp [goodPin, e3, hk0]), fun e3 => ?_⟩, fun hk0 => ?_⟩
    · exact hgood (by simp [goodPin, pinIn, e1, e2, e3])
    · exact hgood ⟨by simp [pinIn, e1, e2], fun hh => by omega⟩
  · obtain rfl : k = x.p.length := by omega
    simp [spec_CylinderOk_r1_sh]
    exact (hc.2 fun j hj => hP j hj hj)
theorem impl_CylinderOk_ok : ∀ ds outs, F_CylinderOk ds = some outs → shL impl_CylinderOk_L (qRet outs) ds := F_CylinderOk_elim fun x hp => by
  rw [impl_CylinderOk_L_sh]
  cases h1 : within x.s 4 96 with
  | false => simp [h1, cylOk]
  | true =>
  cases h2 : within x.t 1 100 with
  | false => simp [h1, h2, cylOk]
  | true =>
  have hs : 4 ≤ x.s ∧ x.s ≤ 96 := by simpa [within] using h1
  have ht : 1 ≤ x.t ∧ x.t ≤ 100 := by simpa [within] using h2
  simp [h1, h2]
  refine ⟨fun h => ?_, fun h3 => ?_⟩
  · cases hc : cylOk x with
    | false => rfl
    | true => have := ((cylOk_iff x).1 hc).2.2.1; omega
  have hc : cylOk x = true ↔ ∀ j (hj : j < x.p.length), goodPin x j hj := by
    rw [cylOk_iff, h1, h2]; simp; intro _; omega
  refine loop_upto x.p.length (fun k => [vL I2 v2 x.p, .int .i64 x.p.length, .int .i64 k, .int .i64 x.s, .int .i64 x.t, vL I2 v2 x.p]) (by intro i j _ _ h; simp at h; omega) (fun k => ∀ j (hj : j < x.p.length), j < k → goodPin x j hj) (by simp) (by simp) ?_
  intro k hk hP
  rw [impl_CylinderOk_b0_sh]
  simp
  refine ⟨fun h => ?_, fun h => ?_⟩
  · have hbad : ¬ goodPin x k h → cylOk x = false := fun hn => by
      cases hcc : cylOk x with
      | false => rfl
      | true => exact absurd (hc.1 hcc k h) hn
    have hgood : goodPin x k h → ∀ j (hj : j < x.p.length), j < k + 1 → goodPin x j hj := fun hg j hj hjk => by
      by_cases hjk2 : j = k
      · subst hjk2; exact hg
      · exact hP j hj (by omega)
    simp (disch := omega) only [h, List.getElem?_eq_getElem, Option.some.injEq, exists_eq_left', wrap_id]
    cases e1 : within x.p[k].a 0 (x.t - 1) with
    | false => simp; exact hbad (by simp [goodPin, pinIn, e1])
    | true =>
    cases e2 : within x.p[k].b 0 (x.s - 1) with
    | false => simp; exact hbad (by simp [goodPin, pinIn, e1, e2])
    | true =>
    have hk1 : ((k : Int) - 1).toNat = k - 1 := by omega
    have hk2 : k - 1 < x.p.length := by omega
    simp (disch := omega) [hk1]
    refine ⟨fun hk0 => ⟨by omega, fun e3 => hbad ?_, fun e3 => ?_⟩, fun hk0 => ?_⟩
    · simp only [goodPin, hk0, forall_const, not_and]
      intro _ e4
      simp [e4] at e3
    · refine hgood ⟨by simp [pinIn, e1, e2], fun _ => ?_⟩
      by_cases e4 : pinLess x.p[k - 1] x.p[k] = true
      · exact e4
      · rw [if_neg e4] at e3
        split at e3 <;> omega
    · exact hgood ⟨by simp [pinIn, e1, e2], fun hh => by omega⟩
  · obtain rfl : k = x.p.length := by omega
    simp [impl_CylinderOk_r1_sh]
    exact (hc.2 fun j hj => hP j hj hj)

end Go.Mw

namespace Go.Mw
theorem cylOk_bounds {x : Cyl} (h : cylOk x = true) : (4 ≤ x.s ∧ x.s ≤ 96) ∧ (1 ≤ x.t ∧ x.t ≤ 100) ∧ x.p.length ≤ 100 := by
  have h := (cylOk_iff x).1 h
  exact ⟨by simpa [within] using h.1, by simpa [within] using h.2.1, h.2.2.1⟩
theorem cylOk_pin {x : Cyl} (h : cylOk x = true) {k : Nat} (hk : k < x.p.length) : (0 ≤ x.p[k].a ∧ x.p[k].a ≤ 99) ∧ (0 ≤ x.p[k].b ∧ x.p[k].b ≤ 95) := by
  have hb := cylOk_bounds h
  have h := (((cylOk_iff x).1 h).2.2.2 k hk).1
  simp [pinIn, within] at h
  omega
end Go.Mw

namespace Go.Mw
theorem around_eq {n s : Int} (hs : 1 ≤ s) : (n.tmod s + s).tmod s = n % s := by
  have h2 := Int.lt_tmod_of_pos n (b := s) (by omega)
  rw [Int.tmod_eq_emod_of_nonneg (by omega), Int.add_emod_right]
  have e := Int.tmod_add_mul_tdiv n s
  rw [show n % s = (n.tmod s + s * n.tdiv s) % s by rw [e], Int.add_mul_emod_self_left]
theorem spec_l06Mod_ok : ∀ ds outs, F_l06Mod ds = some outs → shL spec_l06Mod_L (qRet outs) ds := F_l06Mod_elim fun n s hp => by
  rw [spec_l06Mod_L_sh]
  have h1 := Int.tmod_lt_of_pos n (b := s) (by omega)
  have h2 := Int.lt_tmod_of_pos n (b := s) (by omega)
  simp (disch := omega) [wrap_id, around_eq]
  omega
def pinsGo (x : Cyl) (a : Int) (k : Nat) : List Int := ((x.p.take k).filter fun p => p.b == a % x.s).map (·.a)
theorem pinsGo_succ {x : Cyl} {a : Int} {k : Nat} (h : k < x.p.length) : pinsGo x a (k + 1) = pinsGo x a k ++ (if x.p[k].b = a % x.s then [x.p[k].a] else []) := by
  unfold pinsGo
  rw [take_succ_get h, List.filter_append, List.map_append]
  congr 1
  by_cases h2 : x.p[k].b = a % x.s <;> simp [h2]
theorem pinsGo_len {x : Cyl} {a : Int} {k : Nat} (h : k ≤ x.p.length) : (pinsGo x a k).length ≤ k := by
  unfold pinsGo
  rw [List.length_map]
  refine Nat.le_trans (List.length_filter_le _ _) ?_
  simp; omega
theorem spec_PinsAt_ok : ∀ ds outs, F_PinsAt ds = some outs → shL spec_PinsAt_L (qRet outs) ds := F_PinsAt_elim fun x a hp => by
  rw [spec_PinsAt_L_sh]
  rw [P1_lst0, p_CylinderOk hp]
  cases h : cylOk x with
  | false => simp [pinsAt, h]
  | true =>
    have hb := cylOk_bounds h
    cases h2 : within a (-1000000) 1000000 with
    | false => simp [pinsAt, h, h2]
    | true =>
      have hw : -1000000 ≤ a ∧ a ≤ 1000000 := by simpa [within] using h2
      simp [pinsAt, h, h2]
      refine loop_upto x.p.length (fun k => [.int .i64 a, .int .i64 k, vL I1 v1 (pinsGo x a k), .int .i64 x.s, .int .i64 x.t, vL I2 v2 x.p]) (by intro i j _ _ h; simp at h; omega) (fun _ => True) (by simp [pinsGo]) trivial ?_
      intro k hk _
      have hl := pinsGo_len (a := a) hk
      rw [spec_PinsAt_b0_sh]
      simp [p_l06Mod (n := a) (s := x.s) (by omega)]
      refine ⟨fun h3 => ?_, fun h3 => ?_⟩
      · rw [pinsGo_succ h3]
        by_cases h4 : x.p[k].b = a % x.s
        · simp (disch := omega) [h3, h4, wrap_id]
          omega
        · simp (disch := omega) [h3, h4, wrap_id]
      · obtain rfl : k = x.p.length := by omega
        simp [spec_PinsAt_r1_sh, pinsGo]
theorem sttOk_iff (x : Cyl) (y : Stt) : sttOk x y = true ↔ cylOk x = true ∧ (0 ≤ y.a ∧ y.a ≤ x.s - 1) ∧ (0 ≤ y.p ∧ y.p ≤ 100000) := by
  simp [sttOk, within]
end Go.Mw

namespace Go.Mw
theorem canStep_iff (x : Cyl) (y : Stt) : canStep x y = true ↔ sttOk x y = true ∧ y.n = true ∧ sttOk x (nextStt x y) = true := by
  simp [canStep, and_assoc]
theorem itS_on {x : Cyl} {y : Stt} (h : sttOk x y = true) (hn : y.n = true) : ∀ k, k < runN x y → (itS x y k).a = y.a + k ∧ (itS x y k).n = true
  | 0, _ => by simp [itS, hn]
  | k + 1, hk => by
    have ih := itS_on h hn k (by omega)
    have hs := (sttOk_iff x y).1 h
    unfold runN at hk
    have e : (y.a + k + 1) % x.s = y.a + k + 1 := Int.emod_eq_of_lt (by omega) (by omega)
    simp only [itS, nextStt, ih.1, e]
    simp; omega
theorem itS_off {x : Cyl} {y : Stt} (h : sttOk x y = true) (hn : y.n = true) : (itS x y (runN x y)).a = 0 ∧ (itS x y (runN x y)).n = false := by
  have hs := (sttOk_iff x y).1 h
  obtain ⟨k, hk⟩ : ∃ k, runN x y = k + 1 := ⟨runN x y - 1, by unfold runN; omega⟩
  have ih := itS_on h hn k (by omega)
  rw [hk]
  have e : (y.a + k + 1) % x.s = 0 := by
    rw [show y.a + k + 1 = x.s by unfold runN at hk; omega, Int.emod_self]
  simp only [itS, nextStt, ih.1, e]
  simp
end Go.Mw

namespace Go.Mw
theorem areDigits_iff {l : List Int} {a b : Int} : areDigits l a b = true ↔ within l.length a b = true ∧ ∀ x ∈ l, within x 0 9 = true := by
  simp [areDigits]
theorem impl_copyInts_ok : ∀ ds outs, F_copyInts ds = some outs → shL impl_copyInts_L (qRet outs) ds := F_copyInts_elim fun l hp => by
  rw [impl_copyInts_L_sh]
  simp []; omega
end Go.Mw

namespace Go.Mw
end Go.Mw

namespace Go.Mw
end Go.Mw

namespace Go.Mw
theorem impl_magnitude_ok : ∀ ds outs, F_magnitude ds = some outs → shL impl_magnitude_L (qRet outs) ds := F_magnitude_elim fun n hp => by
  rw [impl_magnitude_L_sh]
  by_cases h : n < 0
  · simp (disch := omega) [mag, h, wrap_id]
  · simp [mag, h]

def seenOf (l : List Int) (n : Nat) : List Bool := (List.range n).map fun j : Nat => decide ((j : Int) ∈ l)
@[simp] theorem seenOf_len {l : List Int} {n : Nat} : (seenOf l n).length = n := by simp [seenOf]
end Go.Mw

namespace Go.Mw
def sum2 (l : List (List T2)) : Nat := (l.map List.length).sum
def fitLL (l : List (List T2)) : Prop := l.length ≤ 1048576 ∧ ∀ x ∈ l, x.length ≤ 1048576
def benchOk (b : Bench) : Bool := cylOk ⟨b.s, b.t, b.p⟩ && (decide (b.o.length ≤ 30) && b.o.all fun p => cylOk ⟨b.s, b.t, p⟩)
def E_BenchOk (x : Bench) : List V := [.int .i64 x.s, .int .i64 x.t, vL I2 v2 x.p, vL IL2 vLL2 x.o]
noncomputable def F_BenchOk : List V → Option (List V) := mkF E_BenchOk (fun x => x.p.length ≤ 1048576 ∧ fitLL x.o) (fun x => [.bool (benchOk x)])
theorem F_BenchOk_inj : ∀ x y, E_BenchOk x = E_BenchOk y → x = y := by
  rintro ⟨xs, xt, xp, xo⟩ ⟨xs', xt', xp', xo'⟩ h
  simpa [E_BenchOk] using h
theorem F_BenchOk_elim {P : List V → List V → Prop} (h : ∀ (x : Bench), (x.p.length ≤ 1048576 ∧ fitLL x.o) → P [.int .i64 x.s, .int .i64 x.t, vL I2 v2 x.p, vL IL2 vLL2 x.o] [.bool (benchOk x)]) : ∀ ds outs, F_BenchOk ds = some outs → P ds outs := by
  intro ds outs hh
  obtain ⟨x, rfl, hp, rfl⟩ := mkF_inv hh
  exact h x hp
theorem p_BenchOk {x_s : Int} {x_t : Int} {x_p : List T2} {x_o : List (List T2)} {nr_ : Nat} {kk_ : V → Prop} (hp : (⟨x_s, x_t, x_p, x_o⟩ : Bench).p.length ≤ 1048576 ∧ fitLL (⟨x_s, x_t, x_p, x_o⟩ : Bench).o) : P1 (.call F_BenchOk 0 nr_) [.int .i64 x_s, .int .i64 x_t, vL I2 v2 x_p, vL IL2 vLL2 x_o] kk_ ↔ kk_ (.bool (benchOk (⟨x_s, x_t, x_p, x_o⟩ : Bench))) :=
  P1_callF (by unfold F_BenchOk; exact mkF_eq F_BenchOk_inj ((⟨x_s, x_t, x_p, x_o⟩ : Bench)) hp)

def newBench (s t : Int) : Bench := if benchOk ⟨s, t, [], []⟩ then ⟨s, t, [], []⟩ else ⟨0, 0, [], []⟩
def E_NewBench : Int × Int → List V := fun (s, t) => [.int .i64 s, .int .i64 t]
noncomputable def F_NewBench : List V → Option (List V) := mkF E_NewBench (fun (_, _) => True) (fun (s, t) => [.int .i64 (newBench s t).s, .int .i64 (newBench s t).t, vL I2 v2 (newBench s t).p, vL IL2 vLL2 (newBench s t).o, .bool (benchOk ⟨s, t, [], []⟩)])
theorem F_NewBench_inj : ∀ x y, E_NewBench x = E_NewBench y → x = y := by
  rintro ⟨s, t⟩ ⟨s', t'⟩ h
  simpa [E_NewBench] using h
theorem F_NewBench_elim {P : List V → List V → Prop} (h : ∀ (s : Int) (t : Int), P [.int .i64 s, .int .i64 t] [.int .i64 (newBench s t).s, .int .i64 (newBench s t).t, vL I2 v2 (newBench s t).p, vL IL2 vLL2 (newBench s t).o, .bool (benchOk ⟨s, t, [], []⟩)]) : ∀ ds outs, F_NewBench ds = some outs → P ds outs := by
  intro ds outs hh
  obtain ⟨⟨s, t⟩, rfl, -, rfl⟩ := mkF_inv hh
  exact h s t
@[simp] theorem p_NewBench {s : Int} {t : Int} {nr_ : Nat} {kk_ : V → V → V → V → V → Prop} : P5 (.call F_NewBench 0 nr_) [.int .i64 s, .int .i64 t] kk_ ↔ kk_ (.int .i64 (newBench s t).s) (.int .i64 (newBench s t).t) (vL I2 v2 (newBench s t).p) (vL IL2 vLL2 (newBench s t).o) (.bool (benchOk ⟨s, t, [], []⟩)) :=
  P5_callF (by unfold F_NewBench; exact mkF_eq F_NewBench_inj (s, t) trivial)

def E_copyPins (l : List T2) : List V := [vL I2 v2 l]
noncomputable def F_copyPins : List V → Option (List V) := mkF E_copyPins (fun l => l.length ≤ 4194304) (fun l => [vL I2 v2 l])
theorem F_copyPins_inj : ∀ x y, E_copyPins x = E_copyPins y → x = y := by
  rintro l l' h
  simpa [E_copyPins] using h
theorem F_copyPins_elim {P : List V → List V → Prop} (h : ∀ (l : List T2), (l.length ≤ 4194304) → P [vL I2 v2 l] [vL I2 v2 l]) : ∀ ds outs, F_copyPins ds = some outs → P ds outs := by
  intro ds outs hh
  obtain ⟨l, rfl, hp, rfl⟩ := mkF_inv hh
  exact h l hp
theorem p_copyPins {l : List T2} {nr_ : Nat} {kk_ : V → Prop} (hp : l.length ≤ 4194304) : P1 (.call F_copyPins 0 nr_) [vL I2 v2 l] kk_ ↔ kk_ (vL I2 v2 l) :=
  P1_callF (by unfold F_copyPins; exact mkF_eq F_copyPins_inj (l) hp)

def E_copyCylinder (x : Cyl) : List V := [.int .i64 x.s, .int .i64 x.t, vL I2 v2 x.p]
noncomputable def F_copyCylinder : List V → Option (List V) := mkF E_copyCylinder (fun x => x.p.length ≤ 4194304) (fun x => [.int .i64 x.s, .int .i64 x.t, vL I2 v2 x.p])
theorem F_copyCylinder_inj : ∀ x y, E_copyCylinder x = E_copyCylinder y → x = y := by
  rintro ⟨xs, xt, xp⟩ ⟨xs', xt', xp'⟩ h
  simpa [E_copyCylinder] using h
theorem F_copyCylinder_elim {P : List V → List V → Prop} (h : ∀ (x : Cyl), (x.p.length ≤ 4194304) → P [.int .i64 x.s, .int .i64 x.t, vL I2 v2 x.p] [.int .i64 x.s, .int .i64 x.t, vL I2 v2 x.p]) : ∀ ds outs, F_copyCylinder ds = some outs → P ds outs := by
  intro ds outs hh
  obtain ⟨x, rfl, hp, rfl⟩ := mkF_inv hh
  exact h x hp
theorem p_copyCylinder {x_s : Int} {x_t : Int} {x_p : List T2} {nr_ : Nat} {kk_ : V → V → V → Prop} (hp : (⟨x_s, x_t, x_p⟩ : Cyl).p.length ≤ 4194304) : P3 (.call F_copyCylinder 0 nr_) [.int .i64 x_s, .int .i64 x_t, vL I2 v2 x_p] kk_ ↔ kk_ (.int .i64 ((⟨x_s, x_t, x_p⟩ : Cyl)).s) (.int .i64 ((⟨x_s, x_t, x_p⟩ : Cyl)).t) (vL I2 v2 ((⟨x_s, x_t, x_p⟩ : Cyl)).p) :=
  P3_callF (by unfold F_copyCylinder; exact mkF_eq F_copyCylinder_inj ((⟨x_s, x_t, x_p⟩ : Cyl)) hp)

def E_l06Copy (x : Cyl) : List V := [.int .i64 x.s, .int .i64 x.t, vL I2 v2 x.p]
noncomputable def F_l06Copy : List V → Option (List V) := mkF E_l06Copy (fun x => x.p.length ≤ 4194304) (fun x => [.int .i64 x.s, .int .i64 x.t, vL I2 v2 x.p])
theorem F_l06Copy_inj : ∀ x y, E_l06Copy x = E_l06Copy y → x = y := by
  rintro ⟨xs, xt, xp⟩ ⟨xs', xt', xp'⟩ h
  simpa [E_l06Copy] using h
theorem F_l06Copy_elim {P : List V → List V → Prop} (h : ∀ (x : Cyl), (x.p.length ≤ 4194304) → P [.int .i64 x.s, .int .i64 x.t, vL I2 v2 x.p] [.int .i64 x.s, .int .i64 x.t, vL I2 v2 x.p]) : ∀ ds outs, F_l06Copy ds = some outs → P ds outs := by
  intro ds outs hh
  obtain ⟨x, rfl, hp, rfl⟩ := mkF_inv hh
  exact h x hp
theorem p_l06Copy {x_s : Int} {x_t : Int} {x_p : List T2} {nr_ : Nat} {kk_ : V → V → V → Prop} (hp : (⟨x_s, x_t, x_p⟩ : Cyl).p.length ≤ 4194304) : P3 (.call F_l06Copy 0 nr_) [.int .i64 x_s, .int .i64 x_t, vL I2 v2 x_p] kk_ ↔ kk_ (.int .i64 ((⟨x_s, x_t, x_p⟩ : Cyl)).s) (.int .i64 ((⟨x_s, x_t, x_p⟩ : Cyl)).t) (vL I2 v2 ((⟨x_s, x_t, x_p⟩ : Cyl)).p) :=
  P3_callF (by unfold F_l06Copy; exact mkF_eq F_l06Copy_inj ((⟨x_s, x_t, x_p⟩ : Cyl)) hp)

def E_copyBench (x : Bench) : List V := [.int .i64 x.s, .int .i64 x.t, vL I2 v2 x.p, vL IL2 vLL2 x.o]
noncomputable def F_copyBench : List V → Option (List V) := mkF E_copyBench (fun x => x.p.length ≤ 1048576 ∧ fitLL x.o) (fun x => [.int .i64 x.s, .int .i64 x.t, vL I2 v2 x.p, vL IL2 vLL2 x.o])
theorem F_copyBench_inj : ∀ x y, E_copyBench x = E_copyBench y → x = y := by
  rintro ⟨xs, xt, xp, xo⟩ ⟨xs', xt', xp', xo'⟩ h
  simpa [E_copyBench] using h
theorem F_copyBench_elim {P : List V → List V → Prop} (h : ∀ (x : Bench), (x.p.length ≤ 1048576 ∧ fitLL x.o) → P [.int .i64 x.s, .int .i64 x.t, vL I2 v2 x.p, vL IL2 vLL2 x.o] [.int .i64 x.s, .int .i64 x.t, vL I2 v2 x.p, vL IL2 vLL2 x.o]) : ∀ ds outs, F_copyBench ds = some outs → P ds outs := by
  intro ds outs hh
  obtain ⟨x, rfl, hp, rfl⟩ := mkF_inv hh
  exact h x hp
theorem p_copyBench {x_s : Int} {x_t : Int} {x_p : List T2} {x_o : List (List T2)} {nr_ : Nat} {kk_ : V → V → V → V → Prop} (hp : (⟨x_s, x_t, x_p, x_o⟩ : Bench).p.length ≤ 1048576 ∧ fitLL (⟨x_s, x_t, x_p, x_o⟩ : Bench).o) : P4 (.call F_copyBench 0 nr_) [.int .i64 x_s, .int .i64 x_t, vL I2 v2 x_p, vL IL2 vLL2 x_o] kk_ ↔ kk_ (.int .i64 ((⟨x_s, x_t, x_p, x_o⟩ : Bench)).s) (.int .i64 ((⟨x_s, x_t, x_p, x_o⟩ : Bench)).t) (vL I2 v2 ((⟨x_s, x_t, x_p, x_o⟩ : Bench)).p) (vL IL2 vLL2 ((⟨x_s, x_t, x_p, x_o⟩ : Bench)).o) :=
  P4_callF (by unfold F_copyBench; exact mkF_eq F_copyBench_inj ((⟨x_s, x_t, x_p, x_o⟩ : Bench)) hp)

def E_l37Copy (x : Bench) : List V := [.int .i64 x.s, .int .i64 x.t, vL I2 v2 x.p, vL IL2 vLL2 x.o]
noncomputable def F_l37Copy : List V → Option (List V) := mkF E_l37Copy (fun x => x.p.length ≤ 1048576 ∧ fitLL x.o) (fun x => [.int .i64 x.s, .int .i64 x.t, vL I2 v2 x.p, vL IL2 vLL2 x.o])
theorem F_l37Copy_inj : ∀ x y, E_l37Copy x = E_l37Copy y → x = y := by
  rintro ⟨xs, xt, xp, xo⟩ ⟨xs', xt', xp', xo'⟩ h
  simpa [E_l37Copy] using h
theorem F_l37Copy_elim {P : List V → List V → Prop} (h : ∀ (x : Bench), (x.p.length ≤ 1048576 ∧ fitLL x.o) → P [.int .i64 x.s, .int .i64 x.t, vL I2 v2 x.p, vL IL2 vLL2 x.o] [.int .i64 x.s, .int .i64 x.t, vL I2 v2 x.p, vL IL2 vLL2 x.o]) : ∀ ds outs, F_l37Copy ds = some outs → P ds outs := by
  intro ds outs hh
  obtain ⟨x, rfl, hp, rfl⟩ := mkF_inv hh
  exact h x hp
theorem p_l37Copy {x_s : Int} {x_t : Int} {x_p : List T2} {x_o : List (List T2)} {nr_ : Nat} {kk_ : V → V → V → V → Prop} (hp : (⟨x_s, x_t, x_p, x_o⟩ : Bench).p.length ≤ 1048576 ∧ fitLL (⟨x_s, x_t, x_p, x_o⟩ : Bench).o) : P4 (.call F_l37Copy 0 nr_) [.int .i64 x_s, .int .i64 x_t, vL I2 v2 x_p, vL IL2 vLL2 x_o] kk_ ↔ kk_ (.int .i64 ((⟨x_s, x_t, x_p, x_o⟩ : Bench)).s) (.int .i64 ((⟨x_s, x_t, x_p, x_o⟩ : Bench)).t) (vL I2 v2 ((⟨x_s, x_t, x_p, x_o⟩ : Bench)).p) (vL IL2 vLL2 ((⟨x_s, x_t, x_p, x_o⟩ : Bench)).o) :=
  P4_callF (by unfold F_l37Copy; exact mkF_eq F_l37Copy_inj ((⟨x_s, x_t, x_p, x_o⟩ : Bench)) hp)

def E_hasPin : List T2 × T2 → List V := fun (l, x) => [vL I2 v2 l, .int .i64 x.a, .int .i64 x.b]
noncomputable def F_hasPin : List V → Option (List V) := mkF E_hasPin (fun (l, _) => l.length ≤ 1048576) (fun (l, x) => [.bool (decide (x ∈ l))])
theorem F_hasPin_inj : ∀ x y, E_hasPin x = E_hasPin y → x = y := by
  rintro ⟨l, ⟨xa, xb⟩⟩ ⟨l', ⟨xa', xb'⟩⟩ h
  simpa [E_hasPin, and_assoc] using h
theorem F_hasPin_elim {P : List V → List V → Prop} (h : ∀ (l : List T2) (x : T2), (l.length ≤ 1048576) → P [vL I2 v2 l, .int .i64 x.a, .int .i64 x.b] [.bool (decide (x ∈ l))]) : ∀ ds outs, F_hasPin ds = some outs → P ds outs := by
  intro ds outs hh
  obtain ⟨⟨l, x⟩, rfl, hp, rfl⟩ := mkF_inv hh
  exact h l x hp
theorem p_hasPin {l : List T2} {x_a : Int} {x_b : Int} {nr_ : Nat} {kk_ : V → Prop} (hp : l.length ≤ 1048576) : P1 (.call F_hasPin 0 nr_) [vL I2 v2 l, .int .i64 x_a, .int .i64 x_b] kk_ ↔ kk_ (.bool (decide ((⟨x_a, x_b⟩ : T2) ∈ l))) :=
  P1_callF (by unfold F_hasPin; exact mkF_eq F_hasPin_inj (l, (⟨x_a, x_b⟩ : T2)) hp)

def missing (a b : List T2) : Int := (a.filter fun p => decide (p ∉ b)).length
def pullPin (c : Cyl) (k : Int) : List T2 := if cylOk c && (decide (0 ≤ k) && decide (k < c.p.length)) then c.p.take k.toNat ++ c.p.drop (k.toNat + 1) else c.p
def E_PullPin : Cyl × Int → List V := fun (x, k) => [.int .i64 x.s, .int .i64 x.t, vL I2 v2 x.p, .int .i64 k]
noncomputable def F_PullPin : List V → Option (List V) := mkF E_PullPin (fun (x, _) => x.p.length ≤ 1048576) (fun (x, k) => [.int .i64 ((⟨x.s, x.t, pullPin x k⟩ : Cyl)).s, .int .i64 ((⟨x.s, x.t, pullPin x k⟩ : Cyl)).t, vL I2 v2 ((⟨x.s, x.t, pullPin x k⟩ : Cyl)).p, .bool (cylOk x && (decide (0 ≤ k) && decide (k < x.p.length)))])
theorem F_PullPin_inj : ∀ x y, E_PullPin x = E_PullPin y → x = y := by
  rintro ⟨⟨xs, xt, xp⟩, k⟩ ⟨⟨xs', xt', xp'⟩, k'⟩ h
  simpa [E_PullPin, and_assoc] using h
theorem F_PullPin_elim {P : List V → List V → Prop} (h : ∀ (x : Cyl) (k : Int), (x.p.length ≤ 1048576) → P [.int .i64 x.s, .int .i64 x.t, vL I2 v2 x.p, .int .i64 k] [.int .i64 ((⟨x.s, x.t, pullPin x k⟩ : Cyl)).s, .int .i64 ((⟨x.s, x.t, pullPin x k⟩ : Cyl)).t, vL I2 v2 ((⟨x.s, x.t, pullPin x k⟩ : Cyl)).p, .bool (cylOk x && (decide (0 ≤ k) && decide (k < x.p.length)))]) : ∀ ds outs, F_PullPin ds = some outs → P ds outs := by
  intro ds outs hh
  obtain ⟨⟨x, k⟩, rfl, hp, rfl⟩ := mkF_inv hh
  exact h x k hp
theorem p_PullPin {x_s : Int} {x_t : Int} {x_p : List T2} {k : Int} {nr_ : Nat} {kk_ : V → V → V → V → Prop} (hp : (⟨x_s, x_t, x_p⟩ : Cyl).p.length ≤ 1048576) : P4 (.call F_PullPin 0 nr_) [.int .i64 x_s, .int .i64 x_t, vL I2 v2 x_p, .int .i64 k] kk_ ↔ kk_ (.int .i64 ((⟨(⟨x_s, x_t, x_p⟩ : Cyl).s, (⟨x_s, x_t, x_p⟩ : Cyl).t, pullPin (⟨x_s, x_t, x_p⟩ : Cyl) k⟩ : Cyl)).s) (.int .i64 ((⟨(⟨x_s, x_t, x_p⟩ : Cyl).s, (⟨x_s, x_t, x_p⟩ : Cyl).t, pullPin (⟨x_s, x_t, x_p⟩ : Cyl) k⟩ : Cyl)).t) (vL I2 v2 ((⟨(⟨x_s, x_t, x_p⟩ : Cyl).s, (⟨x_s, x_t, x_p⟩ : Cyl).t, pullPin (⟨x_s, x_t, x_p⟩ : Cyl) k⟩ : Cyl)).p) (.bool (cylOk (⟨x_s, x_t, x_p⟩ : Cyl) && (decide (0 ≤ k) && decide (k < (⟨x_s, x_t, x_p⟩ : Cyl).p.length)))) :=
  P4_callF (by unfold F_PullPin; exact mkF_eq F_PullPin_inj ((⟨x_s, x_t, x_p⟩ : Cyl), k) hp)


def upward : List Int → Bool
  | [] => true
  | [_] => true
  | a :: b :: r => decide (a ≤ b) && upward (b :: r)
def combOk (l : List Int) : Bool := within l.length 1 24 && (l.all (within · 0 60) && upward l)
def E_CombOk (l : List Int) : List V := [vL I1 v1 l]
noncomputable def F_CombOk : List V → Option (List V) := mkF E_CombOk (fun l => l.length ≤ 1048576) (fun l => [.bool (combOk l)])
theorem F_CombOk_inj : ∀ x y, E_CombOk x = E_CombOk y → x = y := by
  rintro l l' h
  simpa [E_CombOk] using h
theorem F_CombOk_elim {P : List V → List V → Prop} (h : ∀ (l : List Int), (l.length ≤ 1048576) → P [vL I1 v1 l] [.bool (combOk l)]) : ∀ ds outs, F_CombOk ds = some outs → P ds outs := by
  intro ds outs hh
  obtain ⟨l, rfl, hp, rfl⟩ := mkF_inv hh
  exact h l hp
theorem p_CombOk {l : List Int} {nr_ : Nat} {kk_ : V → Prop} (hp : l.length ≤ 1048576) : P1 (.call F_CombOk 0 nr_) [vL I1 v1 l] kk_ ↔ kk_ (.bool (combOk l)) :=
  P1_callF (by unfold F_CombOk; exact mkF_eq F_CombOk_inj (l) hp)

def springOk (s : T3) : Bool := within s.b 1 50 && (within s.a 0 s.b && within s.c 1 10000)
def E_SpringOk (x : T3) : List V := [.int .i64 x.a, .int .i64 x.b, .int .i64 x.c]
noncomputable def F_SpringOk : List V → Option (List V) := mkF E_SpringOk (fun _ => True) (fun x => [.bool (springOk x)])
theorem F_SpringOk_inj : ∀ x y, E_SpringOk x = E_SpringOk y → x = y := by
  rintro ⟨xa, xb, xc⟩ ⟨xa', xb', xc'⟩ h
  simpa [E_SpringOk] using h
theorem F_SpringOk_elim {P : List V → List V → Prop} (h : ∀ (x : T3), P [.int .i64 x.a, .int .i64 x.b, .int .i64 x.c] [.bool (springOk x)]) : ∀ ds outs, F_SpringOk ds = some outs → P ds outs := by
  intro ds outs hh
  obtain ⟨x, rfl, -, rfl⟩ := mkF_inv hh
  exact h x
@[simp] theorem p_SpringOk {x_a : Int} {x_b : Int} {x_c : Int} {nr_ : Nat} {kk_ : V → Prop} : P1 (.call F_SpringOk 0 nr_) [.int .i64 x_a, .int .i64 x_b, .int .i64 x_c] kk_ ↔ kk_ (.bool (springOk (⟨x_a, x_b, x_c⟩ : T3))) :=
  P1_callF (by unfold F_SpringOk; exact mkF_eq F_SpringOk_inj ((⟨x_a, x_b, x_c⟩ : T3)) trivial)

def Shop.bench (w : Shop) : Bench := ⟨w.s, w.t, w.p, w.o⟩
def shopOk (w : Shop) : Bool := benchOk w.bench && (combOk w.c && (springOk ⟨w.u, w.m, w.f⟩ && (decide (w.t = w.c.length) && (within w.y 0 1000000 && within w.d 0 1000000))))
def E_WorkshopOk (x : Shop) : List V := [.int .i64 x.s, .int .i64 x.t, vL I2 v2 x.p, vL IL2 vLL2 x.o, vL I1 v1 x.c, .int .i64 x.u, .int .i64 x.m, .int .i64 x.f, .int .i64 x.y, .int .i64 x.d]
noncomputable def F_WorkshopOk : List V → Option (List V) := mkF E_WorkshopOk (fun x => x.p.length ≤ 1048576 ∧ fitLL x.o ∧ x.c.length ≤ 1048576) (fun x => [.bool (shopOk x)])
theorem F_WorkshopOk_inj : ∀ x y, E_WorkshopOk x = E_WorkshopOk y → x = y := by
  rintro ⟨xs, xt, xp, xo, xc, xu, xm, xf, xy, xd⟩ ⟨xs', xt', xp', xo', xc', xu', xm', xf', xy', xd'⟩ h
  simpa [E_WorkshopOk] using h
theorem F_WorkshopOk_elim {P : List V → List V → Prop} (h : ∀ (x : Shop), (x.p.length ≤ 1048576 ∧ fitLL x.o ∧ x.c.length ≤ 1048576) → P [.int .i64 x.s, .int .i64 x.t, vL I2 v2 x.p, vL IL2 vLL2 x.o, vL I1 v1 x.c, .int .i64 x.u, .int .i64 x.m, .int .i64 x.f, .int .i64 x.y, .int .i64 x.d] [.bool (shopOk x)]) : ∀ ds outs, F_WorkshopOk ds = some outs → P ds outs := by
  intro ds outs hh
  obtain ⟨x, rfl, hp, rfl⟩ := mkF_inv hh
  exact h x hp
theorem p_WorkshopOk {x_s : Int} {x_t : Int} {x_p : List T2} {x_o : List (List T2)} {x_c : List Int} {x_u : Int} {x_m : Int} {x_f : Int} {x_y : Int} {x_d : Int} {nr_ : Nat} {kk_ : V → Prop} (hp : (⟨x_s, x_t, x_p, x_o, x_c, x_u, x_m, x_f, x_y, x_d⟩ : Shop).p.length ≤ 1048576 ∧ fitLL (⟨x_s, x_t, x_p, x_o, x_c, x_u, x_m, x_f, x_y, x_d⟩ : Shop).o ∧ (⟨x_s, x_t, x_p, x_o, x_c, x_u, x_m, x_f, x_y, x_d⟩ : Shop).c.length ≤ 1048576) : P1 (.call F_WorkshopOk 0 nr_) [.int .i64 x_s, .int .i64 x_t, vL I2 v2 x_p, vL IL2 vLL2 x_o, vL I1 v1 x_c, .int .i64 x_u, .int .i64 x_m, .int .i64 x_f, .int .i64 x_y, .int .i64 x_d] kk_ ↔ kk_ (.bool (shopOk (⟨x_s, x_t, x_p, x_o, x_c, x_u, x_m, x_f, x_y, x_d⟩ : Shop))) :=
  P1_callF (by unfold F_WorkshopOk; exact mkF_eq F_WorkshopOk_inj ((⟨x_s, x_t, x_p, x_o, x_c, x_u, x_m, x_f, x_y, x_d⟩ : Shop)) hp)

def opened (s : Int) (c : List Int) (m : Int) : Shop := ⟨(newBench s c.length).s, (newBench s c.length).t, [], [], c, 0, 10, 100, m, 0⟩
def openShop (s : Int) (c : List Int) (m : Int) : Shop := if shopOk (opened s c m) then opened s c m else ⟨0, 0, [], [], [], 0, 0, 0, 0, 0⟩
def E_OpenWorkshop : Int × List Int × Int → List V := fun (s, l, m) => [.int .i64 s, vL I1 v1 l, .int .i64 m]
noncomputable def F_OpenWorkshop : List V → Option (List V) := mkF E_OpenWorkshop (fun (_, l, _) => l.length ≤ 1048576) (fun (s, l, m) => [.int .i64 (openShop s l m).s, .int .i64 (openShop s l m).t, vL I2 v2 (openShop s l m).p, vL IL2 vLL2 (openShop s l m).o, vL I1 v1 (openShop s l m).c, .int .i64 (openShop s l m).u, .int .i64 (openShop s l m).m, .int .i64 (openShop s l m).f, .int .i64 (openShop s l m).y, .int .i64 (openShop s l m).d, .bool (shopOk (opened s l m))])
theorem F_OpenWorkshop_inj : ∀ x y, E_OpenWorkshop x = E_OpenWorkshop y → x = y := by
  rintro ⟨s, l, m⟩ ⟨s', l', m'⟩ h
  simpa [E_OpenWorkshop] using h
theorem F_OpenWorkshop_elim {P : List V → List V → Prop} (h : ∀ (s : Int) (l : List Int) (m : Int), (l.length ≤ 1048576) → P [.int .i64 s, vL I1 v1 l, .int .i64 m] [.int .i64 (openShop s l m).s, .int .i64 (openShop s l m).t, vL I2 v2 (openShop s l m).p, vL IL2 vLL2 (openShop s l m).o, vL I1 v1 (openShop s l m).c, .int .i64 (openShop s l m).u, .int .i64 (openShop s l m).m, .int .i64 (openShop s l m).f, .int .i64 (openShop s l m).y, .int .i64 (openShop s l m).d, .bool (shopOk (opened s l m))]) : ∀ ds outs, F_OpenWorkshop ds = some outs → P ds outs := by
  intro ds outs hh
  obtain ⟨⟨s, l, m⟩, rfl, hp, rfl⟩ := mkF_inv hh
  exact h s l m hp
theorem p_OpenWorkshop {s : Int} {l : List Int} {m : Int} {nr_ : Nat} {kk_ : V → V → V → V → V → V → V → V → V → V → V → Prop} (hp : l.length ≤ 1048576) : P11 (.call F_OpenWorkshop 0 nr_) [.int .i64 s, vL I1 v1 l, .int .i64 m] kk_ ↔ kk_ (.int .i64 (openShop s l m).s) (.int .i64 (openShop s l m).t) (vL I2 v2 (openShop s l m).p) (vL IL2 vLL2 (openShop s l m).o) (vL I1 v1 (openShop s l m).c) (.int .i64 (openShop s l m).u) (.int .i64 (openShop s l m).m) (.int .i64 (openShop s l m).f) (.int .i64 (openShop s l m).y) (.int .i64 (openShop s l m).d) (.bool (shopOk (opened s l m))) :=
  P11_callF (by unfold F_OpenWorkshop; exact mkF_eq F_OpenWorkshop_inj (s, l, m) hp)

end Go.Mw

namespace Go.Mw
noncomputable section
def spec_BenchOk_b0 : L := .seq (.seq (.seq (.rg [zl 4, zb .lss 0 5]) (.ite (.v 6) (.skip) (.seq (zt [1, 2, 3, 4]) (.exit 0)))) (.seq (.block 1 (.seq (.seq (.rg [⟨[], .idx [.sl [.sc, .sc]], [.v 4, .v 0], 1⟩, zc F_CylinderOk 1 [1, 2, 7], zn 8]) (.ite (.v 9) (.seq (.rg []) (.ret [.k (.bool false)])) (.skip))) (zt [0, 1, 2, 3, 4]))) (.rg [zk .add 0 1]))) (zt [5, 1, 2, 3, 4])
theorem spec_BenchOk_b0_sh (Q : QT) (x0 x1 x2 x3 x4 : V) : shL spec_BenchOk_b0 Q [x0, x1, x2, x3, x4] = (
  P1 (.len) [x4] fun v0 =>
  P1 (.bin .lss) [x0, v0] fun v1 =>
  ifB v1 (
    P1 (.idx [.sl [.sc, .sc]]) [x4, x0] fun v2 =>
    P1 (.call F_CylinderOk 0 1) [x1, x2, v2] fun v3 =>
    P1 (.un .not) [v3] fun v4 =>
    ifB v4 (
      Q .ret [.bool false]) (
      P1 (.bin .add) [x0, .int .i64 1] fun v5 =>
      Q .normal [v5, x1, x2, x3, x4])) (
    Q (.exit 0) [x1, x2, x3, x4])) := by kernel_rfl

def spec_BenchOk_r1 : L := .seq (.rg [zc F_CylinderOk 1 [0, 1, 2], ⟨[(.v 4, true)], .len, [.v 3], 1⟩, ⟨[(.v 4, true)], .bin .leq, [.v 5, .k (.int .i64 30)], 1⟩, ⟨[], .pick, [.v 4, .v 6, .k (.bool false)], 1⟩]) (.ret [.v 7])
theorem spec_BenchOk_r1_sh (Q : QT) (x0 x1 x2 x3 : V) : shL spec_BenchOk_r1 Q [x0, x1, x2, x3] = (
  P1 (.call F_CylinderOk 0 1) [x0, x1, x2] fun v0 =>
  ifB v0 (
    P1 (.len) [x3] fun v1 =>
    P1 (.bin .leq) [v1, .int .i64 30] fun v2 =>
    Q .ret [v2]) (
    Q .ret [.bool false])) := by kernel_rfl

def spec_BenchOk_L : L := .seq (.rg []) (.seq (.seq (.rg []) (.block 0 (.seq (.tup [.k (.int .i64 0), .v 0, .v 1, .v 2, .v 3]) (.loop (spec_BenchOk_b0))))) (spec_BenchOk_r1))
theorem spec_BenchOk_L_sh (Q : QT) (x0 x1 x2 x3 : V) : shL spec_BenchOk_L Q [x0, x1, x2, x3] = (
  shL (.loop spec_BenchOk_b0) (qB 0 (qS (shL spec_BenchOk_r1 Q) Q)) [.int .i64 0, x0, x1, x2, x3]) := by kernel_rfl
def spec_BenchOk_S : Sig := ⟨[.val true [.sc, .sc, .sl [.sc, .sc], .sl [.sl [.sc, .sc]]]], [(false, [.sc])], F_BenchOk⟩
def spec_BenchOk_hs : List NF := [⟨[(1, .ptr 64 0)], [], [(64, [.sc, .sc, .ro [.sc, .sc], .ro [.sl [.sc, .sc]]])], 65⟩, ⟨[(1, .ptr 64 0), (3, zs)], [], [(64, [.sc, .sc, .ro [.sc, .sc], .ro [.sl [.sc, .sc]]])], 65⟩, ⟨[(1, .ptr 64 0), (3, zs)], [], [(64, [.sc, .sc, .ro [.sc, .sc], .ro [.sl [.sc, .sc]]])], 65⟩]

def impl_BenchOk_b0 : L := .seq (.seq (.rg [zb .lss 2 1]) (.seq (.ite (.v 7) (.skip) (.seq (.tup []) (.exit 0))) (.seq (.block 1 (.seq (.seq (.rg [⟨[], .idx [.sl [.sc, .sc]], [.v 0, .v 2], 1⟩]) (.seq (.rg [zc F_CylinderOk 1 [3, 4, 8], zn 9]) (.ite (.v 10) (.seq (.rg []) (.ret [.k (.bool false)])) (.skip)))) (zt [0, 1, 2, 3, 4, 5, 6]))) (.rg [zk .add 2 1])))) (zt [0, 1, 7, 3, 4, 5, 6])
theorem impl_BenchOk_b0_sh (Q : QT) (x0 x1 x2 x3 x4 x5 x6 : V) : shL impl_BenchOk_b0 Q [x0, x1, x2, x3, x4, x5, x6] = (
  P1 (.bin .lss) [x2, x1] fun v0 =>
  ifB v0 (
    P1 (.idx [.sl [.sc, .sc]]) [x0, x2] fun v1 =>
    P1 (.call F_CylinderOk 0 1) [x3, x4, v1] fun v2 =>
    P1 (.un .not) [v2] fun v3 =>
    ifB v3 (
      Q .ret [.bool false]) (
      P1 (.bin .add) [x2, .int .i64 1] fun v4 =>
      Q .normal [x0, x1, v4, x3, x4, x5, x6])) (
    Q (.exit 0) [])) := by kernel_rfl

def impl_BenchOk_r1 : L := .seq (.rg []) (.ret [.k (.bool true)])
theorem impl_BenchOk_r1_sh (Q : QT) : shL impl_BenchOk_r1 Q [] = (
  Q .ret [.bool true]) := by kernel_rfl

def impl_BenchOk_L : L := .seq (.rg []) (.seq (.seq (.rg [zc F_CylinderOk 1 [0, 1, 2], zn 4, ⟨[(.v 5, false)], .len, [.v 3], 1⟩, ⟨[(.v 5, false)], .bin .gtr, [.v 6, .k (.int .i64 30)], 1⟩, ⟨[], .pick, [.v 5, .k (.bool true), .v 7], 1⟩]) (.ite (.v 8) (.seq (.rg []) (.ret [.k (.bool false)])) (.skip))) (.seq (.seq (.rg [zl 3]) (.block 0 (.seq (.tup [.v 3, .v 9, .k (.int .i64 0), .v 0, .v 1, .v 2, .v 3]) (.loop (impl_BenchOk_b0))))) (impl_BenchOk_r1)))
theorem impl_BenchOk_L_sh (Q : QT) (x0 x1 x2 x3 : V) : shL impl_BenchOk_L Q [x0, x1, x2, x3] = (
  P1 (.call F_CylinderOk 0 1) [x0, x1, x2] fun v0 =>
  P1 (.un .not) [v0] fun v1 =>
  ifB v1 (
    Q .ret [.bool false]) (
    P1 (.len) [x3] fun v2 =>
    P1 (.bin .gtr) [v2, .int .i64 30] fun v3 =>
    ifB v3 (
      Q .ret [.bool false]) (
      P1 (.len) [x3] fun v4 =>
      shL (.loop impl_BenchOk_b0) (qB 0 (qS (shL impl_BenchOk_r1 Q) Q)) [x3, v4, .int .i64 0, x0, x1, x2, x3]))) := by kernel_rfl
def impl_BenchOk_S : Sig := ⟨[.val true [.sc, .sc, .sl [.sc, .sc], .sl [.sl [.sc, .sc]]]], [(false, [.sc])], F_BenchOk⟩
def impl_BenchOk_hs : List NF := [⟨[], [], [], 64⟩, ⟨[(1, .ptr 64 0), (16, .sc false [.ro [.sl [.sc, .sc]]]), (17, zs), (18, zs)], [], [(64, [.sc, .sc, .ro [.sc, .sc], .ro [.sl [.sc, .sc]]])], 65⟩, ⟨[(1, .ptr 64 0), (16, .sc false [.ro [.sl [.sc, .sc]]]), (17, zs), (18, zs)], [], [(64, [.sc, .sc, .ro [.sc, .sc], .ro [.sl [.sc, .sc]]])], 65⟩]

def impl_NewBench_L : L := .seq (.rg []) (.seq (.rg []) (.seq (.seq (.rg [⟨[], .call F_BenchOk 0 1, [.v 0, .v 1, .k (.list [.sc, .sc] []), .k (.list [.sl [.sc, .sc]] [])], 1⟩, zn 2]) (.ite (.v 3) (.seq (.rg []) (.ret [.k (.int .i64 0), .k (.int .i64 0), .k (.list [.sc, .sc] []), .k (.list [.sl [.sc, .sc]] []), .k (.bool false)])) (.skip))) (.seq (.rg []) (.ret [.v 0, .v 1, .k (.list [.sc, .sc] []), .k (.list [.sl [.sc, .sc]] []), .k (.bool true)]))))
theorem impl_NewBench_L_sh (Q : QT) (x0 x1 : V) : shL impl_NewBench_L Q [x0, x1] = (
  P1 (.call F_BenchOk 0 1) [x0, x1, .list [.sc, .sc] [], .list [.sl [.sc, .sc]] []] fun v0 =>
  P1 (.un .not) [v0] fun v1 =>
  ifB v1 (
    Q .ret [.int .i64 0, .int .i64 0, .list [.sc, .sc] [], .list [.sl [.sc, .sc]] [], .bool false]) (
    Q .ret [x0, x1, .list [.sc, .sc] [], .list [.sl [.sc, .sc]] [], .bool true])) := by kernel_rfl
def impl_NewBench_S : Sig := ⟨[.val false [.sc], .val false [.sc]], [(true, [.sc, .sc, .sl [.sc, .sc], .sl [.sl [.sc, .sc]]]), (false, [.sc])], F_NewBench⟩
def impl_NewBench_hs : List NF := []

def impl_hasPin_b0 : L := .seq (.seq (.rg [zb .lss 2 1]) (.seq (.ite (.v 5) (.skip) (.seq (.tup []) (.exit 0))) (.seq (.block 1 (.seq (.seq (.rg [zj 0 2]) (.seq (.rg [⟨[], .eqa false [.i, .i], [.v 6, .v 7, .v 3, .v 4], 1⟩]) (.ite (.v 8) (.seq (.rg []) (.ret [.k (.bool true)])) (.skip)))) (zt [0, 1, 2, 3, 4]))) (.rg [zk .add 2 1])))) (zt [0, 1, 5, 3, 4])
theorem impl_hasPin_b0_sh (Q : QT) (x0 x1 x2 x3 x4 : V) : shL impl_hasPin_b0 Q [x0, x1, x2, x3, x4] = (
  P1 (.bin .lss) [x2, x1] fun v0 =>
  ifB v0 (
    P2 (.idx [.sc, .sc]) [x0, x2] fun v1 v2 =>
    P1 (.eqa false [.i, .i]) [v1, v2, x3, x4] fun v3 =>
    ifB v3 (
      Q .ret [.bool true]) (
      P1 (.bin .add) [x2, .int .i64 1] fun v4 =>
      Q .normal [x0, x1, v4, x3, x4])) (
    Q (.exit 0) [])) := by kernel_rfl

def impl_hasPin_r1 : L := .seq (.rg []) (.ret [.k (.bool false)])
theorem impl_hasPin_r1_sh (Q : QT) : shL impl_hasPin_r1 Q [] = (
  Q .ret [.bool false]) := by kernel_rfl

def impl_hasPin_L : L := .seq (.rg []) (.seq (.seq (.rg [zl 0]) (.block 0 (.seq (.tup [.v 0, .v 3, .k (.int .i64 0), .v 1, .v 2]) (.loop (impl_hasPin_b0))))) (impl_hasPin_r1))
theorem impl_hasPin_L_sh (Q : QT) (x0 x1 x2 : V) : shL impl_hasPin_L Q [x0, x1, x2] = (
  P1 (.len) [x0] fun v0 =>
  shL (.loop impl_hasPin_b0) (qB 0 (qS (shL impl_hasPin_r1 Q) Q)) [x0, v0, .int .i64 0, x1, x2]) := by kernel_rfl
def impl_hasPin_S : Sig := ⟨[.val false [.sl [.sc, .sc]], .val true [.sc, .sc]], [(false, [.sc])], F_hasPin⟩
def impl_hasPin_hs : List NF := [⟨[], [], [], 64⟩, ⟨[(3, .ptr 64 0), (7, zq), (8, zs), (9, zs)], [], [(64, [.sc, .sc])], 65⟩, ⟨[(3, .ptr 64 0), (7, zq), (8, zs), (9, zs)], [], [(64, [.sc, .sc])], 65⟩]

def spec_l06Copy_L : L := .seq (.rg []) (.seq (.rg [⟨[], .lst [.sc, .sc] true 0, [], 1⟩, ⟨[], .app [.sc, .sc] 16, [.v 3, .v 2], 1⟩]) (.ret [.v 0, .v 1, .v 4]))
theorem spec_l06Copy_L_sh (Q : QT) (x0 x1 x2 : V) : shL spec_l06Copy_L Q [x0, x1, x2] = (
  P1 (.lst [.sc, .sc] true 0) [] fun v0 =>
  P1 (.app [.sc, .sc] 16) [v0, x2] fun v1 =>
  Q .ret [x0, x1, v1]) := by kernel_rfl
def spec_l06Copy_S : Sig := ⟨[.val true [.sc, .sc, .sl [.sc, .sc]]], [(true, [.sc, .sc, .sl [.sc, .sc]])], F_l06Copy⟩
def spec_l06Copy_hs : List NF := []

def spec_l37Copy_b0 : L := .seq (.seq (.seq (.rg [zl 6, zb .lss 0 11]) (.ite (.v 12) (.skip) (.seq (zt [1, 2, 7, 8, 9, 10]) (.exit 0)))) (.seq (.block 1 (.seq (.rg [⟨[], .lst [.sc, .sc] true 0, [], 1⟩, ⟨[], .idx [.sl [.sc, .sc]], [.v 6, .v 0], 1⟩, ⟨[], .app [.sc, .sc] 16, [.v 13, .v 14], 1⟩, ⟨[], .lst [.sl [.sc, .sc]] false 1, [.v 15], 1⟩, ⟨[], .app [.sl [.sc, .sc]] 24, [.v 2, .v 16], 1⟩]) (zt [0, 1, 17, 3, 4, 5, 6, 7, 8, 9, 10]))) (.rg [zk .add 0 1]))) (zt [11, 1, 2, 3, 4, 5, 6, 7, 8, 9, 10])
theorem spec_l37Copy_b0_sh (Q : QT) (x0 x1 x2 x3 x4 x5 x6 x7 x8 x9 x10 : V) : shL spec_l37Copy_b0 Q [x0, x1, x2, x3, x4, x5, x6, x7, x8, x9, x10] = (
  P1 (.len) [x6] fun v0 =>
  P1 (.bin .lss) [x0, v0] fun v1 =>
  ifB v1 (
    P1 (.lst [.sc, .sc] true 0) [] fun v2 =>
    P1 (.idx [.sl [.sc, .sc]]) [x6, x0] fun v3 =>
    P1 (.app [.sc, .sc] 16) [v2, v3] fun v4 =>
    P1 (.lst [.sl [.sc, .sc]] false 1) [v4] fun v5 =>
    P1 (.app [.sl [.sc, .sc]] 24) [x2, v5] fun v6 =>
    P1 (.bin .add) [x0, .int .i64 1] fun v7 =>
    Q .normal [v7, x1, v6, x3, x4, x5, x6, x7, x8, x9, x10]) (
    Q (.exit 0) [x1, x2, x7, x8, x9, x10])) := by kernel_rfl

def spec_l37Copy_r1 : L := .seq (.rg []) (.ret [.v 4, .v 5, .v 0, .v 1])
theorem spec_l37Copy_r1_sh (Q : QT) (x0 x1 x2 x3 x4 x5 : V) : shL spec_l37Copy_r1 Q [x0, x1, x2, x3, x4, x5] = (
  Q .ret [x4, x5, x0, x1]) := by kernel_rfl

def spec_l37Copy_L : L := .seq (.rg []) (.seq (.rg [zc F_l06Copy 3 [0, 1, 2]]) (.seq (.seq (.rg []) (.block 0 (.seq (.tup [.k (.int .i64 0), .v 6, .k (.list [.sl [.sc, .sc]] []), .v 0, .v 1, .v 2, .v 3, .k (.int .i64 0), .k (.int .i64 0), .v 4, .v 5]) (.loop (spec_l37Copy_b0))))) (spec_l37Copy_r1)))
theorem spec_l37Copy_L_sh (Q : QT) (x0 x1 x2 x3 : V) : shL spec_l37Copy_L Q [x0, x1, x2, x3] = (
  P3 (.call F_l06Copy 0 3) [x0, x1, x2] fun v0 v1 v2 =>
  shL (.loop spec_l37Copy_b0) (qB 0 (qS (shL spec_l37Copy_r1 Q) Q)) [.int .i64 0, v2, .list [.sl [.sc, .sc]] [], x0, x1, x2, x3, .int .i64 0, .int .i64 0, v0, v1]) := by kernel_rfl
def spec_l37Copy_S : Sig := ⟨[.val true [.sc, .sc, .sl [.sc, .sc], .sl [.sl [.sc, .sc]]]], [(true, [.sc, .sc, .sl [.sc, .sc], .sl [.sl [.sc, .sc]]])], F_l37Copy⟩
def spec_l37Copy_hs : List NF := [⟨[(2, .ptr 64 0), (3, .ptr 65 0)], [(66, true, []), (67, true, [.sl [.sc, .sc]])], [(64, [.sc, .sc, .nil, .nil]), (65, [.sc, .sc, .own 66, .own 67])], 68⟩, ⟨[(1, .ptr 64 0), (2, .ptr 65 0), (3, .ptr 66 0), (4, zs)], [(67, true, []), (68, true, [.sl [.sc, .sc]])], [(64, [.sc, .sc, .ro [.sc, .sc], .ro [.sl [.sc, .sc]]]), (65, [.sc, .sc, .nil, .nil]), (66, [.sc, .sc, .own 67, .own 68])], 69⟩, ⟨[(1, .ptr 64 0), (2, .ptr 65 0), (3, .ptr 66 0), (4, zs)], [(67, true, []), (68, true, [.sl [.sc, .sc]])], [(64, [.sc, .sc, .ro [.sc, .sc], .ro [.sl [.sc, .sc]]]), (65, [.sc, .sc, .nil, .nil]), (66, [.sc, .sc, .own 67, .own 68])], 69⟩]

def impl_copyPins_L : L := .seq (.rg []) (.seq (.rg [⟨[], .lst [.sc, .sc] true 0, [], 1⟩, ⟨[], .app [.sc, .sc] 16, [.v 1, .v 0], 1⟩]) (.ret [.v 2]))
theorem impl_copyPins_L_sh (Q : QT) (x0 : V) : shL impl_copyPins_L Q [x0] = (
  P1 (.lst [.sc, .sc] true 0) [] fun v0 =>
  P1 (.app [.sc, .sc] 16) [v0, x0] fun v1 =>
  Q .ret [v1]) := by kernel_rfl
def impl_copyPins_S : Sig := ⟨[.val false [.sl [.sc, .sc]]], [(false, [.sl [.sc, .sc]])], F_copyPins⟩
def impl_copyPins_hs : List NF := []

def impl_copyCylinder_L : L := .seq (.rg []) (.seq (.rg [zc F_copyPins 1 [2]]) (.seq (.rg []) (.ret [.v 0, .v 1, .v 3])))
theorem impl_copyCylinder_L_sh (Q : QT) (x0 x1 x2 : V) : shL impl_copyCylinder_L Q [x0, x1, x2] = (
  P1 (.call F_copyPins 0 1) [x2] fun v0 =>
  Q .ret [x0, x1, v0]) := by kernel_rfl
def impl_copyCylinder_S : Sig := ⟨[.val true [.sc, .sc, .sl [.sc, .sc]]], [(true, [.sc, .sc, .sl [.sc, .sc]])], F_copyCylinder⟩
def impl_copyCylinder_hs : List NF := []

def impl_copyBench_b0 : L := .seq (.seq (.rg [zb .lss 2 1]) (.seq (.ite (.v 9) (.skip) (.seq (zt [3, 4, 5, 6, 7, 8]) (.exit 0))) (.seq (.block 1 (.seq (.seq (.rg [⟨[], .idx [.sl [.sc, .sc]], [.v 0, .v 2], 1⟩]) (.rg [zc F_copyPins 1 [10], ⟨[], .lst [.sl [.sc, .sc]] false 1, [.v 11], 1⟩, ⟨[], .app [.sl [.sc, .sc]] 24, [.v 4, .v 12], 1⟩])) (zt [0, 1, 2, 3, 13, 5, 6, 7, 8]))) (.rg [zk .add 2 1])))) (zt [0, 1, 9, 3, 4, 5, 6, 7, 8])
theorem impl_copyBench_b0_sh (Q : QT) (x0 x1 x2 x3 x4 x5 x6 x7 x8 : V) : shL impl_copyBench_b0 Q [x0, x1, x2, x3, x4, x5, x6, x7, x8] = (
  P1 (.bin .lss) [x2, x1] fun v0 =>
  ifB v0 (
    P1 (.idx [.sl [.sc, .sc]]) [x0, x2] fun v1 =>
    P1 (.call F_copyPins 0 1) [v1] fun v2 =>
    P1 (.lst [.sl [.sc, .sc]] false 1) [v2] fun v3 =>
    P1 (.app [.sl [.sc, .sc]] 24) [x4, v3] fun v4 =>
    P1 (.bin .add) [x2, .int .i64 1] fun v5 =>
    Q .normal [x0, x1, v5, x3, v4, x5, x6, x7, x8]) (
    Q (.exit 0) [x3, x4, x5, x6, x7, x8])) := by kernel_rfl

def impl_copyBench_r1 : L := .seq (.rg []) (.ret [.v 4, .v 5, .v 0, .v 1])
theorem impl_copyBench_r1_sh (Q : QT) (x0 x1 x2 x3 x4 x5 : V) : shL impl_copyBench_r1 Q [x0, x1, x2, x3, x4, x5] = (
  Q .ret [x4, x5, x0, x1]) := by kernel_rfl

def impl_copyBench_L : L := .seq (.rg []) (.seq (.rg [zc F_copyCylinder 3 [0, 1, 2]]) (.seq (.seq (.rg [zl 3]) (.block 0 (.seq (.tup [.v 3, .v 7, .k (.int .i64 0), .v 6, .k (.list [.sl [.sc, .sc]] []), .k (.int .i64 0), .k (.int .i64 0), .v 4, .v 5]) (.loop (impl_copyBench_b0))))) (impl_copyBench_r1)))
theorem impl_copyBench_L_sh (Q : QT) (x0 x1 x2 x3 : V) : shL impl_copyBench_L Q [x0, x1, x2, x3] = (
  P3 (.call F_copyCylinder 0 3) [x0, x1, x2] fun v0 v1 v2 =>
  P1 (.len) [x3] fun v3 =>
  shL (.loop impl_copyBench_b0) (qB 0 (qS (shL impl_copyBench_r1 Q) Q)) [x3, v3, .int .i64 0, v2, .list [.sl [.sc, .sc]] [], .int .i64 0, .int .i64 0, v0, v1]) := by kernel_rfl
def impl_copyBench_S : Sig := ⟨[.val true [.sc, .sc, .sl [.sc, .sc], .sl [.sl [.sc, .sc]]]], [(true, [.sc, .sc, .sl [.sc, .sc], .sl [.sl [.sc, .sc]]])], F_copyBench⟩
def impl_copyBench_hs : List NF := [⟨[(2, .ptr 64 0), (3, .ptr 65 0)], [(66, true, []), (67, true, [.sl [.sc, .sc]])], [(64, [.sc, .sc, .nil, .nil]), (65, [.sc, .sc, .own 66, .own 67])], 68⟩, ⟨[(2, .ptr 64 0), (3, .ptr 65 0), (11, .sc false [.ro [.sl [.sc, .sc]]]), (12, zs), (13, zs)], [(66, true, []), (67, true, [.sl [.sc, .sc]])], [(64, [.sc, .sc, .nil, .nil]), (65, [.sc, .sc, .own 66, .own 67])], 68⟩, ⟨[(2, .ptr 64 0), (3, .ptr 65 0), (11, .sc false [.ro [.sl [.sc, .sc]]]), (12, zs), (13, zs)], [(66, true, []), (67, true, [.sl [.sc, .sc]])], [(64, [.sc, .sc, .nil, .nil]), (65, [.sc, .sc, .own 66, .own 67])], 68⟩]

def impl_CombOk_b0 : L := .seq (.seq (.rg [zb .lss 3 2]) (.seq (.ite (.v 4) (.skip) (.seq (.tup []) (.exit 0))) (.seq (.block 1 (.seq (.seq (.rg [zi 1 3]) (.seq (.rg [⟨[], .call F_within 0 1, [.v 5, .k (.int .i64 0), .k (.int .i64 60)], 1⟩, zn 6, ⟨[(.v 7, false)], .bin .gtr, [.v 3, .k (.int .i64 0)], 1⟩, ⟨[(.v 7, false), (.v 8, true)], .bin .sub, [.v 3, .k (.int .i64 1)], 1⟩, ⟨[(.v 7, false), (.v 8, true)], .idx [.sc], [.v 0, .v 9], 1⟩, ⟨[(.v 7, false), (.v 8, true)], .bin .gtr, [.v 10, .v 5], 1⟩, ⟨[(.v 7, false)], .pick, [.v 8, .v 11, .k (.bool false)], 1⟩, ⟨[], .pick, [.v 7, .k (.bool true), .v 12], 1⟩]) (.ite (.v 13) (.seq (.rg []) (.ret [.k (.bool false)])) (.skip)))) (zt [0, 1, 2, 3]))) (.rg [zk .add 3 1])))) (zt [0, 1, 2, 4])
theorem impl_CombOk_b0_sh (Q : QT) (x0 x1 x2 x3 : V) : shL impl_CombOk_b0 Q [x0, x1, x2, x3] = (
  P1 (.bin .lss) [x3, x2] fun v0 =>
  ifB v0 (
    P1 (.idx [.sc]) [x1, x3] fun v1 =>
    P1 (.call F_within 0 1) [v1, .int .i64 0, .int .i64 60] fun v2 =>
    P1 (.un .not) [v2] fun v3 =>
    ifB v3 (
      Q .ret [.bool false]) (
      P1 (.bin .gtr) [x3, .int .i64 0] fun v4 =>
      ifB v4 (
        P1 (.bin .sub) [x3, .int .i64 1] fun v5 =>
        P1 (.idx [.sc]) [x0, v5] fun v6 =>
        P1 (.bin .gtr) [v6, v1] fun v7 =>
        ifB v7 (
          Q .ret [.bool false]) (
          P1 (.bin .add) [x3, .int .i64 1] fun v8 =>
          Q .normal [x0, x1, x2, v8])) (
        P1 (.bin .add) [x3, .int .i64 1] fun v9 =>
        Q .normal [x0, x1, x2, v9]))) (
    Q (.exit 0) [])) := by kernel_rfl

def impl_CombOk_r1 : L := .seq (.rg []) (.ret [.k (.bool true)])
theorem impl_CombOk_r1_sh (Q : QT) : shL impl_CombOk_r1 Q [] = (
  Q .ret [.bool true]) := by kernel_rfl

def impl_CombOk_L : L := .seq (.rg []) (.seq (.seq (.rg [zl 0, zk .lss 1 1, ⟨[(.v 2, false)], .len, [.v 0], 1⟩, ⟨[(.v 2, false)], .bin .gtr, [.v 3, .k (.int .i64 24)], 1⟩, ⟨[], .pick, [.v 2, .k (.bool true), .v 4], 1⟩]) (.ite (.v 5) (.seq (.rg []) (.ret [.k (.bool false)])) (.skip))) (.seq (.seq (.rg [zl 0]) (.block 0 (.seq (.tup [.v 0, .v 0, .v 6, .k (.int .i64 0)]) (.loop (impl_CombOk_b0))))) (impl_CombOk_r1)))
theorem impl_CombOk_L_sh (Q : QT) (x0 : V) : shL impl_CombOk_L Q [x0] = (
  P1 (.len) [x0] fun v0 =>
  P1 (.bin .lss) [v0, .int .i64 1] fun v1 =>
  ifB v1 (
    Q .ret [.bool false]) (
    P1 (.len) [x0] fun v2 =>
    P1 (.bin .gtr) [v2, .int .i64 24] fun v3 =>
    ifB v3 (
      Q .ret [.bool false]) (
      P1 (.len) [x0] fun v4 =>
      shL (.loop impl_CombOk_b0) (qB 0 (qS (shL impl_CombOk_r1 Q) Q)) [x0, x0, v4, .int .i64 0]))) := by kernel_rfl
def impl_CombOk_S : Sig := ⟨[.val false [.sl [.sc]]], [(false, [.sc])], F_CombOk⟩
def impl_CombOk_hs : List NF := [⟨[], [], [], 64⟩, ⟨[(0, zr), (13, zr), (14, zs), (15, zs)], [], [], 64⟩, ⟨[(0, zr), (13, zr), (14, zs), (15, zs)], [], [], 64⟩]

def impl_SpringOk_L : L := .seq (.rg []) (.seq (.rg [⟨[], .call F_within 0 1, [.v 1, .k (.int .i64 1), .k (.int .i64 50)], 1⟩, ⟨[(.v 3, true)], .call F_within 0 1, [.v 0, .k (.int .i64 0), .v 1], 1⟩, ⟨[], .pick, [.v 3, .v 4, .k (.bool false)], 1⟩, ⟨[(.v 5, true)], .call F_within 0 1, [.v 2, .k (.int .i64 1), .k (.int .i64 10000)], 1⟩, ⟨[], .pick, [.v 5, .v 6, .k (.bool false)], 1⟩]) (.ret [.v 7]))
theorem impl_SpringOk_L_sh (Q : QT) (x0 x1 x2 : V) : shL impl_SpringOk_L Q [x0, x1, x2] = (
  P1 (.call F_within 0 1) [x1, .int .i64 1, .int .i64 50] fun v0 =>
  ifB v0 (
    P1 (.call F_within 0 1) [x0, .int .i64 0, x1] fun v1 =>
    ifB v1 (
      P1 (.call F_within 0 1) [x2, .int .i64 1, .int .i64 10000] fun v2 =>
      Q .ret [v2]) (
      Q .ret [.bool false])) (
    Q .ret [.bool false])) := by kernel_rfl
def impl_SpringOk_S : Sig := ⟨[.val true [.sc, .sc, .sc]], [(false, [.sc])], F_SpringOk⟩
def impl_SpringOk_hs : List NF := []

def impl_WorkshopOk_r0 : L := .seq (.rg [⟨[], .call F_within 0 1, [.v 8, .k (.int .i64 0), .k (.int .i64 1000000)], 1⟩, ⟨[(.v 21, true)], .call F_within 0 1, [.v 9, .k (.int .i64 0), .k (.int .i64 1000000)], 1⟩, ⟨[], .pick, [.v 21, .v 22, .k (.bool false)], 1⟩]) (.ret [.v 23])
theorem impl_WorkshopOk_r0_sh (Q : QT) (x0 x1 x2 x3 x4 x5 x6 x7 x8 x9 x10 x11 x12 x13 x14 x15 x16 x17 x18 x19 x20 : V) : shL impl_WorkshopOk_r0 Q [x0, x1, x2, x3, x4, x5, x6, x7, x8, x9, x10, x11, x12, x13, x14, x15, x16, x17, x18, x19, x20] = (
  P1 (.call F_within 0 1) [x8, .int .i64 0, .int .i64 1000000] fun v0 =>
  ifB v0 (
    P1 (.call F_within 0 1) [x9, .int .i64 0, .int .i64 1000000] fun v1 =>
    Q .ret [v1]) (
    Q .ret [.bool false])) := by kernel_rfl

def impl_WorkshopOk_L : L := .seq (.rg []) (.seq (.seq (.rg [zc F_BenchOk 1 [0, 1, 2, 3], zn 10, ⟨[(.v 11, false)], .call F_CombOk 0 1, [.v 4], 1⟩, ⟨[(.v 11, false)], .un .not, [.v 12], 1⟩, ⟨[], .pick, [.v 11, .k (.bool true), .v 13], 1⟩, ⟨[(.v 14, false)], .call F_SpringOk 0 1, [.v 5, .v 6, .v 7], 1⟩, ⟨[(.v 14, false)], .un .not, [.v 15], 1⟩, ⟨[], .pick, [.v 14, .k (.bool true), .v 16], 1⟩, ⟨[(.v 17, false)], .len, [.v 4], 1⟩, ⟨[(.v 17, false)], .bin .neq, [.v 1, .v 18], 1⟩, ⟨[], .pick, [.v 17, .k (.bool true), .v 19], 1⟩]) (.ite (.v 20) (.seq (.rg []) (.ret [.k (.bool false)])) (.skip))) (impl_WorkshopOk_r0))
theorem impl_WorkshopOk_L_sh (Q : QT) (x0 x1 x2 x3 x4 x5 x6 x7 x8 x9 : V) : shL impl_WorkshopOk_L Q [x0, x1, x2, x3, x4, x5, x6, x7, x8, x9] = (
  P1 (.call F_BenchOk 0 1) [x0, x1, x2, x3] fun v0 =>
  P1 (.un .not) [v0] fun v1 =>
  ifB v1 (
    Q .ret [.bool false]) (
    P1 (.call F_CombOk 0 1) [x4] fun v2 =>
    P1 (.un .not) [v2] fun v3 =>
    ifB v3 (
      Q .ret [.bool false]) (
      P1 (.call F_SpringOk 0 1) [x5, x6, x7] fun v4 =>
      P1 (.un .not) [v4] fun v5 =>
      ifB v5 (
        Q .ret [.bool false]) (
        P1 (.len) [x4] fun v6 =>
        P1 (.bin .neq) [x1, v6] fun v7 =>
        ifB v7 (
          Q .ret [.bool false]) (
          shL impl_WorkshopOk_r0 Q [x0, x1, x2, x3, x4, x5, x6, x7, x8, x9, v0, .bool false, v2, v3, .bool false, v4, v5, .bool false, v6, v7, .bool false]))))) := by kernel_rfl
def impl_WorkshopOk_S : Sig := ⟨[.val true [.sc, .sc, .sl [.sc, .sc], .sl [.sl [.sc, .sc]], .sl [.sc], .sc, .sc, .sc, .sc, .sc]], [(false, [.sc])], F_WorkshopOk⟩
def impl_WorkshopOk_hs : List NF := []

def spec_PullPin_L : L := .seq (.rg []) (.seq (.rg [zc F_l06Copy 3 [0, 1, 2]]) (.seq (.seq (.rg [zc F_CylinderOk 1 [0, 1, 2], zn 7, ⟨[(.v 8, false)], .len, [.v 2], 1⟩, ⟨[(.v 8, false)], .bin .sub, [.v 9, .k (.int .i64 1)], 1⟩, ⟨[(.v 8, false)], .call F_l01In 0 1, [.v 3, .k (.int .i64 0), .v 10], 1⟩, ⟨[(.v 8, false)], .un .not, [.v 11], 1⟩, ⟨[], .pick, [.v 8, .k (.bool true), .v 12], 1⟩]) (.ite (.v 13) (.seq (.rg []) (.ret [.v 4, .v 5, .v 6, .k (.bool false)])) (.skip))) (.seq (.rg [⟨[], .lst [.sc, .sc] true 0, [], 1⟩, ⟨[], .lsub [.sc, .sc], [.v 2, .k (.int .i64 0), .v 3], 1⟩, ⟨[], .app [.sc, .sc] 16, [.v 14, .v 15], 1⟩, zk .add 3 1, ⟨[], .lsub [.sc, .sc], [.v 2, .v 17], 1⟩, ⟨[], .app [.sc, .sc] 16, [.v 16, .v 18], 1⟩]) (.seq (.rg []) (.ret [.v 4, .v 5, .v 19, .k (.bool true)])))))
theorem spec_PullPin_L_sh (Q : QT) (x0 x1 x2 x3 : V) : shL spec_PullPin_L Q [x0, x1, x2, x3] = (
  P3 (.call F_l06Copy 0 3) [x0, x1, x2] fun v0 v1 v2 =>
  P1 (.call F_CylinderOk 0 1) [x0, x1, x2] fun v3 =>
  P1 (.un .not) [v3] fun v4 =>
  ifB v4 (
    Q .ret [v0, v1, v2, .bool false]) (
    P1 (.len) [x2] fun v5 =>
    P1 (.bin .sub) [v5, .int .i64 1] fun v6 =>
    P1 (.call F_l01In 0 1) [x3, .int .i64 0, v6] fun v7 =>
    P1 (.un .not) [v7] fun v8 =>
    ifB v8 (
      Q .ret [v0, v1, v2, .bool false]) (
      P1 (.lst [.sc, .sc] true 0) [] fun v9 =>
      P1 (.lsub [.sc, .sc]) [x2, .int .i64 0, x3] fun v10 =>
      P1 (.app [.sc, .sc] 16) [v9, v10] fun v11 =>
      P1 (.bin .add) [x3, .int .i64 1] fun v12 =>
      P1 (.lsub [.sc, .sc]) [x2, v12] fun v13 =>
      P1 (.app [.sc, .sc] 16) [v11, v13] fun v14 =>
      Q .ret [v0, v1, v14, .bool true]))) := by kernel_rfl
def spec_PullPin_S : Sig := ⟨[.val true [.sc, .sc, .sl [.sc, .sc]], .val false [.sc]], [(true, [.sc, .sc, .sl [.sc, .sc]]), (false, [.sc])], F_PullPin⟩
def spec_PullPin_hs : List NF := []

def impl_PullPin_L : L := .seq (.rg []) (.seq (.rg [zc F_copyCylinder 3 [0, 1, 2]]) (.seq (.seq (.rg [zc F_CylinderOk 1 [0, 1, 2], zn 7, ⟨[(.v 8, false)], .bin .lss, [.v 3, .k (.int .i64 0)], 1⟩, ⟨[], .pick, [.v 8, .k (.bool true), .v 9], 1⟩, ⟨[(.v 10, false)], .len, [.v 2], 1⟩, ⟨[(.v 10, false)], .bin .geq, [.v 3, .v 11], 1⟩, ⟨[], .pick, [.v 10, .k (.bool true), .v 12], 1⟩]) (.ite (.v 13) (.seq (.rg []) (.ret [.v 4, .v 5, .v 6, .k (.bool false)])) (.skip))) (.seq (.rg [⟨[], .lsub [.sc, .sc], [.v 2, .k (.int .i64 0), .v 3], 1⟩, zc F_copyPins 1 [14], zk .add 3 1, ⟨[], .lsub [.sc, .sc], [.v 2, .v 16], 1⟩, ⟨[], .app [.sc, .sc] 16, [.v 15, .v 17], 1⟩]) (.seq (.rg []) (.ret [.v 4, .v 5, .v 18, .k (.bool true)])))))
theorem impl_PullPin_L_sh (Q : QT) (x0 x1 x2 x3 : V) : shL impl_PullPin_L Q [x0, x1, x2, x3] = (
  P3 (.call F_copyCylinder 0 3) [x0, x1, x2] fun v0 v1 v2 =>
  P1 (.call F_CylinderOk 0 1) [x0, x1, x2] fun v3 =>
  P1 (.un .not) [v3] fun v4 =>
  ifB v4 (
    Q .ret [v0, v1, v2, .bool false]) (
    P1 (.bin .lss) [x3, .int .i64 0] fun v5 =>
    ifB v5 (
      Q .ret [v0, v1, v2, .bool false]) (
      P1 (.len) [x2] fun v6 =>
      P1 (.bin .geq) [x3, v6] fun v7 =>
      ifB v7 (
        Q .ret [v0, v1, v2, .bool false]) (
        P1 (.lsub [.sc, .sc]) [x2, .int .i64 0, x3] fun v8 =>
        P1 (.call F_copyPins 0 1) [v8] fun v9 =>
        P1 (.bin .add) [x3, .int .i64 1] fun v10 =>
        P1 (.lsub [.sc, .sc]) [x2, v10] fun v11 =>
        P1 (.app [.sc, .sc] 16) [v9, v11] fun v12 =>
        Q .ret [v0, v1, v12, .bool true])))) := by kernel_rfl
def impl_PullPin_S : Sig := ⟨[.val true [.sc, .sc, .sl [.sc, .sc]], .val false [.sc]], [(true, [.sc, .sc, .sl [.sc, .sc]]), (false, [.sc])], F_PullPin⟩
def impl_PullPin_hs : List NF := []

def impl_OpenWorkshop_L : L := .seq (.rg []) (.seq (.rg [zl 1, zc F_NewBench 5 [0, 3]]) (.seq (.rg [zc F_copyInts 1 [1]]) (.seq (.seq (.rg [⟨[], .call F_WorkshopOk 0 1, [.v 4, .v 5, .v 6, .v 7, .v 9, .k (.int .i64 0), .k (.int .i64 10), .k (.int .i64 100), .v 2, .k (.int .i64 0)], 1⟩, zn 10]) (.ite (.v 11) (.seq (.rg []) (.ret [.k (.int .i64 0), .k (.int .i64 0), .k (.list [.sc, .sc] []), .k (.list [.sl [.sc, .sc]] []), .k (.list [.sc] []), .k (.int .i64 0), .k (.int .i64 0), .k (.int .i64 0), .k (.int .i64 0), .k (.int .i64 0), .k (.bool false)])) (.skip))) (.seq (.rg []) (.ret [.v 4, .v 5, .v 6, .v 7, .v 9, .k (.int .i64 0), .k (.int .i64 10), .k (.int .i64 100), .v 2, .k (.int .i64 0), .k (.bool true)])))))
theorem impl_OpenWorkshop_L_sh (Q : QT) (x0 x1 x2 : V) : shL impl_OpenWorkshop_L Q [x0, x1, x2] = (
  P1 (.len) [x1] fun v0 =>
  P5 (.call F_NewBench 0 5) [x0, v0] fun v1 v2 v3 v4 _ =>
  P1 (.call F_copyInts 0 1) [x1] fun v6 =>
  P1 (.call F_WorkshopOk 0 1) [v1, v2, v3, v4, v6, .int .i64 0, .int .i64 10, .int .i64 100, x2, .int .i64 0] fun v7 =>
  P1 (.un .not) [v7] fun v8 =>
  ifB v8 (
    Q .ret [.int .i64 0, .int .i64 0, .list [.sc, .sc] [], .list [.sl [.sc, .sc]] [], .list [.sc] [], .int .i64 0, .int .i64 0, .int .i64 0, .int .i64 0, .int .i64 0, .bool false]) (
    Q .ret [v1, v2, v3, v4, v6, .int .i64 0, .int .i64 10, .int .i64 100, x2, .int .i64 0, .bool true])) := by kernel_rfl
def impl_OpenWorkshop_S : Sig := ⟨[.val false [.sc], .val false [.sl [.sc]], .val false [.sc]], [(true, [.sc, .sc, .sl [.sc, .sc], .sl [.sl [.sc, .sc]], .sl [.sc], .sc, .sc, .sc, .sc, .sc]), (false, [.sc])], F_OpenWorkshop⟩
def impl_OpenWorkshop_hs : List NF := []

end
end Go.Mw

namespace Go.Mw
end Go.Mw

namespace Go.Mw
end Go.Mw

namespace Go.Mw
theorem benchOk_iff (b : Bench) : benchOk b = true ↔ cylOk ⟨b.s, b.t, b.p⟩ = true ∧ b.o.length ≤ 30 ∧ ∀ p ∈ b.o, cylOk ⟨b.s, b.t, p⟩ = true := by
  simp [benchOk]
theorem spec_BenchOk_ok : ∀ ds outs, F_BenchOk ds = some outs → shL spec_BenchOk_L (qRet outs) ds := F_BenchOk_elim fun b hp => by
  rw [spec_BenchOk_L_sh]
  have hl := hp.2.1
  refine loop_upto b.o.length (fun k => [.int .i64 k, .int .i64 b.s, .int .i64 b.t, vL I2 v2 b.p, vL IL2 vLL2 b.o]) (by intro i j _ _ h; simp at h; omega) (fun k => ∀ p ∈ b.o.take k, cylOk ⟨b.s, b.t, p⟩ = true) (by simp) (by simp) ?_
  intro k hk hP
  rw [spec_BenchOk_b0_sh]
  simp
  refine ⟨fun h => ?_, fun h => ?_⟩
  · have hx := hp.2.2 b.o[k] (by simp)
    have hno : cylOk ⟨b.s, b.t, b.o[k]⟩ = false → benchOk b = false := by
      intro hf
      cases hc : benchOk b with
      | false => rfl
      | true => have := ((benchOk_iff b).1 hc).2.2 b.o[k] (by simp); simp [hf] at this
    simp (disch := omega) only [h, List.getElem?_eq_getElem, Option.some.injEq, exists_eq_left', wrap_id, all_take_succ h]
    rw [p_CylinderOk (x_p := b.o[k]) hx]
    cases h1 : cylOk ⟨b.s, b.t, b.o[k]⟩ <;> simp_all
  · obtain rfl : k = b.o.length := by omega
    rw [List.take_length] at hP
    rw [spec_BenchOk_r1_sh, p_CylinderOk (x_p := b.p) hp.1]
    cases h1 : cylOk ⟨b.s, b.t, b.p⟩ with
    | false => simp [benchOk, h1]
    | true =>
      have h2 : (b.o.all fun p => cylOk ⟨b.s, b.t, p⟩) = true := List.all_eq_true.2 hP
      simp [benchOk, h1, h2]
      omega
theorem impl_BenchOk_ok : ∀ ds outs, F_BenchOk ds = some outs → shL impl_BenchOk_L (qRet outs) ds := F_BenchOk_elim fun b hp => by
  rw [impl_BenchOk_L_sh]
  have hl := hp.2.1
  rw [p_CylinderOk (x_p := b.p) hp.1]
  cases h1 : cylOk ⟨b.s, b.t, b.p⟩ with
  | false => simp [benchOk, h1]
  | true =>
  simp
  refine ⟨fun h => by simp [benchOk]; intro _ h; omega, fun h9 => ?_⟩
  refine loop_upto b.o.length (fun k => [vL IL2 vLL2 b.o, .int .i64 b.o.length, .int .i64 k, .int .i64 b.s, .int .i64 b.t, vL I2 v2 b.p, vL IL2 vLL2 b.o]) (by intro i j _ _ h; simp at h; omega) (fun k => ∀ p ∈ b.o.take k, cylOk ⟨b.s, b.t, p⟩ = true) (by simp) (by simp) ?_
  intro k hk hP
  rw [impl_BenchOk_b0_sh]
  simp
  refine ⟨fun h => ?_, fun h => ?_⟩
  · have hx := hp.2.2 b.o[k] (by simp)
    have hno : cylOk ⟨b.s, b.t, b.o[k]⟩ = false → benchOk b = false := by
      intro hf
      cases hc : benchOk b with
      | false => rfl
      | true => have := ((benchOk_iff b).1 hc).2.2 b.o[k] (by simp); simp [hf] at this
    simp (disch := omega) only [h, List.getElem?_eq_getElem, Option.some.injEq, exists_eq_left', wrap_id, all_take_succ h]
    rw [p_CylinderOk (x_p := b.o[k]) hx]
    cases h1 : cylOk ⟨b.s, b.t, b.o[k]⟩ <;> simp_all
  · obtain rfl : k = b.o.length := by omega
    rw [List.take_length] at hP
    simp [impl_BenchOk_r1_sh]
    exact (benchOk_iff b).2 ⟨h1, by omega, hP⟩
end Go.Mw

namespace Go.Mw
theorem fit_nil : fitLL [] := ⟨by simp, by simp⟩
theorem impl_NewBench_ok : ∀ ds outs, F_NewBench ds = some outs → shL impl_NewBench_L (qRet outs) ds := F_NewBench_elim fun s t => by
  rw [impl_NewBench_L_sh]
  have hb := p_BenchOk (x_s := s) (x_t := t) (x_p := []) (x_o := []) (nr_ := 1) (kk_ := fun v0 => P1 (.un .not) [v0] fun v1 => ifB v1 (qRet [.int .i64 (newBench s t).s, .int .i64 (newBench s t).t, vL I2 v2 (newBench s t).p, vL IL2 vLL2 (newBench s t).o, .bool (benchOk ⟨s, t, [], []⟩)] .ret [.int .i64 0, .int .i64 0, .list [.sc, .sc] [], .list [.sl [.sc, .sc]] [], .bool false]) (qRet [.int .i64 (newBench s t).s, .int .i64 (newBench s t).t, vL I2 v2 (newBench s t).p, vL IL2 vLL2 (newBench s t).o, .bool (benchOk ⟨s, t, [], []⟩)] .ret [.int .i64 s, .int .i64 t, .list [.sc, .sc] [], .list [.sl [.sc, .sc]] [], .bool true])) ⟨by simp, fit_nil⟩
  refine hb.2 ?_
  cases h : benchOk ⟨s, t, [], []⟩ <;> simp [newBench, h] <;> rfl
theorem newBench_p (s t : Int) : (newBench s t).p = [] := by unfold newBench; split <;> rfl
theorem newBench_o (s t : Int) : (newBench s t).o = [] := by unfold newBench; split <;> rfl
theorem impl_copyPins_ok : ∀ ds outs, F_copyPins ds = some outs → shL impl_copyPins_L (qRet outs) ds := F_copyPins_elim fun l hp => by
  rw [impl_copyPins_L_sh]
  simp; omega
theorem spec_l06Copy_ok : ∀ ds outs, F_l06Copy ds = some outs → shL spec_l06Copy_L (qRet outs) ds := F_l06Copy_elim fun x hp => by
  rw [spec_l06Copy_L_sh]
  simp; omega
theorem impl_copyCylinder_ok : ∀ ds outs, F_copyCylinder ds = some outs → shL impl_copyCylinder_L (qRet outs) ds := F_copyCylinder_elim fun x hp => by
  rw [impl_copyCylinder_L_sh]
  simp [p_copyPins hp]
theorem impl_hasPin_ok : ∀ ds outs, F_hasPin ds = some outs → shL impl_hasPin_L (qRet outs) ds := F_hasPin_elim fun l x hp => by
  rw [impl_hasPin_L_sh]
  simp
  refine loop_upto l.length (fun k => [vL I2 v2 l, .int .i64 l.length, .int .i64 k, .int .i64 x.a, .int .i64 x.b]) (by intro i j _ _ h; simp at h; omega) (fun k => ∀ y ∈ l.take k, ¬ y = x) (by simp) (by simp) ?_
  intro k hk hP
  rw [impl_hasPin_b0_sh]
  simp
  refine ⟨fun h => ?_, fun h => ?_⟩
  · have he : (l[k].a = x.a ∧ l[k].b = x.b) ↔ l[k] = x := by cases hx : l[k]; cases x; simp
    have hw : IntKind.i64.wrap ((k : Int) + 1) = k + 1 := wrap_id (by omega) (by omega)
    simp only [h, List.getElem?_eq_getElem, Option.some.injEq, exists_eq_left', hw, all_take_succ h]
    refine ⟨fun h1 h2 => by rw [← he.1 ⟨h1, h2⟩]; simp, fun h1 => ⟨trivial, trivial, hP, fun hh => ?_⟩⟩
    exact h1 (he.2 hh).1 (he.2 hh).2
  · obtain rfl : k = l.length := by omega
    rw [List.take_length] at hP
    simp [impl_hasPin_r1_sh]
    exact fun hm => hP x hm rfl
end Go.Mw

namespace Go.Mw
theorem benchOk_len {b : Bench} (h : benchOk b = true) : b.p.length ≤ 100 ∧ ∀ q ∈ b.o, q.length ≤ 100 := by
  have h := (benchOk_iff b).1 h
  exact ⟨(cylOk_bounds h.1).2.2, fun q hq => (cylOk_bounds (h.2.2 q hq)).2.2⟩
end Go.Mw

namespace Go.Mw
@[simp] theorem P1_lstL2 {a : List T2} {k : V → Prop} : P1 (.lst [.sl [.sc, .sc]] false 1) [vL I2 v2 a] k ↔ k (vL IL2 vLL2 [a]) := P1_of (by simp [Prim.run, aksOk, akOk, chunk, V.pack, vL, vLL2, AK.eqs_refl, IL2]) k
theorem impl_copyBench_ok : ∀ ds outs, F_copyBench ds = some outs → shL impl_copyBench_L (qRet outs) ds := F_copyBench_elim fun b hp => by
  rw [impl_copyBench_L_sh]
  have hl := hp.2.1
  rw [p_copyCylinder (x_p := b.p) (by show b.p.length ≤ _; omega)]
  simp
  refine loop_upto b.o.length (fun k => [vL IL2 vLL2 b.o, .int .i64 b.o.length, .int .i64 k, vL I2 v2 b.p, vL IL2 vLL2 (b.o.take k), .int .i64 0, .int .i64 0, .int .i64 b.s, .int .i64 b.t]) (by intro i j _ _ h; simp at h; omega) (fun _ => True) (by simp; rfl) trivial ?_
  intro k hk _
  rw [impl_copyBench_b0_sh]
  simp
  refine ⟨fun h => ?_, fun h => ?_⟩
  · have hx := hp.2.2 b.o[k] (by simp)
    have hw : IntKind.i64.wrap ((k : Int) + 1) = k + 1 := wrap_id (by omega) (by omega)
    simp only [List.getElem?_eq_getElem h, Option.some.injEq, exists_eq_left']
    rw [p_copyPins (by omega)]
    simp [h, hw]
    omega
  · obtain rfl : k = b.o.length := by omega
    simp [impl_copyBench_r1_sh]
theorem impl_SpringOk_ok : ∀ ds outs, F_SpringOk ds = some outs → shL impl_SpringOk_L (qRet outs) ds := F_SpringOk_elim fun x => by
  rw [impl_SpringOk_L_sh]; simp [springOk]; grind
end Go.Mw

namespace Go.Mw
theorem upward_iff : ∀ l : List Int, upward l = true ↔ ∀ j (_ : j < l.length), 0 < j → l[j - 1] ≤ l[j]
  | [] => by simp [upward]
  | [a] => by simp [upward]
  | a :: b :: r => by
    simp only [upward, Bool.and_eq_true, upward_iff (b :: r), decide_eq_true_eq]
    constructor
    · rintro ⟨h1, h2⟩ j hj h0
      rcases j with _ | _ | j
      · omega
      · exact h1
      · exact h2 (j + 1) (by simp at hj ⊢; omega) (by omega)
    · intro h
      refine ⟨h 1 (by simp) (by omega), fun j hj h0 => ?_⟩
      have := h (j + 1) (by simp at hj ⊢; omega) (by omega)
      rcases j with _ | j
      · omega
      · exact this
def goodTooth (l : List Int) (j : Nat) (hj : j < l.length) : Prop := within l[j] 0 60 = true ∧ (0 < j → l[j - 1] ≤ l[j])
theorem combOk_iff (l : List Int) : combOk l = true ↔ within l.length 1 24 = true ∧ ∀ j (hj : j < l.length), goodTooth l j hj := by
  simp only [combOk, Bool.and_eq_true, upward_iff, List.all_eq_true, goodTooth]
  refine and_congr_right fun _ => ?_
  constructor
  · rintro ⟨h1, h2⟩ j hj
    exact ⟨h1 _ (List.getElem_mem hj), h2 j hj⟩
  · intro h
    refine ⟨fun p hp => ?_, fun j hj h0 => (h j hj).2 h0⟩
    obtain ⟨j, hj, rfl⟩ := List.getElem_of_mem hp
    exact (h j hj).1
theorem impl_CombOk_ok : ∀ ds outs, F_CombOk ds = some outs → shL impl_CombOk_L (qRet outs) ds := F_CombOk_elim fun l hp => by
  rw [impl_CombOk_L_sh]
  simp
  refine ⟨fun hh => ?_, fun h1 => ⟨fun hh => ?_, fun h24 => ?_⟩⟩
  · cases hc : combOk l with
    | false => rfl
    | true => have := ((combOk_iff l).1 hc).1; simp [within] at this; omega
  · cases hc : combOk l with
    | false => rfl
    | true => have := ((combOk_iff l).1 hc).1; simp [within] at this; omega
  refine loop_upto l.length (fun k => [vL I1 v1 l, vL I1 v1 l, .int .i64 l.length, .int .i64 k]) (by intro i j _ _ h; simp at h; omega) (fun k => ∀ j (hj : j < l.length), j < k → goodTooth l j hj) (by simp) (by simp) ?_
  intro k hk hP
  rw [impl_CombOk_b0_sh]
  simp
  refine ⟨fun h => ?_, fun h => ?_⟩
  · have hbad : ¬ goodTooth l k h → combOk l = false := fun hn => by
      cases hcc : combOk l with
      | false => rfl
      | true => exact absurd (((combOk_iff l).1 hcc).2 k h) hn
    have hgood : goodTooth l k h → ∀ j (hj : j < l.length), j < k + 1 → goodTooth l j hj := fun hg j hj hjk => by
      by_cases hjk2 : j = k
      · subst hjk2; exact hg
      · exact hP j hj (by omega)
    have hw : IntKind.i64.wrap ((k : Int) + 1) = k + 1 := wrap_id (by omega) (by omega)
    have hw2 : IntKind.i64.wrap ((k : Int) - 1) = k - 1 := wrap_id (by omega) (by omega)
    have hk1 : ((k : Int) - 1).toNat = k - 1 := by omega
    have hk2 : k - 1 < l.length := by omega
    simp only [List.getElem?_eq_getElem h, Option.some.injEq, exists_eq_left', hw, hw2, hk1, List.getElem?_eq_getElem hk2]
    cases e1 : within l[k] 0 60 with
    | false => simp; exact hbad (by simp [goodTooth, e1])
    | true =>
    simp [h]
    refine ⟨fun hk0 => ⟨by omega, fun e3 => hbad (by simp [goodTooth, hk0]; intro _; omega), fun e3 => ?_⟩, fun hk0 => ?_⟩
    · exact hgood ⟨e1, fun _ => e3⟩
    · exact hgood ⟨e1, fun hh => by omega⟩
  · obtain rfl : k = l.length := by omega
    simp [impl_CombOk_r1_sh]
    exact (combOk_iff l).2 ⟨by simp [within]; omega, fun j hj => hP j hj hj⟩
end Go.Mw

namespace Go.Mw
theorem impl_WorkshopOk_ok : ∀ ds outs, F_WorkshopOk ds = some outs → shL impl_WorkshopOk_L (qRet outs) ds := F_WorkshopOk_elim fun x hp => by
  rw [impl_WorkshopOk_L_sh, p_BenchOk (x_p := x.p) (x_o := x.o) ⟨hp.1, hp.2.1⟩]
  simp only [shopOk, Shop.bench]
  cases h1 : benchOk ⟨x.s, x.t, x.p, x.o⟩ with
  | false => simp
  | true =>
  simp [p_CombOk hp.2.2, impl_WorkshopOk_r0_sh]
  cases h2 : combOk x.c <;> cases h3 : springOk ⟨x.u, x.m, x.f⟩ <;> cases h5 : within x.y 0 1000000 <;> simp_all
end Go.Mw

namespace Go.Mw
theorem impl_OpenWorkshop_ok : ∀ ds outs, F_OpenWorkshop ds = some outs → shL impl_OpenWorkshop_L (qRet outs) ds := F_OpenWorkshop_elim fun s l m hp => by
  rw [impl_OpenWorkshop_L_sh]
  have h1 := newBench_p s l.length
  have h2 := newBench_o s l.length
  have h3 : (newBench s l.length).p.length ≤ 1048576 := by rw [h1]; simp
  have h4 : fitLL (newBench s l.length).o := by rw [h2]; exact fit_nil
  have e : opened s l m = ⟨(newBench s l.length).s, (newBench s l.length).t, (newBench s l.length).p, (newBench s l.length).o, l, 0, 10, 100, m, 0⟩ := by rw [h1, h2]; rfl
  simp only [P1_len, p_NewBench]
  rw [p_copyInts (by omega)]
  rw [p_WorkshopOk ⟨h3, h4, hp⟩, ← e]
  cases h : shopOk (opened s l m) with
  | false => simp [openShop, h]; rfl
  | true => simp [openShop, h]; simp [e]
@[simp] theorem P1_lst14 {a b c d : Int} {k : V → Prop} : P1 (.lst [.sc] false 4) [.int .i64 a, .int .i64 b, .int .i64 c, .int .i64 d] k ↔ k (vL I1 v1 [a, b, c, d]) := P1_of (by simp [Prim.run, aksOk, akOk, chunk, V.pack, vL, v1]) k
end Go.Mw

namespace Go.Mw
noncomputable section
end
end Go.Mw

namespace Go.Mw
def Bench.cyl (b : Bench) : Cyl := ⟨b.s, b.t, b.p⟩
def stepped (b : Bench) (c : Cyl) : Bench := ⟨c.s, c.t, c.p, b.o ++ [b.p]⟩
def stepOk (b : Bench) (c : Cyl) : Bool := benchOk b && benchOk (stepped b c)
def stepTo (b : Bench) (c : Cyl) (done : Bool) : Bench := if done && stepOk b c then stepped b c else b
def E_l37Step : Bench × Cyl → List V := fun (x, y) => [.int .i64 x.s, .int .i64 x.t, vL I2 v2 x.p, vL IL2 vLL2 x.o, .int .i64 y.s, .int .i64 y.t, vL I2 v2 y.p]
noncomputable def F_l37Step : List V → Option (List V) := mkF E_l37Step (fun (x, y) => x.p.length ≤ 1048576 ∧ fitLL x.o ∧ y.p.length ≤ 1048576) (fun (x, y) => [.int .i64 (stepTo x y true).s, .int .i64 (stepTo x y true).t, vL I2 v2 (stepTo x y true).p, vL IL2 vLL2 (stepTo x y true).o, .bool (stepOk x y)])
theorem F_l37Step_inj : ∀ x y, E_l37Step x = E_l37Step y → x = y := by
  rintro ⟨⟨xs, xt, xp, xo⟩, ⟨ys, yt, yp⟩⟩ ⟨⟨xs', xt', xp', xo'⟩, ⟨ys', yt', yp'⟩⟩ h
  simpa [E_l37Step, and_assoc] using h
theorem F_l37Step_elim {P : List V → List V → Prop} (h : ∀ (x : Bench) (y : Cyl), (x.p.length ≤ 1048576 ∧ fitLL x.o ∧ y.p.length ≤ 1048576) → P [.int .i64 x.s, .int .i64 x.t, vL I2 v2 x.p, vL IL2 vLL2 x.o, .int .i64 y.s, .int .i64 y.t, vL I2 v2 y.p] [.int .i64 (stepTo x y true).s, .int .i64 (stepTo x y true).t, vL I2 v2 (stepTo x y true).p, vL IL2 vLL2 (stepTo x y true).o, .bool (stepOk x y)]) : ∀ ds outs, F_l37Step ds = some outs → P ds outs := by
  intro ds outs hh
  obtain ⟨⟨x, y⟩, rfl, hp, rfl⟩ := mkF_inv hh
  exact h x y hp
theorem p_l37Step {x_s : Int} {x_t : Int} {x_p : List T2} {x_o : List (List T2)} {y_s : Int} {y_t : Int} {y_p : List T2} {nr_ : Nat} {kk_ : V → V → V → V → V → Prop} (hp : (⟨x_s, x_t, x_p, x_o⟩ : Bench).p.length ≤ 1048576 ∧ fitLL (⟨x_s, x_t, x_p, x_o⟩ : Bench).o ∧ (⟨y_s, y_t, y_p⟩ : Cyl).p.length ≤ 1048576) : P5 (.call F_l37Step 0 nr_) [.int .i64 x_s, .int .i64 x_t, vL I2 v2 x_p, vL IL2 vLL2 x_o, .int .i64 y_s, .int .i64 y_t, vL I2 v2 y_p] kk_ ↔ kk_ (.int .i64 (stepTo (⟨x_s, x_t, x_p, x_o⟩ : Bench) (⟨y_s, y_t, y_p⟩ : Cyl) true).s) (.int .i64 (stepTo (⟨x_s, x_t, x_p, x_o⟩ : Bench) (⟨y_s, y_t, y_p⟩ : Cyl) true).t) (vL I2 v2 (stepTo (⟨x_s, x_t, x_p, x_o⟩ : Bench) (⟨y_s, y_t, y_p⟩ : Cyl) true).p) (vL IL2 vLL2 (stepTo (⟨x_s, x_t, x_p, x_o⟩ : Bench) (⟨y_s, y_t, y_p⟩ : Cyl) true).o) (.bool (stepOk (⟨x_s, x_t, x_p, x_o⟩ : Bench) (⟨y_s, y_t, y_p⟩ : Cyl))) :=
  P5_callF (by unfold F_l37Step; exact mkF_eq F_l37Step_inj ((⟨x_s, x_t, x_p, x_o⟩ : Bench), (⟨y_s, y_t, y_p⟩ : Cyl)) hp)

def E_replaced : Bench × Cyl × Bool → List V := fun (x, y, n) => [.int .i64 x.s, .int .i64 x.t, vL I2 v2 x.p, vL IL2 vLL2 x.o, .int .i64 y.s, .int .i64 y.t, vL I2 v2 y.p, .bool n]
noncomputable def F_replaced : List V → Option (List V) := mkF E_replaced (fun (x, y, _) => x.p.length ≤ 1048576 ∧ fitLL x.o ∧ y.p.length ≤ 1048576) (fun (x, y, n) => [.int .i64 (stepTo x y n).s, .int .i64 (stepTo x y n).t, vL I2 v2 (stepTo x y n).p, vL IL2 vLL2 (stepTo x y n).o, .bool (n && stepOk x y)])
theorem F_replaced_inj : ∀ x y, E_replaced x = E_replaced y → x = y := by
  rintro ⟨⟨xs, xt, xp, xo⟩, ⟨ys, yt, yp⟩, n⟩ ⟨⟨xs', xt', xp', xo'⟩, ⟨ys', yt', yp'⟩, n'⟩ h
  simpa [E_replaced, and_assoc] using h
theorem F_replaced_elim {P : List V → List V → Prop} (h : ∀ (x : Bench) (y : Cyl) (n : Bool), (x.p.length ≤ 1048576 ∧ fitLL x.o ∧ y.p.length ≤ 1048576) → P [.int .i64 x.s, .int .i64 x.t, vL I2 v2 x.p, vL IL2 vLL2 x.o, .int .i64 y.s, .int .i64 y.t, vL I2 v2 y.p, .bool n] [.int .i64 (stepTo x y n).s, .int .i64 (stepTo x y n).t, vL I2 v2 (stepTo x y n).p, vL IL2 vLL2 (stepTo x y n).o, .bool (n && stepOk x y)]) : ∀ ds outs, F_replaced ds = some outs → P ds outs := by
  intro ds outs hh
  obtain ⟨⟨x, y, n⟩, rfl, hp, rfl⟩ := mkF_inv hh
  exact h x y n hp
theorem p_replaced {x_s : Int} {x_t : Int} {x_p : List T2} {x_o : List (List T2)} {y_s : Int} {y_t : Int} {y_p : List T2} {n : Bool} {nr_ : Nat} {kk_ : V → V → V → V → V → Prop} (hp : (⟨x_s, x_t, x_p, x_o⟩ : Bench).p.length ≤ 1048576 ∧ fitLL (⟨x_s, x_t, x_p, x_o⟩ : Bench).o ∧ (⟨y_s, y_t, y_p⟩ : Cyl).p.length ≤ 1048576) : P5 (.call F_replaced 0 nr_) [.int .i64 x_s, .int .i64 x_t, vL I2 v2 x_p, vL IL2 vLL2 x_o, .int .i64 y_s, .int .i64 y_t, vL I2 v2 y_p, .bool n] kk_ ↔ kk_ (.int .i64 (stepTo (⟨x_s, x_t, x_p, x_o⟩ : Bench) (⟨y_s, y_t, y_p⟩ : Cyl) n).s) (.int .i64 (stepTo (⟨x_s, x_t, x_p, x_o⟩ : Bench) (⟨y_s, y_t, y_p⟩ : Cyl) n).t) (vL I2 v2 (stepTo (⟨x_s, x_t, x_p, x_o⟩ : Bench) (⟨y_s, y_t, y_p⟩ : Cyl) n).p) (vL IL2 vLL2 (stepTo (⟨x_s, x_t, x_p, x_o⟩ : Bench) (⟨y_s, y_t, y_p⟩ : Cyl) n).o) (.bool (n && stepOk (⟨x_s, x_t, x_p, x_o⟩ : Bench) (⟨y_s, y_t, y_p⟩ : Cyl))) :=
  P5_callF (by unfold F_replaced; exact mkF_eq F_replaced_inj ((⟨x_s, x_t, x_p, x_o⟩ : Bench), (⟨y_s, y_t, y_p⟩ : Cyl), n) hp)

def pullOk (c : Cyl) (k : Int) : Bool := cylOk c && (decide (0 ≤ k) && decide (k < c.p.length))
def pulled (b : Bench) (k : Int) : Cyl := ⟨b.s, b.t, pullPin b.cyl k⟩
def takePin (b : Bench) (k : Int) : Bench := stepTo b (pulled b k) (pullOk b.cyl k)
def E_TakePin : Bench × Int → List V := fun (x, k) => [.int .i64 x.s, .int .i64 x.t, vL I2 v2 x.p, vL IL2 vLL2 x.o, .int .i64 k]
noncomputable def F_TakePin : List V → Option (List V) := mkF E_TakePin (fun (x, _) => x.p.length ≤ 1048576 ∧ fitLL x.o) (fun (x, k) => [.int .i64 (takePin x k).s, .int .i64 (takePin x k).t, vL I2 v2 (takePin x k).p, vL IL2 vLL2 (takePin x k).o, .bool (pullOk x.cyl k && stepOk x (pulled x k))])
theorem F_TakePin_inj : ∀ x y, E_TakePin x = E_TakePin y → x = y := by
  rintro ⟨⟨xs, xt, xp, xo⟩, k⟩ ⟨⟨xs', xt', xp', xo'⟩, k'⟩ h
  simpa [E_TakePin, and_assoc] using h
theorem F_TakePin_elim {P : List V → List V → Prop} (h : ∀ (x : Bench) (k : Int), (x.p.length ≤ 1048576 ∧ fitLL x.o) → P [.int .i64 x.s, .int .i64 x.t, vL I2 v2 x.p, vL IL2 vLL2 x.o, .int .i64 k] [.int .i64 (takePin x k).s, .int .i64 (takePin x k).t, vL I2 v2 (takePin x k).p, vL IL2 vLL2 (takePin x k).o, .bool (pullOk x.cyl k && stepOk x (pulled x k))]) : ∀ ds outs, F_TakePin ds = some outs → P ds outs := by
  intro ds outs hh
  obtain ⟨⟨x, k⟩, rfl, hp, rfl⟩ := mkF_inv hh
  exact h x k hp
theorem p_TakePin {x_s : Int} {x_t : Int} {x_p : List T2} {x_o : List (List T2)} {k : Int} {nr_ : Nat} {kk_ : V → V → V → V → V → Prop} (hp : (⟨x_s, x_t, x_p, x_o⟩ : Bench).p.length ≤ 1048576 ∧ fitLL (⟨x_s, x_t, x_p, x_o⟩ : Bench).o) : P5 (.call F_TakePin 0 nr_) [.int .i64 x_s, .int .i64 x_t, vL I2 v2 x_p, vL IL2 vLL2 x_o, .int .i64 k] kk_ ↔ kk_ (.int .i64 (takePin (⟨x_s, x_t, x_p, x_o⟩ : Bench) k).s) (.int .i64 (takePin (⟨x_s, x_t, x_p, x_o⟩ : Bench) k).t) (vL I2 v2 (takePin (⟨x_s, x_t, x_p, x_o⟩ : Bench) k).p) (vL IL2 vLL2 (takePin (⟨x_s, x_t, x_p, x_o⟩ : Bench) k).o) (.bool (pullOk (⟨x_s, x_t, x_p, x_o⟩ : Bench).cyl k && stepOk (⟨x_s, x_t, x_p, x_o⟩ : Bench) (pulled (⟨x_s, x_t, x_p, x_o⟩ : Bench) k))) :=
  P5_callF (by unfold F_TakePin; exact mkF_eq F_TakePin_inj ((⟨x_s, x_t, x_p, x_o⟩ : Bench), k) hp)


end Go.Mw

namespace Go.Mw
noncomputable section
def spec_l37Step_L : L := .seq (.rg []) (.seq (.rg [zc F_l37Copy 4 [0, 1, 2, 3]]) (.seq (.rg [⟨[], .lst [.sc, .sc] true 0, [], 1⟩, ⟨[], .app [.sc, .sc] 16, [.v 11, .v 2], 1⟩, ⟨[], .lst [.sl [.sc, .sc]] false 1, [.v 12], 1⟩, ⟨[], .app [.sl [.sc, .sc]] 24, [.v 10, .v 13], 1⟩]) (.seq (.rg []) (.seq (.seq (.rg [zc F_BenchOk 1 [0, 1, 2, 3], zn 15, ⟨[(.v 16, false)], .call F_BenchOk 0 1, [.v 4, .v 5, .v 6, .v 14], 1⟩, ⟨[(.v 16, false)], .un .not, [.v 17], 1⟩, ⟨[], .pick, [.v 16, .k (.bool true), .v 18], 1⟩]) (.ite (.v 19) (.seq (.rg [zc F_l37Copy 4 [0, 1, 2, 3]]) (.ret [.v 20, .v 21, .v 22, .v 23, .k (.bool false)])) (.skip))) (.seq (.rg []) (.ret [.v 4, .v 5, .v 6, .v 14, .k (.bool true)]))))))
theorem spec_l37Step_L_sh (Q : QT) (x0 x1 x2 x3 x4 x5 x6 : V) : shL spec_l37Step_L Q [x0, x1, x2, x3, x4, x5, x6] = (
  P4 (.call F_l37Copy 0 4) [x0, x1, x2, x3] fun _ _ _ v3 =>
  P1 (.lst [.sc, .sc] true 0) [] fun v4 =>
  P1 (.app [.sc, .sc] 16) [v4, x2] fun v5 =>
  P1 (.lst [.sl [.sc, .sc]] false 1) [v5] fun v6 =>
  P1 (.app [.sl [.sc, .sc]] 24) [v3, v6] fun v7 =>
  P1 (.call F_BenchOk 0 1) [x0, x1, x2, x3] fun v8 =>
  P1 (.un .not) [v8] fun v9 =>
  ifB v9 (
    P4 (.call F_l37Copy 0 4) [x0, x1, x2, x3] fun v10 v11 v12 v13 =>
    Q .ret [v10, v11, v12, v13, .bool false]) (
    P1 (.call F_BenchOk 0 1) [x4, x5, x6, v7] fun v14 =>
    P1 (.un .not) [v14] fun v15 =>
    ifB v15 (
      P4 (.call F_l37Copy 0 4) [x0, x1, x2, x3] fun v16 v17 v18 v19 =>
      Q .ret [v16, v17, v18, v19, .bool false]) (
      Q .ret [x4, x5, x6, v7, .bool true]))) := by kernel_rfl
def spec_l37Step_S : Sig := ⟨[.val true [.sc, .sc, .sl [.sc, .sc], .sl [.sl [.sc, .sc]]], .tk true [.sc, .sc, .sl [.sc, .sc]]], [(true, [.sc, .sc, .sl [.sc, .sc], .sl [.sl [.sc, .sc]]]), (false, [.sc])], F_l37Step⟩
def spec_l37Step_hs : List NF := []

def spec_TakePin_L : L := .seq (.rg []) (.seq (.rg [zc F_PullPin 4 [0, 1, 2, 4]]) (.seq (.seq (.rg [zn 8]) (.ite (.v 9) (.seq (.rg [zc F_l37Copy 4 [0, 1, 2, 3]]) (.ret [.v 10, .v 11, .v 12, .v 13, .k (.bool false)])) (.skip))) (.seq (.rg [zc F_l37Step 5 [0, 1, 2, 3, 5, 6, 7]]) (.seq (.rg []) (.ret [.v 10, .v 11, .v 12, .v 13, .v 14])))))
theorem spec_TakePin_L_sh (Q : QT) (x0 x1 x2 x3 x4 : V) : shL spec_TakePin_L Q [x0, x1, x2, x3, x4] = (
  P4 (.call F_PullPin 0 4) [x0, x1, x2, x4] fun v0 v1 v2 v3 =>
  P1 (.un .not) [v3] fun v4 =>
  ifB v4 (
    P4 (.call F_l37Copy 0 4) [x0, x1, x2, x3] fun v5 v6 v7 v8 =>
    Q .ret [v5, v6, v7, v8, .bool false]) (
    P5 (.call F_l37Step 0 5) [x0, x1, x2, x3, v0, v1, v2] fun v9 v10 v11 v12 v13 =>
    Q .ret [v9, v10, v11, v12, v13])) := by kernel_rfl
def spec_TakePin_S : Sig := ⟨[.val true [.sc, .sc, .sl [.sc, .sc], .sl [.sl [.sc, .sc]]], .val false [.sc]], [(true, [.sc, .sc, .sl [.sc, .sc], .sl [.sl [.sc, .sc]]]), (false, [.sc])], F_TakePin⟩
def spec_TakePin_hs : List NF := []

def impl_replaced_L : L := .seq (.rg []) (.seq (.rg [zc F_copyBench 4 [0, 1, 2, 3]]) (.seq (.rg [zc F_copyPins 1 [2], ⟨[], .lst [.sl [.sc, .sc]] false 1, [.v 12], 1⟩, ⟨[], .app [.sl [.sc, .sc]] 24, [.v 11, .v 13], 1⟩]) (.seq (.rg []) (.seq (.seq (.rg [zn 7, ⟨[(.v 15, false)], .call F_BenchOk 0 1, [.v 0, .v 1, .v 2, .v 3], 1⟩, ⟨[(.v 15, false)], .un .not, [.v 16], 1⟩, ⟨[], .pick, [.v 15, .k (.bool true), .v 17], 1⟩, ⟨[(.v 18, false)], .call F_BenchOk 0 1, [.v 4, .v 5, .v 6, .v 14], 1⟩, ⟨[(.v 18, false)], .un .not, [.v 19], 1⟩, ⟨[], .pick, [.v 18, .k (.bool true), .v 20], 1⟩]) (.ite (.v 21) (.seq (.rg [zc F_copyBench 4 [0, 1, 2, 3]]) (.ret [.v 22, .v 23, .v 24, .v 25, .k (.bool false)])) (.skip))) (.seq (.rg []) (.ret [.v 4, .v 5, .v 6, .v 14, .k (.bool true)]))))))
theorem impl_replaced_L_sh (Q : QT) (x0 x1 x2 x3 x4 x5 x6 x7 : V) : shL impl_replaced_L Q [x0, x1, x2, x3, x4, x5, x6, x7] = (
  P4 (.call F_copyBench 0 4) [x0, x1, x2, x3] fun _ _ _ v3 =>
  P1 (.call F_copyPins 0 1) [x2] fun v4 =>
  P1 (.lst [.sl [.sc, .sc]] false 1) [v4] fun v5 =>
  P1 (.app [.sl [.sc, .sc]] 24) [v3, v5] fun v6 =>
  P1 (.un .not) [x7] fun v7 =>
  ifB v7 (
    P4 (.call F_copyBench 0 4) [x0, x1, x2, x3] fun v8 v9 v10 v11 =>
    Q .ret [v8, v9, v10, v11, .bool false]) (
    P1 (.call F_BenchOk 0 1) [x0, x1, x2, x3] fun v12 =>
    P1 (.un .not) [v12] fun v13 =>
    ifB v13 (
      P4 (.call F_copyBench 0 4) [x0, x1, x2, x3] fun v14 v15 v16 v17 =>
      Q .ret [v14, v15, v16, v17, .bool false]) (
      P1 (.call F_BenchOk 0 1) [x4, x5, x6, v6] fun v18 =>
      P1 (.un .not) [v18] fun v19 =>
      ifB v19 (
        P4 (.call F_copyBench 0 4) [x0, x1, x2, x3] fun v20 v21 v22 v23 =>
        Q .ret [v20, v21, v22, v23, .bool false]) (
        Q .ret [x4, x5, x6, v6, .bool true])))) := by kernel_rfl
def impl_replaced_S : Sig := ⟨[.val true [.sc, .sc, .sl [.sc, .sc], .sl [.sl [.sc, .sc]]], .tk true [.sc, .sc, .sl [.sc, .sc]], .val false [.sc]], [(true, [.sc, .sc, .sl [.sc, .sc], .sl [.sl [.sc, .sc]]]), (false, [.sc])], F_replaced⟩
def impl_replaced_hs : List NF := []

def impl_TakePin_L : L := .seq (.rg []) (.seq (.rg [zc F_PullPin 4 [0, 1, 2, 4]]) (.seq (.rg [zc F_replaced 5 [0, 1, 2, 3, 5, 6, 7, 8]]) (.ret [.v 9, .v 10, .v 11, .v 12, .v 13])))
theorem impl_TakePin_L_sh (Q : QT) (x0 x1 x2 x3 x4 : V) : shL impl_TakePin_L Q [x0, x1, x2, x3, x4] = (
  P4 (.call F_PullPin 0 4) [x0, x1, x2, x4] fun v0 v1 v2 v3 =>
  P5 (.call F_replaced 0 5) [x0, x1, x2, x3, v0, v1, v2, v3] fun v4 v5 v6 v7 v8 =>
  Q .ret [v4, v5, v6, v7, v8]) := by kernel_rfl
def impl_TakePin_S : Sig := ⟨[.val true [.sc, .sc, .sl [.sc, .sc], .sl [.sl [.sc, .sc]]], .val false [.sc]], [(true, [.sc, .sc, .sl [.sc, .sc], .sl [.sl [.sc, .sc]]]), (false, [.sc])], F_TakePin⟩
def impl_TakePin_hs : List NF := []

end
end Go.Mw

namespace Go.Mw
def bSmall (b : Bench) : Prop := b.p.length ≤ 1048576 ∧ fitLL b.o ∧ 1 + 2 * (b.p.length : Int) + 2 * sum2 b.o ≤ 1099511627776
theorem sum2_le {l : List (List T2)} {n m : Nat} (h1 : l.length ≤ n) (h2 : ∀ x ∈ l, x.length ≤ m) : sum2 l ≤ n * m := by
  induction l generalizing n with
  | nil => simp [sum2]
  | cons x l ih =>
    obtain ⟨n, rfl⟩ : ∃ k, n = k + 1 := ⟨n - 1, by simp at h1; omega⟩
    have h3 := ih (n := n) (by simpa using h1) (fun y hy => h2 y (by simp [hy]))
    have h4 := h2 x (by simp)
    simp only [sum2, List.map_cons, List.sum_cons, Nat.add_mul] at h3 ⊢
    omega
theorem bSmall_of_ok {b : Bench} (h : benchOk b = true) : bSmall b := by
  have h1 := benchOk_len h
  have h2 := ((benchOk_iff b).1 h).2.1
  have h3 := sum2_le h2 h1.2
  exact ⟨by omega, ⟨by omega, fun x hx => by have := h1.2 x hx; omega⟩, by omega⟩
theorem P1_appLL2_1 {l : List (List T2)} {a : List T2} {b : Nat} {k : V → Prop} : P1 (.app [.sl [.sc, .sc]] b) [vL IL2 vLL2 l, vL IL2 vLL2 [a]] k ↔ ((l.length + 1) * b ≤ 140737488355328 ∧ l.length + 1 ≤ 140737488355328) ∧ k (vL IL2 vLL2 (l ++ [a])) := P1_appL2_
theorem step_fit {b : Bench} {c : Cyl} (h : benchOk b = true) (hc : c.p.length ≤ 1048576) : (stepped b c).p.length ≤ 1048576 ∧ fitLL (stepped b c).o := by
  have h1 := bSmall_of_ok h
  have h2 := ((benchOk_iff b).1 h).2.1
  refine ⟨hc, by simp [stepped]; omega, fun x hx => ?_⟩
  simp only [stepped, List.mem_append, List.mem_singleton] at hx
  rcases hx with hx | rfl
  · exact h1.2.1.2 x hx
  · exact h1.1
theorem spec_l37Step_ok : ∀ ds outs, F_l37Step ds = some outs → shL spec_l37Step_L (qRet outs) ds := F_l37Step_elim fun b c hp => by
  have hb := And.intro hp.1 hp.2.1
  have hl := hp.2.1.1
  rw [spec_l37Step_L_sh, p_l37Copy (x_p := b.p) (x_o := b.o) hb]
  simp only [P1_lst0, P1_app2_0, P1_lstL2, P1_appLL2_1, p_l37Copy (x_p := b.p) (x_o := b.o) hb, p_BenchOk (x_p := b.p) (x_o := b.o) hb]
  refine ⟨by omega, by omega, ?_⟩
  cases h : benchOk b with
  | false => simp [stepTo, stepOk, h]
  | true =>
    have hs := step_fit h hp.2.2
    have e := p_BenchOk (x_s := c.s) (x_t := c.t) (x_p := c.p) (x_o := b.o ++ [b.p]) (nr_ := 1) (kk_ := fun v => v = v) hs
    simp only [P1_not, ifB_bool, Bool.not_true, Bool.false_eq_true, false_implies, true_and, true_implies]
    rw [p_BenchOk (x_s := c.s) (x_t := c.t) (x_p := c.p) (x_o := b.o ++ [b.p]) hs]
    cases h2 : benchOk (stepped b c) with
    | false =>
      have h3 : benchOk ⟨c.s, c.t, c.p, b.o ++ [b.p]⟩ = false := h2
      simp [stepTo, stepOk, h, h2, h3]
    | true =>
      have h3 : benchOk ⟨c.s, c.t, c.p, b.o ++ [b.p]⟩ = true := h2
      simp [stepTo, stepOk, h, h3, stepped]
theorem impl_replaced_ok : ∀ ds outs, F_replaced ds = some outs → shL impl_replaced_L (qRet outs) ds := F_replaced_elim fun b c n hp => by
  have hb := And.intro hp.1 hp.2.1
  have hl := hp.2.1.1
  have hbp : b.p.length ≤ 4194304 := by omega
  rw [impl_replaced_L_sh, p_copyBench (x_p := b.p) (x_o := b.o) hb, p_copyPins hbp]
  simp only [P1_lstL2, P1_appLL2_1, p_copyBench (x_p := b.p) (x_o := b.o) hb, p_BenchOk (x_p := b.p) (x_o := b.o) hb]
  refine ⟨by omega, ?_⟩
  cases n with
  | false => simp [stepTo]
  | true =>
  cases h : benchOk b with
  | false => simp [stepTo, stepOk, h]
  | true =>
    have hs := step_fit h hp.2.2
    simp only [P1_not, ifB_bool, Bool.not_true, Bool.false_eq_true, false_implies, true_and, true_implies]
    rw [p_BenchOk (x_s := c.s) (x_t := c.t) (x_p := c.p) (x_o := b.o ++ [b.p]) hs]
    cases h2 : benchOk (stepped b c) with
    | false =>
      have h3 : benchOk ⟨c.s, c.t, c.p, b.o ++ [b.p]⟩ = false := h2
      simp [stepTo, stepOk, h, h2, h3]
    | true =>
      have h3 : benchOk ⟨c.s, c.t, c.p, b.o ++ [b.p]⟩ = true := h2
      simp [stepTo, stepOk, h, h2, h3, stepped]
theorem pullPin_len (c : Cyl) (k : Int) : (pullPin c k).length ≤ c.p.length := by
  unfold pullPin
  split
  · simp; omega
  · exact Nat.le_refl _
theorem spec_TakePin_ok : ∀ ds outs, F_TakePin ds = some outs → shL spec_TakePin_L (qRet outs) ds := F_TakePin_elim fun b k hp => by
  have hl : (pullPin b.cyl k).length ≤ 1048576 := Nat.le_trans (pullPin_len b.cyl k) hp.1
  rw [spec_TakePin_L_sh, p_PullPin (x_p := b.p) hp.1]
  simp only [p_l37Copy (x_p := b.p) (x_o := b.o) hp]
  cases h : pullOk b.cyl k with
  | false =>
    have h' : (cylOk ⟨b.s, b.t, b.p⟩ && (decide (0 ≤ k) && decide (k < b.p.length))) = false := h
    simp [takePin, stepTo, h, h']
  | true =>
    have h' : (cylOk ⟨b.s, b.t, b.p⟩ && (decide (0 ≤ k) && decide (k < b.p.length))) = true := h
    simp only [h', P1_not, ifB_bool, Bool.not_true, Bool.false_eq_true, false_implies, true_and, true_implies]
    rw [p_l37Step (x_p := b.p) (x_o := b.o) (y_p := pullPin ⟨b.s, b.t, b.p⟩ k) ⟨hp.1, hp.2, hl⟩]
    simp only [takePin, h, Bool.true_and]
    exact ⟨rfl, rfl⟩
theorem impl_TakePin_ok : ∀ ds outs, F_TakePin ds = some outs → shL impl_TakePin_L (qRet outs) ds := F_TakePin_elim fun b k hp => by
  have hl : (pullPin b.cyl k).length ≤ 1048576 := Nat.le_trans (pullPin_len b.cyl k) hp.1
  rw [impl_TakePin_L_sh, p_PullPin (x_p := b.p) hp.1]
  rw [p_replaced (x_p := b.p) (x_o := b.o) (y_p := pullPin ⟨b.s, b.t, b.p⟩ k) ⟨hp.1, hp.2, hl⟩]
  exact ⟨rfl, rfl⟩
theorem stepTo_small {b : Bench} {c : Cyl} {n : Bool} (h : bSmall b) : bSmall (stepTo b c n) := by
  unfold stepTo
  split
  · rename_i hk
    simp only [stepOk, Bool.and_eq_true] at hk
    exact bSmall_of_ok hk.2.2
  · exact h
end Go.Mw

namespace Go.Mw
theorem spec_l37Copy_ok : ∀ ds outs, F_l37Copy ds = some outs → shL spec_l37Copy_L (qRet outs) ds := F_l37Copy_elim fun b hp => by
  rw [spec_l37Copy_L_sh]
  have hl := hp.2.1
  rw [p_l06Copy (x_p := b.p) (by show b.p.length ≤ _; omega)]
  simp
  refine loop_upto b.o.length (fun k => [.int .i64 k, vL I2 v2 b.p, vL IL2 vLL2 (b.o.take k), .int .i64 b.s, .int .i64 b.t, vL I2 v2 b.p, vL IL2 vLL2 b.o, .int .i64 0, .int .i64 0, .int .i64 b.s, .int .i64 b.t]) (by intro i j _ _ h; simp at h; omega) (fun _ => True) (by simp; rfl) trivial ?_
  intro k hk _
  rw [spec_l37Copy_b0_sh]
  simp
  refine ⟨fun h => ?_, fun h => ?_⟩
  · have hx := hp.2.2 b.o[k] (by simp)
    have hw : IntKind.i64.wrap ((k : Int) + 1) = k + 1 := wrap_id (by omega) (by omega)
    simp only [List.getElem?_eq_getElem h, Option.some.injEq, exists_eq_left']
    simp [h, hw]
    omega
  · obtain rfl : k = b.o.length := by omega
    simp [spec_l37Copy_r1_sh]

theorem spec_PullPin_ok : ∀ ds outs, F_PullPin ds = some outs → shL spec_PullPin_L (qRet outs) ds := F_PullPin_elim fun x k hp => by
  rw [spec_PullPin_L_sh, p_l06Copy (x_p := x.p) (by show x.p.length ≤ _; omega), p_CylinderOk (x_p := x.p) hp]
  have hw : IntKind.i64.wrap ((x.p.length : Int) - 1) = x.p.length - 1 := wrap_id (by omega) (by omega)
  have hc : cylOk ⟨x.s, x.t, x.p⟩ = cylOk x := rfl
  simp only [hc]
  by_cases h : cylOk x = true
  · by_cases h2 : 0 ≤ k ∧ k < x.p.length
    · have hw2 : IntKind.i64.wrap (k + 1) = k + 1 := wrap_id (by omega) (by omega)
      have h3 : (k + 1).toNat = k.toNat + 1 := by omega
      simp [h, hw, within, pullPin, h2.1, h2.2, hw2, h3]
      grind
    · simp [h, hw, within, pullPin]
      grind
  · simp only [Bool.not_eq_true] at h
    simp [h, pullPin]

theorem impl_PullPin_ok : ∀ ds outs, F_PullPin ds = some outs → shL impl_PullPin_L (qRet outs) ds := F_PullPin_elim fun x k hp => by
  rw [impl_PullPin_L_sh, p_copyCylinder (x_p := x.p) (by show x.p.length ≤ _; omega), p_CylinderOk (x_p := x.p) hp]
  have hc : cylOk ⟨x.s, x.t, x.p⟩ = cylOk x := rfl
  simp only [hc]
  by_cases h : cylOk x = true
  · by_cases h2 : 0 ≤ k ∧ k < x.p.length
    · have hw2 : IntKind.i64.wrap (k + 1) = k + 1 := wrap_id (by omega) (by omega)
      have h3 : (k + 1).toNat = k.toNat + 1 := by omega
      have h4 : ¬ k < 0 := by omega
      have h5 : ¬ (x.p.length : Int) ≤ k := by omega
      simp [h, pullPin, h2.1, h2.2, h4, h5]
      rw [p_copyPins (by simp; omega)]
      simp [hw2, h3]
      omega
    · simp [h, pullPin]
      grind
  · simp only [Bool.not_eq_true] at h
    simp [h, pullPin]
end Go.Mw

namespace Go.Mw
@[simp] theorem P1_lstLL1 {x : List Int} {k : V → Prop} : P1 (.lst [.sl [.sc]] false 1) [vL I1 v1 x] k ↔ k (vL IL1 vLL1 [x]) := P1_of (by simp [Prim.run, aksOk, akOk, chunk, V.pack, vL, vLL1, IL1, I1, AK.eqs_refl]) k
@[simp] theorem P1_lstI2 {a b : Int} {k : V → Prop} : P1 (.lst [.sc] false 2) [.int .i64 a, .int .i64 b] k ↔ k (vL I1 v1 [a, b]) := P1_of (by simp [Prim.run, aksOk, akOk, chunk, V.pack, vL, v1]) k
@[simp] theorem P1_appLL1 {l m : List (List Int)} {b : Nat} {k : V → Prop} : P1 (.app [.sl [.sc]] b) [vL IL1 vLL1 l, vL IL1 vLL1 m] k ↔ ((l.length + m.length) * b ≤ 140737488355328 ∧ l.length + m.length ≤ 140737488355328) ∧ k (vL IL1 vLL1 (l ++ m)) := P1_app
@[simp] theorem P1_appLL1_0 {m : List (List Int)} {b : Nat} {k : V → Prop} : P1 (.app [.sl [.sc]] b) [.list [.sl [.sc]] [], vL IL1 vLL1 m] k ↔ (m.length * b ≤ 140737488355328 ∧ m.length ≤ 140737488355328) ∧ k (vL IL1 vLL1 m) := P1_app0

def E_copyWorkshop (x : Shop) : List V := [.int .i64 x.s, .int .i64 x.t, vL I2 v2 x.p, vL IL2 vLL2 x.o, vL I1 v1 x.c, .int .i64 x.u, .int .i64 x.m, .int .i64 x.f, .int .i64 x.y, .int .i64 x.d]
noncomputable def F_copyWorkshop : List V → Option (List V) := mkF E_copyWorkshop (fun x => x.p.length ≤ 1048576 ∧ fitLL x.o ∧ x.c.length ≤ 1048576) (fun x => [.int .i64 x.s, .int .i64 x.t, vL I2 v2 x.p, vL IL2 vLL2 x.o, vL I1 v1 x.c, .int .i64 x.u, .int .i64 x.m, .int .i64 x.f, .int .i64 x.y, .int .i64 x.d])
theorem F_copyWorkshop_inj : ∀ x y, E_copyWorkshop x = E_copyWorkshop y → x = y := by
  rintro ⟨xs, xt, xp, xo, xc, xu, xm, xf, xy, xd⟩ ⟨xs', xt', xp', xo', xc', xu', xm', xf', xy', xd'⟩ h
  simpa [E_copyWorkshop] using h
theorem F_copyWorkshop_elim {P : List V → List V → Prop} (h : ∀ (x : Shop), (x.p.length ≤ 1048576 ∧ fitLL x.o ∧ x.c.length ≤ 1048576) → P [.int .i64 x.s, .int .i64 x.t, vL I2 v2 x.p, vL IL2 vLL2 x.o, vL I1 v1 x.c, .int .i64 x.u, .int .i64 x.m, .int .i64 x.f, .int .i64 x.y, .int .i64 x.d] [.int .i64 x.s, .int .i64 x.t, vL I2 v2 x.p, vL IL2 vLL2 x.o, vL I1 v1 x.c, .int .i64 x.u, .int .i64 x.m, .int .i64 x.f, .int .i64 x.y, .int .i64 x.d]) : ∀ ds outs, F_copyWorkshop ds = some outs → P ds outs := by
  intro ds outs hh
  obtain ⟨x, rfl, hp, rfl⟩ := mkF_inv hh
  exact h x hp
theorem p_copyWorkshop {x_s : Int} {x_t : Int} {x_p : List T2} {x_o : List (List T2)} {x_c : List Int} {x_u : Int} {x_m : Int} {x_f : Int} {x_y : Int} {x_d : Int} {nr_ : Nat} {kk_ : V → V → V → V → V → V → V → V → V → V → Prop} (hp : (⟨x_s, x_t, x_p, x_o, x_c, x_u, x_m, x_f, x_y, x_d⟩ : Shop).p.length ≤ 1048576 ∧ fitLL (⟨x_s, x_t, x_p, x_o, x_c, x_u, x_m, x_f, x_y, x_d⟩ : Shop).o ∧ (⟨x_s, x_t, x_p, x_o, x_c, x_u, x_m, x_f, x_y, x_d⟩ : Shop).c.length ≤ 1048576) : P10 (.call F_copyWorkshop 0 nr_) [.int .i64 x_s, .int .i64 x_t, vL I2 v2 x_p, vL IL2 vLL2 x_o, vL I1 v1 x_c, .int .i64 x_u, .int .i64 x_m, .int .i64 x_f, .int .i64 x_y, .int .i64 x_d] kk_ ↔ kk_ (.int .i64 ((⟨x_s, x_t, x_p, x_o, x_c, x_u, x_m, x_f, x_y, x_d⟩ : Shop)).s) (.int .i64 ((⟨x_s, x_t, x_p, x_o, x_c, x_u, x_m, x_f, x_y, x_d⟩ : Shop)).t) (vL I2 v2 ((⟨x_s, x_t, x_p, x_o, x_c, x_u, x_m, x_f, x_y, x_d⟩ : Shop)).p) (vL IL2 vLL2 ((⟨x_s, x_t, x_p, x_o, x_c, x_u, x_m, x_f, x_y, x_d⟩ : Shop)).o) (vL I1 v1 ((⟨x_s, x_t, x_p, x_o, x_c, x_u, x_m, x_f, x_y, x_d⟩ : Shop)).c) (.int .i64 ((⟨x_s, x_t, x_p, x_o, x_c, x_u, x_m, x_f, x_y, x_d⟩ : Shop)).u) (.int .i64 ((⟨x_s, x_t, x_p, x_o, x_c, x_u, x_m, x_f, x_y, x_d⟩ : Shop)).m) (.int .i64 ((⟨x_s, x_t, x_p, x_o, x_c, x_u, x_m, x_f, x_y, x_d⟩ : Shop)).f) (.int .i64 ((⟨x_s, x_t, x_p, x_o, x_c, x_u, x_m, x_f, x_y, x_d⟩ : Shop)).y) (.int .i64 ((⟨x_s, x_t, x_p, x_o, x_c, x_u, x_m, x_f, x_y, x_d⟩ : Shop)).d) :=
  P10_callF (by unfold F_copyWorkshop; exact mkF_eq F_copyWorkshop_inj ((⟨x_s, x_t, x_p, x_o, x_c, x_u, x_m, x_f, x_y, x_d⟩ : Shop)) hp)

def windOk (x : T3) (n : Int) : Bool := springOk x && within n 0 100
def windBy (x : T3) (n : Int) : Int := if windOk x n then min n (x.b - x.a) else -1
def windTo (x : T3) (n : Int) : T3 := if windOk x n then ⟨x.a + min n (x.b - x.a), x.b, x.c⟩ else x
def E_Wind : T3 × Int → List V := fun (x, n) => [.int .i64 x.a, .int .i64 x.b, .int .i64 x.c, .int .i64 n]
noncomputable def F_Wind : List V → Option (List V) := mkF E_Wind (fun (_, _) => True) (fun (x, n) => [.int .i64 (windTo x n).a, .int .i64 (windTo x n).b, .int .i64 (windTo x n).c, .int .i64 (windBy x n)])
theorem F_Wind_inj : ∀ x y, E_Wind x = E_Wind y → x = y := by
  rintro ⟨⟨xa, xb, xc⟩, n⟩ ⟨⟨xa', xb', xc'⟩, n'⟩ h
  simpa [E_Wind, and_assoc] using h
theorem F_Wind_elim {P : List V → List V → Prop} (h : ∀ (x : T3) (n : Int), P [.int .i64 x.a, .int .i64 x.b, .int .i64 x.c, .int .i64 n] [.int .i64 (windTo x n).a, .int .i64 (windTo x n).b, .int .i64 (windTo x n).c, .int .i64 (windBy x n)]) : ∀ ds outs, F_Wind ds = some outs → P ds outs := by
  intro ds outs hh
  obtain ⟨⟨x, n⟩, rfl, -, rfl⟩ := mkF_inv hh
  exact h x n
@[simp] theorem p_Wind {x_a : Int} {x_b : Int} {x_c : Int} {n : Int} {nr_ : Nat} {kk_ : V → V → V → V → Prop} : P4 (.call F_Wind 0 nr_) [.int .i64 x_a, .int .i64 x_b, .int .i64 x_c, .int .i64 n] kk_ ↔ kk_ (.int .i64 (windTo (⟨x_a, x_b, x_c⟩ : T3) n).a) (.int .i64 (windTo (⟨x_a, x_b, x_c⟩ : T3) n).b) (.int .i64 (windTo (⟨x_a, x_b, x_c⟩ : T3) n).c) (.int .i64 (windBy (⟨x_a, x_b, x_c⟩ : T3) n)) :=
  P4_callF (by unfold F_Wind; exact mkF_eq F_Wind_inj ((⟨x_a, x_b, x_c⟩ : T3), n) trivial)

def Shop.spring (w : Shop) : T3 := ⟨w.u, w.m, w.f⟩
def crank (w : Shop) (n : Int) : Shop := if shopOk w then ⟨w.s, w.t, w.p, w.o, w.c, (windTo w.spring n).a, (windTo w.spring n).b, (windTo w.spring n).c, w.y, w.d⟩ else w
def E_Crank : Shop × Int → List V := fun (x, n) => [.int .i64 x.s, .int .i64 x.t, vL I2 v2 x.p, vL IL2 vLL2 x.o, vL I1 v1 x.c, .int .i64 x.u, .int .i64 x.m, .int .i64 x.f, .int .i64 x.y, .int .i64 x.d, .int .i64 n]
noncomputable def F_Crank : List V → Option (List V) := mkF E_Crank (fun (x, _) => x.p.length ≤ 1048576 ∧ fitLL x.o ∧ x.c.length ≤ 1048576) (fun (x, n) => [.int .i64 (crank x n).s, .int .i64 (crank x n).t, vL I2 v2 (crank x n).p, vL IL2 vLL2 (crank x n).o, vL I1 v1 (crank x n).c, .int .i64 (crank x n).u, .int .i64 (crank x n).m, .int .i64 (crank x n).f, .int .i64 (crank x n).y, .int .i64 (crank x n).d, .int .i64 (if shopOk x then windBy x.spring n else -1)])
theorem F_Crank_inj : ∀ x y, E_Crank x = E_Crank y → x = y := by
  rintro ⟨⟨xs, xt, xp, xo, xc, xu, xm, xf, xy, xd⟩, n⟩ ⟨⟨xs', xt', xp', xo', xc', xu', xm', xf', xy', xd'⟩, n'⟩ h
  simpa [E_Crank, and_assoc] using h
theorem F_Crank_elim {P : List V → List V → Prop} (h : ∀ (x : Shop) (n : Int), (x.p.length ≤ 1048576 ∧ fitLL x.o ∧ x.c.length ≤ 1048576) → P [.int .i64 x.s, .int .i64 x.t, vL I2 v2 x.p, vL IL2 vLL2 x.o, vL I1 v1 x.c, .int .i64 x.u, .int .i64 x.m, .int .i64 x.f, .int .i64 x.y, .int .i64 x.d, .int .i64 n] [.int .i64 (crank x n).s, .int .i64 (crank x n).t, vL I2 v2 (crank x n).p, vL IL2 vLL2 (crank x n).o, vL I1 v1 (crank x n).c, .int .i64 (crank x n).u, .int .i64 (crank x n).m, .int .i64 (crank x n).f, .int .i64 (crank x n).y, .int .i64 (crank x n).d, .int .i64 (if shopOk x then windBy x.spring n else -1)]) : ∀ ds outs, F_Crank ds = some outs → P ds outs := by
  intro ds outs hh
  obtain ⟨⟨x, n⟩, rfl, hp, rfl⟩ := mkF_inv hh
  exact h x n hp
theorem p_Crank {x_s : Int} {x_t : Int} {x_p : List T2} {x_o : List (List T2)} {x_c : List Int} {x_u : Int} {x_m : Int} {x_f : Int} {x_y : Int} {x_d : Int} {n : Int} {nr_ : Nat} {kk_ : V → V → V → V → V → V → V → V → V → V → V → Prop} (hp : (⟨x_s, x_t, x_p, x_o, x_c, x_u, x_m, x_f, x_y, x_d⟩ : Shop).p.length ≤ 1048576 ∧ fitLL (⟨x_s, x_t, x_p, x_o, x_c, x_u, x_m, x_f, x_y, x_d⟩ : Shop).o ∧ (⟨x_s, x_t, x_p, x_o, x_c, x_u, x_m, x_f, x_y, x_d⟩ : Shop).c.length ≤ 1048576) : P11 (.call F_Crank 0 nr_) [.int .i64 x_s, .int .i64 x_t, vL I2 v2 x_p, vL IL2 vLL2 x_o, vL I1 v1 x_c, .int .i64 x_u, .int .i64 x_m, .int .i64 x_f, .int .i64 x_y, .int .i64 x_d, .int .i64 n] kk_ ↔ kk_ (.int .i64 (crank (⟨x_s, x_t, x_p, x_o, x_c, x_u, x_m, x_f, x_y, x_d⟩ : Shop) n).s) (.int .i64 (crank (⟨x_s, x_t, x_p, x_o, x_c, x_u, x_m, x_f, x_y, x_d⟩ : Shop) n).t) (vL I2 v2 (crank (⟨x_s, x_t, x_p, x_o, x_c, x_u, x_m, x_f, x_y, x_d⟩ : Shop) n).p) (vL IL2 vLL2 (crank (⟨x_s, x_t, x_p, x_o, x_c, x_u, x_m, x_f, x_y, x_d⟩ : Shop) n).o) (vL I1 v1 (crank (⟨x_s, x_t, x_p, x_o, x_c, x_u, x_m, x_f, x_y, x_d⟩ : Shop) n).c) (.int .i64 (crank (⟨x_s, x_t, x_p, x_o, x_c, x_u, x_m, x_f, x_y, x_d⟩ : Shop) n).u) (.int .i64 (crank (⟨x_s, x_t, x_p, x_o, x_c, x_u, x_m, x_f, x_y, x_d⟩ : Shop) n).m) (.int .i64 (crank (⟨x_s, x_t, x_p, x_o, x_c, x_u, x_m, x_f, x_y, x_d⟩ : Shop) n).f) (.int .i64 (crank (⟨x_s, x_t, x_p, x_o, x_c, x_u, x_m, x_f, x_y, x_d⟩ : Shop) n).y) (.int .i64 (crank (⟨x_s, x_t, x_p, x_o, x_c, x_u, x_m, x_f, x_y, x_d⟩ : Shop) n).d) (.int .i64 (if shopOk (⟨x_s, x_t, x_p, x_o, x_c, x_u, x_m, x_f, x_y, x_d⟩ : Shop) then windBy (⟨x_s, x_t, x_p, x_o, x_c, x_u, x_m, x_f, x_y, x_d⟩ : Shop).spring n else -1)) :=
  P11_callF (by unfold F_Crank; exact mkF_eq F_Crank_inj ((⟨x_s, x_t, x_p, x_o, x_c, x_u, x_m, x_f, x_y, x_d⟩ : Shop), n) hp)


def withB (w : Shop) (b : Bench) (k : Int) : Shop := ⟨b.s, b.t, b.p, b.o, w.c, w.u, w.m, w.f, w.y - k, w.d⟩
def benchFits (w : Shop) (b : Bench) (k : Int) (ok : Bool) : Bool := ok && (shopOk w && shopOk (withB w b k))
def withBench (w : Shop) (b : Bench) (k : Int) (ok : Bool) : Shop := if benchFits w b k ok then withB w b k else w
def E_withBench : Shop × Bench × Int × Bool → List V := fun (x, y, k, n) => [.int .i64 x.s, .int .i64 x.t, vL I2 v2 x.p, vL IL2 vLL2 x.o, vL I1 v1 x.c, .int .i64 x.u, .int .i64 x.m, .int .i64 x.f, .int .i64 x.y, .int .i64 x.d, .int .i64 y.s, .int .i64 y.t, vL I2 v2 y.p, vL IL2 vLL2 y.o, .int .i64 k, .bool n]
noncomputable def F_withBench : List V → Option (List V) := mkF E_withBench (fun (x, y, k, _) => x.p.length ≤ 1048576 ∧ fitLL x.o ∧ x.c.length ≤ 1048576 ∧ y.p.length ≤ 1048576 ∧ fitLL y.o ∧ -1000000000 ≤ k ∧ k ≤ 1000000000) (fun (x, y, k, n) => [.int .i64 (withBench x y k n).s, .int .i64 (withBench x y k n).t, vL I2 v2 (withBench x y k n).p, vL IL2 vLL2 (withBench x y k n).o, vL I1 v1 (withBench x y k n).c, .int .i64 (withBench x y k n).u, .int .i64 (withBench x y k n).m, .int .i64 (withBench x y k n).f, .int .i64 (withBench x y k n).y, .int .i64 (withBench x y k n).d, .bool (benchFits x y k n)])
theorem F_withBench_inj : ∀ x y, E_withBench x = E_withBench y → x = y := by
  rintro ⟨⟨xs, xt, xp, xo, xc, xu, xm, xf, xy, xd⟩, ⟨ys, yt, yp, yo⟩, k, n⟩ ⟨⟨xs', xt', xp', xo', xc', xu', xm', xf', xy', xd'⟩, ⟨ys', yt', yp', yo'⟩, k', n'⟩ h
  simpa [E_withBench, and_assoc] using h
theorem F_withBench_elim {P : List V → List V → Prop} (h : ∀ (x : Shop) (y : Bench) (k : Int) (n : Bool), (x.p.length ≤ 1048576 ∧ fitLL x.o ∧ x.c.length ≤ 1048576 ∧ y.p.length ≤ 1048576 ∧ fitLL y.o ∧ -1000000000 ≤ k ∧ k ≤ 1000000000) → P [.int .i64 x.s, .int .i64 x.t, vL I2 v2 x.p, vL IL2 vLL2 x.o, vL I1 v1 x.c, .int .i64 x.u, .int .i64 x.m, .int .i64 x.f, .int .i64 x.y, .int .i64 x.d, .int .i64 y.s, .int .i64 y.t, vL I2 v2 y.p, vL IL2 vLL2 y.o, .int .i64 k, .bool n] [.int .i64 (withBench x y k n).s, .int .i64 (withBench x y k n).t, vL I2 v2 (withBench x y k n).p, vL IL2 vLL2 (withBench x y k n).o, vL I1 v1 (withBench x y k n).c, .int .i64 (withBench x y k n).u, .int .i64 (withBench x y k n).m, .int .i64 (withBench x y k n).f, .int .i64 (withBench x y k n).y, .int .i64 (withBench x y k n).d, .bool (benchFits x y k n)]) : ∀ ds outs, F_withBench ds = some outs → P ds outs := by
  intro ds outs hh
  obtain ⟨⟨x, y, k, n⟩, rfl, hp, rfl⟩ := mkF_inv hh
  exact h x y k n hp
theorem p_withBench {x_s : Int} {x_t : Int} {x_p : List T2} {x_o : List (List T2)} {x_c : List Int} {x_u : Int} {x_m : Int} {x_f : Int} {x_y : Int} {x_d : Int} {y_s : Int} {y_t : Int} {y_p : List T2} {y_o : List (List T2)} {k : Int} {n : Bool} {nr_ : Nat} {kk_ : V → V → V → V → V → V → V → V → V → V → V → Prop} (hp : (⟨x_s, x_t, x_p, x_o, x_c, x_u, x_m, x_f, x_y, x_d⟩ : Shop).p.length ≤ 1048576 ∧ fitLL (⟨x_s, x_t, x_p, x_o, x_c, x_u, x_m, x_f, x_y, x_d⟩ : Shop).o ∧ (⟨x_s, x_t, x_p, x_o, x_c, x_u, x_m, x_f, x_y, x_d⟩ : Shop).c.length ≤ 1048576 ∧ (⟨y_s, y_t, y_p, y_o⟩ : Bench).p.length ≤ 1048576 ∧ fitLL (⟨y_s, y_t, y_p, y_o⟩ : Bench).o ∧ -1000000000 ≤ k ∧ k ≤ 1000000000) : P11 (.call F_withBench 0 nr_) [.int .i64 x_s, .int .i64 x_t, vL I2 v2 x_p, vL IL2 vLL2 x_o, vL I1 v1 x_c, .int .i64 x_u, .int .i64 x_m, .int .i64 x_f, .int .i64 x_y, .int .i64 x_d, .int .i64 y_s, .int .i64 y_t, vL I2 v2 y_p, vL IL2 vLL2 y_o, .int .i64 k, .bool n] kk_ ↔ kk_ (.int .i64 (withBench (⟨x_s, x_t, x_p, x_o, x_c, x_u, x_m, x_f, x_y, x_d⟩ : Shop) (⟨y_s, y_t, y_p, y_o⟩ : Bench) k n).s) (.int .i64 (withBench (⟨x_s, x_t, x_p, x_o, x_c, x_u, x_m, x_f, x_y, x_d⟩ : Shop) (⟨y_s, y_t, y_p, y_o⟩ : Bench) k n).t) (vL I2 v2 (withBench (⟨x_s, x_t, x_p, x_o, x_c, x_u, x_m, x_f, x_y, x_d⟩ : Shop) (⟨y_s, y_t, y_p, y_o⟩ : Bench) k n).p) (vL IL2 vLL2 (withBench (⟨x_s, x_t, x_p, x_o, x_c, x_u, x_m, x_f, x_y, x_d⟩ : Shop) (⟨y_s, y_t, y_p, y_o⟩ : Bench) k n).o) (vL I1 v1 (withBench (⟨x_s, x_t, x_p, x_o, x_c, x_u, x_m, x_f, x_y, x_d⟩ : Shop) (⟨y_s, y_t, y_p, y_o⟩ : Bench) k n).c) (.int .i64 (withBench (⟨x_s, x_t, x_p, x_o, x_c, x_u, x_m, x_f, x_y, x_d⟩ : Shop) (⟨y_s, y_t, y_p, y_o⟩ : Bench) k n).u) (.int .i64 (withBench (⟨x_s, x_t, x_p, x_o, x_c, x_u, x_m, x_f, x_y, x_d⟩ : Shop) (⟨y_s, y_t, y_p, y_o⟩ : Bench) k n).m) (.int .i64 (withBench (⟨x_s, x_t, x_p, x_o, x_c, x_u, x_m, x_f, x_y, x_d⟩ : Shop) (⟨y_s, y_t, y_p, y_o⟩ : Bench) k n).f) (.int .i64 (withBench (⟨x_s, x_t, x_p, x_o, x_c, x_u, x_m, x_f, x_y, x_d⟩ : Shop) (⟨y_s, y_t, y_p, y_o⟩ : Bench) k n).y) (.int .i64 (withBench (⟨x_s, x_t, x_p, x_o, x_c, x_u, x_m, x_f, x_y, x_d⟩ : Shop) (⟨y_s, y_t, y_p, y_o⟩ : Bench) k n).d) (.bool (benchFits (⟨x_s, x_t, x_p, x_o, x_c, x_u, x_m, x_f, x_y, x_d⟩ : Shop) (⟨y_s, y_t, y_p, y_o⟩ : Bench) k n)) :=
  P11_callF (by unfold F_withBench; exact mkF_eq F_withBench_inj ((⟨x_s, x_t, x_p, x_o, x_c, x_u, x_m, x_f, x_y, x_d⟩ : Shop), (⟨y_s, y_t, y_p, y_o⟩ : Bench), k, n) hp)

def canTake (b : Bench) (k : Int) : Bool := pullOk b.cyl k && stepOk b (pulled b k)
def E_RemovePin : Shop × Int → List V := fun (x, k) => [.int .i64 x.s, .int .i64 x.t, vL I2 v2 x.p, vL IL2 vLL2 x.o, vL I1 v1 x.c, .int .i64 x.u, .int .i64 x.m, .int .i64 x.f, .int .i64 x.y, .int .i64 x.d, .int .i64 k]
noncomputable def F_RemovePin : List V → Option (List V) := mkF E_RemovePin (fun (x, _) => x.p.length ≤ 1048576 ∧ fitLL x.o ∧ x.c.length ≤ 1048576) (fun (x, k) => [.int .i64 (withBench x (takePin x.bench k) 0 (canTake x.bench k)).s, .int .i64 (withBench x (takePin x.bench k) 0 (canTake x.bench k)).t, vL I2 v2 (withBench x (takePin x.bench k) 0 (canTake x.bench k)).p, vL IL2 vLL2 (withBench x (takePin x.bench k) 0 (canTake x.bench k)).o, vL I1 v1 (withBench x (takePin x.bench k) 0 (canTake x.bench k)).c, .int .i64 (withBench x (takePin x.bench k) 0 (canTake x.bench k)).u, .int .i64 (withBench x (takePin x.bench k) 0 (canTake x.bench k)).m, .int .i64 (withBench x (takePin x.bench k) 0 (canTake x.bench k)).f, .int .i64 (withBench x (takePin x.bench k) 0 (canTake x.bench k)).y, .int .i64 (withBench x (takePin x.bench k) 0 (canTake x.bench k)).d, .bool (benchFits x (takePin x.bench k) 0 (canTake x.bench k))])
theorem F_RemovePin_inj : ∀ x y, E_RemovePin x = E_RemovePin y → x = y := by
  rintro ⟨⟨xs, xt, xp, xo, xc, xu, xm, xf, xy, xd⟩, k⟩ ⟨⟨xs', xt', xp', xo', xc', xu', xm', xf', xy', xd'⟩, k'⟩ h
  simpa [E_RemovePin, and_assoc] using h
theorem F_RemovePin_elim {P : List V → List V → Prop} (h : ∀ (x : Shop) (k : Int), (x.p.length ≤ 1048576 ∧ fitLL x.o ∧ x.c.length ≤ 1048576) → P [.int .i64 x.s, .int .i64 x.t, vL I2 v2 x.p, vL IL2 vLL2 x.o, vL I1 v1 x.c, .int .i64 x.u, .int .i64 x.m, .int .i64 x.f, .int .i64 x.y, .int .i64 x.d, .int .i64 k] [.int .i64 (withBench x (takePin x.bench k) 0 (canTake x.bench k)).s, .int .i64 (withBench x (takePin x.bench k) 0 (canTake x.bench k)).t, vL I2 v2 (withBench x (takePin x.bench k) 0 (canTake x.bench k)).p, vL IL2 vLL2 (withBench x (takePin x.bench k) 0 (canTake x.bench k)).o, vL I1 v1 (withBench x (takePin x.bench k) 0 (canTake x.bench k)).c, .int .i64 (withBench x (takePin x.bench k) 0 (canTake x.bench k)).u, .int .i64 (withBench x (takePin x.bench k) 0 (canTake x.bench k)).m, .int .i64 (withBench x (takePin x.bench k) 0 (canTake x.bench k)).f, .int .i64 (withBench x (takePin x.bench k) 0 (canTake x.bench k)).y, .int .i64 (withBench x (takePin x.bench k) 0 (canTake x.bench k)).d, .bool (benchFits x (takePin x.bench k) 0 (canTake x.bench k))]) : ∀ ds outs, F_RemovePin ds = some outs → P ds outs := by
  intro ds outs hh
  obtain ⟨⟨x, k⟩, rfl, hp, rfl⟩ := mkF_inv hh
  exact h x k hp
theorem p_RemovePin {x_s : Int} {x_t : Int} {x_p : List T2} {x_o : List (List T2)} {x_c : List Int} {x_u : Int} {x_m : Int} {x_f : Int} {x_y : Int} {x_d : Int} {k : Int} {nr_ : Nat} {kk_ : V → V → V → V → V → V → V → V → V → V → V → Prop} (hp : (⟨x_s, x_t, x_p, x_o, x_c, x_u, x_m, x_f, x_y, x_d⟩ : Shop).p.length ≤ 1048576 ∧ fitLL (⟨x_s, x_t, x_p, x_o, x_c, x_u, x_m, x_f, x_y, x_d⟩ : Shop).o ∧ (⟨x_s, x_t, x_p, x_o, x_c, x_u, x_m, x_f, x_y, x_d⟩ : Shop).c.length ≤ 1048576) : P11 (.call F_RemovePin 0 nr_) [.int .i64 x_s, .int .i64 x_t, vL I2 v2 x_p, vL IL2 vLL2 x_o, vL I1 v1 x_c, .int .i64 x_u, .int .i64 x_m, .int .i64 x_f, .int .i64 x_y, .int .i64 x_d, .int .i64 k] kk_ ↔ kk_ (.int .i64 (withBench (⟨x_s, x_t, x_p, x_o, x_c, x_u, x_m, x_f, x_y, x_d⟩ : Shop) (takePin (⟨x_s, x_t, x_p, x_o, x_c, x_u, x_m, x_f, x_y, x_d⟩ : Shop).bench k) 0 (canTake (⟨x_s, x_t, x_p, x_o, x_c, x_u, x_m, x_f, x_y, x_d⟩ : Shop).bench k)).s) (.int .i64 (withBench (⟨x_s, x_t, x_p, x_o, x_c, x_u, x_m, x_f, x_y, x_d⟩ : Shop) (takePin (⟨x_s, x_t, x_p, x_o, x_c, x_u, x_m, x_f, x_y, x_d⟩ : Shop).bench k) 0 (canTake (⟨x_s, x_t, x_p, x_o, x_c, x_u, x_m, x_f, x_y, x_d⟩ : Shop).bench k)).t) (vL I2 v2 (withBench (⟨x_s, x_t, x_p, x_o, x_c, x_u, x_m, x_f, x_y, x_d⟩ : Shop) (takePin (⟨x_s, x_t, x_p, x_o, x_c, x_u, x_m, x_f, x_y, x_d⟩ : Shop).bench k) 0 (canTake (⟨x_s, x_t, x_p, x_o, x_c, x_u, x_m, x_f, x_y, x_d⟩ : Shop).bench k)).p) (vL IL2 vLL2 (withBench (⟨x_s, x_t, x_p, x_o, x_c, x_u, x_m, x_f, x_y, x_d⟩ : Shop) (takePin (⟨x_s, x_t, x_p, x_o, x_c, x_u, x_m, x_f, x_y, x_d⟩ : Shop).bench k) 0 (canTake (⟨x_s, x_t, x_p, x_o, x_c, x_u, x_m, x_f, x_y, x_d⟩ : Shop).bench k)).o) (vL I1 v1 (withBench (⟨x_s, x_t, x_p, x_o, x_c, x_u, x_m, x_f, x_y, x_d⟩ : Shop) (takePin (⟨x_s, x_t, x_p, x_o, x_c, x_u, x_m, x_f, x_y, x_d⟩ : Shop).bench k) 0 (canTake (⟨x_s, x_t, x_p, x_o, x_c, x_u, x_m, x_f, x_y, x_d⟩ : Shop).bench k)).c) (.int .i64 (withBench (⟨x_s, x_t, x_p, x_o, x_c, x_u, x_m, x_f, x_y, x_d⟩ : Shop) (takePin (⟨x_s, x_t, x_p, x_o, x_c, x_u, x_m, x_f, x_y, x_d⟩ : Shop).bench k) 0 (canTake (⟨x_s, x_t, x_p, x_o, x_c, x_u, x_m, x_f, x_y, x_d⟩ : Shop).bench k)).u) (.int .i64 (withBench (⟨x_s, x_t, x_p, x_o, x_c, x_u, x_m, x_f, x_y, x_d⟩ : Shop) (takePin (⟨x_s, x_t, x_p, x_o, x_c, x_u, x_m, x_f, x_y, x_d⟩ : Shop).bench k) 0 (canTake (⟨x_s, x_t, x_p, x_o, x_c, x_u, x_m, x_f, x_y, x_d⟩ : Shop).bench k)).m) (.int .i64 (withBench (⟨x_s, x_t, x_p, x_o, x_c, x_u, x_m, x_f, x_y, x_d⟩ : Shop) (takePin (⟨x_s, x_t, x_p, x_o, x_c, x_u, x_m, x_f, x_y, x_d⟩ : Shop).bench k) 0 (canTake (⟨x_s, x_t, x_p, x_o, x_c, x_u, x_m, x_f, x_y, x_d⟩ : Shop).bench k)).f) (.int .i64 (withBench (⟨x_s, x_t, x_p, x_o, x_c, x_u, x_m, x_f, x_y, x_d⟩ : Shop) (takePin (⟨x_s, x_t, x_p, x_o, x_c, x_u, x_m, x_f, x_y, x_d⟩ : Shop).bench k) 0 (canTake (⟨x_s, x_t, x_p, x_o, x_c, x_u, x_m, x_f, x_y, x_d⟩ : Shop).bench k)).y) (.int .i64 (withBench (⟨x_s, x_t, x_p, x_o, x_c, x_u, x_m, x_f, x_y, x_d⟩ : Shop) (takePin (⟨x_s, x_t, x_p, x_o, x_c, x_u, x_m, x_f, x_y, x_d⟩ : Shop).bench k) 0 (canTake (⟨x_s, x_t, x_p, x_o, x_c, x_u, x_m, x_f, x_y, x_d⟩ : Shop).bench k)).d) (.bool (benchFits (⟨x_s, x_t, x_p, x_o, x_c, x_u, x_m, x_f, x_y, x_d⟩ : Shop) (takePin (⟨x_s, x_t, x_p, x_o, x_c, x_u, x_m, x_f, x_y, x_d⟩ : Shop).bench k) 0 (canTake (⟨x_s, x_t, x_p, x_o, x_c, x_u, x_m, x_f, x_y, x_d⟩ : Shop).bench k))) :=
  P11_callF (by unfold F_RemovePin; exact mkF_eq F_RemovePin_inj ((⟨x_s, x_t, x_p, x_o, x_c, x_u, x_m, x_f, x_y, x_d⟩ : Shop), k) hp)


def gap (a b n : Int) : Int := if within n 1 1000 && (within a 0 (n - 1) && within b 0 (n - 1)) then min (max (a - b) (b - a)) (n - max (a - b) (b - a)) else -1
def E_GapAround : Int × Int × Int → List V := fun (a, b, n) => [.int .i64 a, .int .i64 b, .int .i64 n]
noncomputable def F_GapAround : List V → Option (List V) := mkF E_GapAround (fun (_, _, _) => True) (fun (a, b, n) => [.int .i64 (gap a b n)])
theorem F_GapAround_inj : ∀ x y, E_GapAround x = E_GapAround y → x = y := by
  rintro ⟨a, b, n⟩ ⟨a', b', n'⟩ h
  simpa [E_GapAround] using h
theorem F_GapAround_elim {P : List V → List V → Prop} (h : ∀ (a : Int) (b : Int) (n : Int), P [.int .i64 a, .int .i64 b, .int .i64 n] [.int .i64 (gap a b n)]) : ∀ ds outs, F_GapAround ds = some outs → P ds outs := by
  intro ds outs hh
  obtain ⟨⟨a, b, n⟩, rfl, -, rfl⟩ := mkF_inv hh
  exact h a b n
@[simp] theorem p_GapAround {a : Int} {b : Int} {n : Int} {nr_ : Nat} {kk_ : V → Prop} : P1 (.call F_GapAround 0 nr_) [.int .i64 a, .int .i64 b, .int .i64 n] kk_ ↔ kk_ (.int .i64 (gap a b n)) :=
  P1_callF (by unfold F_GapAround; exact mkF_eq F_GapAround_inj (a, b, n) trivial)

def closeAt (c : Cyl) (r : Int) (i j : Nat) : Bool := match c.p[i]?, c.p[j]? with | some x, some y => decide (x.a = y.a ∧ gap x.b y.b c.s < r) | _, _ => false
def closeRow (c : Cyl) (r : Int) (i : Nat) : Nat → List (List Int)
  | 0 => []
  | k + 1 => closeRow c r i k ++ (if i < k ∧ closeAt c r i k then [[(i : Int), (k : Int)]] else [])
def closeTo (c : Cyl) (r : Int) : Nat → List (List Int)
  | 0 => []
  | k + 1 => closeTo c r k ++ closeRow c r k c.p.length
def tooClose (c : Cyl) (r : Int) : List (List Int) := if cylOk c && within r 1 96 then closeTo c r c.p.length else []
def E_TooClose : Cyl × Int → List V := fun (x, r) => [.int .i64 x.s, .int .i64 x.t, vL I2 v2 x.p, .int .i64 r]
noncomputable def F_TooClose : List V → Option (List V) := mkF E_TooClose (fun (x, _) => x.p.length ≤ 1048576) (fun (x, r) => [vL IL1 vLL1 (tooClose x r)])
theorem F_TooClose_inj : ∀ x y, E_TooClose x = E_TooClose y → x = y := by
  rintro ⟨⟨xs, xt, xp⟩, r⟩ ⟨⟨xs', xt', xp'⟩, r'⟩ h
  simpa [E_TooClose, and_assoc] using h
theorem F_TooClose_elim {P : List V → List V → Prop} (h : ∀ (x : Cyl) (r : Int), (x.p.length ≤ 1048576) → P [.int .i64 x.s, .int .i64 x.t, vL I2 v2 x.p, .int .i64 r] [vL IL1 vLL1 (tooClose x r)]) : ∀ ds outs, F_TooClose ds = some outs → P ds outs := by
  intro ds outs hh
  obtain ⟨⟨x, r⟩, rfl, hp, rfl⟩ := mkF_inv hh
  exact h x r hp
theorem p_TooClose {x_s : Int} {x_t : Int} {x_p : List T2} {r : Int} {nr_ : Nat} {kk_ : V → Prop} (hp : (⟨x_s, x_t, x_p⟩ : Cyl).p.length ≤ 1048576) : P1 (.call F_TooClose 0 nr_) [.int .i64 x_s, .int .i64 x_t, vL I2 v2 x_p, .int .i64 r] kk_ ↔ kk_ (vL IL1 vLL1 (tooClose (⟨x_s, x_t, x_p⟩ : Cyl) r)) :=
  P1_callF (by unfold F_TooClose; exact mkF_eq F_TooClose_inj ((⟨x_s, x_t, x_p⟩ : Cyl), r) hp)

def playable (c : Cyl) (r : Int) : Bool := cylOk c && (within r 1 96 && decide (tooClose c r = []))
def E_IsPlayable : Cyl × Int → List V := fun (x, r) => [.int .i64 x.s, .int .i64 x.t, vL I2 v2 x.p, .int .i64 r]
noncomputable def F_IsPlayable : List V → Option (List V) := mkF E_IsPlayable (fun (x, _) => x.p.length ≤ 1048576) (fun (x, r) => [.bool (playable x r)])
theorem F_IsPlayable_inj : ∀ x y, E_IsPlayable x = E_IsPlayable y → x = y := by
  rintro ⟨⟨xs, xt, xp⟩, r⟩ ⟨⟨xs', xt', xp'⟩, r'⟩ h
  simpa [E_IsPlayable, and_assoc] using h
theorem F_IsPlayable_elim {P : List V → List V → Prop} (h : ∀ (x : Cyl) (r : Int), (x.p.length ≤ 1048576) → P [.int .i64 x.s, .int .i64 x.t, vL I2 v2 x.p, .int .i64 r] [.bool (playable x r)]) : ∀ ds outs, F_IsPlayable ds = some outs → P ds outs := by
  intro ds outs hh
  obtain ⟨⟨x, r⟩, rfl, hp, rfl⟩ := mkF_inv hh
  exact h x r hp
theorem p_IsPlayable {x_s : Int} {x_t : Int} {x_p : List T2} {r : Int} {nr_ : Nat} {kk_ : V → Prop} (hp : (⟨x_s, x_t, x_p⟩ : Cyl).p.length ≤ 1048576) : P1 (.call F_IsPlayable 0 nr_) [.int .i64 x_s, .int .i64 x_t, vL I2 v2 x_p, .int .i64 r] kk_ ↔ kk_ (.bool (playable (⟨x_s, x_t, x_p⟩ : Cyl) r)) :=
  P1_callF (by unfold F_IsPlayable; exact mkF_eq F_IsPlayable_inj ((⟨x_s, x_t, x_p⟩ : Cyl), r) hp)

def played (w : Shop) : Shop := ⟨w.s, w.t, w.p, w.o, w.c, w.u - 1, w.m, w.f, w.y, w.d + w.p.length⟩
def canPlay (w : Shop) : Bool := shopOk w && (!decide (w.u = 0) && (playable ⟨w.s, w.t, w.p⟩ 2 && shopOk (played w)))
def playOnce (w : Shop) : Shop := if canPlay w then played w else w
def E_PlayOnce (x : Shop) : List V := [.int .i64 x.s, .int .i64 x.t, vL I2 v2 x.p, vL IL2 vLL2 x.o, vL I1 v1 x.c, .int .i64 x.u, .int .i64 x.m, .int .i64 x.f, .int .i64 x.y, .int .i64 x.d]
noncomputable def F_PlayOnce : List V → Option (List V) := mkF E_PlayOnce (fun x => x.p.length ≤ 1048576 ∧ fitLL x.o ∧ x.c.length ≤ 1048576) (fun x => [.int .i64 (playOnce x).s, .int .i64 (playOnce x).t, vL I2 v2 (playOnce x).p, vL IL2 vLL2 (playOnce x).o, vL I1 v1 (playOnce x).c, .int .i64 (playOnce x).u, .int .i64 (playOnce x).m, .int .i64 (playOnce x).f, .int .i64 (playOnce x).y, .int .i64 (playOnce x).d, .bool (canPlay x)])
theorem F_PlayOnce_inj : ∀ x y, E_PlayOnce x = E_PlayOnce y → x = y := by
  rintro ⟨xs, xt, xp, xo, xc, xu, xm, xf, xy, xd⟩ ⟨xs', xt', xp', xo', xc', xu', xm', xf', xy', xd'⟩ h
  simpa [E_PlayOnce] using h
theorem F_PlayOnce_elim {P : List V → List V → Prop} (h : ∀ (x : Shop), (x.p.length ≤ 1048576 ∧ fitLL x.o ∧ x.c.length ≤ 1048576) → P [.int .i64 x.s, .int .i64 x.t, vL I2 v2 x.p, vL IL2 vLL2 x.o, vL I1 v1 x.c, .int .i64 x.u, .int .i64 x.m, .int .i64 x.f, .int .i64 x.y, .int .i64 x.d] [.int .i64 (playOnce x).s, .int .i64 (playOnce x).t, vL I2 v2 (playOnce x).p, vL IL2 vLL2 (playOnce x).o, vL I1 v1 (playOnce x).c, .int .i64 (playOnce x).u, .int .i64 (playOnce x).m, .int .i64 (playOnce x).f, .int .i64 (playOnce x).y, .int .i64 (playOnce x).d, .bool (canPlay x)]) : ∀ ds outs, F_PlayOnce ds = some outs → P ds outs := by
  intro ds outs hh
  obtain ⟨x, rfl, hp, rfl⟩ := mkF_inv hh
  exact h x hp
theorem p_PlayOnce {x_s : Int} {x_t : Int} {x_p : List T2} {x_o : List (List T2)} {x_c : List Int} {x_u : Int} {x_m : Int} {x_f : Int} {x_y : Int} {x_d : Int} {nr_ : Nat} {kk_ : V → V → V → V → V → V → V → V → V → V → V → Prop} (hp : (⟨x_s, x_t, x_p, x_o, x_c, x_u, x_m, x_f, x_y, x_d⟩ : Shop).p.length ≤ 1048576 ∧ fitLL (⟨x_s, x_t, x_p, x_o, x_c, x_u, x_m, x_f, x_y, x_d⟩ : Shop).o ∧ (⟨x_s, x_t, x_p, x_o, x_c, x_u, x_m, x_f, x_y, x_d⟩ : Shop).c.length ≤ 1048576) : P11 (.call F_PlayOnce 0 nr_) [.int .i64 x_s, .int .i64 x_t, vL I2 v2 x_p, vL IL2 vLL2 x_o, vL I1 v1 x_c, .int .i64 x_u, .int .i64 x_m, .int .i64 x_f, .int .i64 x_y, .int .i64 x_d] kk_ ↔ kk_ (.int .i64 (playOnce (⟨x_s, x_t, x_p, x_o, x_c, x_u, x_m, x_f, x_y, x_d⟩ : Shop)).s) (.int .i64 (playOnce (⟨x_s, x_t, x_p, x_o, x_c, x_u, x_m, x_f, x_y, x_d⟩ : Shop)).t) (vL I2 v2 (playOnce (⟨x_s, x_t, x_p, x_o, x_c, x_u, x_m, x_f, x_y, x_d⟩ : Shop)).p) (vL IL2 vLL2 (playOnce (⟨x_s, x_t, x_p, x_o, x_c, x_u, x_m, x_f, x_y, x_d⟩ : Shop)).o) (vL I1 v1 (playOnce (⟨x_s, x_t, x_p, x_o, x_c, x_u, x_m, x_f, x_y, x_d⟩ : Shop)).c) (.int .i64 (playOnce (⟨x_s, x_t, x_p, x_o, x_c, x_u, x_m, x_f, x_y, x_d⟩ : Shop)).u) (.int .i64 (playOnce (⟨x_s, x_t, x_p, x_o, x_c, x_u, x_m, x_f, x_y, x_d⟩ : Shop)).m) (.int .i64 (playOnce (⟨x_s, x_t, x_p, x_o, x_c, x_u, x_m, x_f, x_y, x_d⟩ : Shop)).f) (.int .i64 (playOnce (⟨x_s, x_t, x_p, x_o, x_c, x_u, x_m, x_f, x_y, x_d⟩ : Shop)).y) (.int .i64 (playOnce (⟨x_s, x_t, x_p, x_o, x_c, x_u, x_m, x_f, x_y, x_d⟩ : Shop)).d) (.bool (canPlay (⟨x_s, x_t, x_p, x_o, x_c, x_u, x_m, x_f, x_y, x_d⟩ : Shop))) :=
  P11_callF (by unfold F_PlayOnce; exact mkF_eq F_PlayOnce_inj ((⟨x_s, x_t, x_p, x_o, x_c, x_u, x_m, x_f, x_y, x_d⟩ : Shop)) hp)


end Go.Mw

namespace Go.Mw
noncomputable section
def impl_copyWorkshop_L : L := .seq (.rg []) (.seq (.rg [zc F_copyBench 4 [0, 1, 2, 3]]) (.seq (.rg [zc F_copyInts 1 [4]]) (.seq (.rg []) (.ret [.v 10, .v 11, .v 12, .v 13, .v 14, .v 5, .v 6, .v 7, .v 8, .v 9]))))
theorem impl_copyWorkshop_L_sh (Q : QT) (x0 x1 x2 x3 x4 x5 x6 x7 x8 x9 : V) : shL impl_copyWorkshop_L Q [x0, x1, x2, x3, x4, x5, x6, x7, x8, x9] = (
  P4 (.call F_copyBench 0 4) [x0, x1, x2, x3] fun v0 v1 v2 v3 =>
  P1 (.call F_copyInts 0 1) [x4] fun v4 =>
  Q .ret [v0, v1, v2, v3, v4, x5, x6, x7, x8, x9]) := by kernel_rfl
def impl_copyWorkshop_S : Sig := ⟨[.val true [.sc, .sc, .sl [.sc, .sc], .sl [.sl [.sc, .sc]], .sl [.sc], .sc, .sc, .sc, .sc, .sc]], [(true, [.sc, .sc, .sl [.sc, .sc], .sl [.sl [.sc, .sc]], .sl [.sc], .sc, .sc, .sc, .sc, .sc])], F_copyWorkshop⟩
def impl_copyWorkshop_hs : List NF := []

def impl_Wind_L : L := .seq (.rg []) (.seq (.seq (.rg [zc F_SpringOk 1 [0, 1, 2], zn 4, ⟨[(.v 5, false)], .call F_within 0 1, [.v 3, .k (.int .i64 0), .k (.int .i64 100)], 1⟩, ⟨[(.v 5, false)], .un .not, [.v 6], 1⟩, ⟨[], .pick, [.v 5, .k (.bool true), .v 7], 1⟩]) (.ite (.v 8) (.seq (.rg []) (.ret [.v 0, .v 1, .v 2, .k (.int .i64 (-1))])) (.skip))) (.seq (.rg [zb .sub 1 0, ⟨[], .mn, [.v 3, .v 9], 1⟩]) (.seq (.rg [zb .add 0 10]) (.seq (.rg []) (.ret [.v 11, .v 1, .v 2, .v 10])))))
theorem impl_Wind_L_sh (Q : QT) (x0 x1 x2 x3 : V) : shL impl_Wind_L Q [x0, x1, x2, x3] = (
  P1 (.call F_SpringOk 0 1) [x0, x1, x2] fun v0 =>
  P1 (.un .not) [v0] fun v1 =>
  ifB v1 (
    Q .ret [x0, x1, x2, .int .i64 (-1)]) (
    P1 (.call F_within 0 1) [x3, .int .i64 0, .int .i64 100] fun v2 =>
    P1 (.un .not) [v2] fun v3 =>
    ifB v3 (
      Q .ret [x0, x1, x2, .int .i64 (-1)]) (
      P1 (.bin .sub) [x1, x0] fun v4 =>
      P1 (.mn) [x3, v4] fun v5 =>
      P1 (.bin .add) [x0, v5] fun v6 =>
      Q .ret [v6, x1, x2, v5]))) := by kernel_rfl
def impl_Wind_S : Sig := ⟨[.val true [.sc, .sc, .sc], .val false [.sc]], [(true, [.sc, .sc, .sc]), (false, [.sc])], F_Wind⟩
def impl_Wind_hs : List NF := []

def impl_Crank_L : L := .seq (.rg []) (.seq (.rg [zc F_copyWorkshop 10 [0, 1, 2, 3, 4, 5, 6, 7, 8, 9]]) (.seq (.rg [zc F_Wind 4 [5, 6, 7, 10]]) (.seq (.seq (.rg [zc F_WorkshopOk 1 [0, 1, 2, 3, 4, 5, 6, 7, 8, 9], zn 25, ⟨[(.v 26, false)], .bin .lss, [.v 24, .k (.int .i64 0)], 1⟩, ⟨[], .pick, [.v 26, .k (.bool true), .v 27], 1⟩]) (.ite (.v 28) (.seq (.rg []) (.ret [.v 11, .v 12, .v 13, .v 14, .v 15, .v 16, .v 17, .v 18, .v 19, .v 20, .k (.int .i64 (-1))])) (.skip))) (.seq (.rg []) (.seq (.rg []) (.ret [.v 11, .v 12, .v 13, .v 14, .v 15, .v 21, .v 22, .v 23, .v 19, .v 20, .v 24]))))))
theorem impl_Crank_L_sh (Q : QT) (x0 x1 x2 x3 x4 x5 x6 x7 x8 x9 x10 : V) : shL impl_Crank_L Q [x0, x1, x2, x3, x4, x5, x6, x7, x8, x9, x10] = (
  P10 (.call F_copyWorkshop 0 10) [x0, x1, x2, x3, x4, x5, x6, x7, x8, x9] fun v0 v1 v2 v3 v4 v5 v6 v7 v8 v9 =>
  P4 (.call F_Wind 0 4) [x5, x6, x7, x10] fun v10 v11 v12 v13 =>
  P1 (.call F_WorkshopOk 0 1) [x0, x1, x2, x3, x4, x5, x6, x7, x8, x9] fun v14 =>
  P1 (.un .not) [v14] fun v15 =>
  ifB v15 (
    Q .ret [v0, v1, v2, v3, v4, v5, v6, v7, v8, v9, .int .i64 (-1)]) (
    P1 (.bin .lss) [v13, .int .i64 0] fun v16 =>
    ifB v16 (
      Q .ret [v0, v1, v2, v3, v4, v5, v6, v7, v8, v9, .int .i64 (-1)]) (
      Q .ret [v0, v1, v2, v3, v4, v10, v11, v12, v8, v9, v13]))) := by kernel_rfl
def impl_Crank_S : Sig := ⟨[.val true [.sc, .sc, .sl [.sc, .sc], .sl [.sl [.sc, .sc]], .sl [.sc], .sc, .sc, .sc, .sc, .sc], .val false [.sc]], [(true, [.sc, .sc, .sl [.sc, .sc], .sl [.sl [.sc, .sc]], .sl [.sc], .sc, .sc, .sc, .sc, .sc]), (false, [.sc])], F_Crank⟩
def impl_Crank_hs : List NF := []

def impl_withBench_L : L := .seq (.rg []) (.seq (.rg [zc F_copyWorkshop 10 [0, 1, 2, 3, 4, 5, 6, 7, 8, 9]]) (.seq (.rg []) (.seq (.rg [zb .sub 24 14]) (.seq (.seq (.rg [zn 15, ⟨[(.v 27, false)], .call F_WorkshopOk 0 1, [.v 0, .v 1, .v 2, .v 3, .v 4, .v 5, .v 6, .v 7, .v 8, .v 9], 1⟩, ⟨[(.v 27, false)], .un .not, [.v 28], 1⟩, ⟨[], .pick, [.v 27, .k (.bool true), .v 29], 1⟩, ⟨[(.v 30, false)], .call F_WorkshopOk 0 1, [.v 10, .v 11, .v 12, .v 13, .v 20, .v 21, .v 22, .v 23, .v 26, .v 25], 1⟩, ⟨[(.v 30, false)], .un .not, [.v 31], 1⟩, ⟨[], .pick, [.v 30, .k (.bool true), .v 32], 1⟩]) (.ite (.v 33) (.seq (.rg [zc F_copyWorkshop 10 [0, 1, 2, 3, 4, 5, 6, 7, 8, 9]]) (.ret [.v 34, .v 35, .v 36, .v 37, .v 38, .v 39, .v 40, .v 41, .v 42, .v 43, .k (.bool false)])) (.skip))) (.seq (.rg []) (.ret [.v 10, .v 11, .v 12, .v 13, .v 20, .v 21, .v 22, .v 23, .v 26, .v 25, .k (.bool true)]))))))
theorem impl_withBench_L_sh (Q : QT) (x0 x1 x2 x3 x4 x5 x6 x7 x8 x9 x10 x11 x12 x13 x14 x15 : V) : shL impl_withBench_L Q [x0, x1, x2, x3, x4, x5, x6, x7, x8, x9, x10, x11, x12, x13, x14, x15] = (
  P10 (.call F_copyWorkshop 0 10) [x0, x1, x2, x3, x4, x5, x6, x7, x8, x9] fun _ _ _ _ v4 v5 v6 v7 v8 v9 =>
  P1 (.bin .sub) [v8, x14] fun v10 =>
  P1 (.un .not) [x15] fun v11 =>
  ifB v11 (
    P10 (.call F_copyWorkshop 0 10) [x0, x1, x2, x3, x4, x5, x6, x7, x8, x9] fun v12 v13 v14 v15 v16 v17 v18 v19 v20 v21 =>
    Q .ret [v12, v13, v14, v15, v16, v17, v18, v19, v20, v21, .bool false]) (
    P1 (.call F_WorkshopOk 0 1) [x0, x1, x2, x3, x4, x5, x6, x7, x8, x9] fun v22 =>
    P1 (.un .not) [v22] fun v23 =>
    ifB v23 (
      P10 (.call F_copyWorkshop 0 10) [x0, x1, x2, x3, x4, x5, x6, x7, x8, x9] fun v24 v25 v26 v27 v28 v29 v30 v31 v32 v33 =>
      Q .ret [v24, v25, v26, v27, v28, v29, v30, v31, v32, v33, .bool false]) (
      P1 (.call F_WorkshopOk 0 1) [x10, x11, x12, x13, v4, v5, v6, v7, v10, v9] fun v34 =>
      P1 (.un .not) [v34] fun v35 =>
      ifB v35 (
        P10 (.call F_copyWorkshop 0 10) [x0, x1, x2, x3, x4, x5, x6, x7, x8, x9] fun v36 v37 v38 v39 v40 v41 v42 v43 v44 v45 =>
        Q .ret [v36, v37, v38, v39, v40, v41, v42, v43, v44, v45, .bool false]) (
        Q .ret [x10, x11, x12, x13, v4, v5, v6, v7, v10, v9, .bool true])))) := by kernel_rfl
def impl_withBench_S : Sig := ⟨[.val true [.sc, .sc, .sl [.sc, .sc], .sl [.sl [.sc, .sc]], .sl [.sc], .sc, .sc, .sc, .sc, .sc], .tk true [.sc, .sc, .sl [.sc, .sc], .sl [.sl [.sc, .sc]]], .val false [.sc], .val false [.sc]], [(true, [.sc, .sc, .sl [.sc, .sc], .sl [.sl [.sc, .sc]], .sl [.sc], .sc, .sc, .sc, .sc, .sc]), (false, [.sc])], F_withBench⟩
def impl_withBench_hs : List NF := []

def impl_RemovePin_L : L := .seq (.rg []) (.seq (.rg [zc F_TakePin 5 [0, 1, 2, 3, 10]]) (.seq (.rg [⟨[], .call F_withBench 0 11, [.v 0, .v 1, .v 2, .v 3, .v 4, .v 5, .v 6, .v 7, .v 8, .v 9, .v 11, .v 12, .v 13, .v 14, .k (.int .i64 0), .v 15], 11⟩]) (.ret [.v 16, .v 17, .v 18, .v 19, .v 20, .v 21, .v 22, .v 23, .v 24, .v 25, .v 26])))
theorem impl_RemovePin_L_sh (Q : QT) (x0 x1 x2 x3 x4 x5 x6 x7 x8 x9 x10 : V) : shL impl_RemovePin_L Q [x0, x1, x2, x3, x4, x5, x6, x7, x8, x9, x10] = (
  P5 (.call F_TakePin 0 5) [x0, x1, x2, x3, x10] fun v0 v1 v2 v3 v4 =>
  P11 (.call F_withBench 0 11) [x0, x1, x2, x3, x4, x5, x6, x7, x8, x9, v0, v1, v2, v3, .int .i64 0, v4] fun v5 v6 v7 v8 v9 v10 v11 v12 v13 v14 v15 =>
  Q .ret [v5, v6, v7, v8, v9, v10, v11, v12, v13, v14, v15]) := by kernel_rfl
def impl_RemovePin_S : Sig := ⟨[.val true [.sc, .sc, .sl [.sc, .sc], .sl [.sl [.sc, .sc]], .sl [.sc], .sc, .sc, .sc, .sc, .sc], .val false [.sc]], [(true, [.sc, .sc, .sl [.sc, .sc], .sl [.sl [.sc, .sc]], .sl [.sc], .sc, .sc, .sc, .sc, .sc]), (false, [.sc])], F_RemovePin⟩
def impl_RemovePin_hs : List NF := []

def spec_GapAround_L : L := .seq (.rg []) (.seq (.seq (.rg [⟨[], .call F_l01In 0 1, [.v 2, .k (.int .i64 1), .k (.int .i64 1000)], 1⟩, zn 3, ⟨[(.v 4, false)], .bin .sub, [.v 2, .k (.int .i64 1)], 1⟩, ⟨[(.v 4, false)], .call F_l01In 0 1, [.v 0, .k (.int .i64 0), .v 5], 1⟩, ⟨[(.v 4, false)], .un .not, [.v 6], 1⟩, ⟨[], .pick, [.v 4, .k (.bool true), .v 7], 1⟩, ⟨[(.v 8, false)], .bin .sub, [.v 2, .k (.int .i64 1)], 1⟩, ⟨[(.v 8, false)], .call F_l01In 0 1, [.v 1, .k (.int .i64 0), .v 9], 1⟩, ⟨[(.v 8, false)], .un .not, [.v 10], 1⟩, ⟨[], .pick, [.v 8, .k (.bool true), .v 11], 1⟩]) (.ite (.v 12) (.seq (.rg []) (.ret [.k (.int .i64 (-1))])) (.skip))) (.seq (.rg [zb .sub 0 1, zb .sub 1 0, ⟨[], .mx, [.v 13, .v 14], 1⟩]) (.seq (.rg [zb .sub 2 15, ⟨[], .mn, [.v 15, .v 16], 1⟩]) (.ret [.v 17]))))
theorem spec_GapAround_L_sh (Q : QT) (x0 x1 x2 : V) : shL spec_GapAround_L Q [x0, x1, x2] = (
  P1 (.call F_l01In 0 1) [x2, .int .i64 1, .int .i64 1000] fun v0 =>
  P1 (.un .not) [v0] fun v1 =>
  ifB v1 (
    Q .ret [.int .i64 (-1)]) (
    P1 (.bin .sub) [x2, .int .i64 1] fun v2 =>
    P1 (.call F_l01In 0 1) [x0, .int .i64 0, v2] fun v3 =>
    P1 (.un .not) [v3] fun v4 =>
    ifB v4 (
      Q .ret [.int .i64 (-1)]) (
      P1 (.bin .sub) [x2, .int .i64 1] fun v5 =>
      P1 (.call F_l01In 0 1) [x1, .int .i64 0, v5] fun v6 =>
      P1 (.un .not) [v6] fun v7 =>
      ifB v7 (
        Q .ret [.int .i64 (-1)]) (
        P1 (.bin .sub) [x0, x1] fun v8 =>
        P1 (.bin .sub) [x1, x0] fun v9 =>
        P1 (.mx) [v8, v9] fun v10 =>
        P1 (.bin .sub) [x2, v10] fun v11 =>
        P1 (.mn) [v10, v11] fun v12 =>
        Q .ret [v12])))) := by kernel_rfl
def spec_GapAround_S : Sig := ⟨[.val false [.sc], .val false [.sc], .val false [.sc]], [(false, [.sc])], F_GapAround⟩
def spec_GapAround_hs : List NF := []

def spec_TooClose_b1 : L := .seq (.seq (.seq (.rg [zl 6, zb .lss 2 7]) (.ite (.v 8) (.skip) (.seq (zt [0, 1, 3, 4, 5, 6]) (.exit 2)))) (.seq (.block 3 (.seq (.seq (.rg [zj 6 1, zj 6 2, zb .eql 9 11, ⟨[(.v 13, true)], .idx [.sc, .sc], [.v 6, .v 1], 2⟩, ⟨[(.v 13, true)], .idx [.sc, .sc], [.v 6, .v 2], 2⟩, ⟨[(.v 13, true)], .call F_GapAround 0 1, [.v 15, .v 17, .v 4], 1⟩, ⟨[(.v 13, true)], .bin .lss, [.v 18, .v 0], 1⟩, ⟨[], .pick, [.v 13, .v 19, .k (.bool false)], 1⟩]) (.ite (.v 20) (.seq (.rg [⟨[], .lst [.sc] false 2, [.v 1, .v 2], 1⟩, ⟨[], .lst [.sl [.sc]] false 1, [.v 21], 1⟩, ⟨[], .app [.sl [.sc]] 24, [.v 3, .v 22], 1⟩]) (zt [0, 1, 2, 23, 4, 5, 6])) (.seq (.skip) (zt [0, 1, 2, 3, 4, 5, 6])))) (zt [0, 1, 2, 3, 4, 5, 6]))) (.rg [zk .add 2 1]))) (zt [0, 1, 7, 3, 4, 5, 6])
theorem spec_TooClose_b1_sh (Q : QT) (x0 x1 x2 x3 x4 x5 x6 : V) : shL spec_TooClose_b1 Q [x0, x1, x2, x3, x4, x5, x6] = (
  P1 (.len) [x6] fun v0 =>
  P1 (.bin .lss) [x2, v0] fun v1 =>
  ifB v1 (
    P2 (.idx [.sc, .sc]) [x6, x1] fun v2 _ =>
    P2 (.idx [.sc, .sc]) [x6, x2] fun v4 _ =>
    P1 (.bin .eql) [v2, v4] fun v6 =>
    ifB v6 (
      P2 (.idx [.sc, .sc]) [x6, x1] fun _ v8 =>
      P2 (.idx [.sc, .sc]) [x6, x2] fun _ v10 =>
      P1 (.call F_GapAround 0 1) [v8, v10, x4] fun v11 =>
      P1 (.bin .lss) [v11, x0] fun v12 =>
      ifB v12 (
        P1 (.lst [.sc] false 2) [x1, x2] fun v13 =>
        P1 (.lst [.sl [.sc]] false 1) [v13] fun v14 =>
        P1 (.app [.sl [.sc]] 24) [x3, v14] fun v15 =>
        P1 (.bin .add) [x2, .int .i64 1] fun v16 =>
        Q .normal [x0, x1, v16, v15, x4, x5, x6]) (
        P1 (.bin .add) [x2, .int .i64 1] fun v17 =>
        Q .normal [x0, x1, v17, x3, x4, x5, x6])) (
      P1 (.bin .add) [x2, .int .i64 1] fun v18 =>
      Q .normal [x0, x1, v18, x3, x4, x5, x6])) (
    Q (.exit 2) [x0, x1, x3, x4, x5, x6])) := by kernel_rfl

def spec_TooClose_r2 : L := zt [0, 1, 2, 3, 4, 5]
theorem spec_TooClose_r2_sh (Q : QT) (x0 x1 x2 x3 x4 x5 : V) : shL spec_TooClose_r2 Q [x0, x1, x2, x3, x4, x5] = (
  Q .normal [x0, x1, x2, x3, x4, x5]) := by kernel_rfl

def spec_TooClose_r3 : L := .rg [zk .add 1 1]
theorem spec_TooClose_r3_sh (Q : QT) (x0 x1 x2 x3 x4 x5 : V) : shL spec_TooClose_r3 Q [x0, x1, x2, x3, x4, x5] = (
  P1 (.bin .add) [x1, .int .i64 1] fun v0 =>
  Q .normal [x0, x1, x2, x3, x4, x5, v0]) := by kernel_rfl

def spec_TooClose_r4 : L := zt [0, 6, 2, 3, 4, 5]
theorem spec_TooClose_r4_sh (Q : QT) (x0 x1 x2 x3 x4 x5 x6 : V) : shL spec_TooClose_r4 Q [x0, x1, x2, x3, x4, x5, x6] = (
  Q .normal [x0, x6, x2, x3, x4, x5]) := by kernel_rfl

def spec_TooClose_b0 : L := .seq (.seq (.seq (.rg [zl 5, zb .lss 1 6]) (.ite (.v 7) (.skip) (.seq (zt [2]) (.exit 0)))) (.seq (.block 1 (.seq (.seq (.rg [zk .add 1 1]) (.block 2 (.seq (zt [0, 1, 8, 2, 3, 4, 5]) (.loop (spec_TooClose_b1))))) (spec_TooClose_r2))) (spec_TooClose_r3))) (spec_TooClose_r4)
theorem spec_TooClose_b0_sh (Q : QT) (x0 x1 x2 x3 x4 x5 : V) : shL spec_TooClose_b0 Q [x0, x1, x2, x3, x4, x5] = (
  P1 (.len) [x5] fun v0 =>
  P1 (.bin .lss) [x1, v0] fun v1 =>
  ifB v1 (
    P1 (.bin .add) [x1, .int .i64 1] fun v2 =>
    shL (.loop spec_TooClose_b1) (qB 2 (qS (shL spec_TooClose_r2 (qB 1 (qS (shL spec_TooClose_r3 (qS (shL spec_TooClose_r4 Q) Q)) (qS (shL spec_TooClose_r4 Q) Q)))) (qB 1 (qS (shL spec_TooClose_r3 (qS (shL spec_TooClose_r4 Q) Q)) (qS (shL spec_TooClose_r4 Q) Q))))) [x0, x1, v2, x2, x3, x4, x5]) (
    Q (.exit 0) [x2])) := by kernel_rfl

def spec_TooClose_r5 : L := .seq (.rg []) (.ret [.v 0])
theorem spec_TooClose_r5_sh (Q : QT) (x0 : V) : shL spec_TooClose_r5 Q [x0] = (
  Q .ret [x0]) := by kernel_rfl

def spec_TooClose_L : L := .seq (.rg []) (.seq (.rg [⟨[], .lst [.sl [.sc]] false 0, [], 1⟩]) (.seq (.seq (.rg [zc F_CylinderOk 1 [0, 1, 2], zn 5, ⟨[(.v 6, false)], .call F_l01In 0 1, [.v 3, .k (.int .i64 1), .k (.int .i64 96)], 1⟩, ⟨[(.v 6, false)], .un .not, [.v 7], 1⟩, ⟨[], .pick, [.v 6, .k (.bool true), .v 8], 1⟩]) (.ite (.v 9) (.seq (.rg []) (.ret [.v 4])) (.skip))) (.seq (.seq (.rg []) (.block 0 (.seq (.tup [.v 3, .k (.int .i64 0), .v 4, .v 0, .v 1, .v 2]) (.loop (spec_TooClose_b0))))) (spec_TooClose_r5))))
theorem spec_TooClose_L_sh (Q : QT) (x0 x1 x2 x3 : V) : shL spec_TooClose_L Q [x0, x1, x2, x3] = (
  P1 (.lst [.sl [.sc]] false 0) [] fun v0 =>
  P1 (.call F_CylinderOk 0 1) [x0, x1, x2] fun v1 =>
  P1 (.un .not) [v1] fun v2 =>
  ifB v2 (
    Q .ret [v0]) (
    P1 (.call F_l01In 0 1) [x3, .int .i64 1, .int .i64 96] fun v3 =>
    P1 (.un .not) [v3] fun v4 =>
    ifB v4 (
      Q .ret [v0]) (
      shL (.loop spec_TooClose_b0) (qB 0 (qS (shL spec_TooClose_r5 Q) Q)) [x3, .int .i64 0, v0, x0, x1, x2]))) := by kernel_rfl
def spec_TooClose_S : Sig := ⟨[.val true [.sc, .sc, .sl [.sc, .sc]], .val false [.sc]], [(false, [.sl [.sl [.sc]]])], F_TooClose⟩
def spec_TooClose_hs : List NF := [⟨[(5, zo 64)], [(64, true, [.sl [.sc]])], [], 65⟩, ⟨[(1, zs), (2, .ptr 64 0), (5, zo 65), (6, zs)], [(65, true, [.sl [.sc]])], [(64, [.sc, .sc, .ro [.sc, .sc]])], 66⟩, ⟨[(1, zs), (2, .ptr 64 0), (5, zo 65), (6, zs)], [(65, true, [.sl [.sc]])], [(64, [.sc, .sc, .ro [.sc, .sc]])], 66⟩, ⟨[(1, zs), (2, .ptr 64 0), (5, zo 65), (6, zs)], [(65, true, [.sl [.sc]])], [(64, [.sc, .sc, .ro [.sc, .sc]])], 66⟩, ⟨[(1, zs), (2, .ptr 64 0), (5, zo 65), (6, zs), (7, zs)], [(65, true, [.sl [.sc]])], [(64, [.sc, .sc, .ro [.sc, .sc]])], 66⟩, ⟨[(1, zs), (2, .ptr 64 0), (5, zo 65), (6, zs), (7, zs)], [(65, true, [.sl [.sc]])], [(64, [.sc, .sc, .ro [.sc, .sc]])], 66⟩, ⟨[(1, zs), (2, .ptr 64 0), (5, zo 65), (6, zs), (7, zs)], [(65, true, [.sl [.sc]])], [(64, [.sc, .sc, .ro [.sc, .sc]])], 66⟩]

def spec_IsPlayable_L : L := .seq (.rg []) (.seq (.rg [zc F_CylinderOk 1 [0, 1, 2], ⟨[(.v 4, true)], .call F_l01In 0 1, [.v 3, .k (.int .i64 1), .k (.int .i64 96)], 1⟩, ⟨[], .pick, [.v 4, .v 5, .k (.bool false)], 1⟩, ⟨[(.v 6, true)], .call F_TooClose 0 1, [.v 0, .v 1, .v 2, .v 3], 1⟩, ⟨[(.v 6, true)], .len, [.v 7], 1⟩, ⟨[(.v 6, true)], .bin .eql, [.v 8, .k (.int .i64 0)], 1⟩, ⟨[], .pick, [.v 6, .v 9, .k (.bool false)], 1⟩]) (.ret [.v 10]))
theorem spec_IsPlayable_L_sh (Q : QT) (x0 x1 x2 x3 : V) : shL spec_IsPlayable_L Q [x0, x1, x2, x3] = (
  P1 (.call F_CylinderOk 0 1) [x0, x1, x2] fun v0 =>
  ifB v0 (
    P1 (.call F_l01In 0 1) [x3, .int .i64 1, .int .i64 96] fun v1 =>
    ifB v1 (
      P1 (.call F_TooClose 0 1) [x0, x1, x2, x3] fun v2 =>
      P1 (.len) [v2] fun v3 =>
      P1 (.bin .eql) [v3, .int .i64 0] fun v4 =>
      Q .ret [v4]) (
      Q .ret [.bool false])) (
    Q .ret [.bool false])) := by kernel_rfl
def spec_IsPlayable_S : Sig := ⟨[.val true [.sc, .sc, .sl [.sc, .sc]], .val false [.sc]], [(false, [.sc])], F_IsPlayable⟩
def spec_IsPlayable_hs : List NF := []

def impl_GapAround_L : L := .seq (.rg []) (.seq (.seq (.rg [⟨[], .call F_within 0 1, [.v 2, .k (.int .i64 1), .k (.int .i64 1000)], 1⟩, zn 3, ⟨[(.v 4, false)], .bin .sub, [.v 2, .k (.int .i64 1)], 1⟩, ⟨[(.v 4, false)], .call F_within 0 1, [.v 0, .k (.int .i64 0), .v 5], 1⟩, ⟨[(.v 4, false)], .un .not, [.v 6], 1⟩, ⟨[], .pick, [.v 4, .k (.bool true), .v 7], 1⟩, ⟨[(.v 8, false)], .bin .sub, [.v 2, .k (.int .i64 1)], 1⟩, ⟨[(.v 8, false)], .call F_within 0 1, [.v 1, .k (.int .i64 0), .v 9], 1⟩, ⟨[(.v 8, false)], .un .not, [.v 10], 1⟩, ⟨[], .pick, [.v 8, .k (.bool true), .v 11], 1⟩]) (.ite (.v 12) (.seq (.rg []) (.ret [.k (.int .i64 (-1))])) (.skip))) (.seq (.rg [zb .sub 0 1, zc F_magnitude 1 [13]]) (.seq (.rg [zb .sub 2 14, ⟨[], .mn, [.v 14, .v 15], 1⟩]) (.ret [.v 16]))))
theorem impl_GapAround_L_sh (Q : QT) (x0 x1 x2 : V) : shL impl_GapAround_L Q [x0, x1, x2] = (
  P1 (.call F_within 0 1) [x2, .int .i64 1, .int .i64 1000] fun v0 =>
  P1 (.un .not) [v0] fun v1 =>
  ifB v1 (
    Q .ret [.int .i64 (-1)]) (
    P1 (.bin .sub) [x2, .int .i64 1] fun v2 =>
    P1 (.call F_within 0 1) [x0, .int .i64 0, v2] fun v3 =>
    P1 (.un .not) [v3] fun v4 =>
    ifB v4 (
      Q .ret [.int .i64 (-1)]) (
      P1 (.bin .sub) [x2, .int .i64 1] fun v5 =>
      P1 (.call F_within 0 1) [x1, .int .i64 0, v5] fun v6 =>
      P1 (.un .not) [v6] fun v7 =>
      ifB v7 (
        Q .ret [.int .i64 (-1)]) (
        P1 (.bin .sub) [x0, x1] fun v8 =>
        P1 (.call F_magnitude 0 1) [v8] fun v9 =>
        P1 (.bin .sub) [x2, v9] fun v10 =>
        P1 (.mn) [v9, v10] fun v11 =>
        Q .ret [v11])))) := by kernel_rfl
def impl_GapAround_S : Sig := ⟨[.val false [.sc], .val false [.sc], .val false [.sc]], [(false, [.sc])], F_GapAround⟩
def impl_GapAround_hs : List NF := []

def impl_TooClose_b1 : L := .seq (.seq (.seq (.rg [zl 9, zb .lss 2 12]) (.ite (.v 13) (.skip) (.seq (zt [0, 3, 4, 5, 6, 7, 8, 9]) (.exit 2)))) (.seq (.block 3 (.seq (.seq (.rg [zj 9 2]) (.seq (.rg [zb .eql 10 14, ⟨[(.v 16, true)], .call F_GapAround 0 1, [.v 11, .v 15, .v 7], 1⟩, ⟨[(.v 16, true)], .bin .lss, [.v 17, .v 0], 1⟩, ⟨[], .pick, [.v 16, .v 18, .k (.bool false)], 1⟩]) (.ite (.v 19) (.seq (.rg [⟨[], .lst [.sc] false 2, [.v 1, .v 2], 1⟩, ⟨[], .lst [.sl [.sc]] false 1, [.v 20], 1⟩, ⟨[], .app [.sl [.sc]] 24, [.v 6, .v 21], 1⟩]) (zt [0, 1, 2, 3, 4, 5, 22, 7, 8, 9, 10, 11])) (.seq (.skip) (zt [0, 1, 2, 3, 4, 5, 6, 7, 8, 9, 10, 11]))))) (zt [0, 1, 2, 3, 4, 5, 6, 7, 8, 9, 10, 11]))) (.rg [zk .add 2 1]))) (zt [0, 1, 12, 3, 4, 5, 6, 7, 8, 9, 10, 11])
theorem impl_TooClose_b1_sh (Q : QT) (x0 x1 x2 x3 x4 x5 x6 x7 x8 x9 x10 x11 : V) : shL impl_TooClose_b1 Q [x0, x1, x2, x3, x4, x5, x6, x7, x8, x9, x10, x11] = (
  P1 (.len) [x9] fun v0 =>
  P1 (.bin .lss) [x2, v0] fun v1 =>
  ifB v1 (
    P2 (.idx [.sc, .sc]) [x9, x2] fun v2 v3 =>
    P1 (.bin .eql) [x10, v2] fun v4 =>
    ifB v4 (
      P1 (.call F_GapAround 0 1) [x11, v3, x7] fun v5 =>
      P1 (.bin .lss) [v5, x0] fun v6 =>
      ifB v6 (
        P1 (.lst [.sc] false 2) [x1, x2] fun v7 =>
        P1 (.lst [.sl [.sc]] false 1) [v7] fun v8 =>
        P1 (.app [.sl [.sc]] 24) [x6, v8] fun v9 =>
        P1 (.bin .add) [x2, .int .i64 1] fun v10 =>
        Q .normal [x0, x1, v10, x3, x4, x5, v9, x7, x8, x9, x10, x11]) (
        P1 (.bin .add) [x2, .int .i64 1] fun v11 =>
        Q .normal [x0, x1, v11, x3, x4, x5, x6, x7, x8, x9, x10, x11])) (
      P1 (.bin .add) [x2, .int .i64 1] fun v12 =>
      Q .normal [x0, x1, v12, x3, x4, x5, x6, x7, x8, x9, x10, x11])) (
    Q (.exit 2) [x0, x3, x4, x5, x6, x7, x8, x9])) := by kernel_rfl

def impl_TooClose_r2 : L := zt [0, 1, 2, 3, 4, 5, 6, 7]
theorem impl_TooClose_r2_sh (Q : QT) (x0 x1 x2 x3 x4 x5 x6 x7 : V) : shL impl_TooClose_r2 Q [x0, x1, x2, x3, x4, x5, x6, x7] = (
  Q .normal [x0, x1, x2, x3, x4, x5, x6, x7]) := by kernel_rfl

def impl_TooClose_r3 : L := .rg [zk .add 3 1]
theorem impl_TooClose_r3_sh (Q : QT) (x0 x1 x2 x3 x4 x5 x6 x7 : V) : shL impl_TooClose_r3 Q [x0, x1, x2, x3, x4, x5, x6, x7] = (
  P1 (.bin .add) [x3, .int .i64 1] fun v0 =>
  Q .normal [x0, x1, x2, x3, x4, x5, x6, x7, v0]) := by kernel_rfl

def impl_TooClose_r4 : L := zt [0, 1, 2, 8, 4, 5, 6, 7]
theorem impl_TooClose_r4_sh (Q : QT) (x0 x1 x2 x3 x4 x5 x6 x7 x8 : V) : shL impl_TooClose_r4 Q [x0, x1, x2, x3, x4, x5, x6, x7, x8] = (
  Q .normal [x0, x1, x2, x8, x4, x5, x6, x7]) := by kernel_rfl

def impl_TooClose_b0 : L := .seq (.seq (.rg [zb .lss 3 2]) (.seq (.ite (.v 8) (.skip) (.seq (zt [4]) (.exit 0))) (.seq (.block 1 (.seq (.seq (.rg [zj 1 3]) (.seq (.rg [zk .add 3 1]) (.block 2 (.seq (zt [0, 3, 11, 1, 2, 3, 4, 5, 6, 7, 9, 10]) (.loop (impl_TooClose_b1)))))) (impl_TooClose_r2))) (impl_TooClose_r3)))) (impl_TooClose_r4)
theorem impl_TooClose_b0_sh (Q : QT) (x0 x1 x2 x3 x4 x5 x6 x7 : V) : shL impl_TooClose_b0 Q [x0, x1, x2, x3, x4, x5, x6, x7] = (
  P1 (.bin .lss) [x3, x2] fun v0 =>
  ifB v0 (
    P2 (.idx [.sc, .sc]) [x1, x3] fun v1 v2 =>
    P1 (.bin .add) [x3, .int .i64 1] fun v3 =>
    shL (.loop impl_TooClose_b1) (qB 2 (qS (shL impl_TooClose_r2 (qB 1 (qS (shL impl_TooClose_r3 (qS (shL impl_TooClose_r4 Q) Q)) (qS (shL impl_TooClose_r4 Q) Q)))) (qB 1 (qS (shL impl_TooClose_r3 (qS (shL impl_TooClose_r4 Q) Q)) (qS (shL impl_TooClose_r4 Q) Q))))) [x0, x3, v3, x1, x2, x3, x4, x5, x6, x7, v1, v2]) (
    Q (.exit 0) [x4])) := by kernel_rfl

def impl_TooClose_r5 : L := .seq (.rg []) (.ret [.v 0])
theorem impl_TooClose_r5_sh (Q : QT) (x0 : V) : shL impl_TooClose_r5 Q [x0] = (
  Q .ret [x0]) := by kernel_rfl

def impl_TooClose_L : L := .seq (.rg []) (.seq (.seq (.rg [zc F_CylinderOk 1 [0, 1, 2], zn 4, ⟨[(.v 5, false)], .call F_within 0 1, [.v 3, .k (.int .i64 1), .k (.int .i64 96)], 1⟩, ⟨[(.v 5, false)], .un .not, [.v 6], 1⟩, ⟨[], .pick, [.v 5, .k (.bool true), .v 7], 1⟩]) (.ite (.v 8) (.seq (.rg []) (.ret [.k (.list [.sl [.sc]] [])])) (.skip))) (.seq (.rg [⟨[], .lst [.sl [.sc]] false 0, [], 1⟩]) (.seq (.seq (.rg [zl 2]) (.block 0 (.seq (.tup [.v 3, .v 2, .v 10, .k (.int .i64 0), .v 9, .v 0, .v 1, .v 2]) (.loop (impl_TooClose_b0))))) (impl_TooClose_r5))))
theorem impl_TooClose_L_sh (Q : QT) (x0 x1 x2 x3 : V) : shL impl_TooClose_L Q [x0, x1, x2, x3] = (
  P1 (.call F_CylinderOk 0 1) [x0, x1, x2] fun v0 =>
  P1 (.un .not) [v0] fun v1 =>
  ifB v1 (
    Q .ret [.list [.sl [.sc]] []]) (
    P1 (.call F_within 0 1) [x3, .int .i64 1, .int .i64 96] fun v2 =>
    P1 (.un .not) [v2] fun v3 =>
    ifB v3 (
      Q .ret [.list [.sl [.sc]] []]) (
      P1 (.lst [.sl [.sc]] false 0) [] fun v4 =>
      P1 (.len) [x2] fun v5 =>
      shL (.loop impl_TooClose_b0) (qB 0 (qS (shL impl_TooClose_r5 Q) Q)) [x3, x2, v5, .int .i64 0, v4, x0, x1, x2]))) := by kernel_rfl
def impl_TooClose_S : Sig := ⟨[.val true [.sc, .sc, .sl [.sc, .sc]], .val false [.sc]], [(false, [.sl [.sl [.sc]]])], F_TooClose⟩
def impl_TooClose_hs : List NF := [⟨[(5, zo 64)], [(64, true, [.sl [.sc]])], [], 65⟩, ⟨[(1, zs), (2, .ptr 64 0), (5, zo 65), (20, zq), (21, zs), (22, zs)], [(65, true, [.sl [.sc]])], [(64, [.sc, .sc, .ro [.sc, .sc]])], 66⟩, ⟨[(1, zs), (2, .ptr 64 0), (5, zo 65), (20, zq), (21, zs), (22, zs)], [(65, true, [.sl [.sc]])], [(64, [.sc, .sc, .ro [.sc, .sc]])], 66⟩, ⟨[(1, zs), (2, .ptr 64 0), (5, zo 65), (20, zq), (21, zs), (22, zs)], [(65, true, [.sl [.sc]])], [(64, [.sc, .sc, .ro [.sc, .sc]])], 66⟩, ⟨[(1, zs), (2, .ptr 64 0), (5, zo 65), (6, zs), (7, .ptr 66 0), (8, zs), (20, zq), (21, zs), (22, zs)], [(65, true, [.sl [.sc]])], [(64, [.sc, .sc, .ro [.sc, .sc]]), (66, [.sc, .sc])], 67⟩, ⟨[(1, zs), (2, .ptr 64 0), (5, zo 65), (6, zs), (7, .ptr 66 0), (8, zs), (20, zq), (21, zs), (22, zs)], [(65, true, [.sl [.sc]])], [(64, [.sc, .sc, .ro [.sc, .sc]]), (66, [.sc, .sc])], 67⟩, ⟨[(1, zs), (2, .ptr 64 0), (5, zo 65), (6, zs), (7, .ptr 66 0), (8, zs), (20, zq), (21, zs), (22, zs)], [(65, true, [.sl [.sc]])], [(64, [.sc, .sc, .ro [.sc, .sc]]), (66, [.sc, .sc])], 67⟩]

def impl_IsPlayable_L : L := .seq (.rg []) (.seq (.rg [zc F_CylinderOk 1 [0, 1, 2], ⟨[(.v 4, true)], .call F_within 0 1, [.v 3, .k (.int .i64 1), .k (.int .i64 96)], 1⟩, ⟨[], .pick, [.v 4, .v 5, .k (.bool false)], 1⟩, ⟨[(.v 6, true)], .call F_TooClose 0 1, [.v 0, .v 1, .v 2, .v 3], 1⟩, ⟨[(.v 6, true)], .len, [.v 7], 1⟩, ⟨[(.v 6, true)], .bin .eql, [.v 8, .k (.int .i64 0)], 1⟩, ⟨[], .pick, [.v 6, .v 9, .k (.bool false)], 1⟩]) (.ret [.v 10]))
theorem impl_IsPlayable_L_sh (Q : QT) (x0 x1 x2 x3 : V) : shL impl_IsPlayable_L Q [x0, x1, x2, x3] = (
  P1 (.call F_CylinderOk 0 1) [x0, x1, x2] fun v0 =>
  ifB v0 (
    P1 (.call F_within 0 1) [x3, .int .i64 1, .int .i64 96] fun v1 =>
    ifB v1 (
      P1 (.call F_TooClose 0 1) [x0, x1, x2, x3] fun v2 =>
      P1 (.len) [v2] fun v3 =>
      P1 (.bin .eql) [v3, .int .i64 0] fun v4 =>
      Q .ret [v4]) (
      Q .ret [.bool false])) (
    Q .ret [.bool false])) := by kernel_rfl
def impl_IsPlayable_S : Sig := ⟨[.val true [.sc, .sc, .sl [.sc, .sc]], .val false [.sc]], [(false, [.sc])], F_IsPlayable⟩
def impl_IsPlayable_hs : List NF := []

def impl_PlayOnce_r0 : L := .seq (.rg [zk .sub 15 1]) (.seq (.rg [zl 2, zb .add 19 28]) (.seq (.seq (.rg [zc F_WorkshopOk 1 [10, 11, 12, 13, 14, 27, 16, 17, 18, 29], zn 30]) (.ite (.v 31) (.seq (.rg [zc F_copyWorkshop 10 [0, 1, 2, 3, 4, 5, 6, 7, 8, 9]]) (.ret [.v 32, .v 33, .v 34, .v 35, .v 36, .v 37, .v 38, .v 39, .v 40, .v 41, .k (.bool false)])) (.skip))) (.seq (.rg []) (.ret [.v 10, .v 11, .v 12, .v 13, .v 14, .v 27, .v 16, .v 17, .v 18, .v 29, .k (.bool true)]))))
theorem impl_PlayOnce_r0_sh (Q : QT) (x0 x1 x2 x3 x4 x5 x6 x7 x8 x9 x10 x11 x12 x13 x14 x15 x16 x17 x18 x19 x20 x21 x22 x23 x24 x25 x26 : V) : shL impl_PlayOnce_r0 Q [x0, x1, x2, x3, x4, x5, x6, x7, x8, x9, x10, x11, x12, x13, x14, x15, x16, x17, x18, x19, x20, x21, x22, x23, x24, x25, x26] = (
  P1 (.bin .sub) [x15, .int .i64 1] fun v0 =>
  P1 (.len) [x2] fun v1 =>
  P1 (.bin .add) [x19, v1] fun v2 =>
  P1 (.call F_WorkshopOk 0 1) [x10, x11, x12, x13, x14, v0, x16, x17, x18, v2] fun v3 =>
  P1 (.un .not) [v3] fun v4 =>
  ifB v4 (
    P10 (.call F_copyWorkshop 0 10) [x0, x1, x2, x3, x4, x5, x6, x7, x8, x9] fun v5 v6 v7 v8 v9 v10 v11 v12 v13 v14 =>
    Q .ret [v5, v6, v7, v8, v9, v10, v11, v12, v13, v14, .bool false]) (
    Q .ret [x10, x11, x12, x13, x14, v0, x16, x17, x18, v2, .bool true])) := by kernel_rfl

def impl_PlayOnce_L : L := .seq (.rg []) (.seq (.rg [zc F_copyWorkshop 10 [0, 1, 2, 3, 4, 5, 6, 7, 8, 9]]) (.seq (.seq (.rg [zc F_WorkshopOk 1 [0, 1, 2, 3, 4, 5, 6, 7, 8, 9], zn 20, ⟨[(.v 21, false)], .bin .eql, [.v 5, .k (.int .i64 0)], 1⟩, ⟨[], .pick, [.v 21, .k (.bool true), .v 22], 1⟩, ⟨[(.v 23, false)], .call F_IsPlayable 0 1, [.v 0, .v 1, .v 2, .k (.int .i64 2)], 1⟩, ⟨[(.v 23, false)], .un .not, [.v 24], 1⟩, ⟨[], .pick, [.v 23, .k (.bool true), .v 25], 1⟩]) (.ite (.v 26) (.seq (.rg []) (.ret [.v 10, .v 11, .v 12, .v 13, .v 14, .v 15, .v 16, .v 17, .v 18, .v 19, .k (.bool false)])) (.skip))) (impl_PlayOnce_r0)))
theorem impl_PlayOnce_L_sh (Q : QT) (x0 x1 x2 x3 x4 x5 x6 x7 x8 x9 : V) : shL impl_PlayOnce_L Q [x0, x1, x2, x3, x4, x5, x6, x7, x8, x9] = (
  P10 (.call F_copyWorkshop 0 10) [x0, x1, x2, x3, x4, x5, x6, x7, x8, x9] fun v0 v1 v2 v3 v4 v5 v6 v7 v8 v9 =>
  P1 (.call F_WorkshopOk 0 1) [x0, x1, x2, x3, x4, x5, x6, x7, x8, x9] fun v10 =>
  P1 (.un .not) [v10] fun v11 =>
  ifB v11 (
    Q .ret [v0, v1, v2, v3, v4, v5, v6, v7, v8, v9, .bool false]) (
    P1 (.bin .eql) [x5, .int .i64 0] fun v12 =>
    ifB v12 (
      Q .ret [v0, v1, v2, v3, v4, v5, v6, v7, v8, v9, .bool false]) (
      P1 (.call F_IsPlayable 0 1) [x0, x1, x2, .int .i64 2] fun v13 =>
      P1 (.un .not) [v13] fun v14 =>
      ifB v14 (
        Q .ret [v0, v1, v2, v3, v4, v5, v6, v7, v8, v9, .bool false]) (
        shL impl_PlayOnce_r0 Q [x0, x1, x2, x3, x4, x5, x6, x7, x8, x9, v0, v1, v2, v3, v4, v5, v6, v7, v8, v9, v10, .bool false, v12, .bool false, v13, v14, .bool false])))) := by kernel_rfl
def impl_PlayOnce_S : Sig := ⟨[.val true [.sc, .sc, .sl [.sc, .sc], .sl [.sl [.sc, .sc]], .sl [.sc], .sc, .sc, .sc, .sc, .sc]], [(true, [.sc, .sc, .sl [.sc, .sc], .sl [.sl [.sc, .sc]], .sl [.sc], .sc, .sc, .sc, .sc, .sc]), (false, [.sc])], F_PlayOnce⟩
def impl_PlayOnce_hs : List NF := []

end
end Go.Mw

namespace Go.Mw
theorem shopOk_iff (w : Shop) : shopOk w = true ↔ benchOk w.bench = true ∧ combOk w.c = true ∧ springOk w.spring = true ∧ w.t = w.c.length ∧ within w.y 0 1000000 = true ∧ within w.d 0 1000000 = true := by
  simp [shopOk, Shop.spring]
theorem combOk_len {l : List Int} (h : combOk l = true) : l.length ≤ 24 := by
  simp [combOk, within] at h; omega
def sFit (w : Shop) : Prop := w.p.length ≤ 1048576 ∧ fitLL w.o ∧ w.c.length ≤ 1048576
def sSmall (w : Shop) : Prop := sFit w ∧ 1 + 2 * (w.p.length : Int) + 2 * sum2 w.o ≤ 1099511627776
theorem sSmall_of_ok {w : Shop} (h : shopOk w = true) : sSmall w := by
  have h := (shopOk_iff w).1 h
  have h1 := bSmall_of_ok h.1
  have h2 := combOk_len h.2.1
  exact ⟨⟨h1.1, h1.2.1, by omega⟩, h1.2.2⟩

theorem impl_copyWorkshop_ok : ∀ ds outs, F_copyWorkshop ds = some outs → shL impl_copyWorkshop_L (qRet outs) ds := F_copyWorkshop_elim fun x hp => by
  rw [impl_copyWorkshop_L_sh, p_copyBench (x_p := x.p) (x_o := x.o) ⟨hp.1, hp.2.1⟩]
  simp only [p_copyInts (l := x.c) (by omega)]
  simp
theorem impl_Wind_ok : ∀ ds outs, F_Wind ds = some outs → shL impl_Wind_L (qRet outs) ds := F_Wind_elim fun x n => by
  rw [impl_Wind_L_sh]
  cases h : springOk x with
  | false => simp [h, windTo, windBy, windOk]
  | true =>
    have hb : 1 ≤ x.b ∧ x.b ≤ 50 ∧ 0 ≤ x.a ∧ x.a ≤ x.b := by simp [springOk, within] at h; omega
    cases h2 : within n 0 100 with
    | false => simp [h, h2, windTo, windBy, windOk]
    | true =>
      have hw : IntKind.i64.wrap (x.b - x.a) = x.b - x.a := wrap_id (by omega) (by omega)
      have hn : 0 ≤ n ∧ n ≤ 100 := by simpa [within] using h2
      have hw2 : IntKind.i64.wrap (x.a + min n (x.b - x.a)) = x.a + min n (x.b - x.a) := wrap_id (by omega) (by omega)
      simp [h, h2, windTo, windBy, windOk, hw, hw2]
theorem windBy_neg {x : T3} {n : Int} (h : windBy x n < 0) : windTo x n = x ∧ windBy x n = -1 := by
  unfold windBy windTo at *
  cases hw : windOk x n with
  | false => simp
  | true =>
    exfalso
    rw [hw] at h
    simp only [windOk, springOk, within, Bool.and_eq_true, decide_eq_true_eq] at hw
    simp at h
    omega
theorem impl_Crank_ok : ∀ ds outs, F_Crank ds = some outs → shL impl_Crank_L (qRet outs) ds := F_Crank_elim fun x n hp => by
  rw [impl_Crank_L_sh, p_copyWorkshop (x_p := x.p) (x_o := x.o) (x_c := x.c) hp]
  simp only [p_Wind, p_WorkshopOk (x_p := x.p) (x_o := x.o) (x_c := x.c) hp]
  cases h : shopOk x with
  | false => simp [h, crank]
  | true =>
    simp [h, crank, Shop.spring]
    intro hn
    have := windBy_neg hn
    simp [this.1, this.2]

theorem impl_withBench_ok : ∀ ds outs, F_withBench ds = some outs → shL impl_withBench_L (qRet outs) ds := F_withBench_elim fun x y k n hp => by
  have h1 : x.p.length ≤ 1048576 ∧ fitLL x.o ∧ x.c.length ≤ 1048576 := ⟨hp.1, hp.2.1, hp.2.2.1⟩
  have h2 : y.p.length ≤ 1048576 ∧ fitLL y.o ∧ x.c.length ≤ 1048576 := ⟨hp.2.2.2.1, hp.2.2.2.2.1, hp.2.2.1⟩
  rw [impl_withBench_L_sh]
  simp only [p_copyWorkshop (x_p := x.p) (x_o := x.o) (x_c := x.c) h1, P1_sub, P1_not, p_WorkshopOk (x_p := x.p) (x_o := x.o) (x_c := x.c) h1, p_WorkshopOk (x_p := y.p) (x_o := y.o) (x_c := x.c) h2]
  cases n with
  | false => simp [withBench, benchFits]
  | true =>
    cases h : shopOk x with
    | false => simp [h, withBench, benchFits]
    | true =>
      have hy := ((shopOk_iff x).1 h).2.2.2.2.1
      have hy : 0 ≤ x.y ∧ x.y ≤ 1000000 := by simpa [within] using hy
      have hw : IntKind.i64.wrap (x.y - k) = x.y - k := wrap_id (by omega) (by omega)
      have e : (⟨y.s, y.t, y.p, y.o, x.c, x.u, x.m, x.f, x.y - k, x.d⟩ : Shop) = withB x y k := rfl
      rw [hw, e]
      cases h3 : shopOk (withB x y k) <;> simp [h, h3, withBench, benchFits]
      simp [withB]
theorem takePin_small {b : Bench} {k : Int} (h : bSmall b) : bSmall (takePin b k) := stepTo_small h
end Go.Mw

namespace Go.Mw
theorem takePin_no {b : Bench} {k : Int} (h : canTake b k = false) : takePin b k = b := by
  unfold canTake at h; unfold takePin stepTo; rw [h]; simp
theorem impl_RemovePin_ok : ∀ ds outs, F_RemovePin ds = some outs → shL impl_RemovePin_L (qRet outs) ds := F_RemovePin_elim fun x k hp => by
  have hb : x.p.length ≤ 1048576 ∧ fitLL x.o := ⟨hp.1, hp.2.1⟩
  rw [impl_RemovePin_L_sh, p_TakePin (x_p := x.p) (x_o := x.o) hb]
  have e0 : (⟨x.s, x.t, x.p, x.o⟩ : Bench) = x.bench := rfl
  have e1 : (pullOk x.bench.cyl k && stepOk x.bench (pulled x.bench k)) = canTake x.bench k := rfl
  simp only [e0, e1]
  have hf : (takePin x.bench k).p.length ≤ 1048576 ∧ fitLL (takePin x.bench k).o := by
    cases h2 : canTake x.bench k with
    | false => rw [takePin_no h2]; exact hb
    | true =>
      have : stepOk x.bench (pulled x.bench k) = true := by simp [canTake] at h2; exact h2.2
      have hs : benchOk x.bench = true := by simp [stepOk] at this; exact this.1
      have := takePin_small (k := k) (bSmall_of_ok hs)
      exact ⟨this.1, this.2.1⟩
  generalize takePin x.bench k = B at *
  rw [p_withBench (x_p := x.p) (x_o := x.o) (x_c := x.c) (y_p := B.p) (y_o := B.o) ⟨hp.1, hp.2.1, hp.2.2, hf.1, hf.2, by omega, by omega⟩]
  simp
end Go.Mw

namespace Go.Mw
theorem within_iff {a b c : Int} : within a b c = true ↔ b ≤ a ∧ a ≤ c := by simp [within]
theorem spec_GapAround_ok : ∀ ds outs, F_GapAround ds = some outs → shL spec_GapAround_L (qRet outs) ds := F_GapAround_elim fun a b n => by
  rw [spec_GapAround_L_sh]
  cases h : within n 1 1000 with
  | false => simp [h, gap]
  | true =>
    have hn := within_iff.1 h
    have hw : IntKind.i64.wrap (n - 1) = n - 1 := wrap_id (by omega) (by omega)
    cases h2 : within a 0 (n - 1) with
    | false => simp [h, hw, h2, gap]
    | true =>
      cases h3 : within b 0 (n - 1) with
      | false => simp [h, hw, h2, h3, gap]
      | true =>
        have ha := within_iff.1 h2
        have hb := within_iff.1 h3
        have w1 : IntKind.i64.wrap (a - b) = a - b := wrap_id (by omega) (by omega)
        have w2 : IntKind.i64.wrap (b - a) = b - a := wrap_id (by omega) (by omega)
        have w3 : IntKind.i64.wrap (n - max (a - b) (b - a)) = n - max (a - b) (b - a) := wrap_id (by omega) (by omega)
        simp [h, hw, h2, h3, gap, w1, w2, w3]
theorem impl_GapAround_ok : ∀ ds outs, F_GapAround ds = some outs → shL impl_GapAround_L (qRet outs) ds := F_GapAround_elim fun a b n => by
  rw [impl_GapAround_L_sh]
  cases h : within n 1 1000 with
  | false => simp [h, gap]
  | true =>
    have hn := within_iff.1 h
    have hw : IntKind.i64.wrap (n - 1) = n - 1 := wrap_id (by omega) (by omega)
    cases h2 : within a 0 (n - 1) with
    | false => simp [h, hw, h2, gap]
    | true =>
      cases h3 : within b 0 (n - 1) with
      | false => simp [h, hw, h2, h3, gap]
      | true =>
        have ha := within_iff.1 h2
        have hb := within_iff.1 h3
        have w1 : IntKind.i64.wrap (a - b) = a - b := wrap_id (by omega) (by omega)
        have w3 : IntKind.i64.wrap (n - max (a - b) (b - a)) = n - max (a - b) (b - a) := wrap_id (by omega) (by omega)
        have e : mag (a - b) = max (a - b) (b - a) := by unfold mag; split <;> omega
        have hm : -9223372036854775807 ≤ a - b ∧ a - b ≤ 9223372036854775807 := by omega
        simp [h, hw, h2, h3, gap, w1, p_magnitude hm, e, w3]

theorem closeRow_len (c : Cyl) (r : Int) (i k : Nat) : (closeRow c r i k).length ≤ k := by
  induction k with
  | zero => simp [closeRow]
  | succ k ih => simp only [closeRow, List.length_append]; split <;> simp <;> omega
theorem closeTo_len (c : Cyl) (r : Int) (k : Nat) : (closeTo c r k).length ≤ k * c.p.length := by
  induction k with
  | zero => simp [closeTo]
  | succ k ih =>
    have := closeRow_len c r k c.p.length
    simp only [closeTo, List.length_append, Nat.add_mul]; omega
theorem closeRow_none (c : Cyl) (r : Int) (i k : Nat) (h : k ≤ i + 1) : closeRow c r i k = [] := by
  induction k with
  | zero => rfl
  | succ k ih => simp only [closeRow, ih (by omega)]; rw [if_neg (by omega)]; rfl
theorem closeRow_len2 (c : Cyl) (r : Int) (i k : Nat) : (closeTo c r i ++ closeRow c r i k).length ≤ i * c.p.length + k := by
  have h1 := closeTo_len c r i
  have h2 := closeRow_len c r i k
  simp only [List.length_append]; omega

theorem closeAt_eq {c : Cyl} {r : Int} {i j : Nat} (hi : i < c.p.length) (hj : j < c.p.length) : closeAt c r i j = decide (c.p[i].a = c.p[j].a ∧ gap c.p[i].b c.p[j].b c.s < r) := by
  simp [closeAt, List.getElem?_eq_getElem hi, List.getElem?_eq_getElem hj]
theorem spec_TooClose_ok : ∀ ds outs, F_TooClose ds = some outs → shL spec_TooClose_L (qRet outs) ds := F_TooClose_elim fun x r hp => by
  rw [spec_TooClose_L_sh]
  simp only [p_CylinderOk (x_p := x.p) hp]
  have hc : cylOk ⟨x.s, x.t, x.p⟩ = cylOk x := rfl
  simp only [hc]
  cases h : cylOk x with
  | false => simp [h, tooClose]; rfl
  | true =>
    cases h2 : within r 1 96 with
    | false => simp [h, h2, tooClose]; rfl
    | true =>
      have hb := cylOk_bounds h
      have hl := hb.2.2
      simp [h, h2]
      refine loop_upto x.p.length (fun i => [.int .i64 r, .int .i64 i, vL IL1 vLL1 (closeTo x r i), .int .i64 x.s, .int .i64 x.t, vL I2 v2 x.p]) (by intro i j _ _ h; simp at h; omega) (fun _ => True) (by simp [closeTo]; rfl) trivial ?_
      intro i hi _
      rw [spec_TooClose_b0_sh]
      simp
      refine ⟨fun hi2 => ?_, fun hi2 => ?_⟩
      · have hw : IntKind.i64.wrap ((i : Int) + 1) = i + 1 := wrap_id (by omega) (by omega)
        rw [hw]
        refine loop_upto (x.p.length - (i + 1)) (fun j => [.int .i64 r, .int .i64 i, .int .i64 ((i + 1 + j : Nat) : Int), vL IL1 vLL1 (closeTo x r i ++ closeRow x r i (i + 1 + j)), .int .i64 x.s, .int .i64 x.t, vL I2 v2 x.p]) (by intro a b _ _ h; simp at h; omega) (fun _ => True) (by simp [closeRow_none]) trivial ?_
        intro j hj _
        rw [spec_TooClose_b1_sh]
        generalize hm : i + 1 + j = m at *
        simp only [P1_len, P1_lss, ifB_bool, decide_eq_true_eq, decide_eq_false_iff_not]
        refine ⟨fun h3 => ?_, fun h3 => ?_⟩
        · have h4 : m < x.p.length := by omega
          have hw2 : IntKind.i64.wrap ((m : Int) + 1) = m + 1 := wrap_id (by omega) (by omega)
          have e2 : i + 1 + (j + 1) = m + 1 := by omega
          have hx := closeRow_len2 x r i m
          have hx2 : i * x.p.length + m ≤ 100 * 100 + 100 := by
            have := Nat.mul_le_mul (show i ≤ 100 by omega) hl
            omega
          have him : i < m := by omega
          have hj2 : j < x.p.length - (i + 1) := by omega
          have hrow : closeRow x r i (m + 1) = closeRow x r i m ++ (if x.p[i].a = x.p[m].a ∧ gap x.p[i].b x.p[m].b x.s < r then [[(i : Int), (m : Int)]] else []) := by
            simp [closeRow, him, closeAt_eq hi2 h4]
          have hx3 : (closeTo x r i).length + (closeRow x r i m).length ≤ 10100 := by
            simp only [List.length_append] at hx; omega
          simp only [e2, hrow]
          generalize closeRow x r i m = R at *
          clear hrow
          simp [hi2, h4, hw2, hj2]
          refine ⟨fun h5 => ⟨fun h6 => ?_, fun h6 => ?_⟩, fun h5 => ?_⟩
          · simp [h5, h6]; omega
          · exact fun _ => h6
          · exact fun h8 => absurd h8 h5
        · obtain rfl : m = x.p.length := by omega
          simp [spec_TooClose_r2_sh, spec_TooClose_r3_sh, spec_TooClose_r4_sh, hw, closeTo, hi2]
      · obtain rfl : i = x.p.length := by omega
        simp [spec_TooClose_r5_sh, tooClose, h, h2]
theorem impl_TooClose_ok : ∀ ds outs, F_TooClose ds = some outs → shL impl_TooClose_L (qRet outs) ds := F_TooClose_elim fun x r hp => by
  rw [impl_TooClose_L_sh]
  simp only [p_CylinderOk (x_p := x.p) hp]
  have hc : cylOk ⟨x.s, x.t, x.p⟩ = cylOk x := rfl
  simp only [hc]
  cases h : cylOk x with
  | false => simp [h, tooClose]; rfl
  | true =>
    cases h2 : within r 1 96 with
    | false => simp [h, h2, tooClose]; rfl
    | true =>
      have hb := cylOk_bounds h
      have hl := hb.2.2
      simp [h, h2]
      refine loop_upto x.p.length (fun i => [.int .i64 r, vL I2 v2 x.p, .int .i64 x.p.length, .int .i64 i, vL IL1 vLL1 (closeTo x r i), .int .i64 x.s, .int .i64 x.t, vL I2 v2 x.p]) (by intro i j _ _ h; simp at h; omega) (fun _ => True) (by simp [closeTo]; rfl) trivial ?_
      intro i hi _
      rw [impl_TooClose_b0_sh]
      simp
      refine ⟨fun hi2 => ?_, fun hi2 => ?_⟩
      · have hw : IntKind.i64.wrap ((i : Int) + 1) = i + 1 := wrap_id (by omega) (by omega)
        simp only [List.getElem?_eq_getElem hi2, Option.some.injEq, exists_eq_left', hw]
        refine loop_upto (x.p.length - (i + 1)) (fun j => [.int .i64 r, .int .i64 i, .int .i64 ((i + 1 + j : Nat) : Int), vL I2 v2 x.p, .int .i64 x.p.length, .int .i64 i, vL IL1 vLL1 (closeTo x r i ++ closeRow x r i (i + 1 + j)), .int .i64 x.s, .int .i64 x.t, vL I2 v2 x.p, .int .i64 x.p[i].a, .int .i64 x.p[i].b]) (by intro a b _ _ h; simp at h; omega) (fun _ => True) (by simp [closeRow_none]) trivial ?_
        intro j hj _
        rw [impl_TooClose_b1_sh]
        generalize hm : i + 1 + j = m at *
        simp only [P1_len, P1_lss, ifB_bool, decide_eq_true_eq, decide_eq_false_iff_not]
        refine ⟨fun h3 => ?_, fun h3 => ?_⟩
        · have h4 : m < x.p.length := by omega
          have hw2 : IntKind.i64.wrap ((m : Int) + 1) = m + 1 := wrap_id (by omega) (by omega)
          have e2 : i + 1 + (j + 1) = m + 1 := by omega
          have hx := closeRow_len2 x r i m
          have hx2 : i * x.p.length + m ≤ 100 * 100 + 100 := by
            have := Nat.mul_le_mul (show i ≤ 100 by omega) hl
            omega
          have him : i < m := by omega
          have hj2 : j < x.p.length - (i + 1) := by omega
          have hrow : closeRow x r i (m + 1) = closeRow x r i m ++ (if x.p[i].a = x.p[m].a ∧ gap x.p[i].b x.p[m].b x.s < r then [[(i : Int), (m : Int)]] else []) := by
            simp [closeRow, him, closeAt_eq hi2 h4]
          have hx3 : (closeTo x r i).length + (closeRow x r i m).length ≤ 10100 := by
            simp only [List.length_append] at hx; omega
          simp only [e2, hrow]
          generalize closeRow x r i m = R at *
          clear hrow
          simp [h4, hw2, hj2]
          refine ⟨fun h5 => ⟨fun h6 => ?_, fun h6 => ?_⟩, fun h5 => ?_⟩
          · simp [h5, h6]; omega
          · exact fun _ => h6
          · exact fun h8 => absurd h8 h5
        · obtain rfl : m = x.p.length := by omega
          simp [impl_TooClose_r2_sh, impl_TooClose_r3_sh, impl_TooClose_r4_sh, hw, closeTo, hi2]
      · obtain rfl : i = x.p.length := by omega
        simp [impl_TooClose_r5_sh, tooClose, h, h2]

theorem spec_IsPlayable_ok : ∀ ds outs, F_IsPlayable ds = some outs → shL spec_IsPlayable_L (qRet outs) ds := F_IsPlayable_elim fun x r hp => by
  rw [spec_IsPlayable_L_sh]
  simp only [p_CylinderOk (x_p := x.p) hp, p_TooClose (x_p := x.p) hp]
  have hc : cylOk ⟨x.s, x.t, x.p⟩ = cylOk x := rfl
  simp only [hc, playable]
  have e : ((tooClose x r).length : Int) = 0 ↔ tooClose x r = [] := by rw [← List.length_eq_zero_iff]; omega
  have e2 : (((tooClose x r).length : Int) == 0) = decide (tooClose x r = []) := by rw [← decide_eq_decide.2 e]; rfl
  cases h : cylOk x <;> cases h2 : within r 1 96 <;> simp [h2, e2]
theorem impl_IsPlayable_ok : ∀ ds outs, F_IsPlayable ds = some outs → shL impl_IsPlayable_L (qRet outs) ds := F_IsPlayable_elim fun x r hp => by
  rw [impl_IsPlayable_L_sh]
  simp only [p_CylinderOk (x_p := x.p) hp, p_TooClose (x_p := x.p) hp]
  have hc : cylOk ⟨x.s, x.t, x.p⟩ = cylOk x := rfl
  simp only [hc, playable]
  have e : ((tooClose x r).length : Int) = 0 ↔ tooClose x r = [] := by rw [← List.length_eq_zero_iff]; omega
  have e2 : (((tooClose x r).length : Int) == 0) = decide (tooClose x r = []) := by rw [← decide_eq_decide.2 e]; rfl
  cases h : cylOk x <;> cases h2 : within r 1 96 <;> simp [h2, e2]
theorem impl_PlayOnce_ok : ∀ ds outs, F_PlayOnce ds = some outs → shL impl_PlayOnce_L (qRet outs) ds := F_PlayOnce_elim fun x hp => by
  rw [impl_PlayOnce_L_sh]
  simp only [p_copyWorkshop (x_p := x.p) (x_o := x.o) (x_c := x.c) hp, p_WorkshopOk (x_p := x.p) (x_o := x.o) (x_c := x.c) hp, p_IsPlayable (x_p := x.p) hp.1, impl_PlayOnce_r0_sh]
  cases h : shopOk x with
  | false => simp [h, playOnce, canPlay]
  | true =>
    have hs := (shopOk_iff x).1 h
    have hu : 0 ≤ x.u ∧ x.u ≤ 50 := by have h9 := hs.2.2.1; simp only [Shop.spring, springOk, Bool.and_eq_true, within_iff] at h9; omega
    have hd := within_iff.1 hs.2.2.2.2.2
    by_cases h2 : x.u = 0
    · simp [h, h2, playOnce, canPlay]
    · cases h3 : playable ⟨x.s, x.t, x.p⟩ 2 with
      | false => simp [h, h2, h3, playOnce, canPlay]
      | true =>
        have hw : IntKind.i64.wrap (x.u - 1) = x.u - 1 := wrap_id (by omega) (by omega)
        have hw2 : IntKind.i64.wrap (x.d + x.p.length) = x.d + x.p.length := wrap_id (by omega) (by omega)
        have e : (⟨x.s, x.t, x.p, x.o, x.c, x.u - 1, x.m, x.f, x.y, x.d + x.p.length⟩ : Shop) = played x := rfl
        have hq := fun (nr_ : Nat) (kk_ : V → Prop) => p_WorkshopOk (x_s := x.s) (x_t := x.t) (x_p := x.p) (x_o := x.o) (x_c := x.c) (x_u := x.u - 1) (x_m := x.m) (x_f := x.f) (x_y := x.y) (x_d := x.d + x.p.length) (nr_ := nr_) (kk_ := kk_) hp
        rw [e] at hq
        simp only [P1_sub, P1_add, P1_len, hw, hw2, hq]
        cases h4 : shopOk (played x) <;> simp [h, h2, h3, h4, playOnce, canPlay]
        simp [played]
end Go.Mw

namespace Go.Mw
def land (a b : Int) : Int := IntKind.i64.wrap (BitVec.ofInt IntKind.i64.bits a &&& BitVec.ofInt IntKind.i64.bits b).toNat
def lxor (a b : Int) : Int := IntKind.i64.wrap (BitVec.ofInt IntKind.i64.bits a ^^^ BitVec.ofInt IntKind.i64.bits b).toNat
@[simp] theorem P1_and {a b : Int} {k : V → Prop} : P1 (.bin .and) [.int .i64 a, .int .i64 b] k ↔ k (.int .i64 (land a b)) := P1_of (by simp [Prim.run, binV, binI, land]) k
@[simp] theorem P1_xor {a b : Int} {k : V → Prop} : P1 (.bin .xor) [.int .i64 a, .int .i64 b] k ↔ k (.int .i64 (lxor a b)) := P1_of (by simp [Prim.run, binV, binI, lxor]) k
theorem P1_shr {a b : Int} {κ' : IntKind} {k : V → Prop} (hb : 0 ≤ b) : P1 (.bin .shr) [.int .i64 a, .int κ' b] k ↔ k (.int .i64 (a.fdiv (2 ^ (min b.toNat IntKind.i64.bits)))) := P1_of (by simp [Prim.run, binV]; omega) k
structure Cur where
  b : List UInt8
  i : Int
  h : Int
def E_big (l : List UInt8) : List V := [vL I1 vY l]
noncomputable def F_big : List V → Option (List V) := mkF E_big (fun l => l.length ≤ 9223372036854775807) (fun l => [.bool (decide (1048576 < l.length))])
theorem F_big_inj : ∀ x y, E_big x = E_big y → x = y := by
  rintro l l' h
  simpa [E_big] using h
theorem F_big_elim {P : List V → List V → Prop} (h : ∀ (l : List UInt8), (l.length ≤ 9223372036854775807) → P [vL I1 vY l] [.bool (decide (1048576 < l.length))]) : ∀ ds outs, F_big ds = some outs → P ds outs := by
  intro ds outs hh
  obtain ⟨l, rfl, hp, rfl⟩ := mkF_inv hh
  exact h l hp
theorem p_big {l : List UInt8} {nr_ : Nat} {kk_ : V → Prop} (hp : l.length ≤ 9223372036854775807) : P1 (.call F_big 0 nr_) [vL I1 vY l] kk_ ↔ kk_ (.bool (decide (1048576 < l.length))) :=
  P1_callF (by unfold F_big; exact mkF_eq F_big_inj (l) hp)

def seedTo (l : List UInt8) : Nat → Int
  | 0 => 33091 + l.length
  | k + 1 => land (IntKind.i64.wrap (IntKind.i64.wrap (IntKind.i64.wrap (seedTo l k * 131) + (match l[k]? with | some x => (x.toNat : Int) | none => 0)) + 7)) 1073741823
def seedOf (l : List UInt8) : Int := seedTo l (min l.length 4000)
def E_l01New (l : List UInt8) : List V := [vL I1 vY l]
noncomputable def F_l01New : List V → Option (List V) := mkF E_l01New (fun l => l.length ≤ 1048576) (fun l => [vL I1 vY l, .int .i64 0, .int .i64 (seedOf l)])
theorem F_l01New_inj : ∀ x y, E_l01New x = E_l01New y → x = y := by
  rintro l l' h
  simpa [E_l01New] using h
theorem F_l01New_elim {P : List V → List V → Prop} (h : ∀ (l : List UInt8), (l.length ≤ 1048576) → P [vL I1 vY l] [vL I1 vY l, .int .i64 0, .int .i64 (seedOf l)]) : ∀ ds outs, F_l01New ds = some outs → P ds outs := by
  intro ds outs hh
  obtain ⟨l, rfl, hp, rfl⟩ := mkF_inv hh
  exact h l hp
theorem p_l01New {l : List UInt8} {nr_ : Nat} {kk_ : V → V → V → Prop} (hp : l.length ≤ 1048576) : P3 (.call F_l01New 0 nr_) [vL I1 vY l] kk_ ↔ kk_ (vL I1 vY l) (.int .i64 0) (.int .i64 (seedOf l)) :=
  P3_callF (by unfold F_l01New; exact mkF_eq F_l01New_inj (l) hp)

def hNext (h : Int) : Int := IntKind.i64.wrap (IntKind.i64.wrap (h * 6364136223846793005) + 1442695040888963407)
def hByte (h : Int) : Int := land (lxor (h.fdiv (2 ^ 33)) (h.fdiv (2 ^ 45))) 255
def cByte (x : Cur) : Int := match x.b[x.i.toNat]? with | some y => land (IntKind.i64.wrap (hByte (hNext x.h) + y.toNat)) 255 | none => hByte (hNext x.h)
def cStep (x : Cur) : Cur := ⟨x.b, if x.i < x.b.length then x.i + 1 else x.i, hNext x.h⟩
def E_l01Byte (x : Cur) : List V := [vL I1 vY x.b, .int .i64 x.i, .int .i64 x.h]
noncomputable def F_l01Byte : List V → Option (List V) := mkF E_l01Byte (fun x => 0 ≤ x.i ∧ x.b.length ≤ 1048576) (fun x => [.int .i64 (cByte x), .int .i64 ((cStep x).i), .int .i64 ((cStep x).h)])
theorem F_l01Byte_inj : ∀ x y, E_l01Byte x = E_l01Byte y → x = y := by
  rintro ⟨xb, xi, xh⟩ ⟨xb', xi', xh'⟩ h
  simpa [E_l01Byte] using h
theorem F_l01Byte_elim {P : List V → List V → Prop} (h : ∀ (x : Cur), (0 ≤ x.i ∧ x.b.length ≤ 1048576) → P [vL I1 vY x.b, .int .i64 x.i, .int .i64 x.h] [.int .i64 (cByte x), .int .i64 ((cStep x).i), .int .i64 ((cStep x).h)]) : ∀ ds outs, F_l01Byte ds = some outs → P ds outs := by
  intro ds outs hh
  obtain ⟨x, rfl, hp, rfl⟩ := mkF_inv hh
  exact h x hp
theorem p_l01Byte {x_b : List UInt8} {x_i : Int} {x_h : Int} {nr_ : Nat} {kk_ : V → V → V → Prop} (hp : 0 ≤ (⟨x_b, x_i, x_h⟩ : Cur).i ∧ (⟨x_b, x_i, x_h⟩ : Cur).b.length ≤ 1048576) : P3 (.call F_l01Byte 0 nr_) [vL I1 vY x_b, .int .i64 x_i, .int .i64 x_h] kk_ ↔ kk_ (.int .i64 (cByte (⟨x_b, x_i, x_h⟩ : Cur))) (.int .i64 ((cStep (⟨x_b, x_i, x_h⟩ : Cur)).i)) (.int .i64 ((cStep (⟨x_b, x_i, x_h⟩ : Cur)).h)) :=
  P3_callF (by unfold F_l01Byte; exact mkF_eq F_l01Byte_inj ((⟨x_b, x_i, x_h⟩ : Cur)) hp)

def cBelow (x : Cur) (n : Int) : Int := if n ≤ 0 then 0 else if n ≤ 256 then (cByte x).tmod n else
  (cByte x * 16777216 + cByte (cStep x) * 65536 + cByte (cStep (cStep x)) * 256 + cByte (cStep (cStep (cStep x)))).tmod n
def cAfter (x : Cur) (n : Int) : Cur := if n ≤ 0 then x else if n ≤ 256 then cStep x else cStep (cStep (cStep (cStep x)))
def E_l01Below : Cur × Int → List V := fun (x, n) => [vL I1 vY x.b, .int .i64 x.i, .int .i64 x.h, .int .i64 n]
noncomputable def F_l01Below : List V → Option (List V) := mkF E_l01Below (fun (x, _) => 0 ≤ x.i ∧ x.b.length ≤ 1048576) (fun (x, n) => [.int .i64 (cBelow x n), .int .i64 ((cAfter x n).i), .int .i64 ((cAfter x n).h)])
theorem F_l01Below_inj : ∀ x y, E_l01Below x = E_l01Below y → x = y := by
  rintro ⟨⟨xb, xi, xh⟩, n⟩ ⟨⟨xb', xi', xh'⟩, n'⟩ h
  simpa [E_l01Below, and_assoc] using h
theorem F_l01Below_elim {P : List V → List V → Prop} (h : ∀ (x : Cur) (n : Int), (0 ≤ x.i ∧ x.b.length ≤ 1048576) → P [vL I1 vY x.b, .int .i64 x.i, .int .i64 x.h, .int .i64 n] [.int .i64 (cBelow x n), .int .i64 ((cAfter x n).i), .int .i64 ((cAfter x n).h)]) : ∀ ds outs, F_l01Below ds = some outs → P ds outs := by
  intro ds outs hh
  obtain ⟨⟨x, n⟩, rfl, hp, rfl⟩ := mkF_inv hh
  exact h x n hp
theorem p_l01Below {x_b : List UInt8} {x_i : Int} {x_h : Int} {n : Int} {nr_ : Nat} {kk_ : V → V → V → Prop} (hp : 0 ≤ (⟨x_b, x_i, x_h⟩ : Cur).i ∧ (⟨x_b, x_i, x_h⟩ : Cur).b.length ≤ 1048576) : P3 (.call F_l01Below 0 nr_) [vL I1 vY x_b, .int .i64 x_i, .int .i64 x_h, .int .i64 n] kk_ ↔ kk_ (.int .i64 (cBelow (⟨x_b, x_i, x_h⟩ : Cur) n)) (.int .i64 ((cAfter (⟨x_b, x_i, x_h⟩ : Cur) n).i)) (.int .i64 ((cAfter (⟨x_b, x_i, x_h⟩ : Cur) n).h)) :=
  P3_callF (by unfold F_l01Below; exact mkF_eq F_l01Below_inj ((⟨x_b, x_i, x_h⟩ : Cur), n) hp)


def putPin : List T2 → T2 → List T2
  | [], p => [p]
  | a :: r, p => if pinLess a p then a :: putPin r p else if a = p then a :: r else p :: a :: r
def putNew : List T2 → T2 → Bool
  | [], _ => true
  | a :: r, p => if pinLess a p then putNew r p else decide (a ≠ p)
def E_l06Put : List T2 × T2 → List V := fun (l, y) => [vL I2 v2 l, .int .i64 y.a, .int .i64 y.b]
noncomputable def F_l06Put : List V → Option (List V) := mkF E_l06Put (fun (l, _) => l.length ≤ 1048576) (fun (l, y) => [vL I2 v2 (putPin l y), .bool (putNew l y)])
theorem F_l06Put_inj : ∀ x y, E_l06Put x = E_l06Put y → x = y := by
  rintro ⟨l, ⟨ya, yb⟩⟩ ⟨l', ⟨ya', yb'⟩⟩ h
  simpa [E_l06Put, and_assoc] using h
theorem F_l06Put_elim {P : List V → List V → Prop} (h : ∀ (l : List T2) (y : T2), (l.length ≤ 1048576) → P [vL I2 v2 l, .int .i64 y.a, .int .i64 y.b] [vL I2 v2 (putPin l y), .bool (putNew l y)]) : ∀ ds outs, F_l06Put ds = some outs → P ds outs := by
  intro ds outs hh
  obtain ⟨⟨l, y⟩, rfl, hp, rfl⟩ := mkF_inv hh
  exact h l y hp
theorem p_l06Put {l : List T2} {y_a : Int} {y_b : Int} {nr_ : Nat} {kk_ : V → V → Prop} (hp : l.length ≤ 1048576) : P2 (.call F_l06Put 0 nr_) [vL I2 v2 l, .int .i64 y_a, .int .i64 y_b] kk_ ↔ kk_ (vL I2 v2 (putPin l (⟨y_a, y_b⟩ : T2))) (.bool (putNew l (⟨y_a, y_b⟩ : T2))) :=
  P2_callF (by unfold F_l06Put; exact mkF_eq F_l06Put_inj (l, (⟨y_a, y_b⟩ : T2)) hp)

def cylTo (s t : Int) (x : Cur) : Nat → List T2 × Cur
  | 0 => ([], x)
  | k + 1 => (putPin (cylTo s t x k).1 ⟨cBelow (cylTo s t x k).2 t, cBelow (cAfter (cylTo s t x k).2 t) s⟩, cAfter (cAfter (cylTo s t x k).2 t) s)
def cylS (x : Cur) : Int := 4 + cBelow x 21
def cylT (x : Cur) : Int := 1 + cBelow (cAfter x 21) 8
def cylX (x : Cur) : Cur := cAfter (cAfter (cAfter x 21) 8) 10
def cylN (x : Cur) : Int := cBelow (cAfter (cAfter x 21) 8) 10
def cylOf (x : Cur) : Cyl := ⟨cylS x, cylT x, (cylTo (cylS x) (cylT x) (cylX x) (cylN x).toNat).1⟩
def cylEnd (x : Cur) : Cur := (cylTo (cylS x) (cylT x) (cylX x) (cylN x).toNat).2
def E_l06Cylinder (x : Cur) : List V := [vL I1 vY x.b, .int .i64 x.i, .int .i64 x.h]
noncomputable def F_l06Cylinder : List V → Option (List V) := mkF E_l06Cylinder (fun x => 0 ≤ x.i ∧ x.b.length ≤ 1048576) (fun x => [.int .i64 (cylOf x).s, .int .i64 (cylOf x).t, vL I2 v2 (cylOf x).p, .int .i64 ((cylEnd x).i), .int .i64 ((cylEnd x).h)])
theorem F_l06Cylinder_inj : ∀ x y, E_l06Cylinder x = E_l06Cylinder y → x = y := by
  rintro ⟨xb, xi, xh⟩ ⟨xb', xi', xh'⟩ h
  simpa [E_l06Cylinder] using h
theorem F_l06Cylinder_elim {P : List V → List V → Prop} (h : ∀ (x : Cur), (0 ≤ x.i ∧ x.b.length ≤ 1048576) → P [vL I1 vY x.b, .int .i64 x.i, .int .i64 x.h] [.int .i64 (cylOf x).s, .int .i64 (cylOf x).t, vL I2 v2 (cylOf x).p, .int .i64 ((cylEnd x).i), .int .i64 ((cylEnd x).h)]) : ∀ ds outs, F_l06Cylinder ds = some outs → P ds outs := by
  intro ds outs hh
  obtain ⟨x, rfl, hp, rfl⟩ := mkF_inv hh
  exact h x hp
theorem p_l06Cylinder {x_b : List UInt8} {x_i : Int} {x_h : Int} {nr_ : Nat} {kk_ : V → V → V → V → V → Prop} (hp : 0 ≤ (⟨x_b, x_i, x_h⟩ : Cur).i ∧ (⟨x_b, x_i, x_h⟩ : Cur).b.length ≤ 1048576) : P5 (.call F_l06Cylinder 0 nr_) [vL I1 vY x_b, .int .i64 x_i, .int .i64 x_h] kk_ ↔ kk_ (.int .i64 (cylOf (⟨x_b, x_i, x_h⟩ : Cur)).s) (.int .i64 (cylOf (⟨x_b, x_i, x_h⟩ : Cur)).t) (vL I2 v2 (cylOf (⟨x_b, x_i, x_h⟩ : Cur)).p) (.int .i64 ((cylEnd (⟨x_b, x_i, x_h⟩ : Cur)).i)) (.int .i64 ((cylEnd (⟨x_b, x_i, x_h⟩ : Cur)).h)) :=
  P5_callF (by unfold F_l06Cylinder; exact mkF_eq F_l06Cylinder_inj ((⟨x_b, x_i, x_h⟩ : Cur)) hp)

def E_l01PickInt : Cur × List Int → List V := fun (x, l) => [vL I1 vY x.b, .int .i64 x.i, .int .i64 x.h, vL I1 v1 l]
noncomputable def F_l01PickInt : List V → Option (List V) := mkF E_l01PickInt (fun (x, l) => 0 ≤ x.i ∧ x.b.length ≤ 1048576 ∧ 1 ≤ l.length ∧ l.length ≤ 1048576) (fun (x, l) => [.int .i64 ((l[(cBelow x l.length).toNat]?.getD 0)), .int .i64 ((cAfter x l.length).i), .int .i64 ((cAfter x l.length).h)])
theorem F_l01PickInt_inj : ∀ x y, E_l01PickInt x = E_l01PickInt y → x = y := by
  rintro ⟨⟨xb, xi, xh⟩, l⟩ ⟨⟨xb', xi', xh'⟩, l'⟩ h
  simpa [E_l01PickInt, and_assoc] using h
theorem F_l01PickInt_elim {P : List V → List V → Prop} (h : ∀ (x : Cur) (l : List Int), (0 ≤ x.i ∧ x.b.length ≤ 1048576 ∧ 1 ≤ l.length ∧ l.length ≤ 1048576) → P [vL I1 vY x.b, .int .i64 x.i, .int .i64 x.h, vL I1 v1 l] [.int .i64 ((l[(cBelow x l.length).toNat]?.getD 0)), .int .i64 ((cAfter x l.length).i), .int .i64 ((cAfter x l.length).h)]) : ∀ ds outs, F_l01PickInt ds = some outs → P ds outs := by
  intro ds outs hh
  obtain ⟨⟨x, l⟩, rfl, hp, rfl⟩ := mkF_inv hh
  exact h x l hp
theorem p_l01PickInt {x_b : List UInt8} {x_i : Int} {x_h : Int} {l : List Int} {nr_ : Nat} {kk_ : V → V → V → Prop} (hp : 0 ≤ (⟨x_b, x_i, x_h⟩ : Cur).i ∧ (⟨x_b, x_i, x_h⟩ : Cur).b.length ≤ 1048576 ∧ 1 ≤ l.length ∧ l.length ≤ 1048576) : P3 (.call F_l01PickInt 0 nr_) [vL I1 vY x_b, .int .i64 x_i, .int .i64 x_h, vL I1 v1 l] kk_ ↔ kk_ (.int .i64 ((l[(cBelow (⟨x_b, x_i, x_h⟩ : Cur) l.length).toNat]?.getD 0))) (.int .i64 ((cAfter (⟨x_b, x_i, x_h⟩ : Cur) l.length).i)) (.int .i64 ((cAfter (⟨x_b, x_i, x_h⟩ : Cur) l.length).h)) :=
  P3_callF (by unfold F_l01PickInt; exact mkF_eq F_l01PickInt_inj ((⟨x_b, x_i, x_h⟩ : Cur), l) hp)

def cur0 (l : List UInt8) : Cur := ⟨l, 0, seedOf l⟩
end Go.Mw

namespace Go.Mw
noncomputable section
def laws_big_L : L := .seq (.rg []) (.seq (.rg [zl 0, zk .gtr 1 1048576]) (.ret [.v 2]))
theorem laws_big_L_sh (Q : QT) (x0 : V) : shL laws_big_L Q [x0] = (
  P1 (.len) [x0] fun v0 =>
  P1 (.bin .gtr) [v0, .int .i64 1048576] fun v1 =>
  Q .ret [v1]) := by kernel_rfl
def laws_big_S : Sig := ⟨[.val false [.sl [.sc]]], [(false, [.sc])], F_big⟩
def laws_big_hs : List NF := []

def spec_l01New_b0 : L := .seq (.seq (.seq (.rg [zl 0, zb .lss 2 3, ⟨[(.v 4, true)], .bin .lss, [.v 2, .k (.int .i64 4000)], 1⟩, ⟨[], .pick, [.v 4, .v 5, .k (.bool false)], 1⟩]) (.ite (.v 6) (.skip) (.seq (zt [0, 1]) (.exit 0)))) (.seq (.block 1 (.seq (.rg [zk .mul 1 131, zi 0 2, ⟨[], .conv .i64, [.v 8], 1⟩, zb .add 7 9, zk .add 10 7, zk .and 11 1073741823]) (zt [0, 12, 2]))) (.rg [zk .add 2 1]))) (zt [0, 1, 3])
theorem spec_l01New_b0_sh (Q : QT) (x0 x1 x2 : V) : shL spec_l01New_b0 Q [x0, x1, x2] = (
  P1 (.len) [x0] fun v0 =>
  P1 (.bin .lss) [x2, v0] fun v1 =>
  ifB v1 (
    P1 (.bin .lss) [x2, .int .i64 4000] fun v2 =>
    ifB v2 (
      P1 (.bin .mul) [x1, .int .i64 131] fun v3 =>
      P1 (.idx [.sc]) [x0, x2] fun v4 =>
      P1 (.conv .i64) [v4] fun v5 =>
      P1 (.bin .add) [v3, v5] fun v6 =>
      P1 (.bin .add) [v6, .int .i64 7] fun v7 =>
      P1 (.bin .and) [v7, .int .i64 1073741823] fun v8 =>
      P1 (.bin .add) [x2, .int .i64 1] fun v9 =>
      Q .normal [x0, v8, v9]) (
      Q (.exit 0) [x0, x1])) (
    Q (.exit 0) [x0, x1])) := by kernel_rfl

def spec_l01New_r1 : L := .seq (.rg []) (.ret [.v 0, .k (.int .i64 0), .v 1])
theorem spec_l01New_r1_sh (Q : QT) (x0 x1 : V) : shL spec_l01New_r1 Q [x0, x1] = (
  Q .ret [x0, .int .i64 0, x1]) := by kernel_rfl

def spec_l01New_L : L := .seq (.rg []) (.seq (.rg [zl 0, ⟨[], .bin .add, [.k (.int .i64 33091), .v 1], 1⟩]) (.seq (.seq (.rg []) (.block 0 (.seq (.tup [.v 0, .v 2, .k (.int .i64 0)]) (.loop (spec_l01New_b0))))) (spec_l01New_r1)))
theorem spec_l01New_L_sh (Q : QT) (x0 : V) : shL spec_l01New_L Q [x0] = (
  P1 (.len) [x0] fun v0 =>
  P1 (.bin .add) [.int .i64 33091, v0] fun v1 =>
  shL (.loop spec_l01New_b0) (qB 0 (qS (shL spec_l01New_r1 Q) Q)) [x0, v1, .int .i64 0]) := by kernel_rfl
def spec_l01New_S : Sig := ⟨[.new [.sl [.sc], .sc, .sc], .val false [.sl [.sc]]], [], F_l01New⟩
def spec_l01New_hs : List NF := [⟨[(0, zr), (3, zs)], [], [], 64⟩, ⟨[(0, zr), (3, zs), (4, zs)], [], [], 64⟩, ⟨[(0, zr), (3, zs), (4, zs)], [], [], 64⟩]

def spec_l01Byte_L : L := .seq (.rg []) (.seq (.rg [zk .mul 2 6364136223846793005, zk .add 3 1442695040888963407]) (.seq (.rg [⟨[], .bin .shr, [.v 4, .k (.int .u64 33)], 1⟩, ⟨[], .bin .shr, [.v 4, .k (.int .u64 45)], 1⟩, zb .xor 5 6, zk .and 7 255]) (.seq (.seq (.rg [zl 0, zb .lss 1 9]) (.ite (.v 10) (.seq (.seq (.rg [zi 0 1, ⟨[], .conv .i64, [.v 11], 1⟩, zb .add 8 12, zk .and 13 255]) (.rg [zk .add 1 1])) (zt [14, 0, 15, 4])) (.seq (.skip) (zt [8, 0, 1, 4])))) (.seq (.rg []) (.ret [.v 0, .v 2, .v 3])))))
theorem spec_l01Byte_L_sh (Q : QT) (x0 x1 x2 : V) : shL spec_l01Byte_L Q [x0, x1, x2] = (
  P1 (.bin .mul) [x2, .int .i64 6364136223846793005] fun v0 =>
  P1 (.bin .add) [v0, .int .i64 1442695040888963407] fun v1 =>
  P1 (.bin .shr) [v1, .int .u64 33] fun v2 =>
  P1 (.bin .shr) [v1, .int .u64 45] fun v3 =>
  P1 (.bin .xor) [v2, v3] fun v4 =>
  P1 (.bin .and) [v4, .int .i64 255] fun v5 =>
  P1 (.len) [x0] fun v6 =>
  P1 (.bin .lss) [x1, v6] fun v7 =>
  ifB v7 (
    P1 (.idx [.sc]) [x0, x1] fun v8 =>
    P1 (.conv .i64) [v8] fun v9 =>
    P1 (.bin .add) [v5, v9] fun v10 =>
    P1 (.bin .and) [v10, .int .i64 255] fun v11 =>
    P1 (.bin .add) [x1, .int .i64 1] fun v12 =>
    Q .ret [v11, v12, v1]) (
    Q .ret [v5, x1, v1])) := by kernel_rfl
def spec_l01Byte_S : Sig := ⟨[.ptr 0 [.sl [.sc], .sc, .sc]], [(false, [.sc])], F_l01Byte⟩
def spec_l01Byte_hs : List NF := [⟨[(3, zs)], [], [(0, [.ro [.sc], .sc, .sc])], 64⟩]

def spec_l01Below_L : L := .seq (.rg []) (.seq (.seq (.rg [zk .leq 3 0]) (.ite (.v 4) (.seq (.rg []) (.ret [.k (.int .i64 0), .v 1, .v 2])) (.skip))) (.seq (.seq (.rg [zk .leq 3 256]) (.ite (.v 5) (.seq (.rg [⟨[], .call F_l01Byte 0 1, [.v 0, .v 1, .v 2], 3⟩, zb .rem 6 3]) (.ret [.v 9, .v 7, .v 8])) (.skip))) (.seq (.rg [⟨[], .call F_l01Byte 0 1, [.v 0, .v 1, .v 2], 3⟩]) (.seq (.rg [⟨[], .call F_l01Byte 0 1, [.v 0, .v 7, .v 8], 3⟩]) (.seq (.rg [⟨[], .call F_l01Byte 0 1, [.v 0, .v 10, .v 11], 3⟩]) (.seq (.rg [⟨[], .call F_l01Byte 0 1, [.v 0, .v 13, .v 14], 3⟩]) (.seq (.rg [zk .mul 6 16777216, zk .mul 9 65536, zb .add 18 19, zk .mul 12 256, zb .add 20 21, zb .add 22 15, zb .rem 23 3]) (.ret [.v 24, .v 16, .v 17]))))))))
theorem spec_l01Below_L_sh (Q : QT) (x0 x1 x2 x3 : V) : shL spec_l01Below_L Q [x0, x1, x2, x3] = (
  P1 (.bin .leq) [x3, .int .i64 0] fun v0 =>
  ifB v0 (
    Q .ret [.int .i64 0, x1, x2]) (
    P1 (.bin .leq) [x3, .int .i64 256] fun v1 =>
    ifB v1 (
      P3 (.call F_l01Byte 0 1) [x0, x1, x2] fun v2 v3 v4 =>
      P1 (.bin .rem) [v2, x3] fun v5 =>
      Q .ret [v5, v3, v4]) (
      P3 (.call F_l01Byte 0 1) [x0, x1, x2] fun v6 v7 v8 =>
      P3 (.call F_l01Byte 0 1) [x0, v7, v8] fun v9 v10 v11 =>
      P3 (.call F_l01Byte 0 1) [x0, v10, v11] fun v12 v13 v14 =>
      P3 (.call F_l01Byte 0 1) [x0, v13, v14] fun v15 v16 v17 =>
      P1 (.bin .mul) [v6, .int .i64 16777216] fun v18 =>
      P1 (.bin .mul) [v9, .int .i64 65536] fun v19 =>
      P1 (.bin .add) [v18, v19] fun v20 =>
      P1 (.bin .mul) [v12, .int .i64 256] fun v21 =>
      P1 (.bin .add) [v20, v21] fun v22 =>
      P1 (.bin .add) [v22, v15] fun v23 =>
      P1 (.bin .rem) [v23, x3] fun v24 =>
      Q .ret [v24, v16, v17]))) := by kernel_rfl
def spec_l01Below_S : Sig := ⟨[.ptr 0 [.sl [.sc], .sc, .sc], .val false [.sc]], [(false, [.sc])], F_l01Below⟩
def spec_l01Below_hs : List NF := []

def spec_l06Put_b0 : L := .seq (.seq (.seq (.rg [zl 0, zb .lss 1 4, ⟨[(.v 5, true)], .idx [.sc, .sc], [.v 0, .v 1], 2⟩, ⟨[(.v 5, true)], .call F_l06Less 0 1, [.v 6, .v 7, .v 2, .v 3], 1⟩, ⟨[], .pick, [.v 5, .v 8, .k (.bool false)], 1⟩]) (.ite (.v 9) (.skip) (.seq (zt [0, 1, 2, 3]) (.exit 0)))) (.block 1 (.seq (.rg [zk .add 1 1]) (zt [0, 10, 2, 3])))) (zt [0, 1, 2, 3])
theorem spec_l06Put_b0_sh (Q : QT) (x0 x1 x2 x3 : V) : shL spec_l06Put_b0 Q [x0, x1, x2, x3] = (
  P1 (.len) [x0] fun v0 =>
  P1 (.bin .lss) [x1, v0] fun v1 =>
  ifB v1 (
    P2 (.idx [.sc, .sc]) [x0, x1] fun v2 v3 =>
    P1 (.call F_l06Less 0 1) [v2, v3, x2, x3] fun v4 =>
    ifB v4 (
      P1 (.bin .add) [x1, .int .i64 1] fun v5 =>
      Q .normal [x0, v5, x2, x3]) (
      Q (.exit 0) [x0, x1, x2, x3])) (
    Q (.exit 0) [x0, x1, x2, x3])) := by kernel_rfl

def spec_l06Put_r1 : L := .seq (.seq (.rg [zl 0, zb .lss 1 4, ⟨[(.v 5, true)], .idx [.sc, .sc], [.v 0, .v 1], 2⟩, ⟨[(.v 5, true)], .eqa false [.i, .i], [.v 6, .v 7, .v 2, .v 3], 1⟩, ⟨[], .pick, [.v 5, .v 8, .k (.bool false)], 1⟩]) (.ite (.v 9) (.seq (.rg [⟨[], .lst [.sc, .sc] true 0, [], 1⟩, ⟨[], .app [.sc, .sc] 16, [.v 10, .v 0], 1⟩]) (.ret [.v 11, .k (.bool false)])) (.skip))) (.seq (.rg [⟨[], .lst [.sc, .sc] true 0, [], 1⟩, ⟨[], .lsub [.sc, .sc], [.v 0, .k (.int .i64 0), .v 1], 1⟩, ⟨[], .app [.sc, .sc] 16, [.v 10, .v 11], 1⟩, ⟨[], .lst [.sc, .sc] true 1, [.v 2, .v 3], 1⟩, ⟨[], .app [.sc, .sc] 16, [.v 12, .v 13], 1⟩, ⟨[], .lsub [.sc, .sc], [.v 0, .v 1], 1⟩, ⟨[], .app [.sc, .sc] 16, [.v 14, .v 15], 1⟩]) (.ret [.v 16, .k (.bool true)]))
theorem spec_l06Put_r1_sh (Q : QT) (x0 x1 x2 x3 : V) : shL spec_l06Put_r1 Q [x0, x1, x2, x3] = (
  P1 (.len) [x0] fun v0 =>
  P1 (.bin .lss) [x1, v0] fun v1 =>
  ifB v1 (
    P2 (.idx [.sc, .sc]) [x0, x1] fun v2 v3 =>
    P1 (.eqa false [.i, .i]) [v2, v3, x2, x3] fun v4 =>
    ifB v4 (
      P1 (.lst [.sc, .sc] true 0) [] fun v5 =>
      P1 (.app [.sc, .sc] 16) [v5, x0] fun v6 =>
      Q .ret [v6, .bool false]) (
      P1 (.lst [.sc, .sc] true 0) [] fun v7 =>
      P1 (.lsub [.sc, .sc]) [x0, .int .i64 0, x1] fun v8 =>
      P1 (.app [.sc, .sc] 16) [v7, v8] fun v9 =>
      P1 (.lst [.sc, .sc] true 1) [x2, x3] fun v10 =>
      P1 (.app [.sc, .sc] 16) [v9, v10] fun v11 =>
      P1 (.lsub [.sc, .sc]) [x0, x1] fun v12 =>
      P1 (.app [.sc, .sc] 16) [v11, v12] fun v13 =>
      Q .ret [v13, .bool true])) (
    P1 (.lst [.sc, .sc] true 0) [] fun v14 =>
    P1 (.lsub [.sc, .sc]) [x0, .int .i64 0, x1] fun v15 =>
    P1 (.app [.sc, .sc] 16) [v14, v15] fun v16 =>
    P1 (.lst [.sc, .sc] true 1) [x2, x3] fun v17 =>
    P1 (.app [.sc, .sc] 16) [v16, v17] fun v18 =>
    P1 (.lsub [.sc, .sc]) [x0, x1] fun v19 =>
    P1 (.app [.sc, .sc] 16) [v18, v19] fun v20 =>
    Q .ret [v20, .bool true])) := by kernel_rfl

def spec_l06Put_L : L := .seq (.rg []) (.seq (.rg []) (.seq (.block 0 (.seq (.tup [.v 0, .k (.int .i64 0), .v 1, .v 2]) (.loop (spec_l06Put_b0)))) (spec_l06Put_r1)))
theorem spec_l06Put_L_sh (Q : QT) (x0 x1 x2 : V) : shL spec_l06Put_L Q [x0, x1, x2] = (
  shL (.loop spec_l06Put_b0) (qB 0 (qS (shL spec_l06Put_r1 Q) Q)) [x0, .int .i64 0, x1, x2]) := by kernel_rfl
def spec_l06Put_S : Sig := ⟨[.val false [.sl [.sc, .sc]], .val true [.sc, .sc]], [(false, [.sl [.sc, .sc]]), (false, [.sc])], F_l06Put⟩
def spec_l06Put_hs : List NF := [⟨[(0, zq), (3, .ptr 64 0), (6, zs)], [], [(64, [.sc, .sc])], 65⟩, ⟨[(0, zq), (3, .ptr 64 0), (6, zs)], [], [(64, [.sc, .sc])], 65⟩, ⟨[(0, zq), (3, .ptr 64 0), (6, zs)], [], [(64, [.sc, .sc])], 65⟩]

def spec_l06Cylinder_b0 : L := .seq (.seq (.seq (.rg [zk .gtr 0 0]) (.ite (.v 9) (.skip) (.seq (zt [1, 2, 3, 4, 5, 6, 7, 8]) (.exit 0)))) (.seq (.block 1 (.seq (.rg [⟨[], .call F_l01Below 0 1, [.v 2, .v 3, .v 4, .v 8], 3⟩, ⟨[], .call F_l01Below 0 1, [.v 2, .v 11, .v 12, .v 7], 3⟩, zc F_l06Put 2 [1, 10, 13]]) (zt [0, 16, 2, 14, 15, 5, 6, 7, 8]))) (.rg [zk .sub 0 1]))) (zt [9, 1, 2, 3, 4, 5, 6, 7, 8])
theorem spec_l06Cylinder_b0_sh (Q : QT) (x0 x1 x2 x3 x4 x5 x6 x7 x8 : V) : shL spec_l06Cylinder_b0 Q [x0, x1, x2, x3, x4, x5, x6, x7, x8] = (
  P1 (.bin .gtr) [x0, .int .i64 0] fun v0 =>
  ifB v0 (
    P3 (.call F_l01Below 0 1) [x2, x3, x4, x8] fun v1 v2 v3 =>
    P3 (.call F_l01Below 0 1) [x2, v2, v3, x7] fun v4 v5 v6 =>
    P2 (.call F_l06Put 0 2) [x1, v1, v4] fun v7 _ =>
    P1 (.bin .sub) [x0, .int .i64 1] fun v9 =>
    Q .normal [v9, v7, x2, v5, v6, x5, x6, x7, x8]) (
    Q (.exit 0) [x1, x2, x3, x4, x5, x6, x7, x8])) := by kernel_rfl

def spec_l06Cylinder_r1 : L := .seq (.rg []) (.ret [.v 6, .v 7, .v 0, .v 2, .v 3])
theorem spec_l06Cylinder_r1_sh (Q : QT) (x0 x1 x2 x3 x4 x5 x6 x7 : V) : shL spec_l06Cylinder_r1 Q [x0, x1, x2, x3, x4, x5, x6, x7] = (
  Q .ret [x6, x7, x0, x2, x3]) := by kernel_rfl

def spec_l06Cylinder_L : L := .seq (.rg []) (.seq (.rg [⟨[], .call F_l01Below 0 1, [.v 0, .v 1, .v 2, .k (.int .i64 21)], 3⟩, ⟨[], .bin .add, [.k (.int .i64 4), .v 3], 1⟩, ⟨[], .call F_l01Below 0 1, [.v 0, .v 4, .v 5, .k (.int .i64 8)], 3⟩, ⟨[], .bin .add, [.k (.int .i64 1), .v 7], 1⟩]) (.seq (.seq (.rg [⟨[], .call F_l01Below 0 1, [.v 0, .v 8, .v 9, .k (.int .i64 10)], 3⟩]) (.block 0 (.seq (.tup [.v 11, .k (.list [.sc, .sc] []), .v 0, .v 12, .v 13, .k (.int .i64 0), .k (.int .i64 0), .v 6, .v 10]) (.loop (spec_l06Cylinder_b0))))) (spec_l06Cylinder_r1)))
theorem spec_l06Cylinder_L_sh (Q : QT) (x0 x1 x2 : V) : shL spec_l06Cylinder_L Q [x0, x1, x2] = (
  P3 (.call F_l01Below 0 1) [x0, x1, x2, .int .i64 21] fun v0 v1 v2 =>
  P1 (.bin .add) [.int .i64 4, v0] fun v3 =>
  P3 (.call F_l01Below 0 1) [x0, v1, v2, .int .i64 8] fun v4 v5 v6 =>
  P1 (.bin .add) [.int .i64 1, v4] fun v7 =>
  P3 (.call F_l01Below 0 1) [x0, v5, v6, .int .i64 10] fun v8 v9 v10 =>
  shL (.loop spec_l06Cylinder_b0) (qB 0 (qS (shL spec_l06Cylinder_r1 Q) Q)) [v8, .list [.sc, .sc] [], x0, v9, v10, .int .i64 0, .int .i64 0, v3, v7]) := by kernel_rfl
def spec_l06Cylinder_S : Sig := ⟨[.ptr 0 [.sl [.sc], .sc, .sc]], [(true, [.sc, .sc, .sl [.sc, .sc]])], F_l06Cylinder⟩
def spec_l06Cylinder_hs : List NF := [⟨[(2, .ptr 64 0), (3, .ptr 65 0)], [(66, true, [.sc, .sc])], [(0, [.ro [.sc], .sc, .sc]), (64, [.sc, .sc, .nil]), (65, [.sc, .sc, .own 66])], 67⟩, ⟨[(0, .ptr 0 0), (2, .ptr 64 0), (3, .ptr 65 0), (4, zs)], [(66, true, [.sc, .sc])], [(0, [.ro [.sc], .sc, .sc]), (64, [.sc, .sc, .nil]), (65, [.sc, .sc, .own 66])], 67⟩, ⟨[(0, .ptr 0 0), (2, .ptr 64 0), (3, .ptr 65 0), (4, zs)], [(66, true, [.sc, .sc])], [(0, [.ro [.sc], .sc, .sc]), (64, [.sc, .sc, .nil]), (65, [.sc, .sc, .own 66])], 67⟩]

def spec_l01PickInt_L : L := .seq (.rg []) (.seq (.rg [zl 3, ⟨[], .call F_l01Below 0 1, [.v 0, .v 1, .v 2, .v 4], 3⟩, zi 3 5]) (.ret [.v 8, .v 6, .v 7]))
theorem spec_l01PickInt_L_sh (Q : QT) (x0 x1 x2 x3 : V) : shL spec_l01PickInt_L Q [x0, x1, x2, x3] = (
  P1 (.len) [x3] fun v0 =>
  P3 (.call F_l01Below 0 1) [x0, x1, x2, v0] fun v1 v2 v3 =>
  P1 (.idx [.sc]) [x3, v1] fun v4 =>
  Q .ret [v4, v2, v3]) := by kernel_rfl
def spec_l01PickInt_S : Sig := ⟨[.ptr 0 [.sl [.sc], .sc, .sc], .val false [.sl [.sc]]], [(false, [.sc])], F_l01PickInt⟩
def spec_l01PickInt_hs : List NF := []

end
end Go.Mw

namespace Go.Mw
theorem land_range (a : Int) (m : Nat) (hm : m < 4611686018427387904) : 0 ≤ land a m ∧ land a m ≤ m := by
  have h : (BitVec.ofInt IntKind.i64.bits a &&& BitVec.ofInt IntKind.i64.bits (m : Int)).toNat ≤ m := by
    rw [BitVec.toNat_and]
    refine Nat.le_trans Nat.and_le_right ?_
    simp [IntKind.bits]
    omega
  unfold land
  rw [wrap_id (by omega) (by omega)]
  omega
theorem land255 (a : Int) : 0 ≤ land a 255 ∧ land a 255 ≤ 255 := land_range a 255 (by omega)
theorem hByte_range (h : Int) : 0 ≤ hByte h ∧ hByte h ≤ 255 := land255 _
theorem cByte_range (x : Cur) : 0 ≤ cByte x ∧ cByte x ≤ 255 := by
  unfold cByte
  split
  · exact land255 _
  · exact hByte_range _
@[simp] theorem cStep_b (x : Cur) : (cStep x).b = x.b := rfl
theorem cStep_i {x : Cur} (h : 0 ≤ x.i) : 0 ≤ (cStep x).i := by unfold cStep; dsimp only; split <;> omega
@[simp] theorem cAfter_b (x : Cur) (n : Int) : (cAfter x n).b = x.b := by unfold cAfter; split <;> (try split) <;> simp
theorem cAfter_i {x : Cur} {n : Int} (h : 0 ≤ x.i) : 0 ≤ (cAfter x n).i := by
  unfold cAfter
  split
  · exact h
  · split
    · exact cStep_i h
    · exact cStep_i (cStep_i (cStep_i (cStep_i h)))
theorem tmod_range {a n : Int} (ha : 0 ≤ a) (hn : 0 < n) : 0 ≤ a.tmod n ∧ a.tmod n < n := ⟨Int.tmod_nonneg _ ha, Int.tmod_lt_of_pos _ hn⟩
theorem cBelow_range (x : Cur) {n : Int} (hn : 0 < n) : 0 ≤ cBelow x n ∧ cBelow x n < n := by
  unfold cBelow
  rw [if_neg (by omega)]
  have h1 := cByte_range x
  have h2 := cByte_range (cStep x)
  have h3 := cByte_range (cStep (cStep x))
  have h4 := cByte_range (cStep (cStep (cStep x)))
  split
  · exact tmod_range (by omega) hn
  · exact tmod_range (by omega) hn

theorem laws_big_ok : ∀ ds outs, F_big ds = some outs → shL laws_big_L (qRet outs) ds := F_big_elim fun l hp => by
  rw [laws_big_L_sh]; simp; omega
theorem spec_l01New_ok : ∀ ds outs, F_l01New ds = some outs → shL spec_l01New_L (qRet outs) ds := F_l01New_elim fun l hp => by
  rw [spec_l01New_L_sh]
  have hw : IntKind.i64.wrap (33091 + (l.length : Int)) = 33091 + l.length := wrap_id (by omega) (by omega)
  simp only [P1_len, P1_add, hw]
  refine loop_upto (min l.length 4000) (fun k => [vL I1 vY l, .int .i64 (seedTo l k), .int .i64 k]) (by intro i j _ _ h; simp at h; omega) (fun _ => True) (by simp [seedTo]) trivial ?_
  intro k hk _
  rw [spec_l01New_b0_sh]
  simp
  refine ⟨fun h => ⟨fun h2 => ?_, fun h2 => ?_⟩, fun h => ?_⟩
  · have hw2 : IntKind.i64.wrap ((k : Int) + 1) = k + 1 := wrap_id (by omega) (by omega)
    have hw3 : IntKind.i64.wrap (l[k].toNat : Int) = l[k].toNat := by have := l[k].toNat_lt; exact wrap_id (by omega) (by omega)
    simp [h, hw2, hw3, seedTo]
    omega
  · obtain rfl : k = min l.length 4000 := by omega
    simp [spec_l01New_r1_sh, seedOf]
  · obtain rfl : k = min l.length 4000 := by omega
    simp [spec_l01New_r1_sh, seedOf]
theorem spec_l01Byte_ok : ∀ ds outs, F_l01Byte ds = some outs → shL spec_l01Byte_L (qRet outs) ds := F_l01Byte_elim fun x hp => by
  rw [spec_l01Byte_L_sh]
  have e33 : min (33 : Int).toNat IntKind.i64.bits = 33 := by decide
  have e45 : min (45 : Int).toNat IntKind.i64.bits = 45 := by decide
  simp only [P1_mul, P1_add, P1_shr (show (0 : Int) ≤ 33 by omega), P1_shr (show (0 : Int) ≤ 45 by omega), e33, e45, P1_xor, P1_and, P1_len, P1_lss, ifB_bool, decide_eq_true_eq, decide_eq_false_iff_not]
  have eh : IntKind.i64.wrap (IntKind.i64.wrap (x.h * 6364136223846793005) + 1442695040888963407) = hNext x.h := rfl
  have eb : land (lxor ((hNext x.h).fdiv (2 ^ 33)) ((hNext x.h).fdiv (2 ^ 45))) 255 = hByte (hNext x.h) := rfl
  simp only [eh, eb]
  refine ⟨fun h => ?_, fun h => ?_⟩
  · have hi : x.i.toNat < x.b.length := by omega
    have hw2 : IntKind.i64.wrap (x.i + 1) = x.i + 1 := wrap_id (by omega) (by omega)
    have hw3 : IntKind.i64.wrap (x.b[x.i.toNat].toNat : Int) = x.b[x.i.toNat].toNat := by have := x.b[x.i.toNat].toNat_lt; exact wrap_id (by omega) (by omega)
    simp [hp.1, hi, h, hw2, hw3, cByte, cStep]
  · have hi : x.b[x.i.toNat]? = none := by rw [List.getElem?_eq_none_iff]; omega
    simp [hi, h, cByte, cStep]
theorem q_byte {b : List UInt8} (c : Cur) {n : Nat} {k : V → V → V → Prop} (hb : c.b = b) (h : 0 ≤ c.i) (hl : b.length ≤ 1048576) : P3 (.call F_l01Byte 0 n) [vL I1 vY b, .int .i64 c.i, .int .i64 c.h] k ↔ k (.int .i64 (cByte c)) (.int .i64 (cStep c).i) (.int .i64 (cStep c).h) := by
  subst hb; exact p_l01Byte ⟨h, hl⟩
theorem spec_l01Below_ok : ∀ ds outs, F_l01Below ds = some outs → shL spec_l01Below_L (qRet outs) ds := F_l01Below_elim fun x n hp => by
  rw [spec_l01Below_L_sh]
  have hb := hp.2
  have i0 := hp.1
  have i1 := cStep_i i0
  have i2 := cStep_i i1
  have i3 := cStep_i i2
  have h1 := cByte_range x
  have h2 := cByte_range (cStep x)
  have h3 := cByte_range (cStep (cStep x))
  have h4 := cByte_range (cStep (cStep (cStep x)))
  by_cases hn : n ≤ 0
  · simp [hn, cBelow, cAfter]
  · by_cases hn2 : n ≤ 256
    · simp [hn, hn2, cBelow, cAfter, q_byte x, i0, hb]; omega
    · have w1 : IntKind.i64.wrap (cByte x * 16777216) = cByte x * 16777216 := wrap_id (by omega) (by omega)
      have w2 : IntKind.i64.wrap (cByte (cStep x) * 65536) = cByte (cStep x) * 65536 := wrap_id (by omega) (by omega)
      have w3 : IntKind.i64.wrap (cByte x * 16777216 + cByte (cStep x) * 65536) = cByte x * 16777216 + cByte (cStep x) * 65536 := wrap_id (by omega) (by omega)
      have w4 : IntKind.i64.wrap (cByte (cStep (cStep x)) * 256) = cByte (cStep (cStep x)) * 256 := wrap_id (by omega) (by omega)
      have w5 : IntKind.i64.wrap (cByte x * 16777216 + cByte (cStep x) * 65536 + cByte (cStep (cStep x)) * 256) = cByte x * 16777216 + cByte (cStep x) * 65536 + cByte (cStep (cStep x)) * 256 := wrap_id (by omega) (by omega)
      have w6 : IntKind.i64.wrap (cByte x * 16777216 + cByte (cStep x) * 65536 + cByte (cStep (cStep x)) * 256 + cByte (cStep (cStep (cStep x)))) = cByte x * 16777216 + cByte (cStep x) * 65536 + cByte (cStep (cStep x)) * 256 + cByte (cStep (cStep (cStep x))) := wrap_id (by omega) (by omega)
      simp only [P1_leq, ifB_bool, decide_eq_true_eq, decide_eq_false_iff_not]
      refine ⟨fun h => absurd h hn, fun _ => ⟨fun h => absurd h hn2, fun _ => ?_⟩⟩
      rw [q_byte (b := x.b) x rfl i0 hb, q_byte (b := x.b) (cStep x) rfl i1 hb, q_byte (b := x.b) (cStep (cStep x)) rfl i2 hb, q_byte (b := x.b) (cStep (cStep (cStep x))) rfl i3 hb]
      simp [hn, hn2, cBelow, cAfter, w1, w2, w3, w4, w5, w6]; omega
theorem q_below {b : List UInt8} (c : Cur) {n : Int} {m : Nat} {k : V → V → V → Prop} (hb : c.b = b) (h : 0 ≤ c.i) (hl : b.length ≤ 1048576) : P3 (.call F_l01Below 0 m) [vL I1 vY b, .int .i64 c.i, .int .i64 c.h, .int .i64 n] k ↔ k (.int .i64 (cBelow c n)) (.int .i64 (cAfter c n).i) (.int .i64 (cAfter c n).h) := by
  subst hb; exact p_l01Below ⟨h, hl⟩

theorem put_at : ∀ (l : List T2) (y : T2) (i : Nat), (∀ j (h : j < l.length), j < i → pinLess l[j] y = true) → i ≤ l.length → (∀ (h : i < l.length), pinLess l[i] y = false) →
    putPin l y = (if l[i]? = some y then l else l.take i ++ [y] ++ l.drop i) ∧ putNew l y = !decide (l[i]? = some y)
  | [], y, i, _, hi, _ => by
    obtain rfl : i = 0 := by simpa using hi
    simp [putPin, putNew]
  | a :: r, y, 0, _, _, h => by
    have h := h (by simp)
    simp only [List.getElem_cons_zero] at h
    by_cases e : a = y
    · subst e; simp [putPin, putNew, h]
    · simp [putPin, putNew, h, e]
  | a :: r, y, i + 1, h1, h2, h3 => by
    have ha := h1 0 (by simp) (by omega)
    simp only [List.getElem_cons_zero] at ha
    have ih := put_at r y i (fun j hj hji => by have := h1 (j + 1) (by simp; omega) (by omega); simpa using this) (by simpa using h2) (fun h => by have := h3 (by simp; omega); simpa using this)
    simp only [putPin, putNew, ha, if_true, List.getElem?_cons_succ, ih.1, ih.2, List.take_succ_cons, List.drop_succ_cons]
    refine ⟨?_, trivial⟩
    split <;> simp
theorem spec_l06Put_ok : ∀ ds outs, F_l06Put ds = some outs → shL spec_l06Put_L (qRet outs) ds := F_l06Put_elim fun l y hp => by
  rw [spec_l06Put_L_sh]
  refine loop_upto l.length (fun k => [vL I2 v2 l, .int .i64 k, .int .i64 y.a, .int .i64 y.b]) (by intro i j _ _ h; simp at h; omega) (fun k => ∀ j (h : j < l.length), j < k → pinLess l[j] y = true) (by simp) (by simp) ?_
  intro k hk hP
  have fin : (∀ (h : k < l.length), pinLess l[k] y = false) → shL spec_l06Put_r1 (qRet [vL I2 v2 (putPin l y), .bool (putNew l y)]) [vL I2 v2 l, .int .i64 k, .int .i64 y.a, .int .i64 y.b] := by
    intro h
    obtain ⟨e1, e2⟩ := put_at l y k hP hk h
    rw [spec_l06Put_r1_sh, e1, e2]
    by_cases hl : k < l.length
    · by_cases hy : l[k] = y
      · have h5 : l[k].a = y.a ∧ l[k].b = y.b := by rw [hy]; exact ⟨rfl, rfl⟩
        simp [hl, hy]; omega
      · have h5 : ¬ (l[k].a = y.a ∧ l[k].b = y.b) := fun h => hy (by cases hh : l[k]; rw [hh] at h; cases y; simp_all)
        simp [hl, hy]; omega
    · have h6 : k = l.length := by omega
      subst h6
      simp; omega
  rw [spec_l06Put_b0_sh]
  simp
  refine ⟨fun h => ?_, fun h => fin (fun h2 => absurd h2 (by omega))⟩
  simp only [List.getElem?_eq_getElem h, Option.some.injEq, exists_eq_left']
  cases hl : pinLess l[k] y with
  | false =>
    simp
    exact fin (fun _ => hl)
  | true =>
    have hw : IntKind.i64.wrap ((k : Int) + 1) = k + 1 := wrap_id (by omega) (by omega)
    simp [hw, h]
    intro j hj hjk
    by_cases e : j = k
    · subst e; exact hl
    · exact hP j hj (by omega)
theorem putPin_len (l : List T2) (y : T2) : (putPin l y).length ≤ l.length + 1 := by
  induction l with
  | nil => simp [putPin]
  | cons a r ih => unfold putPin; split <;> (try split) <;> simp <;> omega
end Go.Mw

