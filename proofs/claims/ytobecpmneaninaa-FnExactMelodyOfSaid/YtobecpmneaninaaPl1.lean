/- What functions of the program compute, as small pure programs, shown against plain Lean functions: no condition. -/
import Derived.KernelRfl
import Derived.Test.YtobecpmneaninaaFwH
namespace Go.Mw
def zt (l : List Nat) : L := .tup (l.map .v)
def zb (o : BinOp) (a b : Nat) : In := ⟨[], .bin o, [.v a, .v b], 1⟩
def zk (o : BinOp) (a : Nat) (c : Int) : In := ⟨[], .bin o, [.v a, .k (.int .i64 c)], 1⟩
def zi (a b : Nat) : In := ⟨[], .idx [.sc], [.v a, .v b], 1⟩
def zj (a b : Nat) : In := ⟨[], .idx [.sc, .sc], [.v a, .v b], 2⟩
def zl (a : Nat) : In := ⟨[], .len, [.v a], 1⟩
def zn (a : Nat) : In := ⟨[], .un .not, [.v a], 1⟩
def zc (F : List V → Option (List V)) (n : Nat) (l : List Nat) : In := ⟨[], .call F 0 n, l.map .v, n⟩
def zs : SVS := .sc false [.sc]
def zo (r : Nat) : SVS := .sc false [.own r]
def zr : SVS := .sc false [.ro [.sc]]
def zq : SVS := .sc false [.ro [.sc, .sc]]
end Go.Mw
namespace Go.Mw
def within (n low high : Int) : Bool := decide (low ≤ n) && decide (n ≤ high)
def E_within : Int × Int × Int → List V := fun (a, b, c) => [.int .i64 a, .int .i64 b, .int .i64 c]
noncomputable def F_within : List V → Option (List V) := mkF E_within (fun (_, _, _) => True) (fun (a, b, c) => [.bool (within a b c)])
theorem F_within_inj : ∀ x y, E_within x = E_within y → x = y := by
  rintro ⟨a, b, c⟩ ⟨a', b', c'⟩ h
  simpa [E_within] using h
theorem F_within_elim {P : List V → List V → Prop} (h : ∀ (a : Int) (b : Int) (c : Int), P [.int .i64 a, .int .i64 b, .int .i64 c] [.bool (within a b c)]) : ∀ ds outs, F_within ds = some outs → P ds outs := by
  intro ds outs hh
  obtain ⟨⟨a, b, c⟩, rfl, -, rfl⟩ := mkF_inv hh
  exact h a b c
@[simp] theorem p_within {a : Int} {b : Int} {c : Int} {nr_ : Nat} {kk_ : V → Prop} : P1 (.call F_within 0 nr_) [.int .i64 a, .int .i64 b, .int .i64 c] kk_ ↔ kk_ (.bool (within a b c)) :=
  P1_callF (by unfold F_within; exact mkF_eq F_within_inj (a, b, c) trivial)

noncomputable abbrev F_l01In := F_within

end Go.Mw

namespace Go.Mw
noncomputable section
def spec_l01In_L : L := .seq (.rg []) (.seq (.rg [zb .geq 0 1, ⟨[(.v 3, true)], .bin .leq, [.v 0, .v 2], 1⟩, ⟨[], .pick, [.v 3, .v 4, .k (.bool false)], 1⟩]) (.ret [.v 5]))
theorem spec_l01In_L_sh (Q : QT) (x0 x1 x2 : V) : shL spec_l01In_L Q [x0, x1, x2] = (
  P1 (.bin .geq) [x0, x1] fun v0 =>
  ifB v0 (
    P1 (.bin .leq) [x0, x2] fun v1 =>
    Q .ret [v1]) (
    Q .ret [.bool false])) := by kernel_rfl
def spec_l01In_S : Sig := ⟨[.val false [.sc], .val false [.sc], .val false [.sc]], [(false, [.sc])], F_l01In⟩
def spec_l01In_hs : List NF := []

def impl_within_L : L := .seq (.rg []) (.seq (.rg [zb .geq 0 1, ⟨[(.v 3, true)], .bin .leq, [.v 0, .v 2], 1⟩, ⟨[], .pick, [.v 3, .v 4, .k (.bool false)], 1⟩]) (.ret [.v 5]))
theorem impl_within_L_sh (Q : QT) (x0 x1 x2 : V) : shL impl_within_L Q [x0, x1, x2] = (
  P1 (.bin .geq) [x0, x1] fun v0 =>
  ifB v0 (
    P1 (.bin .leq) [x0, x2] fun v1 =>
    Q .ret [v1]) (
    Q .ret [.bool false])) := by kernel_rfl
def impl_within_S : Sig := ⟨[.val false [.sc], .val false [.sc], .val false [.sc]], [(false, [.sc])], F_within⟩
def impl_within_hs : List NF := []

end
end Go.Mw

namespace Go.Mw
theorem spec_l01In_ok : ∀ ds outs, F_l01In ds = some outs → shL spec_l01In_L (qRet outs) ds := F_within_elim fun a b c => by
  rw [spec_l01In_L_sh]; simp [within]; grind
theorem impl_within_ok : ∀ ds outs, F_within ds = some outs → shL impl_within_L (qRet outs) ds := F_within_elim fun a b c => by
  rw [impl_within_L_sh]; simp [within]; grind
end Go.Mw

namespace Go.Mw
structure Cyl where
  s : Int
  t : Int
  p : List T2
structure Stt where
  a : Int
  n : Bool
  p : Int
  deriving DecidableEq
structure Bench where
  s : Int
  t : Int
  p : List T2
  o : List (List T2)
structure Shop where
  s : Int
  t : Int
  p : List T2
  o : List (List T2)
  c : List Int
  u : Int
  m : Int
  f : Int
  y : Int
  d : Int
  deriving DecidableEq
@[simp] theorem Cyl.eta (x : Cyl) : Cyl.mk x.s x.t x.p = x := rfl
@[simp] theorem Stt.eta (x : Stt) : Stt.mk x.a x.n x.p = x := rfl
@[simp] theorem P1_eqa22 {a b c d : Int} {k : V → Prop} : P1 (.eqa false [.i, .i]) [.int .i64 a, .int .i64 b, .int .i64 c, .int .i64 d] k ↔ k (.bool (decide (a = c ∧ b = d))) := P1_of (by simp only [Prim.run, eqVs, eqV1, List.length_cons, List.length_nil, List.take, List.drop, if_true]; cases h1 : a == c <;> cases h2 : b == d <;> simp_all) k
@[simp] theorem P1_nea22 {a b c d : Int} {k : V → Prop} : P1 (.eqa true [.i, .i]) [.int .i64 a, .int .i64 b, .int .i64 c, .int .i64 d] k ↔ k (.bool (!decide (a = c ∧ b = d))) := P1_of (by simp only [Prim.run, eqVs, eqV1, List.length_cons, List.length_nil, List.take, List.drop, if_true]; cases h1 : a == c <;> cases h2 : b == d <;> simp_all) k
@[simp] theorem P1_eqaX {a c e g : Int} {b f : Bool} {k : V → Prop} : P1 (.eqa false [.i, .b, .i]) [.int .i64 a, .bool b, .int .i64 c, .int .i64 e, .bool f, .int .i64 g] k ↔ k (.bool (decide (a = e ∧ b = f ∧ c = g))) := P1_of (by simp only [Prim.run, eqVs, eqV1, List.length_cons, List.length_nil, List.take, List.drop, if_true]; cases h1 : a == e <;> cases h2 : b == f <;> cases h3 : c == g <;> simp_all) k
theorem P1_lsub2 {α : Type} {ks : List AK} {f : α → V} {l : List α} {κ κ' : IntKind} {i j : Int} {k : V → Prop} : P1 (.lsub ks) [vL ks f l, .int κ i, .int κ' j] k ↔ (0 ≤ i ∧ i ≤ j ∧ j ≤ l.length) ∧ k (vL ks f ((l.take j.toNat).drop i.toNat)) :=
  P1_opt (by simp only [Prim.run, vL, AK.eqs_refl, if_true, subB, List.length_map]; split <;> simp_all [List.map_drop, List.map_take]) k
theorem P1_lsub1 {α : Type} {ks : List AK} {f : α → V} {l : List α} {κ : IntKind} {i : Int} {k : V → Prop} : P1 (.lsub ks) [vL ks f l, .int κ i] k ↔ (0 ≤ i ∧ i ≤ l.length) ∧ k (vL ks f (l.drop i.toNat)) :=
  P1_opt (by simp only [Prim.run, vL, AK.eqs_refl, if_true, subB, List.length_map]; split <;> simp_all [List.map_drop, List.take_of_length_le]) k
@[simp] theorem P1_lsubI_2 {l : List Int} {κ κ' : IntKind} {i j : Int} {k : V → Prop} : P1 (.lsub [.sc]) [vL I1 v1 l, .int κ i, .int κ' j] k ↔ (0 ≤ i ∧ i ≤ j ∧ j ≤ l.length) ∧ k (vL I1 v1 ((l.take j.toNat).drop i.toNat)) := P1_lsub2
@[simp] theorem P1_lsubI_1 {l : List Int} {κ : IntKind} {i : Int} {k : V → Prop} : P1 (.lsub [.sc]) [vL I1 v1 l, .int κ i] k ↔ (0 ≤ i ∧ i ≤ l.length) ∧ k (vL I1 v1 (l.drop i.toNat)) := P1_lsub1
@[simp] theorem P1_appI_ {l m : List Int} {b : Nat} {k : V → Prop} : P1 (.app [.sc] b) [vL I1 v1 l, vL I1 v1 m] k ↔ ((l.length + m.length) * b ≤ 140737488355328 ∧ l.length + m.length ≤ 140737488355328) ∧ k (vL I1 v1 (l ++ m)) := P1_app
@[simp] theorem P1_appI_0 {m : List Int} {b : Nat} {k : V → Prop} : P1 (.app [.sc] b) [.list [.sc] [], vL I1 v1 m] k ↔ (m.length * b ≤ 140737488355328 ∧ m.length ≤ 140737488355328) ∧ k (vL I1 v1 m) := P1_app0
@[simp] theorem P1_appI_1 {l : List Int} {b : Nat} {k : V → Prop} : P1 (.app [.sc] b) [vL I1 v1 l, .list [.sc] []] k ↔ (l.length * b ≤ 140737488355328 ∧ l.length ≤ 140737488355328) ∧ k (vL I1 v1 l) := P1_app1
@[simp] theorem P1_lsubY_2 {l : List UInt8} {κ κ' : IntKind} {i j : Int} {k : V → Prop} : P1 (.lsub [.sc]) [vL I1 vY l, .int κ i, .int κ' j] k ↔ (0 ≤ i ∧ i ≤ j ∧ j ≤ l.length) ∧ k (vL I1 vY ((l.take j.toNat).drop i.toNat)) := P1_lsub2
@[simp] theorem P1_lsubY_1 {l : List UInt8} {κ : IntKind} {i : Int} {k : V → Prop} : P1 (.lsub [.sc]) [vL I1 vY l, .int κ i] k ↔ (0 ≤ i ∧ i ≤ l.length) ∧ k (vL I1 vY (l.drop i.toNat)) := P1_lsub1
@[simp] theorem P1_appY_ {l m : List UInt8} {b : Nat} {k : V → Prop} : P1 (.app [.sc] b) [vL I1 vY l, vL I1 vY m] k ↔ ((l.length + m.length) * b ≤ 140737488355328 ∧ l.length + m.length ≤ 140737488355328) ∧ k (vL I1 vY (l ++ m)) := P1_app
@[simp] theorem P1_appY_0 {m : List UInt8} {b : Nat} {k : V → Prop} : P1 (.app [.sc] b) [.list [.sc] [], vL I1 vY m] k ↔ (m.length * b ≤ 140737488355328 ∧ m.length ≤ 140737488355328) ∧ k (vL I1 vY m) := P1_app0
@[simp] theorem P1_appY_1 {l : List UInt8} {b : Nat} {k : V → Prop} : P1 (.app [.sc] b) [vL I1 vY l, .list [.sc] []] k ↔ (l.length * b ≤ 140737488355328 ∧ l.length ≤ 140737488355328) ∧ k (vL I1 vY l) := P1_app1
@[simp] theorem P1_lsubS_2 {l : List (List UInt8)} {κ κ' : IntKind} {i j : Int} {k : V → Prop} : P1 (.lsub [.sc]) [vL I1 vS l, .int κ i, .int κ' j] k ↔ (0 ≤ i ∧ i ≤ j ∧ j ≤ l.length) ∧ k (vL I1 vS ((l.take j.toNat).drop i.toNat)) := P1_lsub2
@[simp] theorem P1_lsubS_1 {l : List (List UInt8)} {κ : IntKind} {i : Int} {k : V → Prop} : P1 (.lsub [.sc]) [vL I1 vS l, .int κ i] k ↔ (0 ≤ i ∧ i ≤ l.length) ∧ k (vL I1 vS (l.drop i.toNat)) := P1_lsub1
@[simp] theorem P1_appS_ {l m : List (List UInt8)} {b : Nat} {k : V → Prop} : P1 (.app [.sc] b) [vL I1 vS l, vL I1 vS m] k ↔ ((l.length + m.length) * b ≤ 140737488355328 ∧ l.length + m.length ≤ 140737488355328) ∧ k (vL I1 vS (l ++ m)) := P1_app
@[simp] theorem P1_appS_0 {m : List (List UInt8)} {b : Nat} {k : V → Prop} : P1 (.app [.sc] b) [.list [.sc] [], vL I1 vS m] k ↔ (m.length * b ≤ 140737488355328 ∧ m.length ≤ 140737488355328) ∧ k (vL I1 vS m) := P1_app0
@[simp] theorem P1_appS_1 {l : List (List UInt8)} {b : Nat} {k : V → Prop} : P1 (.app [.sc] b) [vL I1 vS l, .list [.sc] []] k ↔ (l.length * b ≤ 140737488355328 ∧ l.length ≤ 140737488355328) ∧ k (vL I1 vS l) := P1_app1
@[simp] theorem P1_lsub2_2 {l : List T2} {κ κ' : IntKind} {i j : Int} {k : V → Prop} : P1 (.lsub [.sc, .sc]) [vL I2 v2 l, .int κ i, .int κ' j] k ↔ (0 ≤ i ∧ i ≤ j ∧ j ≤ l.length) ∧ k (vL I2 v2 ((l.take j.toNat).drop i.toNat)) := P1_lsub2
@[simp] theorem P1_lsub2_1 {l : List T2} {κ : IntKind} {i : Int} {k : V → Prop} : P1 (.lsub [.sc, .sc]) [vL I2 v2 l, .int κ i] k ↔ (0 ≤ i ∧ i ≤ l.length) ∧ k (vL I2 v2 (l.drop i.toNat)) := P1_lsub1
@[simp] theorem P1_app2_ {l m : List T2} {b : Nat} {k : V → Prop} : P1 (.app [.sc, .sc] b) [vL I2 v2 l, vL I2 v2 m] k ↔ ((l.length + m.length) * b ≤ 140737488355328 ∧ l.length + m.length ≤ 140737488355328) ∧ k (vL I2 v2 (l ++ m)) := P1_app
@[simp] theorem P1_app2_0 {m : List T2} {b : Nat} {k : V → Prop} : P1 (.app [.sc, .sc] b) [.list [.sc, .sc] [], vL I2 v2 m] k ↔ (m.length * b ≤ 140737488355328 ∧ m.length ≤ 140737488355328) ∧ k (vL I2 v2 m) := P1_app0
@[simp] theorem P1_app2_1 {l : List T2} {b : Nat} {k : V → Prop} : P1 (.app [.sc, .sc] b) [vL I2 v2 l, .list [.sc, .sc] []] k ↔ (l.length * b ≤ 140737488355328 ∧ l.length ≤ 140737488355328) ∧ k (vL I2 v2 l) := P1_app1
@[simp] theorem P1_lsub3_2 {l : List T3} {κ κ' : IntKind} {i j : Int} {k : V → Prop} : P1 (.lsub [.sc, .sc, .sc]) [vL I3 v3 l, .int κ i, .int κ' j] k ↔ (0 ≤ i ∧ i ≤ j ∧ j ≤ l.length) ∧ k (vL I3 v3 ((l.take j.toNat).drop i.toNat)) := P1_lsub2
@[simp] theorem P1_lsub3_1 {l : List T3} {κ : IntKind} {i : Int} {k : V → Prop} : P1 (.lsub [.sc, .sc, .sc]) [vL I3 v3 l, .int κ i] k ↔ (0 ≤ i ∧ i ≤ l.length) ∧ k (vL I3 v3 (l.drop i.toNat)) := P1_lsub1
@[simp] theorem P1_app3_ {l m : List T3} {b : Nat} {k : V → Prop} : P1 (.app [.sc, .sc, .sc] b) [vL I3 v3 l, vL I3 v3 m] k ↔ ((l.length + m.length) * b ≤ 140737488355328 ∧ l.length + m.length ≤ 140737488355328) ∧ k (vL I3 v3 (l ++ m)) := P1_app
@[simp] theorem P1_app3_0 {m : List T3} {b : Nat} {k : V → Prop} : P1 (.app [.sc, .sc, .sc] b) [.list [.sc, .sc, .sc] [], vL I3 v3 m] k ↔ (m.length * b ≤ 140737488355328 ∧ m.length ≤ 140737488355328) ∧ k (vL I3 v3 m) := P1_app0
@[simp] theorem P1_app3_1 {l : List T3} {b : Nat} {k : V → Prop} : P1 (.app [.sc, .sc, .sc] b) [vL I3 v3 l, .list [.sc, .sc, .sc] []] k ↔ (l.length * b ≤ 140737488355328 ∧ l.length ≤ 140737488355328) ∧ k (vL I3 v3 l) := P1_app1
@[simp] theorem P1_lsubL2_2 {l : List (List T2)} {κ κ' : IntKind} {i j : Int} {k : V → Prop} : P1 (.lsub [.sl [.sc, .sc]]) [vL IL2 vLL2 l, .int κ i, .int κ' j] k ↔ (0 ≤ i ∧ i ≤ j ∧ j ≤ l.length) ∧ k (vL IL2 vLL2 ((l.take j.toNat).drop i.toNat)) := P1_lsub2
@[simp] theorem P1_lsubL2_1 {l : List (List T2)} {κ : IntKind} {i : Int} {k : V → Prop} : P1 (.lsub [.sl [.sc, .sc]]) [vL IL2 vLL2 l, .int κ i] k ↔ (0 ≤ i ∧ i ≤ l.length) ∧ k (vL IL2 vLL2 (l.drop i.toNat)) := P1_lsub1
@[simp] theorem P1_appL2_ {l m : List (List T2)} {b : Nat} {k : V → Prop} : P1 (.app [.sl [.sc, .sc]] b) [vL IL2 vLL2 l, vL IL2 vLL2 m] k ↔ ((l.length + m.length) * b ≤ 140737488355328 ∧ l.length + m.length ≤ 140737488355328) ∧ k (vL IL2 vLL2 (l ++ m)) := P1_app
@[simp] theorem P1_appL2_0 {m : List (List T2)} {b : Nat} {k : V → Prop} : P1 (.app [.sl [.sc, .sc]] b) [.list [.sl [.sc, .sc]] [], vL IL2 vLL2 m] k ↔ (m.length * b ≤ 140737488355328 ∧ m.length ≤ 140737488355328) ∧ k (vL IL2 vLL2 m) := P1_app0
@[simp] theorem P1_appL2_1 {l : List (List T2)} {b : Nat} {k : V → Prop} : P1 (.app [.sl [.sc, .sc]] b) [vL IL2 vLL2 l, .list [.sl [.sc, .sc]] []] k ↔ (l.length * b ≤ 140737488355328 ∧ l.length ≤ 140737488355328) ∧ k (vL IL2 vLL2 l) := P1_app1
end Go.Mw

namespace Go.Mw
def E_szPinS : List T2 × Int → List V := fun (l, n) => [vL I2 v2 l, .int .i64 n]
noncomputable def F_szPinS : List V → Option (List V) := mkF E_szPinS (fun (l, n) => l.length ≤ 9223372036854775807 ∧ 0 ≤ n ∧ n ≤ 1048576) (fun (l, n) => [.int .i64 (if (l.length : Int) ≤ n then n - l.length else -1)])
theorem F_szPinS_inj : ∀ x y, E_szPinS x = E_szPinS y → x = y := by
  rintro ⟨l, n⟩ ⟨l', n'⟩ h
  simpa [E_szPinS] using h
theorem F_szPinS_elim {P : List V → List V → Prop} (h : ∀ (l : List T2) (n : Int), (l.length ≤ 9223372036854775807 ∧ 0 ≤ n ∧ n ≤ 1048576) → P [vL I2 v2 l, .int .i64 n] [.int .i64 (if (l.length : Int) ≤ n then n - l.length else -1)]) : ∀ ds outs, F_szPinS ds = some outs → P ds outs := by
  intro ds outs hh
  obtain ⟨⟨l, n⟩, rfl, hp, rfl⟩ := mkF_inv hh
  exact h l n hp
theorem p_szPinS {l : List T2} {n : Int} {nr_ : Nat} {kk_ : V → Prop} (hp : l.length ≤ 9223372036854775807 ∧ 0 ≤ n ∧ n ≤ 1048576) : P1 (.call F_szPinS 0 nr_) [vL I2 v2 l, .int .i64 n] kk_ ↔ kk_ (.int .i64 (if (l.length : Int) ≤ n then n - l.length else -1)) :=
  P1_callF (by unfold F_szPinS; exact mkF_eq F_szPinS_inj (l, n) hp)

def E_toPinS (l : List T2) : List V := [vL I2 v2 l]
noncomputable def F_toPinS : List V → Option (List V) := mkF E_toPinS (fun l => l.length ≤ 1048576) (fun l => [vL I2 v2 l])
theorem F_toPinS_inj : ∀ x y, E_toPinS x = E_toPinS y → x = y := by
  rintro l l' h
  simpa [E_toPinS] using h
theorem F_toPinS_elim {P : List V → List V → Prop} (h : ∀ (l : List T2), (l.length ≤ 1048576) → P [vL I2 v2 l] [vL I2 v2 l]) : ∀ ds outs, F_toPinS ds = some outs → P ds outs := by
  intro ds outs hh
  obtain ⟨l, rfl, hp, rfl⟩ := mkF_inv hh
  exact h l hp
theorem p_toPinS {l : List T2} {nr_ : Nat} {kk_ : V → Prop} (hp : l.length ≤ 1048576) : P1 (.call F_toPinS 0 nr_) [vL I2 v2 l] kk_ ↔ kk_ (vL I2 v2 l) :=
  P1_callF (by unfold F_toPinS; exact mkF_eq F_toPinS_inj (l) hp)

def E_eqPinS : List T2 × List T2 → List V := fun (l, m) => [vL I2 v2 l, vL I2 v2 m]
noncomputable def F_eqPinS : List V → Option (List V) := mkF E_eqPinS (fun (l, m) => l.length ≤ 1048576 ∧ m.length ≤ 1048576) (fun (l, m) => [.bool (decide (l = m))])
theorem F_eqPinS_inj : ∀ x y, E_eqPinS x = E_eqPinS y → x = y := by
  rintro ⟨l, m⟩ ⟨l', m'⟩ h
  simpa [E_eqPinS] using h
theorem F_eqPinS_elim {P : List V → List V → Prop} (h : ∀ (l : List T2) (m : List T2), (l.length ≤ 1048576 ∧ m.length ≤ 1048576) → P [vL I2 v2 l, vL I2 v2 m] [.bool (decide (l = m))]) : ∀ ds outs, F_eqPinS ds = some outs → P ds outs := by
  intro ds outs hh
  obtain ⟨⟨l, m⟩, rfl, hp, rfl⟩ := mkF_inv hh
  exact h l m hp
theorem p_eqPinS {l : List T2} {m : List T2} {nr_ : Nat} {kk_ : V → Prop} (hp : l.length ≤ 1048576 ∧ m.length ≤ 1048576) : P1 (.call F_eqPinS 0 nr_) [vL I2 v2 l, vL I2 v2 m] kk_ ↔ kk_ (.bool (decide (l = m))) :=
  P1_callF (by unfold F_eqPinS; exact mkF_eq F_eqPinS_inj (l, m) hp)

def E_toIntS (l : List Int) : List V := [vL I1 v1 l]
noncomputable def F_toIntS : List V → Option (List V) := mkF E_toIntS (fun l => l.length ≤ 1048576) (fun l => [vL I1 v1 l])
theorem F_toIntS_inj : ∀ x y, E_toIntS x = E_toIntS y → x = y := by
  rintro l l' h
  simpa [E_toIntS] using h
theorem F_toIntS_elim {P : List V → List V → Prop} (h : ∀ (l : List Int), (l.length ≤ 1048576) → P [vL I1 v1 l] [vL I1 v1 l]) : ∀ ds outs, F_toIntS ds = some outs → P ds outs := by
  intro ds outs hh
  obtain ⟨l, rfl, hp, rfl⟩ := mkF_inv hh
  exact h l hp
theorem p_toIntS {l : List Int} {nr_ : Nat} {kk_ : V → Prop} (hp : l.length ≤ 1048576) : P1 (.call F_toIntS 0 nr_) [vL I1 v1 l] kk_ ↔ kk_ (vL I1 v1 l) :=
  P1_callF (by unfold F_toIntS; exact mkF_eq F_toIntS_inj (l) hp)

def E_eqIntS : List Int × List Int → List V := fun (l, m) => [vL I1 v1 l, vL I1 v1 m]
noncomputable def F_eqIntS : List V → Option (List V) := mkF E_eqIntS (fun (l, m) => l.length ≤ 1048576 ∧ m.length ≤ 1048576) (fun (l, m) => [.bool (decide (l = m))])
theorem F_eqIntS_inj : ∀ x y, E_eqIntS x = E_eqIntS y → x = y := by
  rintro ⟨l, m⟩ ⟨l', m'⟩ h
  simpa [E_eqIntS] using h
theorem F_eqIntS_elim {P : List V → List V → Prop} (h : ∀ (l : List Int) (m : List Int), (l.length ≤ 1048576 ∧ m.length ≤ 1048576) → P [vL I1 v1 l, vL I1 v1 m] [.bool (decide (l = m))]) : ∀ ds outs, F_eqIntS ds = some outs → P ds outs := by
  intro ds outs hh
  obtain ⟨⟨l, m⟩, rfl, hp, rfl⟩ := mkF_inv hh
  exact h l m hp
theorem p_eqIntS {l : List Int} {m : List Int} {nr_ : Nat} {kk_ : V → Prop} (hp : l.length ≤ 1048576 ∧ m.length ≤ 1048576) : P1 (.call F_eqIntS 0 nr_) [vL I1 v1 l, vL I1 v1 m] kk_ ↔ kk_ (.bool (decide (l = m))) :=
  P1_callF (by unfold F_eqIntS; exact mkF_eq F_eqIntS_inj (l, m) hp)

def E_markIntS : List Int × Int → List V := fun (l, k) => [vL I1 v1 l, .int .i64 k]
noncomputable def F_markIntS : List V → Option (List V) := mkF E_markIntS (fun (l, k) => l.length ≤ 4194304 ∧ 0 ≤ k ∧ k ≤ 1099511627776) (fun (l, k) => [.int .i64 (k + 1 * l.length), vL I1 v1 (markL1 l.length k)])
theorem F_markIntS_inj : ∀ x y, E_markIntS x = E_markIntS y → x = y := by
  rintro ⟨l, k⟩ ⟨l', k'⟩ h
  simpa [E_markIntS] using h
theorem F_markIntS_elim {P : List V → List V → Prop} (h : ∀ (l : List Int) (k : Int), (l.length ≤ 4194304 ∧ 0 ≤ k ∧ k ≤ 1099511627776) → P [vL I1 v1 l, .int .i64 k] [.int .i64 (k + 1 * l.length), vL I1 v1 (markL1 l.length k)]) : ∀ ds outs, F_markIntS ds = some outs → P ds outs := by
  intro ds outs hh
  obtain ⟨⟨l, k⟩, rfl, hp, rfl⟩ := mkF_inv hh
  exact h l k hp
theorem p_markIntS {l : List Int} {k : Int} {kk_ : V → V → Prop} (hp : l.length ≤ 4194304 ∧ 0 ≤ k ∧ k ≤ 1099511627776) : P2 (.call F_markIntS 1 1) [vL I1 v1 l, .int .i64 k, vL I1 v1 l] kk_ ↔ kk_ (.int .i64 (k + 1 * l.length)) (vL I1 v1 (markL1 l.length k)) :=
  P2_of (callIo_run (as := [vL I1 v1 l, .int .i64 k]) (rs := [vL I1 v1 l]) (n := 1) (nr := 1) rfl (by simp) (by unfold F_markIntS; exact mkF_eq F_markIntS_inj (l, k) hp) (by simp [ksAll, vL, AK.eqs_refl]) rfl)

def E_markPinS : List T2 × Int → List V := fun (l, k) => [vL I2 v2 l, .int .i64 k]
noncomputable def F_markPinS : List V → Option (List V) := mkF E_markPinS (fun (l, k) => l.length ≤ 4194304 ∧ 0 ≤ k ∧ k ≤ 1099511627776) (fun (l, k) => [.int .i64 (k + 2 * l.length), vL I2 v2 (markL2 l.length k)])
theorem F_markPinS_inj : ∀ x y, E_markPinS x = E_markPinS y → x = y := by
  rintro ⟨l, k⟩ ⟨l', k'⟩ h
  simpa [E_markPinS] using h
theorem F_markPinS_elim {P : List V → List V → Prop} (h : ∀ (l : List T2) (k : Int), (l.length ≤ 4194304 ∧ 0 ≤ k ∧ k ≤ 1099511627776) → P [vL I2 v2 l, .int .i64 k] [.int .i64 (k + 2 * l.length), vL I2 v2 (markL2 l.length k)]) : ∀ ds outs, F_markPinS ds = some outs → P ds outs := by
  intro ds outs hh
  obtain ⟨⟨l, k⟩, rfl, hp, rfl⟩ := mkF_inv hh
  exact h l k hp
theorem p_markPinS {l : List T2} {k : Int} {kk_ : V → V → Prop} (hp : l.length ≤ 4194304 ∧ 0 ≤ k ∧ k ≤ 1099511627776) : P2 (.call F_markPinS 1 1) [vL I2 v2 l, .int .i64 k, vL I2 v2 l] kk_ ↔ kk_ (.int .i64 (k + 2 * l.length)) (vL I2 v2 (markL2 l.length k)) :=
  P2_of (callIo_run (as := [vL I2 v2 l, .int .i64 k]) (rs := [vL I2 v2 l]) (n := 1) (nr := 1) rfl (by simp) (by unfold F_markPinS; exact mkF_eq F_markPinS_inj (l, k) hp) (by simp [ksAll, vL, AK.eqs_refl]) rfl)


def E_toPin (x : T2) : List V := [.int .i64 x.a, .int .i64 x.b]
noncomputable def F_toPin : List V → Option (List V) := mkF E_toPin (fun _ => True) (fun x => [.int .i64 x.a, .int .i64 x.b])
theorem F_toPin_inj : ∀ x y, E_toPin x = E_toPin y → x = y := by
  rintro ⟨xa, xb⟩ ⟨xa', xb'⟩ h
  simpa [E_toPin] using h
theorem F_toPin_elim {P : List V → List V → Prop} (h : ∀ (x : T2), P [.int .i64 x.a, .int .i64 x.b] [.int .i64 x.a, .int .i64 x.b]) : ∀ ds outs, F_toPin ds = some outs → P ds outs := by
  intro ds outs hh
  obtain ⟨x, rfl, -, rfl⟩ := mkF_inv hh
  exact h x
@[simp] theorem p_toPin {x_a : Int} {x_b : Int} {nr_ : Nat} {kk_ : V → V → Prop} : P2 (.call F_toPin 0 nr_) [.int .i64 x_a, .int .i64 x_b] kk_ ↔ kk_ (.int .i64 ((⟨x_a, x_b⟩ : T2)).a) (.int .i64 ((⟨x_a, x_b⟩ : T2)).b) :=
  P2_callF (by unfold F_toPin; exact mkF_eq F_toPin_inj ((⟨x_a, x_b⟩ : T2)) trivial)

def E_eqPin : T2 × T2 → List V := fun (x, y) => [.int .i64 x.a, .int .i64 x.b, .int .i64 y.a, .int .i64 y.b]
noncomputable def F_eqPin : List V → Option (List V) := mkF E_eqPin (fun (_, _) => True) (fun (x, y) => [.bool (decide (x = y))])
theorem F_eqPin_inj : ∀ x y, E_eqPin x = E_eqPin y → x = y := by
  rintro ⟨⟨xa, xb⟩, ⟨ya, yb⟩⟩ ⟨⟨xa', xb'⟩, ⟨ya', yb'⟩⟩ h
  simpa [E_eqPin, and_assoc] using h
theorem F_eqPin_elim {P : List V → List V → Prop} (h : ∀ (x : T2) (y : T2), P [.int .i64 x.a, .int .i64 x.b, .int .i64 y.a, .int .i64 y.b] [.bool (decide (x = y))]) : ∀ ds outs, F_eqPin ds = some outs → P ds outs := by
  intro ds outs hh
  obtain ⟨⟨x, y⟩, rfl, -, rfl⟩ := mkF_inv hh
  exact h x y
@[simp] theorem p_eqPin {x_a : Int} {x_b : Int} {y_a : Int} {y_b : Int} {nr_ : Nat} {kk_ : V → Prop} : P1 (.call F_eqPin 0 nr_) [.int .i64 x_a, .int .i64 x_b, .int .i64 y_a, .int .i64 y_b] kk_ ↔ kk_ (.bool (decide ((⟨x_a, x_b⟩ : T2) = (⟨y_a, y_b⟩ : T2)))) :=
  P1_callF (by unfold F_eqPin; exact mkF_eq F_eqPin_inj ((⟨x_a, x_b⟩ : T2), (⟨y_a, y_b⟩ : T2)) trivial)

def E_szCylinder : Cyl × Int → List V := fun (x, n) => [.int .i64 x.s, .int .i64 x.t, vL I2 v2 x.p, .int .i64 n]
noncomputable def F_szCylinder : List V → Option (List V) := mkF E_szCylinder (fun (x, n) => x.p.length ≤ 9223372036854775807 ∧ 0 ≤ n ∧ n ≤ 1048576) (fun (x, n) => [.int .i64 (if (x.p.length : Int) ≤ n then n - x.p.length else -1)])
theorem F_szCylinder_inj : ∀ x y, E_szCylinder x = E_szCylinder y → x = y := by
  rintro ⟨⟨xs, xt, xp⟩, n⟩ ⟨⟨xs', xt', xp'⟩, n'⟩ h
  simpa [E_szCylinder, and_assoc] using h
theorem F_szCylinder_elim {P : List V → List V → Prop} (h : ∀ (x : Cyl) (n : Int), (x.p.length ≤ 9223372036854775807 ∧ 0 ≤ n ∧ n ≤ 1048576) → P [.int .i64 x.s, .int .i64 x.t, vL I2 v2 x.p, .int .i64 n] [.int .i64 (if (x.p.length : Int) ≤ n then n - x.p.length else -1)]) : ∀ ds outs, F_szCylinder ds = some outs → P ds outs := by
  intro ds outs hh
  obtain ⟨⟨x, n⟩, rfl, hp, rfl⟩ := mkF_inv hh
  exact h x n hp
theorem p_szCylinder {x_s : Int} {x_t : Int} {x_p : List T2} {n : Int} {nr_ : Nat} {kk_ : V → Prop} (hp : (⟨x_s, x_t, x_p⟩ : Cyl).p.length ≤ 9223372036854775807 ∧ 0 ≤ n ∧ n ≤ 1048576) : P1 (.call F_szCylinder 0 nr_) [.int .i64 x_s, .int .i64 x_t, vL I2 v2 x_p, .int .i64 n] kk_ ↔ kk_ (.int .i64 (if ((⟨x_s, x_t, x_p⟩ : Cyl).p.length : Int) ≤ n then n - (⟨x_s, x_t, x_p⟩ : Cyl).p.length else -1)) :=
  P1_callF (by unfold F_szCylinder; exact mkF_eq F_szCylinder_inj ((⟨x_s, x_t, x_p⟩ : Cyl), n) hp)

def E_toCylinder (x : Cyl) : List V := [.int .i64 x.s, .int .i64 x.t, vL I2 v2 x.p]
noncomputable def F_toCylinder : List V → Option (List V) := mkF E_toCylinder (fun x => x.p.length ≤ 1048576) (fun x => [.int .i64 x.s, .int .i64 x.t, vL I2 v2 x.p])
theorem F_toCylinder_inj : ∀ x y, E_toCylinder x = E_toCylinder y → x = y := by
  rintro ⟨xs, xt, xp⟩ ⟨xs', xt', xp'⟩ h
  simpa [E_toCylinder] using h
theorem F_toCylinder_elim {P : List V → List V → Prop} (h : ∀ (x : Cyl), (x.p.length ≤ 1048576) → P [.int .i64 x.s, .int .i64 x.t, vL I2 v2 x.p] [.int .i64 x.s, .int .i64 x.t, vL I2 v2 x.p]) : ∀ ds outs, F_toCylinder ds = some outs → P ds outs := by
  intro ds outs hh
  obtain ⟨x, rfl, hp, rfl⟩ := mkF_inv hh
  exact h x hp
theorem p_toCylinder {x_s : Int} {x_t : Int} {x_p : List T2} {nr_ : Nat} {kk_ : V → V → V → Prop} (hp : (⟨x_s, x_t, x_p⟩ : Cyl).p.length ≤ 1048576) : P3 (.call F_toCylinder 0 nr_) [.int .i64 x_s, .int .i64 x_t, vL I2 v2 x_p] kk_ ↔ kk_ (.int .i64 ((⟨x_s, x_t, x_p⟩ : Cyl)).s) (.int .i64 ((⟨x_s, x_t, x_p⟩ : Cyl)).t) (vL I2 v2 ((⟨x_s, x_t, x_p⟩ : Cyl)).p) :=
  P3_callF (by unfold F_toCylinder; exact mkF_eq F_toCylinder_inj ((⟨x_s, x_t, x_p⟩ : Cyl)) hp)

def E_eqCylinder : Cyl × Cyl → List V := fun (x, y) => [.int .i64 x.s, .int .i64 x.t, vL I2 v2 x.p, .int .i64 y.s, .int .i64 y.t, vL I2 v2 y.p]
noncomputable def F_eqCylinder : List V → Option (List V) := mkF E_eqCylinder (fun (x, y) => x.p.length ≤ 1048576 ∧ y.p.length ≤ 1048576) (fun (x, y) => [.bool (decide (x.s = y.s ∧ x.t = y.t ∧ x.p = y.p))])
theorem F_eqCylinder_inj : ∀ x y, E_eqCylinder x = E_eqCylinder y → x = y := by
  rintro ⟨⟨xs, xt, xp⟩, ⟨ys, yt, yp⟩⟩ ⟨⟨xs', xt', xp'⟩, ⟨ys', yt', yp'⟩⟩ h
  simpa [E_eqCylinder, and_assoc] using h
theorem F_eqCylinder_elim {P : List V → List V → Prop} (h : ∀ (x : Cyl) (y : Cyl), (x.p.length ≤ 1048576 ∧ y.p.length ≤ 1048576) → P [.int .i64 x.s, .int .i64 x.t, vL I2 v2 x.p, .int .i64 y.s, .int .i64 y.t, vL I2 v2 y.p] [.bool (decide (x.s = y.s ∧ x.t = y.t ∧ x.p = y.p))]) : ∀ ds outs, F_eqCylinder ds = some outs → P ds outs := by
  intro ds outs hh
  obtain ⟨⟨x, y⟩, rfl, hp, rfl⟩ := mkF_inv hh
  exact h x y hp
theorem p_eqCylinder {x_s : Int} {x_t : Int} {x_p : List T2} {y_s : Int} {y_t : Int} {y_p : List T2} {nr_ : Nat} {kk_ : V → Prop} (hp : (⟨x_s, x_t, x_p⟩ : Cyl).p.length ≤ 1048576 ∧ (⟨y_s, y_t, y_p⟩ : Cyl).p.length ≤ 1048576) : P1 (.call F_eqCylinder 0 nr_) [.int .i64 x_s, .int .i64 x_t, vL I2 v2 x_p, .int .i64 y_s, .int .i64 y_t, vL I2 v2 y_p] kk_ ↔ kk_ (.bool (decide ((⟨x_s, x_t, x_p⟩ : Cyl).s = (⟨y_s, y_t, y_p⟩ : Cyl).s ∧ (⟨x_s, x_t, x_p⟩ : Cyl).t = (⟨y_s, y_t, y_p⟩ : Cyl).t ∧ (⟨x_s, x_t, x_p⟩ : Cyl).p = (⟨y_s, y_t, y_p⟩ : Cyl).p))) :=
  P1_callF (by unfold F_eqCylinder; exact mkF_eq F_eqCylinder_inj ((⟨x_s, x_t, x_p⟩ : Cyl), (⟨y_s, y_t, y_p⟩ : Cyl)) hp)

def E_markCylinder : Cyl × Int → List V := fun (x, k) => [.int .i64 x.s, .int .i64 x.t, vL I2 v2 x.p, .int .i64 k]
noncomputable def F_markCylinder : List V → Option (List V) := mkF E_markCylinder (fun (x, k) => x.p.length ≤ 4194304 ∧ 0 ≤ k ∧ k ≤ 1099511627776) (fun (x, k) => [.int .i64 (k + 2 * x.p.length), vL I2 v2 (markL2 x.p.length k)])
theorem F_markCylinder_inj : ∀ x y, E_markCylinder x = E_markCylinder y → x = y := by
  rintro ⟨⟨xs, xt, xp⟩, k⟩ ⟨⟨xs', xt', xp'⟩, k'⟩ h
  simpa [E_markCylinder, and_assoc] using h
theorem F_markCylinder_elim {P : List V → List V → Prop} (h : ∀ (x : Cyl) (k : Int), (x.p.length ≤ 4194304 ∧ 0 ≤ k ∧ k ≤ 1099511627776) → P [.int .i64 x.s, .int .i64 x.t, vL I2 v2 x.p, .int .i64 k] [.int .i64 (k + 2 * x.p.length), vL I2 v2 (markL2 x.p.length k)]) : ∀ ds outs, F_markCylinder ds = some outs → P ds outs := by
  intro ds outs hh
  obtain ⟨⟨x, k⟩, rfl, hp, rfl⟩ := mkF_inv hh
  exact h x k hp
theorem p_markCylinder {x_s : Int} {x_t : Int} {x_p : List T2} {k : Int} {kk_ : V → V → Prop} (hp : (⟨x_s, x_t, x_p⟩ : Cyl).p.length ≤ 4194304 ∧ 0 ≤ k ∧ k ≤ 1099511627776) : P2 (.call F_markCylinder 1 1) [.int .i64 x_s, .int .i64 x_t, vL I2 v2 x_p, .int .i64 k, vL I2 v2 x_p] kk_ ↔ kk_ (.int .i64 (k + 2 * (⟨x_s, x_t, x_p⟩ : Cyl).p.length)) (vL I2 v2 (markL2 (⟨x_s, x_t, x_p⟩ : Cyl).p.length k)) :=
  P2_of (callIo_run (as := [.int .i64 x_s, .int .i64 x_t, vL I2 v2 x_p, .int .i64 k]) (rs := [vL I2 v2 x_p]) (n := 1) (nr := 1) rfl (by simp) (by unfold F_markCylinder; exact mkF_eq F_markCylinder_inj ((⟨x_s, x_t, x_p⟩ : Cyl), k) hp) (by simp [ksAll, vL, AK.eqs_refl]) rfl)


def pinLess (p q : T2) : Bool := decide (p.b < q.b ∨ p.b = q.b ∧ p.a < q.a)
def E_l06Less : T2 × T2 → List V := fun (x, y) => [.int .i64 x.a, .int .i64 x.b, .int .i64 y.a, .int .i64 y.b]
noncomputable def F_l06Less : List V → Option (List V) := mkF E_l06Less (fun (_, _) => True) (fun (x, y) => [.bool (pinLess x y)])
theorem F_l06Less_inj : ∀ x y, E_l06Less x = E_l06Less y → x = y := by
  rintro ⟨⟨xa, xb⟩, ⟨ya, yb⟩⟩ ⟨⟨xa', xb'⟩, ⟨ya', yb'⟩⟩ h
  simpa [E_l06Less, and_assoc] using h
theorem F_l06Less_elim {P : List V → List V → Prop} (h : ∀ (x : T2) (y : T2), P [.int .i64 x.a, .int .i64 x.b, .int .i64 y.a, .int .i64 y.b] [.bool (pinLess x y)]) : ∀ ds outs, F_l06Less ds = some outs → P ds outs := by
  intro ds outs hh
  obtain ⟨⟨x, y⟩, rfl, -, rfl⟩ := mkF_inv hh
  exact h x y
@[simp] theorem p_l06Less {x_a : Int} {x_b : Int} {y_a : Int} {y_b : Int} {nr_ : Nat} {kk_ : V → Prop} : P1 (.call F_l06Less 0 nr_) [.int .i64 x_a, .int .i64 x_b, .int .i64 y_a, .int .i64 y_b] kk_ ↔ kk_ (.bool (pinLess (⟨x_a, x_b⟩ : T2) (⟨y_a, y_b⟩ : T2))) :=
  P1_callF (by unfold F_l06Less; exact mkF_eq F_l06Less_inj ((⟨x_a, x_b⟩ : T2), (⟨y_a, y_b⟩ : T2)) trivial)

def E_comparePins : T2 × T2 → List V := fun (x, y) => [.int .i64 x.a, .int .i64 x.b, .int .i64 y.a, .int .i64 y.b]
noncomputable def F_comparePins : List V → Option (List V) := mkF E_comparePins (fun (_, _) => True) (fun (x, y) => [.int .i64 (if pinLess x y then -1 else if x = y then 0 else 1)])
theorem F_comparePins_inj : ∀ x y, E_comparePins x = E_comparePins y → x = y := by
  rintro ⟨⟨xa, xb⟩, ⟨ya, yb⟩⟩ ⟨⟨xa', xb'⟩, ⟨ya', yb'⟩⟩ h
  simpa [E_comparePins, and_assoc] using h
theorem F_comparePins_elim {P : List V → List V → Prop} (h : ∀ (x : T2) (y : T2), P [.int .i64 x.a, .int .i64 x.b, .int .i64 y.a, .int .i64 y.b] [.int .i64 (if pinLess x y then -1 else if x = y then 0 else 1)]) : ∀ ds outs, F_comparePins ds = some outs → P ds outs := by
  intro ds outs hh
  obtain ⟨⟨x, y⟩, rfl, -, rfl⟩ := mkF_inv hh
  exact h x y
@[simp] theorem p_comparePins {x_a : Int} {x_b : Int} {y_a : Int} {y_b : Int} {nr_ : Nat} {kk_ : V → Prop} : P1 (.call F_comparePins 0 nr_) [.int .i64 x_a, .int .i64 x_b, .int .i64 y_a, .int .i64 y_b] kk_ ↔ kk_ (.int .i64 (if pinLess (⟨x_a, x_b⟩ : T2) (⟨y_a, y_b⟩ : T2) then -1 else if (⟨x_a, x_b⟩ : T2) = (⟨y_a, y_b⟩ : T2) then 0 else 1)) :=
  P1_callF (by unfold F_comparePins; exact mkF_eq F_comparePins_inj ((⟨x_a, x_b⟩ : T2), (⟨y_a, y_b⟩ : T2)) trivial)

def rising : List T2 → Bool
  | [] => true
  | [_] => true
  | a :: b :: r => pinLess a b && rising (b :: r)
def pinIn (s t : Int) (p : T2) : Bool := within p.a 0 (t - 1) && within p.b 0 (s - 1)
def cylOk (c : Cyl) : Bool := within c.s 4 96 && within c.t 1 100 && decide (c.p.length ≤ 100) && (c.p.all (pinIn c.s c.t) && rising c.p)
def E_CylinderOk (x : Cyl) : List V := [.int .i64 x.s, .int .i64 x.t, vL I2 v2 x.p]
noncomputable def F_CylinderOk : List V → Option (List V) := mkF E_CylinderOk (fun x => x.p.length ≤ 1048576) (fun x => [.bool (cylOk x)])
theorem F_CylinderOk_inj : ∀ x y, E_CylinderOk x = E_CylinderOk y → x = y := by
  rintro ⟨xs, xt, xp⟩ ⟨xs', xt', xp'⟩ h
  simpa [E_CylinderOk] using h
theorem F_CylinderOk_elim {P : List V → List V → Prop} (h : ∀ (x : Cyl), (x.p.length ≤ 1048576) → P [.int .i64 x.s, .int .i64 x.t, vL I2 v2 x.p] [.bool (cylOk x)]) : ∀ ds outs, F_CylinderOk ds = some outs → P ds outs := by
  intro ds outs hh
  obtain ⟨x, rfl, hp, rfl⟩ := mkF_inv hh
  exact h x hp
theorem p_CylinderOk {x_s : Int} {x_t : Int} {x_p : List T2} {nr_ : Nat} {kk_ : V → Prop} (hp : (⟨x_s, x_t, x_p⟩ : Cyl).p.length ≤ 1048576) : P1 (.call F_CylinderOk 0 nr_) [.int .i64 x_s, .int .i64 x_t, vL I2 v2 x_p] kk_ ↔ kk_ (.bool (cylOk (⟨x_s, x_t, x_p⟩ : Cyl))) :=
  P1_callF (by unfold F_CylinderOk; exact mkF_eq F_CylinderOk_inj ((⟨x_s, x_t, x_p⟩ : Cyl)) hp)

end Go.Mw

namespace Go.Mw
noncomputable section
def laws_szPinS_L : L := .seq (.rg []) (.seq (.rg [zl 0, zb .sub 1 2]) (.seq (.seq (.rg [zk .lss 3 0]) (.ite (.v 4) (.seq (.rg []) (.ret [.k (.int .i64 (-1))])) (.skip))) (.seq (.rg []) (.ret [.v 3]))))
theorem laws_szPinS_L_sh (Q : QT) (x0 x1 : V) : shL laws_szPinS_L Q [x0, x1] = (
  P1 (.len) [x0] fun v0 =>
  P1 (.bin .sub) [x1, v0] fun v1 =>
  P1 (.bin .lss) [v1, .int .i64 0] fun v2 =>
  ifB v2 (
    Q .ret [.int .i64 (-1)]) (
    Q .ret [v1])) := by kernel_rfl
def laws_szPinS_S : Sig := ⟨[.val false [.sl [.sc, .sc]], .val false [.sc]], [(false, [.sc])], F_szPinS⟩
def laws_szPinS_hs : List NF := []

def laws_szCylinder_L : L := .seq (.rg []) (.seq (.rg [zc F_szPinS 1 [2, 3]]) (.seq (.seq (.rg [zk .lss 4 0]) (.ite (.v 5) (.seq (.rg []) (.ret [.k (.int .i64 (-1))])) (.skip))) (.seq (.rg []) (.ret [.v 4]))))
theorem laws_szCylinder_L_sh (Q : QT) (x0 x1 x2 x3 : V) : shL laws_szCylinder_L Q [x0, x1, x2, x3] = (
  P1 (.call F_szPinS 0 1) [x2, x3] fun v0 =>
  P1 (.bin .lss) [v0, .int .i64 0] fun v1 =>
  ifB v1 (
    Q .ret [.int .i64 (-1)]) (
    Q .ret [v0])) := by kernel_rfl
def laws_szCylinder_S : Sig := ⟨[.val true [.sc, .sc, .sl [.sc, .sc]], .val false [.sc]], [(false, [.sc])], F_szCylinder⟩
def laws_szCylinder_hs : List NF := []

def laws_toPin_L : L := .seq (.rg []) (.seq (.rg []) (.seq (.rg []) (.seq (.rg []) (.seq (.rg []) (.ret [.v 0, .v 1])))))
theorem laws_toPin_L_sh (Q : QT) (x0 x1 : V) : shL laws_toPin_L Q [x0, x1] = (
  Q .ret [x0, x1]) := by kernel_rfl
def laws_toPin_S : Sig := ⟨[.val true [.sc, .sc]], [(true, [.sc, .sc])], F_toPin⟩
def laws_toPin_hs : List NF := []

def laws_toPinS_b0 : L := .seq (.seq (.seq (.rg [zl 0, zb .lss 1 3]) (.ite (.v 4) (.skip) (.seq (zt [2]) (.exit 0)))) (.seq (.block 1 (.seq (.rg [zj 0 1, zc F_toPin 2 [5, 6], zj 2 1, ⟨[], .set [.sc, .sc] 0, [.v 2, .v 1, .v 7, .v 8], 1⟩]) (zt [0, 1, 11]))) (.rg [zk .add 1 1]))) (zt [0, 3, 2])
theorem laws_toPinS_b0_sh (Q : QT) (x0 x1 x2 : V) : shL laws_toPinS_b0 Q [x0, x1, x2] = (
  P1 (.len) [x0] fun v0 =>
  P1 (.bin .lss) [x1, v0] fun v1 =>
  ifB v1 (
    P2 (.idx [.sc, .sc]) [x0, x1] fun v2 v3 =>
    P2 (.call F_toPin 0 2) [v2, v3] fun v4 v5 =>
    P2 (.idx [.sc, .sc]) [x2, x1] fun _ _ =>
    P1 (.set [.sc, .sc] 0) [x2, x1, v4, v5] fun v8 =>
    P1 (.bin .add) [x1, .int .i64 1] fun v9 =>
    Q .normal [x0, v9, v8]) (
    Q (.exit 0) [x2])) := by kernel_rfl

def laws_toPinS_r1 : L := .seq (.rg []) (.ret [.v 0])
theorem laws_toPinS_r1_sh (Q : QT) (x0 : V) : shL laws_toPinS_r1 Q [x0] = (
  Q .ret [x0]) := by kernel_rfl

def laws_toPinS_L : L := .seq (.rg []) (.seq (.rg [zl 0, ⟨[], .mk [.sc, .sc] (.agg [.int .i64 0, .int .i64 0]) 16, [.v 1, .v 1], 1⟩]) (.seq (.seq (.rg []) (.block 0 (.seq (.tup [.v 0, .k (.int .i64 0), .v 2]) (.loop (laws_toPinS_b0))))) (laws_toPinS_r1)))
theorem laws_toPinS_L_sh (Q : QT) (x0 : V) : shL laws_toPinS_L Q [x0] = (
  P1 (.len) [x0] fun v0 =>
  P1 (.mk [.sc, .sc] (.agg [.int .i64 0, .int .i64 0]) 16) [v0, v0] fun v1 =>
  shL (.loop laws_toPinS_b0) (qB 0 (qS (shL laws_toPinS_r1 Q) Q)) [x0, .int .i64 0, v1]) := by kernel_rfl
def laws_toPinS_S : Sig := ⟨[.val false [.sl [.sc, .sc]]], [(false, [.sl [.sc, .sc]])], F_toPinS⟩
def laws_toPinS_hs : List NF := [⟨[(3, zo 64)], [(64, true, [.sc, .sc])], [], 65⟩, ⟨[(0, zq), (3, zo 64), (4, zs)], [(64, true, [.sc, .sc])], [], 65⟩, ⟨[(0, zq), (3, zo 64), (4, zs)], [(64, true, [.sc, .sc])], [], 65⟩]

def laws_toCylinder_L : L := .seq (.rg []) (.seq (.rg []) (.seq (.rg []) (.seq (.rg []) (.seq (.rg [zc F_toPinS 1 [2]]) (.seq (.rg []) (.ret [.v 0, .v 1, .v 3]))))))
theorem laws_toCylinder_L_sh (Q : QT) (x0 x1 x2 : V) : shL laws_toCylinder_L Q [x0, x1, x2] = (
  P1 (.call F_toPinS 0 1) [x2] fun v0 =>
  Q .ret [x0, x1, v0]) := by kernel_rfl
def laws_toCylinder_S : Sig := ⟨[.val true [.sc, .sc, .sl [.sc, .sc]]], [(true, [.sc, .sc, .sl [.sc, .sc]])], F_toCylinder⟩
def laws_toCylinder_hs : List NF := []

def spec_l06Less_L : L := .seq (.rg []) (.seq (.rg [zb .lss 1 3, ⟨[(.v 4, false)], .bin .eql, [.v 1, .v 3], 1⟩, ⟨[(.v 4, false), (.v 5, true)], .bin .lss, [.v 0, .v 2], 1⟩, ⟨[(.v 4, false)], .pick, [.v 5, .v 6, .k (.bool false)], 1⟩, ⟨[], .pick, [.v 4, .k (.bool true), .v 7], 1⟩]) (.ret [.v 8]))
theorem spec_l06Less_L_sh (Q : QT) (x0 x1 x2 x3 : V) : shL spec_l06Less_L Q [x0, x1, x2, x3] = (
  P1 (.bin .lss) [x1, x3] fun v0 =>
  ifB v0 (
    Q .ret [.bool true]) (
    P1 (.bin .eql) [x1, x3] fun v1 =>
    ifB v1 (
      P1 (.bin .lss) [x0, x2] fun v2 =>
      Q .ret [v2]) (
      Q .ret [.bool false]))) := by kernel_rfl
def spec_l06Less_S : Sig := ⟨[.val true [.sc, .sc], .val true [.sc, .sc]], [(false, [.sc])], F_l06Less⟩
def spec_l06Less_hs : List NF := []

def spec_CylinderOk_b0 : L := .seq (.seq (.seq (.rg [zl 3, zb .lss 0 4]) (.ite (.v 5) (.skip) (.seq (.tup []) (.exit 0)))) (.seq (.block 1 (.seq (.seq (.rg [zj 3 0]) (.seq (.rg [zk .sub 2 1, ⟨[], .call F_l01In 0 1, [.v 6, .k (.int .i64 0), .v 8], 1⟩, zn 9, ⟨[(.v 10, false)], .bin .sub, [.v 1, .k (.int .i64 1)], 1⟩, ⟨[(.v 10, false)], .call F_l01In 0 1, [.v 7, .k (.int .i64 0), .v 11], 1⟩, ⟨[(.v 10, false)], .un .not, [.v 12], 1⟩, ⟨[], .pick, [.v 10, .k (.bool true), .v 13], 1⟩, ⟨[(.v 14, false)], .bin .gtr, [.v 0, .k (.int .i64 0)], 1⟩, ⟨[(.v 14, false), (.v 15, true)], .bin .sub, [.v 0, .k (.int .i64 1)], 1⟩, ⟨[(.v 14, false), (.v 15, true)], .idx [.sc, .sc], [.v 3, .v 16], 2⟩, ⟨[(.v 14, false), (.v 15, true)], .call F_l06Less 0 1, [.v 17, .v 18, .v 6, .v 7], 1⟩, ⟨[(.v 14, false), (.v 15, true)], .un .not, [.v 19], 1⟩, ⟨[(.v 14, false)], .pick, [.v 15, .v 20, .k (.bool false)], 1⟩, ⟨[], .pick, [.v 14, .k (.bool true), .v 21], 1⟩]) (.ite (.v 22) (.seq (.rg []) (.ret [.k (.bool false)])) (.skip)))) (zt [0, 1, 2, 3]))) (.rg [zk .add 0 1]))) (zt [4, 1, 2, 3])
theorem spec_CylinderOk_b0_sh (Q : QT) (x0 x1 x2 x3 : V) : shL spec_CylinderOk_b0 Q [x0, x1, x2, x3] = (
  P1 (.len) [x3] fun v0 =>
  P1 (.bin .lss) [x0, v0] fun v1 =>
  ifB v1 (
    P2 (.idx [.sc, .sc]) [x3, x0] fun v2 v3 =>
    P1 (.bin .sub) [x2, .int .i64 1] fun v4 =>
    P1 (.call F_l01In 0 1) [v2, .int .i64 0, v4] fun v5 =>
    P1 (.un .not) [v5] fun v6 =>
    ifB v6 (
      Q .ret [.bool false]) (
      P1 (.bin .sub) [x1, .int .i64 1] fun v7 =>
      P1 (.call F_l01In 0 1) [v3, .int .i64 0, v7] fun v8 =>
      P1 (.un .not) [v8] fun v9 =>
      ifB v9 (
        Q .ret [.bool false]) (
        P1 (.bin .gtr) [x0, .int .i64 0] fun v10 =>
        ifB v10 (
          P1 (.bin .sub) [x0, .int .i64 1] fun v11 =>
          P2 (.idx [.sc, .sc]) [x3, v11] fun v12 v13 =>
          P1 (.call F_l06Less 0 1) [v12, v13, v2, v3] fun v14 =>
          P1 (.un .not) [v14] fun v15 =>
          ifB v15 (
            Q .ret [.bool false]) (
            P1 (.bin .add) [x0, .int .i64 1] fun v16 =>
            Q .normal [v16, x1, x2, x3])) (
          P1 (.bin .add) [x0, .int .i64 1] fun v17 =>
          Q .normal [v17, x1, x2, x3])))) (
    Q (.exit 0) [])) := by kernel_rfl

def spec_CylinderOk_r1 : L := .seq (.rg []) (.ret [.k (.bool true)])
theorem spec_CylinderOk_r1_sh (Q : QT) : shL spec_CylinderOk_r1 Q [] = (
  Q .ret [.bool true]) := by kernel_rfl

def spec_CylinderOk_L : L := .seq (.rg []) (.seq (.seq (.rg [⟨[], .call F_l01In 0 1, [.v 0, .k (.int .i64 4), .k (.int .i64 96)], 1⟩, zn 3, ⟨[(.v 4, false)], .call F_l01In 0 1, [.v 1, .k (.int .i64 1), .k (.int .i64 100)], 1⟩, ⟨[(.v 4, false)], .un .not, [.v 5], 1⟩, ⟨[], .pick, [.v 4, .k (.bool true), .v 6], 1⟩, ⟨[(.v 7, false)], .len, [.v 2], 1⟩, ⟨[(.v 7, false)], .bin .gtr, [.v 8, .k (.int .i64 100)], 1⟩, ⟨[], .pick, [.v 7, .k (.bool true), .v 9], 1⟩]) (.ite (.v 10) (.seq (.rg []) (.ret [.k (.bool false)])) (.skip))) (.seq (.seq (.rg []) (.block 0 (.seq (.tup [.k (.int .i64 0), .v 0, .v 1, .v 2]) (.loop (spec_CylinderOk_b0))))) (spec_CylinderOk_r1)))
theorem spec_CylinderOk_L_sh (Q : QT) (x0 x1 x2 : V) : shL spec_CylinderOk_L Q [x0, x1, x2] = (
  P1 (.call F_l01In 0 1) [x0, .int .i64 4, .int .i64 96] fun v0 =>
  P1 (.un .not) [v0] fun v1 =>
  ifB v1 (
    Q .ret [.bool false]) (
    P1 (.call F_l01In 0 1) [x1, .int .i64 1, .int .i64 100] fun v2 =>
    P1 (.un .not) [v2] fun v3 =>
    ifB v3 (
      Q .ret [.bool false]) (
      P1 (.len) [x2] fun v4 =>
      P1 (.bin .gtr) [v4, .int .i64 100] fun v5 =>
      ifB v5 (
        Q .ret [.bool false]) (
        shL (.loop spec_CylinderOk_b0) (qB 0 (qS (shL spec_CylinderOk_r1 Q) Q)) [.int .i64 0, x0, x1, x2])))) := by kernel_rfl
def spec_CylinderOk_S : Sig := ⟨[.val true [.sc, .sc, .sl [.sc, .sc]]], [(false, [.sc])], F_CylinderOk⟩
def spec_CylinderOk_hs : List NF := [⟨[], [], [], 64⟩, ⟨[(1, .ptr 64 0), (3, zs)], [], [(64, [.sc, .sc, .ro [.sc, .sc]])], 65⟩, ⟨[(1, .ptr 64 0), (3, zs)], [], [(64, [.sc, .sc, .ro [.sc, .sc]])], 65⟩]

def impl_comparePins_L : L := .seq (.rg []) (.seq (.seq (.rg [zb .lss 1 3, ⟨[(.v 4, false)], .bin .eql, [.v 1, .v 3], 1⟩, ⟨[(.v 4, false), (.v 5, true)], .bin .lss, [.v 0, .v 2], 1⟩, ⟨[(.v 4, false)], .pick, [.v 5, .v 6, .k (.bool false)], 1⟩, ⟨[], .pick, [.v 4, .k (.bool true), .v 7], 1⟩]) (.ite (.v 8) (.seq (.rg []) (.ret [.k (.int .i64 (-1))])) (.skip))) (.seq (.seq (.rg [⟨[], .eqa false [.i, .i], [.v 0, .v 1, .v 2, .v 3], 1⟩]) (.ite (.v 9) (.seq (.rg []) (.ret [.k (.int .i64 0)])) (.skip))) (.seq (.rg []) (.ret [.k (.int .i64 1)]))))
theorem impl_comparePins_L_sh (Q : QT) (x0 x1 x2 x3 : V) : shL impl_comparePins_L Q [x0, x1, x2, x3] = (
  P1 (.bin .lss) [x1, x3] fun v0 =>
  ifB v0 (
    Q .ret [.int .i64 (-1)]) (
    P1 (.bin .eql) [x1, x3] fun v1 =>
    ifB v1 (
      P1 (.bin .lss) [x0, x2] fun v2 =>
      ifB v2 (
        Q .ret [.int .i64 (-1)]) (
        P1 (.eqa false [.i, .i]) [x0, x1, x2, x3] fun v3 =>
        ifB v3 (
          Q .ret [.int .i64 0]) (
          Q .ret [.int .i64 1]))) (
      P1 (.eqa false [.i, .i]) [x0, x1, x2, x3] fun v4 =>
      ifB v4 (
        Q .ret [.int .i64 0]) (
        Q .ret [.int .i64 1])))) := by kernel_rfl
def impl_comparePins_S : Sig := ⟨[.val true [.sc, .sc], .val true [.sc, .sc]], [(false, [.sc])], F_comparePins⟩
def impl_comparePins_hs : List NF := []

def impl_CylinderOk_b0 : L := .seq (.seq (.rg [zb .lss 2 1]) (.seq (.ite (.v 6) (.skip) (.seq (.tup []) (.exit 0))) (.seq (.block 1 (.seq (.seq (.rg [zj 0 2]) (.seq (.seq (.rg [zk .sub 4 1, ⟨[], .call F_within 0 1, [.v 7, .k (.int .i64 0), .v 9], 1⟩, zn 10, ⟨[(.v 11, false)], .bin .sub, [.v 3, .k (.int .i64 1)], 1⟩, ⟨[(.v 11, false)], .call F_within 0 1, [.v 8, .k (.int .i64 0), .v 12], 1⟩, ⟨[(.v 11, false)], .un .not, [.v 13], 1⟩, ⟨[], .pick, [.v 11, .k (.bool true), .v 14], 1⟩]) (.ite (.v 15) (.seq (.rg []) (.ret [.k (.bool false)])) (.skip))) (.seq (.rg [zk .gtr 2 0, ⟨[(.v 16, true)], .bin .sub, [.v 2, .k (.int .i64 1)], 1⟩, ⟨[(.v 16, true)], .idx [.sc, .sc], [.v 5, .v 17], 2⟩, ⟨[(.v 16, true)], .call F_comparePins 0 1, [.v 18, .v 19, .v 7, .v 8], 1⟩, ⟨[(.v 16, true)], .bin .geq, [.v 20, .k (.int .i64 0)], 1⟩, ⟨[], .pick, [.v 16, .v 21, .k (.bool false)], 1⟩]) (.ite (.v 22) (.seq (.rg []) (.ret [.k (.bool false)])) (.skip))))) (zt [0, 1, 2, 3, 4, 5]))) (.rg [zk .add 2 1])))) (zt [0, 1, 6, 3, 4, 5])
theorem impl_CylinderOk_b0_sh (Q : QT) (x0 x1 x2 x3 x4 x5 : V) : shL impl_CylinderOk_b0 Q [x0, x1, x2, x3, x4, x5] = (
  P1 (.bin .lss) [x2, x1] fun v0 =>
  ifB v0 (
    P2 (.idx [.sc, .sc]) [x0, x2] fun v1 v2 =>
    P1 (.bin .sub) [x4, .int .i64 1] fun v3 =>
    P1 (.call F_within 0 1) [v1, .int .i64 0, v3] fun v4 =>
    P1 (.un .not) [v4] fun v5 =>
    ifB v5 (
      Q .ret [.bool false]) (
      P1 (.bin .sub) [x3, .int .i64 1] fun v6 =>
      P1 (.call F_within 0 1) [v2, .int .i64 0, v6] fun v7 =>
      P1 (.un .not) [v7] fun v8 =>
      ifB v8 (
        Q .ret [.bool false]) (
        P1 (.bin .gtr) [x2, .int .i64 0] fun v9 =>
        ifB v9 (
          P1 (.bin .sub) [x2, .int .i64 1] fun v10 =>
          P2 (.idx [.sc, .sc]) [x5, v10] fun v11 v12 =>
          P1 (.call F_comparePins 0 1) [v11, v12, v1, v2] fun v13 =>
          P1 (.bin .geq) [v13, .int .i64 0] fun v14 =>
          ifB v14 (
            Q .ret [.bool false]) (
            P1 (.bin .add) [x2, .int .i64 1] fun v15 =>
            Q .normal [x0, x1, v15, x3, x4, x5])) (
          P1 (.bin .add) [x2, .int .i64 1] fun v16 =>
          Q .normal [x0, x1, v16, x3, x4, x5])))) (
    Q (.exit 0) [])) := by kernel_rfl

def impl_CylinderOk_r1 : L := .seq (.rg []) (.ret [.k (.bool true)])
theorem impl_CylinderOk_r1_sh (Q : QT) : shL impl_CylinderOk_r1 Q [] = (
  Q .ret [.bool true]) := by kernel_rfl

def impl_CylinderOk_L : L := .seq (.rg []) (.seq (.seq (.rg [⟨[], .call F_within 0 1, [.v 0, .k (.int .i64 4), .k (.int .i64 96)], 1⟩, zn 3, ⟨[(.v 4, false)], .call F_within 0 1, [.v 1, .k (.int .i64 1), .k (.int .i64 100)], 1⟩, ⟨[(.v 4, false)], .un .not, [.v 5], 1⟩, ⟨[], .pick, [.v 4, .k (.bool true), .v 6], 1⟩, ⟨[(.v 7, false)], .len, [.v 2], 1⟩, ⟨[(.v 7, false)], .bin .gtr, [.v 8, .k (.int .i64 100)], 1⟩, ⟨[], .pick, [.v 7, .k (.bool true), .v 9], 1⟩]) (.ite (.v 10) (.seq (.rg []) (.ret [.k (.bool false)])) (.skip))) (.seq (.seq (.rg [zl 2]) (.block 0 (.seq (.tup [.v 2, .v 11, .k (.int .i64 0), .v 0, .v 1, .v 2]) (.loop (impl_CylinderOk_b0))))) (impl_CylinderOk_r1)))
theorem impl_CylinderOk_L_sh (Q : QT) (x0 x1 x2 : V) : shL impl_CylinderOk_L Q [x0, x1, x2] = (
  P1 (.call F_within 0 1) [x0, .int .i64 4, .int .i64 96] fun v0 =>
  P1 (.un .not) [v0] fun v1 =>
  ifB v1 (
    Q .ret [.bool false]) (
    P1 (.call F_within 0 1) [x1, .int .i64 1, .int .i64 100] fun v2 =>
    P1 (.un .not) [v2] fun v3 =>
    ifB v3 (
      Q .ret [.bool false]) (
      P1 (.len) [x2] fun v4 =>
      P1 (.bin .gtr) [v4, .int .i64 100] fun v5 =>
      ifB v5 (
        Q .ret [.bool false]) (
        P1 (.len) [x2] fun v6 =>
        shL (.loop impl_CylinderOk_b0) (qB 0 (qS (shL impl_CylinderOk_r1 Q) Q)) [x2, v6, .int .i64 0, x0, x1, x2])))) := by kernel_rfl
def impl_CylinderOk_S : Sig := ⟨[.val true [.sc, .sc, .sl [.sc, .sc]]], [(false, [.sc])], F_CylinderOk⟩
def impl_CylinderOk_hs : List NF := [⟨[], [], [], 64⟩, ⟨[(1, .ptr 64 0), (22, zq), (23, zs), (24, zs)], [], [(64, [.sc, .sc, .ro [.sc, .sc]])], 65⟩, ⟨[(1, .ptr 64 0), (22, zq), (23, zs), (24, zs)], [], [(64, [.sc, .sc, .ro [.sc, .sc]])], 65⟩]

def laws_eqPin_L : L := .seq (.rg []) (.seq (.seq (.rg [zb .neq 0 2]) (.ite (.v 4) (.seq (.rg []) (.ret [.k (.bool false)])) (.skip))) (.seq (.seq (.rg [zb .neq 1 3]) (.ite (.v 5) (.seq (.rg []) (.ret [.k (.bool false)])) (.skip))) (.seq (.rg []) (.ret [.k (.bool true)]))))
theorem laws_eqPin_L_sh (Q : QT) (x0 x1 x2 x3 : V) : shL laws_eqPin_L Q [x0, x1, x2, x3] = (
  P1 (.bin .neq) [x0, x2] fun v0 =>
  ifB v0 (
    Q .ret [.bool false]) (
    P1 (.bin .neq) [x1, x3] fun v1 =>
    ifB v1 (
      Q .ret [.bool false]) (
      Q .ret [.bool true]))) := by kernel_rfl
def laws_eqPin_S : Sig := ⟨[.val true [.sc, .sc], .val true [.sc, .sc]], [(false, [.sc])], F_eqPin⟩
def laws_eqPin_hs : List NF := []

def laws_eqPinS_b0 : L := .seq (.seq (.seq (.rg [zl 0, zb .lss 2 3]) (.ite (.v 4) (.skip) (.seq (.tup []) (.exit 0)))) (.seq (.block 1 (.seq (.seq (.rg [zj 0 2, zj 1 2, zc F_eqPin 1 [5, 6, 7, 8], zn 9]) (.ite (.v 10) (.seq (.rg []) (.ret [.k (.bool false)])) (.skip))) (zt [0, 1, 2]))) (.rg [zk .add 2 1]))) (zt [0, 1, 3])
theorem laws_eqPinS_b0_sh (Q : QT) (x0 x1 x2 : V) : shL laws_eqPinS_b0 Q [x0, x1, x2] = (
  P1 (.len) [x0] fun v0 =>
  P1 (.bin .lss) [x2, v0] fun v1 =>
  ifB v1 (
    P2 (.idx [.sc, .sc]) [x0, x2] fun v2 v3 =>
    P2 (.idx [.sc, .sc]) [x1, x2] fun v4 v5 =>
    P1 (.call F_eqPin 0 1) [v2, v3, v4, v5] fun v6 =>
    P1 (.un .not) [v6] fun v7 =>
    ifB v7 (
      Q .ret [.bool false]) (
      P1 (.bin .add) [x2, .int .i64 1] fun v8 =>
      Q .normal [x0, x1, v8])) (
    Q (.exit 0) [])) := by kernel_rfl

def laws_eqPinS_r1 : L := .seq (.rg []) (.ret [.k (.bool true)])
theorem laws_eqPinS_r1_sh (Q : QT) : shL laws_eqPinS_r1 Q [] = (
  Q .ret [.bool true]) := by kernel_rfl

def laws_eqPinS_L : L := .seq (.rg []) (.seq (.seq (.rg [zl 0, zl 1, zb .neq 2 3]) (.ite (.v 4) (.seq (.rg []) (.ret [.k (.bool false)])) (.skip))) (.seq (.seq (.rg []) (.block 0 (.seq (.tup [.v 0, .v 1, .k (.int .i64 0)]) (.loop (laws_eqPinS_b0))))) (laws_eqPinS_r1)))
theorem laws_eqPinS_L_sh (Q : QT) (x0 x1 : V) : shL laws_eqPinS_L Q [x0, x1] = (
  P1 (.len) [x0] fun v0 =>
  P1 (.len) [x1] fun v1 =>
  P1 (.bin .neq) [v0, v1] fun v2 =>
  ifB v2 (
    Q .ret [.bool false]) (
    shL (.loop laws_eqPinS_b0) (qB 0 (qS (shL laws_eqPinS_r1 Q) Q)) [x0, x1, .int .i64 0])) := by kernel_rfl
def laws_eqPinS_S : Sig := ⟨[.val false [.sl [.sc, .sc]], .val false [.sl [.sc, .sc]]], [(false, [.sc])], F_eqPinS⟩
def laws_eqPinS_hs : List NF := [⟨[], [], [], 64⟩, ⟨[(0, zq), (1, zq), (5, zs)], [], [], 64⟩, ⟨[(0, zq), (1, zq), (5, zs)], [], [], 64⟩]

def laws_eqCylinder_L : L := .seq (.rg []) (.seq (.seq (.rg [zb .neq 0 3]) (.ite (.v 6) (.seq (.rg []) (.ret [.k (.bool false)])) (.skip))) (.seq (.seq (.rg [zb .neq 1 4]) (.ite (.v 7) (.seq (.rg []) (.ret [.k (.bool false)])) (.skip))) (.seq (.seq (.rg [zc F_eqPinS 1 [2, 5], zn 8]) (.ite (.v 9) (.seq (.rg []) (.ret [.k (.bool false)])) (.skip))) (.seq (.rg []) (.ret [.k (.bool true)])))))
theorem laws_eqCylinder_L_sh (Q : QT) (x0 x1 x2 x3 x4 x5 : V) : shL laws_eqCylinder_L Q [x0, x1, x2, x3, x4, x5] = (
  P1 (.bin .neq) [x0, x3] fun v0 =>
  ifB v0 (
    Q .ret [.bool false]) (
    P1 (.bin .neq) [x1, x4] fun v1 =>
    ifB v1 (
      Q .ret [.bool false]) (
      P1 (.call F_eqPinS 0 1) [x2, x5] fun v2 =>
      P1 (.un .not) [v2] fun v3 =>
      ifB v3 (
        Q .ret [.bool false]) (
        Q .ret [.bool true])))) := by kernel_rfl
def laws_eqCylinder_S : Sig := ⟨[.val true [.sc, .sc, .sl [.sc, .sc]], .val true [.sc, .sc, .sl [.sc, .sc]]], [(false, [.sc])], F_eqCylinder⟩
def laws_eqCylinder_hs : List NF := []

def laws_toIntS_b0 : L := .seq (.seq (.seq (.rg [zl 0, zb .lss 1 3]) (.ite (.v 4) (.skip) (.seq (zt [2]) (.exit 0)))) (.seq (.block 1 (.seq (.rg [zi 0 1, zi 2 1, ⟨[], .set [.sc] 0, [.v 2, .v 1, .v 5], 1⟩]) (zt [0, 1, 7]))) (.rg [zk .add 1 1]))) (zt [0, 3, 2])
theorem laws_toIntS_b0_sh (Q : QT) (x0 x1 x2 : V) : shL laws_toIntS_b0 Q [x0, x1, x2] = (
  P1 (.len) [x0] fun v0 =>
  P1 (.bin .lss) [x1, v0] fun v1 =>
  ifB v1 (
    P1 (.idx [.sc]) [x0, x1] fun v2 =>
    P1 (.idx [.sc]) [x2, x1] fun _ =>
    P1 (.set [.sc] 0) [x2, x1, v2] fun v4 =>
    P1 (.bin .add) [x1, .int .i64 1] fun v5 =>
    Q .normal [x0, v5, v4]) (
    Q (.exit 0) [x2])) := by kernel_rfl

def laws_toIntS_r1 : L := .seq (.rg []) (.ret [.v 0])
theorem laws_toIntS_r1_sh (Q : QT) (x0 : V) : shL laws_toIntS_r1 Q [x0] = (
  Q .ret [x0]) := by kernel_rfl

def laws_toIntS_L : L := .seq (.rg []) (.seq (.rg [zl 0, ⟨[], .mk [.sc] (.int .i64 0) 8, [.v 1, .v 1], 1⟩]) (.seq (.seq (.rg []) (.block 0 (.seq (.tup [.v 0, .k (.int .i64 0), .v 2]) (.loop (laws_toIntS_b0))))) (laws_toIntS_r1)))
theorem laws_toIntS_L_sh (Q : QT) (x0 : V) : shL laws_toIntS_L Q [x0] = (
  P1 (.len) [x0] fun v0 =>
  P1 (.mk [.sc] (.int .i64 0) 8) [v0, v0] fun v1 =>
  shL (.loop laws_toIntS_b0) (qB 0 (qS (shL laws_toIntS_r1 Q) Q)) [x0, .int .i64 0, v1]) := by kernel_rfl
def laws_toIntS_S : Sig := ⟨[.val false [.sl [.sc]]], [(false, [.sl [.sc]])], F_toIntS⟩
def laws_toIntS_hs : List NF := [⟨[(3, zo 64)], [(64, true, [.sc])], [], 65⟩, ⟨[(0, zr), (3, zo 64), (4, zs)], [(64, true, [.sc])], [], 65⟩, ⟨[(0, zr), (3, zo 64), (4, zs)], [(64, true, [.sc])], [], 65⟩]

def laws_eqIntS_b0 : L := .seq (.seq (.seq (.rg [zl 0, zb .lss 2 3]) (.ite (.v 4) (.skip) (.seq (.tup []) (.exit 0)))) (.seq (.block 1 (.seq (.seq (.rg [zi 0 2, zi 1 2, zb .neq 5 6]) (.ite (.v 7) (.seq (.rg []) (.ret [.k (.bool false)])) (.skip))) (zt [0, 1, 2]))) (.rg [zk .add 2 1]))) (zt [0, 1, 3])
theorem laws_eqIntS_b0_sh (Q : QT) (x0 x1 x2 : V) : shL laws_eqIntS_b0 Q [x0, x1, x2] = (
  P1 (.len) [x0] fun v0 =>
  P1 (.bin .lss) [x2, v0] fun v1 =>
  ifB v1 (
    P1 (.idx [.sc]) [x0, x2] fun v2 =>
    P1 (.idx [.sc]) [x1, x2] fun v3 =>
    P1 (.bin .neq) [v2, v3] fun v4 =>
    ifB v4 (
      Q .ret [.bool false]) (
      P1 (.bin .add) [x2, .int .i64 1] fun v5 =>
      Q .normal [x0, x1, v5])) (
    Q (.exit 0) [])) := by kernel_rfl

def laws_eqIntS_r1 : L := .seq (.rg []) (.ret [.k (.bool true)])
theorem laws_eqIntS_r1_sh (Q : QT) : shL laws_eqIntS_r1 Q [] = (
  Q .ret [.bool true]) := by kernel_rfl

def laws_eqIntS_L : L := .seq (.rg []) (.seq (.seq (.rg [zl 0, zl 1, zb .neq 2 3]) (.ite (.v 4) (.seq (.rg []) (.ret [.k (.bool false)])) (.skip))) (.seq (.seq (.rg []) (.block 0 (.seq (.tup [.v 0, .v 1, .k (.int .i64 0)]) (.loop (laws_eqIntS_b0))))) (laws_eqIntS_r1)))
theorem laws_eqIntS_L_sh (Q : QT) (x0 x1 : V) : shL laws_eqIntS_L Q [x0, x1] = (
  P1 (.len) [x0] fun v0 =>
  P1 (.len) [x1] fun v1 =>
  P1 (.bin .neq) [v0, v1] fun v2 =>
  ifB v2 (
    Q .ret [.bool false]) (
    shL (.loop laws_eqIntS_b0) (qB 0 (qS (shL laws_eqIntS_r1 Q) Q)) [x0, x1, .int .i64 0])) := by kernel_rfl
def laws_eqIntS_S : Sig := ⟨[.val false [.sl [.sc]], .val false [.sl [.sc]]], [(false, [.sc])], F_eqIntS⟩
def laws_eqIntS_hs : List NF := [⟨[], [], [], 64⟩, ⟨[(0, zr), (1, zr), (5, zs)], [], [], 64⟩, ⟨[(0, zr), (1, zr), (5, zs)], [], [], 64⟩]

def laws_markIntS_b0 : L := .seq (.seq (.seq (.rg [zl 2, zb .lss 1 3]) (.ite (.v 4) (.skip) (.seq (zt [0, 2]) (.exit 0)))) (.seq (.block 1 (.seq (.seq (.rg [zi 2 1, ⟨[], .set [.sc] 0, [.v 2, .v 1, .v 0], 1⟩]) (.rg [zk .add 0 1])) (zt [7, 1, 6]))) (.rg [zk .add 1 1]))) (zt [0, 3, 2])
theorem laws_markIntS_b0_sh (Q : QT) (x0 x1 x2 : V) : shL laws_markIntS_b0 Q [x0, x1, x2] = (
  P1 (.len) [x2] fun v0 =>
  P1 (.bin .lss) [x1, v0] fun v1 =>
  ifB v1 (
    P1 (.idx [.sc]) [x2, x1] fun _ =>
    P1 (.set [.sc] 0) [x2, x1, x0] fun v3 =>
    P1 (.bin .add) [x0, .int .i64 1] fun v4 =>
    P1 (.bin .add) [x1, .int .i64 1] fun v5 =>
    Q .normal [v4, v5, v3]) (
    Q (.exit 0) [x0, x2])) := by kernel_rfl

def laws_markIntS_r1 : L := .seq (.rg []) (.ret [.v 0, .v 1])
theorem laws_markIntS_r1_sh (Q : QT) (x0 x1 : V) : shL laws_markIntS_r1 Q [x0, x1] = (
  Q .ret [x0, x1]) := by kernel_rfl

def laws_markIntS_L : L := .seq (.rg []) (.seq (.seq (.rg []) (.block 0 (.seq (.tup [.v 1, .k (.int .i64 0), .v 0]) (.loop (laws_markIntS_b0))))) (laws_markIntS_r1))
theorem laws_markIntS_L_sh (Q : QT) (x0 x1 : V) : shL laws_markIntS_L Q [x0, x1] = (
  shL (.loop laws_markIntS_b0) (qB 0 (qS (shL laws_markIntS_r1 Q) Q)) [x1, .int .i64 0, x0]) := by kernel_rfl
def laws_markIntS_S : Sig := ⟨[.io false [.sl [.sc]], .val false [.sc]], [(false, [.sc])], F_markIntS⟩
def laws_markIntS_hs : List NF := [⟨[(1, zs)], [(0, false, [.sc])], [], 64⟩, ⟨[(0, zo 0), (1, zs), (5, zs)], [(0, false, [.sc])], [], 64⟩, ⟨[(0, zo 0), (1, zs), (5, zs)], [(0, false, [.sc])], [], 64⟩]

def laws_markPinS_b0 : L := .seq (.seq (.seq (.rg [zl 2, zb .lss 1 3]) (.ite (.v 4) (.skip) (.seq (zt [0, 2]) (.exit 0)))) (.seq (.block 1 (.seq (.seq (.rg [zj 2 1, ⟨[], .set [.sc, .sc] 0, [.v 2, .v 1, .v 0], 1⟩]) (.seq (.rg [zk .add 0 1]) (.seq (.rg [zj 7 1, ⟨[], .set [.sc, .sc] 1, [.v 7, .v 1, .v 8], 1⟩]) (.rg [zk .add 8 1])))) (zt [12, 1, 11]))) (.rg [zk .add 1 1]))) (zt [0, 3, 2])
theorem laws_markPinS_b0_sh (Q : QT) (x0 x1 x2 : V) : shL laws_markPinS_b0 Q [x0, x1, x2] = (
  P1 (.len) [x2] fun v0 =>
  P1 (.bin .lss) [x1, v0] fun v1 =>
  ifB v1 (
    P2 (.idx [.sc, .sc]) [x2, x1] fun _ _ =>
    P1 (.set [.sc, .sc] 0) [x2, x1, x0] fun v4 =>
    P1 (.bin .add) [x0, .int .i64 1] fun v5 =>
    P2 (.idx [.sc, .sc]) [v4, x1] fun _ _ =>
    P1 (.set [.sc, .sc] 1) [v4, x1, v5] fun v8 =>
    P1 (.bin .add) [v5, .int .i64 1] fun v9 =>
    P1 (.bin .add) [x1, .int .i64 1] fun v10 =>
    Q .normal [v9, v10, v8]) (
    Q (.exit 0) [x0, x2])) := by kernel_rfl

def laws_markPinS_r1 : L := .seq (.rg []) (.ret [.v 0, .v 1])
theorem laws_markPinS_r1_sh (Q : QT) (x0 x1 : V) : shL laws_markPinS_r1 Q [x0, x1] = (
  Q .ret [x0, x1]) := by kernel_rfl

def laws_markPinS_L : L := .seq (.rg []) (.seq (.seq (.rg []) (.block 0 (.seq (.tup [.v 1, .k (.int .i64 0), .v 0]) (.loop (laws_markPinS_b0))))) (laws_markPinS_r1))
theorem laws_markPinS_L_sh (Q : QT) (x0 x1 : V) : shL laws_markPinS_L Q [x0, x1] = (
  shL (.loop laws_markPinS_b0) (qB 0 (qS (shL laws_markPinS_r1 Q) Q)) [x1, .int .i64 0, x0]) := by kernel_rfl
def laws_markPinS_S : Sig := ⟨[.io false [.sl [.sc, .sc]], .val false [.sc]], [(false, [.sc])], F_markPinS⟩
def laws_markPinS_hs : List NF := [⟨[(1, zs)], [(0, false, [.sc, .sc])], [], 64⟩, ⟨[(0, zo 0), (1, zs), (5, zs)], [(0, false, [.sc, .sc])], [], 64⟩, ⟨[(0, zo 0), (1, zs), (5, zs)], [(0, false, [.sc, .sc])], [], 64⟩]

def laws_markCylinder_L : L := .seq (.rg []) (.seq (.rg [⟨[], .call F_markPinS 1 1, [.v 2, .v 3, .v 2], 2⟩]) (.seq (.rg []) (.ret [.v 4, .v 5])))
theorem laws_markCylinder_L_sh (Q : QT) (x0 x1 x2 x3 : V) : shL laws_markCylinder_L Q [x0, x1, x2, x3] = (
  P2 (.call F_markPinS 1 1) [x2, x3, x2] fun v0 v1 =>
  Q .ret [v0, v1]) := by kernel_rfl
def laws_markCylinder_S : Sig := ⟨[.io true [.sc, .sc, .sl [.sc, .sc]], .val false [.sc]], [(false, [.sc])], F_markCylinder⟩
def laws_markCylinder_hs : List NF := []

end
end Go.Mw

namespace Go.Mw
theorem mark_set_get {α : Type} {l m : List α} {k : Nat} {x : α} (hm : m.length = l.length) (h : k < l.length) : ((m.take k ++ l.drop k).set k x)[k]? = some x := by
  rw [List.getElem?_set_self (by simp; omega)]

theorem laws_szPinS_ok : ∀ ds outs, F_szPinS ds = some outs → shL laws_szPinS_L (qRet outs) ds := F_szPinS_elim fun l n hp => by
  rw [laws_szPinS_L_sh]
  simp (disch := omega) [wrap_id]
  grind

theorem laws_toPinS_ok : ∀ ds outs, F_toPinS ds = some outs → shL laws_toPinS_L (qRet outs) ds := F_toPinS_elim fun l hp => by
  rw [laws_toPinS_L_sh]
  simp
  refine ⟨by omega, ?_⟩
  refine loop_upto l.length (fun k => [vL I2 v2 l, .int .i64 k, vL I2 v2 (l.take k ++ List.replicate (l.length - k) ⟨0, 0⟩)]) (by intro i j _ _ h; simp at h; omega) (fun _ => True) (by simp) trivial ?_
  intro k hk _
  rw [laws_toPinS_b0_sh]
  simp
  refine ⟨fun h => ?_, fun h => ?_⟩
  · rw [fill_get h (by omega)]
    simp (disch := omega) [h, fill_set h, wrap_id]
  · obtain rfl : k = l.length := by omega
    simp [laws_toPinS_r1_sh]

theorem laws_eqPinS_ok : ∀ ds outs, F_eqPinS ds = some outs → shL laws_eqPinS_L (qRet outs) ds := F_eqPinS_elim fun l m hp => by
  rw [laws_eqPinS_L_sh]
  simp
  refine ⟨fun h => ?_, fun hl => ?_⟩
  · rintro rfl; omega
  refine loop_upto l.length (fun k => [vL I2 v2 l, vL I2 v2 m, .int .i64 k]) (by intro i j _ _ h; simp at h; omega) (fun k => l.take k = m.take k) (by simp) (by simp) ?_
  intro k hk hP
  rw [laws_eqPinS_b0_sh]
  simp
  refine ⟨fun h => ?_, fun h => ?_⟩
  · have h2 : k < m.length := by omega
    simp (disch := omega) [h, wrap_id]
    refine ⟨fun hne he => ?_, fun h3 => ?_⟩
    · subst he; exact hne rfl
    · rw [take_succ_get h, take_succ_get h2, hP, h3]
  · obtain rfl : k = l.length := by omega
    rw [List.take_length, List.take_of_length_le (by omega)] at hP
    simp [laws_eqPinS_r1_sh, hP]

theorem laws_toIntS_ok : ∀ ds outs, F_toIntS ds = some outs → shL laws_toIntS_L (qRet outs) ds := F_toIntS_elim fun l hp => by
  rw [laws_toIntS_L_sh]
  simp
  refine ⟨by omega, ?_⟩
  refine loop_upto l.length (fun k => [vL I1 v1 l, .int .i64 k, vL I1 v1 (l.take k ++ List.replicate (l.length - k) 0)]) (by intro i j _ _ h; simp at h; omega) (fun _ => True) (by simp) trivial ?_
  intro k hk _
  rw [laws_toIntS_b0_sh]
  simp
  refine ⟨fun h => ?_, fun h => ?_⟩
  · rw [fill_get h (by omega)]
    simp (disch := omega) [h, fill_set h, wrap_id]
  · obtain rfl : k = l.length := by omega
    simp [laws_toIntS_r1_sh]

theorem laws_eqIntS_ok : ∀ ds outs, F_eqIntS ds = some outs → shL laws_eqIntS_L (qRet outs) ds := F_eqIntS_elim fun l m hp => by
  rw [laws_eqIntS_L_sh]
  simp
  refine ⟨fun h => ?_, fun hl => ?_⟩
  · rintro rfl; omega
  refine loop_upto l.length (fun k => [vL I1 v1 l, vL I1 v1 m, .int .i64 k]) (by intro i j _ _ h; simp at h; omega) (fun k => l.take k = m.take k) (by simp) (by simp) ?_
  intro k hk hP
  rw [laws_eqIntS_b0_sh]
  simp
  refine ⟨fun h => ?_, fun h => ?_⟩
  · have h2 : k < m.length := by omega
    simp (disch := omega) [h, wrap_id]
    refine ⟨fun hne he => ?_, fun h3 => ?_⟩
    · subst he; exact hne rfl
    · rw [take_succ_get h, take_succ_get h2, hP, h3]
  · obtain rfl : k = l.length := by omega
    rw [List.take_length, List.take_of_length_le (by omega)] at hP
    simp [laws_eqIntS_r1_sh, hP]

theorem laws_markIntS_ok : ∀ ds outs, F_markIntS ds = some outs → shL laws_markIntS_L (qRet outs) ds := F_markIntS_elim fun l k hp => by
  rw [laws_markIntS_L_sh]
  refine loop_upto l.length (fun i => [.int .i64 (k + 1 * i), .int .i64 i, vL I1 v1 ((markL1 l.length k).take i ++ l.drop i)]) (by intro i j _ _ h; simp at h; omega) (fun _ => True) (by simp) trivial ?_
  intro i hi _
  have hml : (markL1 l.length k).length = l.length := markL1_len
  rw [laws_markIntS_b0_sh]
  simp
  have e0 : ((min i l.length : Nat) : Int) + ((l.length - i : Nat) : Int) = l.length := by omega
  simp only [e0]
  refine ⟨fun h => ?_, fun h => ?_⟩
  · replace h : i < l.length := by omega
    rw [mark_get hml h]
    have hs := mark_set hml h
    have hg : (markL1 l.length k)[i]'(by omega) = k + (i : Int) := by simp [markL1]
    rw [hg] at hs
    simp (disch := omega) [h, wrap_id, hs]
    omega
  · obtain rfl : i = l.length := by omega
    have e1 : List.take l.length (markL1 l.length k) = markL1 l.length k := List.take_of_length_le (by simp)
    simp [laws_markIntS_r1_sh, e1]

theorem laws_markPinS_ok : ∀ ds outs, F_markPinS ds = some outs → shL laws_markPinS_L (qRet outs) ds := F_markPinS_elim fun l k hp => by
  rw [laws_markPinS_L_sh]
  refine loop_upto l.length (fun i => [.int .i64 (k + 2 * i), .int .i64 i, vL I2 v2 ((markL2 l.length k).take i ++ l.drop i)]) (by intro i j _ _ h; simp at h; omega) (fun _ => True) (by simp) trivial ?_
  intro i hi _
  have hml : (markL2 l.length k).length = l.length := markL2_len
  rw [laws_markPinS_b0_sh]
  simp
  have e0 : ((min i l.length : Nat) : Int) + ((l.length - i : Nat) : Int) = l.length := by omega
  simp only [e0]
  refine ⟨fun h => ?_, fun h => ?_⟩
  · replace h : i < l.length := by omega
    rw [mark_get hml h]
    have hs := mark_set hml h
    have hg : (markL2 l.length k)[i]'(by omega) = ⟨k + 2 * (i : Int), k + 2 * (i : Int) + 1⟩ := by simp [markL2]
    rw [hg] at hs
    simp (disch := omega) [h, wrap_id, hs, fun x => mark_set_get (x := x) hml h]
    omega
  · obtain rfl : i = l.length := by omega
    have e1 : List.take l.length (markL2 l.length k) = markL2 l.length k := List.take_of_length_le (by simp)
    simp [laws_markPinS_r1_sh, e1]

theorem laws_toPin_ok : ∀ ds outs, F_toPin ds = some outs → shL laws_toPin_L (qRet outs) ds := F_toPin_elim fun x => by
  rw [laws_toPin_L_sh]; simp
theorem laws_eqPin_ok : ∀ ds outs, F_eqPin ds = some outs → shL laws_eqPin_L (qRet outs) ds := F_eqPin_elim fun x y => by
  rw [laws_eqPin_L_sh]
  cases x; cases y
  simp
  grind
theorem laws_szCylinder_ok : ∀ ds outs, F_szCylinder ds = some outs → shL laws_szCylinder_L (qRet outs) ds := F_szCylinder_elim fun x n hp => by
  rw [laws_szCylinder_L_sh]
  simp [p_szPinS hp]
  grind
theorem laws_toCylinder_ok : ∀ ds outs, F_toCylinder ds = some outs → shL laws_toCylinder_L (qRet outs) ds := F_toCylinder_elim fun x hp => by
  rw [laws_toCylinder_L_sh]
  simp [p_toPinS hp]
end Go.Mw

namespace Go.Mw
theorem laws_eqCylinder_ok : ∀ ds outs, F_eqCylinder ds = some outs → shL laws_eqCylinder_L (qRet outs) ds := F_eqCylinder_elim fun x y hp => by
  rw [laws_eqCylinder_L_sh]
  simp [p_eqPinS hp]
  grind
theorem laws_markCylinder_ok : ∀ ds outs, F_markCylinder ds = some outs → shL laws_markCylinder_L (qRet outs) ds := F_markCylinder_elim fun x k hp => by
  rw [laws_markCylinder_L_sh]
  simp [p_markPinS hp]

theorem spec_l06Less_ok : ∀ ds outs, F_l06Less ds = some outs → shL spec_l06Less_L (qRet outs) ds := F_l06Less_elim fun x y => by
  rw [spec_l06Less_L_sh]; simp [pinLess]; grind
theorem impl_comparePins_ok : ∀ ds outs, F_comparePins ds = some outs → shL impl_comparePins_L (qRet outs) ds := F_comparePins_elim fun x y => by
  rw [impl_comparePins_L_sh]
  cases x; cases y
  simp [pinLess]
  grind
end Go.Mw

namespace Go.Mw
theorem rising_iff : ∀ l : List T2, rising l = true ↔ ∀ j (_ : j < l.length), 0 < j → pinLess l[j - 1] l[j] = true
  | [] => by simp [rising]
  | [a] => by simp [rising]
  | a :: b :: r => by
    simp only [rising, Bool.and_eq_true, rising_iff (b :: r)]
    constructor
    · rintro ⟨h1, h2⟩ j hj h0
      rcases j with _ | _ | j
      · omega
      · exact h1
      · exact h2 (j + 1) (by simp at hj ⊢; omega) (by omega)
    · intro h
      refine ⟨h 1 (by simp) (by omega), fun j hj h0 => ?_⟩
      have := h (j + 1) (by simp at hj ⊢; omega) (by omega)
      rcases j with _ | j
      · omega
      · exact this

def goodPin (x : Cyl) (j : Nat) (hj : j < x.p.length) : Prop := pinIn x.s x.t x.p[j] = true ∧ (0 < j → pinLess x.p[j - 1] x.p[j] = true)
theorem cylOk_iff (x : Cyl) : cylOk x = true ↔ within x.s 4 96 = true ∧ within x.t 1 100 = true ∧ x.p.length ≤ 100 ∧ ∀ j (hj : j < x.p.length), goodPin x j hj := by
  simp only [cylOk, Bool.and_eq_true, decide_eq_true_eq, rising_iff, List.all_eq_true, goodPin, and_assoc]
  refine and_congr_right fun _ => and_congr_right fun _ => and_congr_right fun _ => ?_
  constructor
  · rintro ⟨h1, h2⟩ j hj
    exact ⟨h1 _ (List.getElem_mem hj), h2 j hj⟩
  · intro h
    refine ⟨fun p hp => ?_, fun j hj h0 => (h j hj).2 h0⟩
    obtain ⟨j, hj, rfl⟩ := List.getElem_of_mem hp
    exact (h j hj).1

theorem spec_CylinderOk_ok : ∀ ds outs, F_CylinderOk ds = some outs → shL spec_CylinderOk_L (qRet outs) ds := F_CylinderOk_elim fun x hp => by
  rw [spec_CylinderOk_L_sh]
  cases h1 : within x.s 4 96 with
  | false => simp [h1, cylOk]
  | true =>
  cases h2 : within x.t 1 100 with
  | false => simp [h1, h2, cylOk]
  | true =>
  have hs : 4 ≤ x.s ∧ x.s ≤ 96 := by simpa [within] using h1
  have ht : 1 ≤ x.t ∧ x.t ≤ 100 := by simpa [within] using h2
  simp [h1, h2]
  refine ⟨fun h => ?_, fun h3 => ?_⟩
  · cases hc : cylOk x with
    | false => rfl
    | true => have := ((cylOk_iff x).1 hc).2.2.1; omega
  have hc : cylOk x = true ↔ ∀ j (hj : j < x.p.length), goodPin x j hj := by
    rw [cylOk_iff, h1, h2]; simp; intro _; omega
  refine loop_upto x.p.length (fun k => [.int .i64 k, .int .i64 x.s, .int .i64 x.t, vL I2 v2 x.p]) (by intro i j _ _ h; simp at h; omega) (fun k => ∀ j (hj : j < x.p.length), j < k → goodPin x j hj) (by simp) (by simp) ?_
  intro k hk hP
  rw [spec_CylinderOk_b0_sh]
  simp
  refine ⟨fun h => ?_, fun h => ?_⟩
  · have hbad : ¬ goodPin x k h → cylOk x = false := fun hn => by
      cases hcc : cylOk x with
      | false => rfl
      | true => exact absurd (hc.1 hcc k h) hn
    have hgood : goodPin x k h → ∀ j (hj : j < x.p.length), j < k + 1 → goodPin x j hj := fun hg j hj hjk => by
      by_cases hjk2 : j = k
      · subst hjk2; exact hg
      · exact hP j hj (by omega)
    simp (disch := omega) only [h, List.getElem?_eq_getElem, Option.some.injEq, exists_eq_left', wrap_id]
    cases e1 : within x.p[k].a 0 (x.t - 1) with
    | false => simp; exact hbad (by simp [goodPin, pinIn, e1])
    | true =>
    cases e2 : within x.p[k].b 0 (x.s - 1) with
    | false => simp; exact hbad (by simp [goodPin, pinIn, e1, e2])
    | true =>
    have hk1 : ((k : Int) - 1).toNat = k - 1 := by omega
    have hk2 : k - 1 < x.p.length := by omega
    simp (disch := omega) [hk1]
    refine ⟨fun hk0 => ⟨by omega, fun e3 => hbad (by simp [goodPin, e3, hk0]), fun e3 => ?_⟩, fun hk0 => ?_⟩
    · exact hgood (by simp [goodPin, pinIn, e1, e2, e3])
    · exact hgood ⟨by simp [pinIn, e1, e2], fun hh => by omega⟩
  · obtain rfl : k = x.p.length := by omega
    simp [spec_CylinderOk_r1_sh]
    exact (hc.2 fun j hj => hP j hj hj)
theorem impl_CylinderOk_ok : ∀ ds outs, F_CylinderOk ds = some outs → shL impl_CylinderOk_L (qRet outs) ds := F_CylinderOk_elim fun x hp => by
  rw [impl_CylinderOk_L_sh]
  cases h1 : within x.s 4 96 with
  | false => simp [h1, cylOk]
  | true =>
  cases h2 : within x.t 1 100 with
  | false => simp [h1, h2, cylOk]
  | true =>
  have hs : 4 ≤ x.s ∧ x.s ≤ 96 := by simpa [within] using h1
  have ht : 1 ≤ x.t ∧ x.t ≤ 100 := by simpa [within] using h2
  simp [h1, h2]
  refine ⟨fun h => ?_, fun h3 => ?_⟩
  · cases hc : cylOk x with
    | false => rfl
    | true => have := ((cylOk_iff x).1 hc).2.2.1; omega
  have hc : cylOk x = true ↔ ∀ j (hj : j < x.p.length), goodPin x j hj := by
    rw [cylOk_iff, h1, h2]; simp; intro _; omega
  refine loop_upto x.p.length (fun k => [vL I2 v2 x.p, .int .i64 x.p.length, .int .i64 k, .int .i64 x.s, .int .i64 x.t, vL I2 v2 x.p]) (by intro i j _ _ h; simp at h; omega) (fun k => ∀ j (hj : j < x.p.length), j < k → goodPin x j hj) (by simp) (by simp) ?_
  intro k hk hP
  rw [impl_CylinderOk_b0_sh]
  simp
  refine ⟨fun h => ?_, fun h => ?_⟩
  · have hbad : ¬ goodPin x k h → cylOk x = false := fun hn => by
      cases hcc : cylOk x with
      | false => rfl
      | true => exact absurd (hc.1 hcc k h) hn
    have hgood : goodPin x k h → ∀ j (hj : j < x.p.length), j < k + 1 → goodPin x j hj := fun hg j hj hjk => by
      by_cases hjk2 : j = k
      · subst hjk2; exact hg
      · exact hP j hj (by omega)
    simp (disch := omega) only [h, List.getElem?_eq_getElem, Option.some.injEq, exists_eq_left', wrap_id]
    cases e1 : within x.p[k].a 0 (x.t - 1) with
    | false => simp; exact hbad (by simp [goodPin, pinIn, e1])
    | true =>
    cases e2 : within x.p[k].b 0 (x.s - 1) with
    | false => simp; exact hbad (by simp [goodPin, pinIn, e1, e2])
    | true =>
    have hk1 : ((k : Int) - 1).toNat = k - 1 := by omega
    have hk2 : k - 1 < x.p.length := by omega
    simp (disch := omega) [hk1]
    refine ⟨fun hk0 => ⟨by omega, fun e3 => hbad ?_, fun e3 => ?_⟩, fun hk0 => ?_⟩
    · simp only [goodPin, hk0, forall_const, not_and]
      intro _ e4
      simp [e4] at e3
    · refine hgood ⟨by simp [pinIn, e1, e2], fun _ => ?_⟩
      by_cases e4 : pinLess x.p[k - 1] x.p[k] = true
      · exact e4
      · rw [if_neg e4] at e3
        split at e3 <;> omega
    · exact hgood ⟨by simp [pinIn, e1, e2], fun hh => by omega⟩
  · obtain rfl : k = x.p.length := by omega
    simp [impl_CylinderOk_r1_sh]
    exact (hc.2 fun j hj => hP j hj hj)

end Go.Mw

namespace Go.Mw
end Go.Mw

namespace Go.Mw
end Go.Mw

namespace Go.Mw
end Go.Mw

namespace Go.Mw
end Go.Mw

namespace Go.Mw
end Go.Mw

namespace Go.Mw
end Go.Mw

namespace Go.Mw
def seenOf (l : List Int) (n : Nat) : List Bool := (List.range n).map fun j : Nat => decide ((j : Int) ∈ l)
@[simp] theorem seenOf_len {l : List Int} {n : Nat} : (seenOf l n).length = n := by simp [seenOf]
end Go.Mw

namespace Go.Mw
def tot2 (l : List (List T2)) : Nat := l.length + (l.map List.length).sum
def sum2 (l : List (List T2)) : Nat := (l.map List.length).sum
def fitLL (l : List (List T2)) : Prop := l.length ≤ 1048576 ∧ ∀ x ∈ l, x.length ≤ 1048576
def markLL2 : List (List T2) → Int → List (List T2)
  | [], _ => []
  | x :: r, k => markL2 x.length k :: markLL2 r (k + 2 * x.length)
def E_szIntS : List Int × Int → List V := fun (l, n) => [vL I1 v1 l, .int .i64 n]
noncomputable def F_szIntS : List V → Option (List V) := mkF E_szIntS (fun (l, n) => l.length ≤ 9223372036854775807 ∧ 0 ≤ n ∧ n ≤ 1048576) (fun (l, n) => [.int .i64 (if (l.length : Int) ≤ n then n - l.length else -1)])
theorem F_szIntS_inj : ∀ x y, E_szIntS x = E_szIntS y → x = y := by
  rintro ⟨l, n⟩ ⟨l', n'⟩ h
  simpa [E_szIntS] using h
theorem F_szIntS_elim {P : List V → List V → Prop} (h : ∀ (l : List Int) (n : Int), (l.length ≤ 9223372036854775807 ∧ 0 ≤ n ∧ n ≤ 1048576) → P [vL I1 v1 l, .int .i64 n] [.int .i64 (if (l.length : Int) ≤ n then n - l.length else -1)]) : ∀ ds outs, F_szIntS ds = some outs → P ds outs := by
  intro ds outs hh
  obtain ⟨⟨l, n⟩, rfl, hp, rfl⟩ := mkF_inv hh
  exact h l n hp
theorem p_szIntS {l : List Int} {n : Int} {nr_ : Nat} {kk_ : V → Prop} (hp : l.length ≤ 9223372036854775807 ∧ 0 ≤ n ∧ n ≤ 1048576) : P1 (.call F_szIntS 0 nr_) [vL I1 v1 l, .int .i64 n] kk_ ↔ kk_ (.int .i64 (if (l.length : Int) ≤ n then n - l.length else -1)) :=
  P1_callF (by unfold F_szIntS; exact mkF_eq F_szIntS_inj (l, n) hp)

def E_szPinSS : List (List T2) × Int → List V := fun (l, n) => [vL IL2 vLL2 l, .int .i64 n]
noncomputable def F_szPinSS : List V → Option (List V) := mkF E_szPinSS (fun (l, n) => l.length ≤ 9223372036854775807 ∧ (∀ x ∈ l, x.length ≤ 9223372036854775807) ∧ 0 ≤ n ∧ n ≤ 1048576) (fun (l, n) => [.int .i64 (if (tot2 l : Int) ≤ n then n - tot2 l else -1)])
theorem F_szPinSS_inj : ∀ x y, E_szPinSS x = E_szPinSS y → x = y := by
  rintro ⟨l, n⟩ ⟨l', n'⟩ h
  simpa [E_szPinSS] using h
theorem F_szPinSS_elim {P : List V → List V → Prop} (h : ∀ (l : List (List T2)) (n : Int), (l.length ≤ 9223372036854775807 ∧ (∀ x ∈ l, x.length ≤ 9223372036854775807) ∧ 0 ≤ n ∧ n ≤ 1048576) → P [vL IL2 vLL2 l, .int .i64 n] [.int .i64 (if (tot2 l : Int) ≤ n then n - tot2 l else -1)]) : ∀ ds outs, F_szPinSS ds = some outs → P ds outs := by
  intro ds outs hh
  obtain ⟨⟨l, n⟩, rfl, hp, rfl⟩ := mkF_inv hh
  exact h l n hp
theorem p_szPinSS {l : List (List T2)} {n : Int} {nr_ : Nat} {kk_ : V → Prop} (hp : l.length ≤ 9223372036854775807 ∧ (∀ x ∈ l, x.length ≤ 9223372036854775807) ∧ 0 ≤ n ∧ n ≤ 1048576) : P1 (.call F_szPinSS 0 nr_) [vL IL2 vLL2 l, .int .i64 n] kk_ ↔ kk_ (.int .i64 (if (tot2 l : Int) ≤ n then n - tot2 l else -1)) :=
  P1_callF (by unfold F_szPinSS; exact mkF_eq F_szPinSS_inj (l, n) hp)

def E_toPinSS (l : List (List T2)) : List V := [vL IL2 vLL2 l]
noncomputable def F_toPinSS : List V → Option (List V) := mkF E_toPinSS (fun l => fitLL l) (fun l => [vL IL2 vLL2 l])
theorem F_toPinSS_inj : ∀ x y, E_toPinSS x = E_toPinSS y → x = y := by
  rintro l l' h
  simpa [E_toPinSS] using h
theorem F_toPinSS_elim {P : List V → List V → Prop} (h : ∀ (l : List (List T2)), (fitLL l) → P [vL IL2 vLL2 l] [vL IL2 vLL2 l]) : ∀ ds outs, F_toPinSS ds = some outs → P ds outs := by
  intro ds outs hh
  obtain ⟨l, rfl, hp, rfl⟩ := mkF_inv hh
  exact h l hp
theorem p_toPinSS {l : List (List T2)} {nr_ : Nat} {kk_ : V → Prop} (hp : fitLL l) : P1 (.call F_toPinSS 0 nr_) [vL IL2 vLL2 l] kk_ ↔ kk_ (vL IL2 vLL2 l) :=
  P1_callF (by unfold F_toPinSS; exact mkF_eq F_toPinSS_inj (l) hp)

def E_eqPinSS : List (List T2) × List (List T2) → List V := fun (l, m) => [vL IL2 vLL2 l, vL IL2 vLL2 m]
noncomputable def F_eqPinSS : List V → Option (List V) := mkF E_eqPinSS (fun (l, m) => fitLL l ∧ fitLL m) (fun (l, m) => [.bool (decide (l = m))])
theorem F_eqPinSS_inj : ∀ x y, E_eqPinSS x = E_eqPinSS y → x = y := by
  rintro ⟨l, m⟩ ⟨l', m'⟩ h
  simpa [E_eqPinSS] using h
theorem F_eqPinSS_elim {P : List V → List V → Prop} (h : ∀ (l : List (List T2)) (m : List (List T2)), (fitLL l ∧ fitLL m) → P [vL IL2 vLL2 l, vL IL2 vLL2 m] [.bool (decide (l = m))]) : ∀ ds outs, F_eqPinSS ds = some outs → P ds outs := by
  intro ds outs hh
  obtain ⟨⟨l, m⟩, rfl, hp, rfl⟩ := mkF_inv hh
  exact h l m hp
theorem p_eqPinSS {l : List (List T2)} {m : List (List T2)} {nr_ : Nat} {kk_ : V → Prop} (hp : fitLL l ∧ fitLL m) : P1 (.call F_eqPinSS 0 nr_) [vL IL2 vLL2 l, vL IL2 vLL2 m] kk_ ↔ kk_ (.bool (decide (l = m))) :=
  P1_callF (by unfold F_eqPinSS; exact mkF_eq F_eqPinSS_inj (l, m) hp)

def E_markPinSS : List (List T2) × Int → List V := fun (l, k) => [vL IL2 vLL2 l, .int .i64 k]
noncomputable def F_markPinSS : List V → Option (List V) := mkF E_markPinSS (fun (l, k) => fitLL l ∧ 0 ≤ k ∧ k + 2 * sum2 l ≤ 1099511627776) (fun (l, k) => [.int .i64 (k + 2 * sum2 l), vL IL2 vLL2 (markLL2 l k)])
theorem F_markPinSS_inj : ∀ x y, E_markPinSS x = E_markPinSS y → x = y := by
  rintro ⟨l, k⟩ ⟨l', k'⟩ h
  simpa [E_markPinSS] using h
theorem F_markPinSS_elim {P : List V → List V → Prop} (h : ∀ (l : List (List T2)) (k : Int), (fitLL l ∧ 0 ≤ k ∧ k + 2 * sum2 l ≤ 1099511627776) → P [vL IL2 vLL2 l, .int .i64 k] [.int .i64 (k + 2 * sum2 l), vL IL2 vLL2 (markLL2 l k)]) : ∀ ds outs, F_markPinSS ds = some outs → P ds outs := by
  intro ds outs hh
  obtain ⟨⟨l, k⟩, rfl, hp, rfl⟩ := mkF_inv hh
  exact h l k hp
theorem p_markPinSS {l : List (List T2)} {k : Int} {kk_ : V → V → Prop} (hp : fitLL l ∧ 0 ≤ k ∧ k + 2 * sum2 l ≤ 1099511627776) : P2 (.callN F_markPinSS 1 1) [vL IL2 vLL2 l, .int .i64 k, vL IL2 vLL2 l] kk_ ↔ kk_ (.int .i64 (k + 2 * sum2 l)) (vL IL2 vLL2 (markLL2 l k)) :=
  P2_of (callNIo_run (as := [vL IL2 vLL2 l, .int .i64 k]) (rs := [vL IL2 vLL2 l]) (n := 1) (nr := 1) rfl (by unfold F_markPinSS; exact mkF_eq F_markPinSS_inj (l, k) hp) (by simp [ksAll, vL, AK.eqs_refl]))

def E_szBench : Bench × Int → List V := fun (x, n) => [.int .i64 x.s, .int .i64 x.t, vL I2 v2 x.p, vL IL2 vLL2 x.o, .int .i64 n]
noncomputable def F_szBench : List V → Option (List V) := mkF E_szBench (fun (x, n) => x.p.length ≤ 9223372036854775807 ∧ x.o.length ≤ 9223372036854775807 ∧ (∀ y ∈ x.o, y.length ≤ 9223372036854775807) ∧ 0 ≤ n ∧ n ≤ 1048576) (fun (x, n) => [.int .i64 (if (x.p.length : Int) + tot2 x.o ≤ n then n - x.p.length - tot2 x.o else -1)])
theorem F_szBench_inj : ∀ x y, E_szBench x = E_szBench y → x = y := by
  rintro ⟨⟨xs, xt, xp, xo⟩, n⟩ ⟨⟨xs', xt', xp', xo'⟩, n'⟩ h
  simpa [E_szBench, and_assoc] using h
theorem F_szBench_elim {P : List V → List V → Prop} (h : ∀ (x : Bench) (n : Int), (x.p.length ≤ 9223372036854775807 ∧ x.o.length ≤ 9223372036854775807 ∧ (∀ y ∈ x.o, y.length ≤ 9223372036854775807) ∧ 0 ≤ n ∧ n ≤ 1048576) → P [.int .i64 x.s, .int .i64 x.t, vL I2 v2 x.p, vL IL2 vLL2 x.o, .int .i64 n] [.int .i64 (if (x.p.length : Int) + tot2 x.o ≤ n then n - x.p.length - tot2 x.o else -1)]) : ∀ ds outs, F_szBench ds = some outs → P ds outs := by
  intro ds outs hh
  obtain ⟨⟨x, n⟩, rfl, hp, rfl⟩ := mkF_inv hh
  exact h x n hp
theorem p_szBench {x_s : Int} {x_t : Int} {x_p : List T2} {x_o : List (List T2)} {n : Int} {nr_ : Nat} {kk_ : V → Prop} (hp : (⟨x_s, x_t, x_p, x_o⟩ : Bench).p.length ≤ 9223372036854775807 ∧ (⟨x_s, x_t, x_p, x_o⟩ : Bench).o.length ≤ 9223372036854775807 ∧ (∀ y ∈ (⟨x_s, x_t, x_p, x_o⟩ : Bench).o, y.length ≤ 9223372036854775807) ∧ 0 ≤ n ∧ n ≤ 1048576) : P1 (.call F_szBench 0 nr_) [.int .i64 x_s, .int .i64 x_t, vL I2 v2 x_p, vL IL2 vLL2 x_o, .int .i64 n] kk_ ↔ kk_ (.int .i64 (if ((⟨x_s, x_t, x_p, x_o⟩ : Bench).p.length : Int) + tot2 (⟨x_s, x_t, x_p, x_o⟩ : Bench).o ≤ n then n - (⟨x_s, x_t, x_p, x_o⟩ : Bench).p.length - tot2 (⟨x_s, x_t, x_p, x_o⟩ : Bench).o else -1)) :=
  P1_callF (by unfold F_szBench; exact mkF_eq F_szBench_inj ((⟨x_s, x_t, x_p, x_o⟩ : Bench), n) hp)

def E_toBench (x : Bench) : List V := [.int .i64 x.s, .int .i64 x.t, vL I2 v2 x.p, vL IL2 vLL2 x.o]
noncomputable def F_toBench : List V → Option (List V) := mkF E_toBench (fun x => x.p.length ≤ 1048576 ∧ fitLL x.o) (fun x => [.int .i64 x.s, .int .i64 x.t, vL I2 v2 x.p, vL IL2 vLL2 x.o])
theorem F_toBench_inj : ∀ x y, E_toBench x = E_toBench y → x = y := by
  rintro ⟨xs, xt, xp, xo⟩ ⟨xs', xt', xp', xo'⟩ h
  simpa [E_toBench] using h
theorem F_toBench_elim {P : List V → List V → Prop} (h : ∀ (x : Bench), (x.p.length ≤ 1048576 ∧ fitLL x.o) → P [.int .i64 x.s, .int .i64 x.t, vL I2 v2 x.p, vL IL2 vLL2 x.o] [.int .i64 x.s, .int .i64 x.t, vL I2 v2 x.p, vL IL2 vLL2 x.o]) : ∀ ds outs, F_toBench ds = some outs → P ds outs := by
  intro ds outs hh
  obtain ⟨x, rfl, hp, rfl⟩ := mkF_inv hh
  exact h x hp
theorem p_toBench {x_s : Int} {x_t : Int} {x_p : List T2} {x_o : List (List T2)} {nr_ : Nat} {kk_ : V → V → V → V → Prop} (hp : (⟨x_s, x_t, x_p, x_o⟩ : Bench).p.length ≤ 1048576 ∧ fitLL (⟨x_s, x_t, x_p, x_o⟩ : Bench).o) : P4 (.call F_toBench 0 nr_) [.int .i64 x_s, .int .i64 x_t, vL I2 v2 x_p, vL IL2 vLL2 x_o] kk_ ↔ kk_ (.int .i64 ((⟨x_s, x_t, x_p, x_o⟩ : Bench)).s) (.int .i64 ((⟨x_s, x_t, x_p, x_o⟩ : Bench)).t) (vL I2 v2 ((⟨x_s, x_t, x_p, x_o⟩ : Bench)).p) (vL IL2 vLL2 ((⟨x_s, x_t, x_p, x_o⟩ : Bench)).o) :=
  P4_callF (by unfold F_toBench; exact mkF_eq F_toBench_inj ((⟨x_s, x_t, x_p, x_o⟩ : Bench)) hp)

def E_eqBench : Bench × Bench → List V := fun (x, y) => [.int .i64 x.s, .int .i64 x.t, vL I2 v2 x.p, vL IL2 vLL2 x.o, .int .i64 y.s, .int .i64 y.t, vL I2 v2 y.p, vL IL2 vLL2 y.o]
noncomputable def F_eqBench : List V → Option (List V) := mkF E_eqBench (fun (x, y) => x.p.length ≤ 1048576 ∧ fitLL x.o ∧ y.p.length ≤ 1048576 ∧ fitLL y.o) (fun (x, y) => [.bool (decide (x.s = y.s ∧ x.t = y.t ∧ x.p = y.p ∧ x.o = y.o))])
theorem F_eqBench_inj : ∀ x y, E_eqBench x = E_eqBench y → x = y := by
  rintro ⟨⟨xs, xt, xp, xo⟩, ⟨ys, yt, yp, yo⟩⟩ ⟨⟨xs', xt', xp', xo'⟩, ⟨ys', yt', yp', yo'⟩⟩ h
  simpa [E_eqBench, and_assoc] using h
theorem F_eqBench_elim {P : List V → List V → Prop} (h : ∀ (x : Bench) (y : Bench), (x.p.length ≤ 1048576 ∧ fitLL x.o ∧ y.p.length ≤ 1048576 ∧ fitLL y.o) → P [.int .i64 x.s, .int .i64 x.t, vL I2 v2 x.p, vL IL2 vLL2 x.o, .int .i64 y.s, .int .i64 y.t, vL I2 v2 y.p, vL IL2 vLL2 y.o] [.bool (decide (x.s = y.s ∧ x.t = y.t ∧ x.p = y.p ∧ x.o = y.o))]) : ∀ ds outs, F_eqBench ds = some outs → P ds outs := by
  intro ds outs hh
  obtain ⟨⟨x, y⟩, rfl, hp, rfl⟩ := mkF_inv hh
  exact h x y hp
theorem p_eqBench {x_s : Int} {x_t : Int} {x_p : List T2} {x_o : List (List T2)} {y_s : Int} {y_t : Int} {y_p : List T2} {y_o : List (List T2)} {nr_ : Nat} {kk_ : V → Prop} (hp : (⟨x_s, x_t, x_p, x_o⟩ : Bench).p.length ≤ 1048576 ∧ fitLL (⟨x_s, x_t, x_p, x_o⟩ : Bench).o ∧ (⟨y_s, y_t, y_p, y_o⟩ : Bench).p.length ≤ 1048576 ∧ fitLL (⟨y_s, y_t, y_p, y_o⟩ : Bench).o) : P1 (.call F_eqBench 0 nr_) [.int .i64 x_s, .int .i64 x_t, vL I2 v2 x_p, vL IL2 vLL2 x_o, .int .i64 y_s, .int .i64 y_t, vL I2 v2 y_p, vL IL2 vLL2 y_o] kk_ ↔ kk_ (.bool (decide ((⟨x_s, x_t, x_p, x_o⟩ : Bench).s = (⟨y_s, y_t, y_p, y_o⟩ : Bench).s ∧ (⟨x_s, x_t, x_p, x_o⟩ : Bench).t = (⟨y_s, y_t, y_p, y_o⟩ : Bench).t ∧ (⟨x_s, x_t, x_p, x_o⟩ : Bench).p = (⟨y_s, y_t, y_p, y_o⟩ : Bench).p ∧ (⟨x_s, x_t, x_p, x_o⟩ : Bench).o = (⟨y_s, y_t, y_p, y_o⟩ : Bench).o))) :=
  P1_callF (by unfold F_eqBench; exact mkF_eq F_eqBench_inj ((⟨x_s, x_t, x_p, x_o⟩ : Bench), (⟨y_s, y_t, y_p, y_o⟩ : Bench)) hp)

def E_markBench : Bench × Int → List V := fun (x, k) => [.int .i64 x.s, .int .i64 x.t, vL I2 v2 x.p, vL IL2 vLL2 x.o, .int .i64 k]
noncomputable def F_markBench : List V → Option (List V) := mkF E_markBench (fun (x, k) => x.p.length ≤ 1048576 ∧ fitLL x.o ∧ 0 ≤ k ∧ k + 2 * x.p.length + 2 * sum2 x.o ≤ 1099511627776) (fun (x, k) => [.int .i64 (k + 2 * x.p.length + 2 * sum2 x.o), vL I2 v2 (markL2 x.p.length k), vL IL2 vLL2 (markLL2 x.o (k + 2 * x.p.length))])
theorem F_markBench_inj : ∀ x y, E_markBench x = E_markBench y → x = y := by
  rintro ⟨⟨xs, xt, xp, xo⟩, k⟩ ⟨⟨xs', xt', xp', xo'⟩, k'⟩ h
  simpa [E_markBench, and_assoc] using h
theorem F_markBench_elim {P : List V → List V → Prop} (h : ∀ (x : Bench) (k : Int), (x.p.length ≤ 1048576 ∧ fitLL x.o ∧ 0 ≤ k ∧ k + 2 * x.p.length + 2 * sum2 x.o ≤ 1099511627776) → P [.int .i64 x.s, .int .i64 x.t, vL I2 v2 x.p, vL IL2 vLL2 x.o, .int .i64 k] [.int .i64 (k + 2 * x.p.length + 2 * sum2 x.o), vL I2 v2 (markL2 x.p.length k), vL IL2 vLL2 (markLL2 x.o (k + 2 * x.p.length))]) : ∀ ds outs, F_markBench ds = some outs → P ds outs := by
  intro ds outs hh
  obtain ⟨⟨x, k⟩, rfl, hp, rfl⟩ := mkF_inv hh
  exact h x k hp
theorem p_markBench {x_s : Int} {x_t : Int} {x_p : List T2} {x_o : List (List T2)} {k : Int} {kk_ : V → V → V → Prop} (hp : (⟨x_s, x_t, x_p, x_o⟩ : Bench).p.length ≤ 1048576 ∧ fitLL (⟨x_s, x_t, x_p, x_o⟩ : Bench).o ∧ 0 ≤ k ∧ k + 2 * (⟨x_s, x_t, x_p, x_o⟩ : Bench).p.length + 2 * sum2 (⟨x_s, x_t, x_p, x_o⟩ : Bench).o ≤ 1099511627776) : P3 (.callN F_markBench 2 1) [.int .i64 x_s, .int .i64 x_t, vL I2 v2 x_p, vL IL2 vLL2 x_o, .int .i64 k, vL I2 v2 x_p, vL IL2 vLL2 x_o] kk_ ↔ kk_ (.int .i64 (k + 2 * (⟨x_s, x_t, x_p, x_o⟩ : Bench).p.length + 2 * sum2 (⟨x_s, x_t, x_p, x_o⟩ : Bench).o)) (vL I2 v2 (markL2 (⟨x_s, x_t, x_p, x_o⟩ : Bench).p.length k)) (vL IL2 vLL2 (markLL2 (⟨x_s, x_t, x_p, x_o⟩ : Bench).o (k + 2 * (⟨x_s, x_t, x_p, x_o⟩ : Bench).p.length))) :=
  P3_of (callNIo_run (as := [.int .i64 x_s, .int .i64 x_t, vL I2 v2 x_p, vL IL2 vLL2 x_o, .int .i64 k]) (rs := [vL I2 v2 x_p, vL IL2 vLL2 x_o]) (n := 2) (nr := 1) rfl (by unfold F_markBench; exact mkF_eq F_markBench_inj ((⟨x_s, x_t, x_p, x_o⟩ : Bench), k) hp) (by simp [ksAll, vL, AK.eqs_refl]))

def benchOk (b : Bench) : Bool := cylOk ⟨b.s, b.t, b.p⟩ && (decide (b.o.length ≤ 30) && b.o.all fun p => cylOk ⟨b.s, b.t, p⟩)
def E_BenchOk (x : Bench) : List V := [.int .i64 x.s, .int .i64 x.t, vL I2 v2 x.p, vL IL2 vLL2 x.o]
noncomputable def F_BenchOk : List V → Option (List V) := mkF E_BenchOk (fun x => x.p.length ≤ 1048576 ∧ fitLL x.o) (fun x => [.bool (benchOk x)])
theorem F_BenchOk_inj : ∀ x y, E_BenchOk x = E_BenchOk y → x = y := by
  rintro ⟨xs, xt, xp, xo⟩ ⟨xs', xt', xp', xo'⟩ h
  simpa [E_BenchOk] using h
theorem F_BenchOk_elim {P : List V → List V → Prop} (h : ∀ (x : Bench), (x.p.length ≤ 1048576 ∧ fitLL x.o) → P [.int .i64 x.s, .int .i64 x.t, vL I2 v2 x.p, vL IL2 vLL2 x.o] [.bool (benchOk x)]) : ∀ ds outs, F_BenchOk ds = some outs → P ds outs := by
  intro ds outs hh
  obtain ⟨x, rfl, hp, rfl⟩ := mkF_inv hh
  exact h x hp
theorem p_BenchOk {x_s : Int} {x_t : Int} {x_p : List T2} {x_o : List (List T2)} {nr_ : Nat} {kk_ : V → Prop} (hp : (⟨x_s, x_t, x_p, x_o⟩ : Bench).p.length ≤ 1048576 ∧ fitLL (⟨x_s, x_t, x_p, x_o⟩ : Bench).o) : P1 (.call F_BenchOk 0 nr_) [.int .i64 x_s, .int .i64 x_t, vL I2 v2 x_p, vL IL2 vLL2 x_o] kk_ ↔ kk_ (.bool (benchOk (⟨x_s, x_t, x_p, x_o⟩ : Bench))) :=
  P1_callF (by unfold F_BenchOk; exact mkF_eq F_BenchOk_inj ((⟨x_s, x_t, x_p, x_o⟩ : Bench)) hp)

def upward : List Int → Bool
  | [] => true
  | [_] => true
  | a :: b :: r => decide (a ≤ b) && upward (b :: r)
def combOk (l : List Int) : Bool := within l.length 1 24 && (l.all (within · 0 60) && upward l)
def E_CombOk (l : List Int) : List V := [vL I1 v1 l]
noncomputable def F_CombOk : List V → Option (List V) := mkF E_CombOk (fun l => l.length ≤ 1048576) (fun l => [.bool (combOk l)])
theorem F_CombOk_inj : ∀ x y, E_CombOk x = E_CombOk y → x = y := by
  rintro l l' h
  simpa [E_CombOk] using h
theorem F_CombOk_elim {P : List V → List V → Prop} (h : ∀ (l : List Int), (l.length ≤ 1048576) → P [vL I1 v1 l] [.bool (combOk l)]) : ∀ ds outs, F_CombOk ds = some outs → P ds outs := by
  intro ds outs hh
  obtain ⟨l, rfl, hp, rfl⟩ := mkF_inv hh
  exact h l hp
theorem p_CombOk {l : List Int} {nr_ : Nat} {kk_ : V → Prop} (hp : l.length ≤ 1048576) : P1 (.call F_CombOk 0 nr_) [vL I1 v1 l] kk_ ↔ kk_ (.bool (combOk l)) :=
  P1_callF (by unfold F_CombOk; exact mkF_eq F_CombOk_inj (l) hp)

def springOk (s : T3) : Bool := within s.b 1 50 && (within s.a 0 s.b && within s.c 1 10000)
def E_SpringOk (x : T3) : List V := [.int .i64 x.a, .int .i64 x.b, .int .i64 x.c]
noncomputable def F_SpringOk : List V → Option (List V) := mkF E_SpringOk (fun _ => True) (fun x => [.bool (springOk x)])
theorem F_SpringOk_inj : ∀ x y, E_SpringOk x = E_SpringOk y → x = y := by
  rintro ⟨xa, xb, xc⟩ ⟨xa', xb', xc'⟩ h
  simpa [E_SpringOk] using h
theorem F_SpringOk_elim {P : List V → List V → Prop} (h : ∀ (x : T3), P [.int .i64 x.a, .int .i64 x.b, .int .i64 x.c] [.bool (springOk x)]) : ∀ ds outs, F_SpringOk ds = some outs → P ds outs := by
  intro ds outs hh
  obtain ⟨x, rfl, -, rfl⟩ := mkF_inv hh
  exact h x
@[simp] theorem p_SpringOk {x_a : Int} {x_b : Int} {x_c : Int} {nr_ : Nat} {kk_ : V → Prop} : P1 (.call F_SpringOk 0 nr_) [.int .i64 x_a, .int .i64 x_b, .int .i64 x_c] kk_ ↔ kk_ (.bool (springOk (⟨x_a, x_b, x_c⟩ : T3))) :=
  P1_callF (by unfold F_SpringOk; exact mkF_eq F_SpringOk_inj ((⟨x_a, x_b, x_c⟩ : T3)) trivial)

def E_toSpring (x : T3) : List V := [.int .i64 x.a, .int .i64 x.b, .int .i64 x.c]
noncomputable def F_toSpring : List V → Option (List V) := mkF E_toSpring (fun _ => True) (fun x => [.int .i64 x.a, .int .i64 x.b, .int .i64 x.c])
theorem F_toSpring_inj : ∀ x y, E_toSpring x = E_toSpring y → x = y := by
  rintro ⟨xa, xb, xc⟩ ⟨xa', xb', xc'⟩ h
  simpa [E_toSpring] using h
theorem F_toSpring_elim {P : List V → List V → Prop} (h : ∀ (x : T3), P [.int .i64 x.a, .int .i64 x.b, .int .i64 x.c] [.int .i64 x.a, .int .i64 x.b, .int .i64 x.c]) : ∀ ds outs, F_toSpring ds = some outs → P ds outs := by
  intro ds outs hh
  obtain ⟨x, rfl, -, rfl⟩ := mkF_inv hh
  exact h x
@[simp] theorem p_toSpring {x_a : Int} {x_b : Int} {x_c : Int} {nr_ : Nat} {kk_ : V → V → V → Prop} : P3 (.call F_toSpring 0 nr_) [.int .i64 x_a, .int .i64 x_b, .int .i64 x_c] kk_ ↔ kk_ (.int .i64 ((⟨x_a, x_b, x_c⟩ : T3)).a) (.int .i64 ((⟨x_a, x_b, x_c⟩ : T3)).b) (.int .i64 ((⟨x_a, x_b, x_c⟩ : T3)).c) :=
  P3_callF (by unfold F_toSpring; exact mkF_eq F_toSpring_inj ((⟨x_a, x_b, x_c⟩ : T3)) trivial)

def E_eqSpring : T3 × T3 → List V := fun (x, y) => [.int .i64 x.a, .int .i64 x.b, .int .i64 x.c, .int .i64 y.a, .int .i64 y.b, .int .i64 y.c]
noncomputable def F_eqSpring : List V → Option (List V) := mkF E_eqSpring (fun (_, _) => True) (fun (x, y) => [.bool (decide (x = y))])
theorem F_eqSpring_inj : ∀ x y, E_eqSpring x = E_eqSpring y → x = y := by
  rintro ⟨⟨xa, xb, xc⟩, ⟨ya, yb, yc⟩⟩ ⟨⟨xa', xb', xc'⟩, ⟨ya', yb', yc'⟩⟩ h
  simpa [E_eqSpring, and_assoc] using h
theorem F_eqSpring_elim {P : List V → List V → Prop} (h : ∀ (x : T3) (y : T3), P [.int .i64 x.a, .int .i64 x.b, .int .i64 x.c, .int .i64 y.a, .int .i64 y.b, .int .i64 y.c] [.bool (decide (x = y))]) : ∀ ds outs, F_eqSpring ds = some outs → P ds outs := by
  intro ds outs hh
  obtain ⟨⟨x, y⟩, rfl, -, rfl⟩ := mkF_inv hh
  exact h x y
@[simp] theorem p_eqSpring {x_a : Int} {x_b : Int} {x_c : Int} {y_a : Int} {y_b : Int} {y_c : Int} {nr_ : Nat} {kk_ : V → Prop} : P1 (.call F_eqSpring 0 nr_) [.int .i64 x_a, .int .i64 x_b, .int .i64 x_c, .int .i64 y_a, .int .i64 y_b, .int .i64 y_c] kk_ ↔ kk_ (.bool (decide ((⟨x_a, x_b, x_c⟩ : T3) = (⟨y_a, y_b, y_c⟩ : T3)))) :=
  P1_callF (by unfold F_eqSpring; exact mkF_eq F_eqSpring_inj ((⟨x_a, x_b, x_c⟩ : T3), (⟨y_a, y_b, y_c⟩ : T3)) trivial)

def Shop.bench (w : Shop) : Bench := ⟨w.s, w.t, w.p, w.o⟩
def shopOk (w : Shop) : Bool := benchOk w.bench && (combOk w.c && (springOk ⟨w.u, w.m, w.f⟩ && (decide (w.t = w.c.length) && (within w.y 0 1000000 && within w.d 0 1000000))))
def E_WorkshopOk (x : Shop) : List V := [.int .i64 x.s, .int .i64 x.t, vL I2 v2 x.p, vL IL2 vLL2 x.o, vL I1 v1 x.c, .int .i64 x.u, .int .i64 x.m, .int .i64 x.f, .int .i64 x.y, .int .i64 x.d]
noncomputable def F_WorkshopOk : List V → Option (List V) := mkF E_WorkshopOk (fun x => x.p.length ≤ 1048576 ∧ fitLL x.o ∧ x.c.length ≤ 1048576) (fun x => [.bool (shopOk x)])
theorem F_WorkshopOk_inj : ∀ x y, E_WorkshopOk x = E_WorkshopOk y → x = y := by
  rintro ⟨xs, xt, xp, xo, xc, xu, xm, xf, xy, xd⟩ ⟨xs', xt', xp', xo', xc', xu', xm', xf', xy', xd'⟩ h
  simpa [E_WorkshopOk] using h
theorem F_WorkshopOk_elim {P : List V → List V → Prop} (h : ∀ (x : Shop), (x.p.length ≤ 1048576 ∧ fitLL x.o ∧ x.c.length ≤ 1048576) → P [.int .i64 x.s, .int .i64 x.t, vL I2 v2 x.p, vL IL2 vLL2 x.o, vL I1 v1 x.c, .int .i64 x.u, .int .i64 x.m, .int .i64 x.f, .int .i64 x.y, .int .i64 x.d] [.bool (shopOk x)]) : ∀ ds outs, F_WorkshopOk ds = some outs → P ds outs := by
  intro ds outs hh
  obtain ⟨x, rfl, hp, rfl⟩ := mkF_inv hh
  exact h x hp
theorem p_WorkshopOk {x_s : Int} {x_t : Int} {x_p : List T2} {x_o : List (List T2)} {x_c : List Int} {x_u : Int} {x_m : Int} {x_f : Int} {x_y : Int} {x_d : Int} {nr_ : Nat} {kk_ : V → Prop} (hp : (⟨x_s, x_t, x_p, x_o, x_c, x_u, x_m, x_f, x_y, x_d⟩ : Shop).p.length ≤ 1048576 ∧ fitLL (⟨x_s, x_t, x_p, x_o, x_c, x_u, x_m, x_f, x_y, x_d⟩ : Shop).o ∧ (⟨x_s, x_t, x_p, x_o, x_c, x_u, x_m, x_f, x_y, x_d⟩ : Shop).c.length ≤ 1048576) : P1 (.call F_WorkshopOk 0 nr_) [.int .i64 x_s, .int .i64 x_t, vL I2 v2 x_p, vL IL2 vLL2 x_o, vL I1 v1 x_c, .int .i64 x_u, .int .i64 x_m, .int .i64 x_f, .int .i64 x_y, .int .i64 x_d] kk_ ↔ kk_ (.bool (shopOk (⟨x_s, x_t, x_p, x_o, x_c, x_u, x_m, x_f, x_y, x_d⟩ : Shop))) :=
  P1_callF (by unfold F_WorkshopOk; exact mkF_eq F_WorkshopOk_inj ((⟨x_s, x_t, x_p, x_o, x_c, x_u, x_m, x_f, x_y, x_d⟩ : Shop)) hp)

def E_szWorkshop : Shop × Int → List V := fun (x, n) => [.int .i64 x.s, .int .i64 x.t, vL I2 v2 x.p, vL IL2 vLL2 x.o, vL I1 v1 x.c, .int .i64 x.u, .int .i64 x.m, .int .i64 x.f, .int .i64 x.y, .int .i64 x.d, .int .i64 n]
noncomputable def F_szWorkshop : List V → Option (List V) := mkF E_szWorkshop (fun (x, n) => x.p.length ≤ 9223372036854775807 ∧ x.o.length ≤ 9223372036854775807 ∧ (∀ y ∈ x.o, y.length ≤ 9223372036854775807) ∧ x.c.length ≤ 9223372036854775807 ∧ 0 ≤ n ∧ n ≤ 1048576) (fun (x, n) => [.int .i64 (if (x.p.length : Int) + tot2 x.o + x.c.length ≤ n then n - x.p.length - tot2 x.o - x.c.length else -1)])
theorem F_szWorkshop_inj : ∀ x y, E_szWorkshop x = E_szWorkshop y → x = y := by
  rintro ⟨⟨xs, xt, xp, xo, xc, xu, xm, xf, xy, xd⟩, n⟩ ⟨⟨xs', xt', xp', xo', xc', xu', xm', xf', xy', xd'⟩, n'⟩ h
  simpa [E_szWorkshop, and_assoc] using h
theorem F_szWorkshop_elim {P : List V → List V → Prop} (h : ∀ (x : Shop) (n : Int), (x.p.length ≤ 9223372036854775807 ∧ x.o.length ≤ 9223372036854775807 ∧ (∀ y ∈ x.o, y.length ≤ 9223372036854775807) ∧ x.c.length ≤ 9223372036854775807 ∧ 0 ≤ n ∧ n ≤ 1048576) → P [.int .i64 x.s, .int .i64 x.t, vL I2 v2 x.p, vL IL2 vLL2 x.o, vL I1 v1 x.c, .int .i64 x.u, .int .i64 x.m, .int .i64 x.f, .int .i64 x.y, .int .i64 x.d, .int .i64 n] [.int .i64 (if (x.p.length : Int) + tot2 x.o + x.c.length ≤ n then n - x.p.length - tot2 x.o - x.c.length else -1)]) : ∀ ds outs, F_szWorkshop ds = some outs → P ds outs := by
  intro ds outs hh
  obtain ⟨⟨x, n⟩, rfl, hp, rfl⟩ := mkF_inv hh
  exact h x n hp
theorem p_szWorkshop {x_s : Int} {x_t : Int} {x_p : List T2} {x_o : List (List T2)} {x_c : List Int} {x_u : Int} {x_m : Int} {x_f : Int} {x_y : Int} {x_d : Int} {n : Int} {nr_ : Nat} {kk_ : V → Prop} (hp : (⟨x_s, x_t, x_p, x_o, x_c, x_u, x_m, x_f, x_y, x_d⟩ : Shop).p.length ≤ 9223372036854775807 ∧ (⟨x_s, x_t, x_p, x_o, x_c, x_u, x_m, x_f, x_y, x_d⟩ : Shop).o.length ≤ 9223372036854775807 ∧ (∀ y ∈ (⟨x_s, x_t, x_p, x_o, x_c, x_u, x_m, x_f, x_y, x_d⟩ : Shop).o, y.length ≤ 9223372036854775807) ∧ (⟨x_s, x_t, x_p, x_o, x_c, x_u, x_m, x_f, x_y, x_d⟩ : Shop).c.length ≤ 9223372036854775807 ∧ 0 ≤ n ∧ n ≤ 1048576) : P1 (.call F_szWorkshop 0 nr_) [.int .i64 x_s, .int .i64 x_t, vL I2 v2 x_p, vL IL2 vLL2 x_o, vL I1 v1 x_c, .int .i64 x_u, .int .i64 x_m, .int .i64 x_f, .int .i64 x_y, .int .i64 x_d, .int .i64 n] kk_ ↔ kk_ (.int .i64 (if ((⟨x_s, x_t, x_p, x_o, x_c, x_u, x_m, x_f, x_y, x_d⟩ : Shop).p.length : Int) + tot2 (⟨x_s, x_t, x_p, x_o, x_c, x_u, x_m, x_f, x_y, x_d⟩ : Shop).o + (⟨x_s, x_t, x_p, x_o, x_c, x_u, x_m, x_f, x_y, x_d⟩ : Shop).c.length ≤ n then n - (⟨x_s, x_t, x_p, x_o, x_c, x_u, x_m, x_f, x_y, x_d⟩ : Shop).p.length - tot2 (⟨x_s, x_t, x_p, x_o, x_c, x_u, x_m, x_f, x_y, x_d⟩ : Shop).o - (⟨x_s, x_t, x_p, x_o, x_c, x_u, x_m, x_f, x_y, x_d⟩ : Shop).c.length else -1)) :=
  P1_callF (by unfold F_szWorkshop; exact mkF_eq F_szWorkshop_inj ((⟨x_s, x_t, x_p, x_o, x_c, x_u, x_m, x_f, x_y, x_d⟩ : Shop), n) hp)

def E_toWorkshop (x : Shop) : List V := [.int .i64 x.s, .int .i64 x.t, vL I2 v2 x.p, vL IL2 vLL2 x.o, vL I1 v1 x.c, .int .i64 x.u, .int .i64 x.m, .int .i64 x.f, .int .i64 x.y, .int .i64 x.d]
noncomputable def F_toWorkshop : List V → Option (List V) := mkF E_toWorkshop (fun x => x.p.length ≤ 1048576 ∧ fitLL x.o ∧ x.c.length ≤ 1048576) (fun x => [.int .i64 x.s, .int .i64 x.t, vL I2 v2 x.p, vL IL2 vLL2 x.o, vL I1 v1 x.c, .int .i64 x.u, .int .i64 x.m, .int .i64 x.f, .int .i64 x.y, .int .i64 x.d])
theorem F_toWorkshop_inj : ∀ x y, E_toWorkshop x = E_toWorkshop y → x = y := by
  rintro ⟨xs, xt, xp, xo, xc, xu, xm, xf, xy, xd⟩ ⟨xs', xt', xp', xo', xc', xu', xm', xf', xy', xd'⟩ h
  simpa [E_toWorkshop] using h
theorem F_toWorkshop_elim {P : List V → List V → Prop} (h : ∀ (x : Shop), (x.p.length ≤ 1048576 ∧ fitLL x.o ∧ x.c.length ≤ 1048576) → P [.int .i64 x.s, .int .i64 x.t, vL I2 v2 x.p, vL IL2 vLL2 x.o, vL I1 v1 x.c, .int .i64 x.u, .int .i64 x.m, .int .i64 x.f, .int .i64 x.y, .int .i64 x.d] [.int .i64 x.s, .int .i64 x.t, vL I2 v2 x.p, vL IL2 vLL2 x.o, vL I1 v1 x.c, .int .i64 x.u, .int .i64 x.m, .int .i64 x.f, .int .i64 x.y, .int .i64 x.d]) : ∀ ds outs, F_toWorkshop ds = some outs → P ds outs := by
  intro ds outs hh
  obtain ⟨x, rfl, hp, rfl⟩ := mkF_inv hh
  exact h x hp
theorem p_toWorkshop {x_s : Int} {x_t : Int} {x_p : List T2} {x_o : List (List T2)} {x_c : List Int} {x_u : Int} {x_m : Int} {x_f : Int} {x_y : Int} {x_d : Int} {nr_ : Nat} {kk_ : V → V → V → V → V → V → V → V → V → V → Prop} (hp : (⟨x_s, x_t, x_p, x_o, x_c, x_u, x_m, x_f, x_y, x_d⟩ : Shop).p.length ≤ 1048576 ∧ fitLL (⟨x_s, x_t, x_p, x_o, x_c, x_u, x_m, x_f, x_y, x_d⟩ : Shop).o ∧ (⟨x_s, x_t, x_p, x_o, x_c, x_u, x_m, x_f, x_y, x_d⟩ : Shop).c.length ≤ 1048576) : P10 (.call F_toWorkshop 0 nr_) [.int .i64 x_s, .int .i64 x_t, vL I2 v2 x_p, vL IL2 vLL2 x_o, vL I1 v1 x_c, .int .i64 x_u, .int .i64 x_m, .int .i64 x_f, .int .i64 x_y, .int .i64 x_d] kk_ ↔ kk_ (.int .i64 ((⟨x_s, x_t, x_p, x_o, x_c, x_u, x_m, x_f, x_y, x_d⟩ : Shop)).s) (.int .i64 ((⟨x_s, x_t, x_p, x_o, x_c, x_u, x_m, x_f, x_y, x_d⟩ : Shop)).t) (vL I2 v2 ((⟨x_s, x_t, x_p, x_o, x_c, x_u, x_m, x_f, x_y, x_d⟩ : Shop)).p) (vL IL2 vLL2 ((⟨x_s, x_t, x_p, x_o, x_c, x_u, x_m, x_f, x_y, x_d⟩ : Shop)).o) (vL I1 v1 ((⟨x_s, x_t, x_p, x_o, x_c, x_u, x_m, x_f, x_y, x_d⟩ : Shop)).c) (.int .i64 ((⟨x_s, x_t, x_p, x_o, x_c, x_u, x_m, x_f, x_y, x_d⟩ : Shop)).u) (.int .i64 ((⟨x_s, x_t, x_p, x_o, x_c, x_u, x_m, x_f, x_y, x_d⟩ : Shop)).m) (.int .i64 ((⟨x_s, x_t, x_p, x_o, x_c, x_u, x_m, x_f, x_y, x_d⟩ : Shop)).f) (.int .i64 ((⟨x_s, x_t, x_p, x_o, x_c, x_u, x_m, x_f, x_y, x_d⟩ : Shop)).y) (.int .i64 ((⟨x_s, x_t, x_p, x_o, x_c, x_u, x_m, x_f, x_y, x_d⟩ : Shop)).d) :=
  P10_callF (by unfold F_toWorkshop; exact mkF_eq F_toWorkshop_inj ((⟨x_s, x_t, x_p, x_o, x_c, x_u, x_m, x_f, x_y, x_d⟩ : Shop)) hp)

def E_eqWorkshop : Shop × Shop → List V := fun (x, y) => [.int .i64 x.s, .int .i64 x.t, vL I2 v2 x.p, vL IL2 vLL2 x.o, vL I1 v1 x.c, .int .i64 x.u, .int .i64 x.m, .int .i64 x.f, .int .i64 x.y, .int .i64 x.d, .int .i64 y.s, .int .i64 y.t, vL I2 v2 y.p, vL IL2 vLL2 y.o, vL I1 v1 y.c, .int .i64 y.u, .int .i64 y.m, .int .i64 y.f, .int .i64 y.y, .int .i64 y.d]
noncomputable def F_eqWorkshop : List V → Option (List V) := mkF E_eqWorkshop (fun (x, y) => x.p.length ≤ 1048576 ∧ fitLL x.o ∧ x.c.length ≤ 1048576 ∧ y.p.length ≤ 1048576 ∧ fitLL y.o ∧ y.c.length ≤ 1048576) (fun (x, y) => [.bool (decide (x = y))])
theorem F_eqWorkshop_inj : ∀ x y, E_eqWorkshop x = E_eqWorkshop y → x = y := by
  rintro ⟨⟨xs, xt, xp, xo, xc, xu, xm, xf, xy, xd⟩, ⟨ys, yt, yp, yo, yc, yu, ym, yf, yy, yd⟩⟩ ⟨⟨xs', xt', xp', xo', xc', xu', xm', xf', xy', xd'⟩, ⟨ys', yt', yp', yo', yc', yu', ym', yf', yy', yd'⟩⟩ h
  simpa [E_eqWorkshop, and_assoc] using h
theorem F_eqWorkshop_elim {P : List V → List V → Prop} (h : ∀ (x : Shop) (y : Shop), (x.p.length ≤ 1048576 ∧ fitLL x.o ∧ x.c.length ≤ 1048576 ∧ y.p.length ≤ 1048576 ∧ fitLL y.o ∧ y.c.length ≤ 1048576) → P [.int .i64 x.s, .int .i64 x.t, vL I2 v2 x.p, vL IL2 vLL2 x.o, vL I1 v1 x.c, .int .i64 x.u, .int .i64 x.m, .int .i64 x.f, .int .i64 x.y, .int .i64 x.d, .int .i64 y.s, .int .i64 y.t, vL I2 v2 y.p, vL IL2 vLL2 y.o, vL I1 v1 y.c, .int .i64 y.u, .int .i64 y.m, .int .i64 y.f, .int .i64 y.y, .int .i64 y.d] [.bool (decide (x = y))]) : ∀ ds outs, F_eqWorkshop ds = some outs → P ds outs := by
  intro ds outs hh
  obtain ⟨⟨x, y⟩, rfl, hp, rfl⟩ := mkF_inv hh
  exact h x y hp
theorem p_eqWorkshop {x_s : Int} {x_t : Int} {x_p : List T2} {x_o : List (List T2)} {x_c : List Int} {x_u : Int} {x_m : Int} {x_f : Int} {x_y : Int} {x_d : Int} {y_s : Int} {y_t : Int} {y_p : List T2} {y_o : List (List T2)} {y_c : List Int} {y_u : Int} {y_m : Int} {y_f : Int} {y_y : Int} {y_d : Int} {nr_ : Nat} {kk_ : V → Prop} (hp : (⟨x_s, x_t, x_p, x_o, x_c, x_u, x_m, x_f, x_y, x_d⟩ : Shop).p.length ≤ 1048576 ∧ fitLL (⟨x_s, x_t, x_p, x_o, x_c, x_u, x_m, x_f, x_y, x_d⟩ : Shop).o ∧ (⟨x_s, x_t, x_p, x_o, x_c, x_u, x_m, x_f, x_y, x_d⟩ : Shop).c.length ≤ 1048576 ∧ (⟨y_s, y_t, y_p, y_o, y_c, y_u, y_m, y_f, y_y, y_d⟩ : Shop).p.length ≤ 1048576 ∧ fitLL (⟨y_s, y_t, y_p, y_o, y_c, y_u, y_m, y_f, y_y, y_d⟩ : Shop).o ∧ (⟨y_s, y_t, y_p, y_o, y_c, y_u, y_m, y_f, y_y, y_d⟩ : Shop).c.length ≤ 1048576) : P1 (.call F_eqWorkshop 0 nr_) [.int .i64 x_s, .int .i64 x_t, vL I2 v2 x_p, vL IL2 vLL2 x_o, vL I1 v1 x_c, .int .i64 x_u, .int .i64 x_m, .int .i64 x_f, .int .i64 x_y, .int .i64 x_d, .int .i64 y_s, .int .i64 y_t, vL I2 v2 y_p, vL IL2 vLL2 y_o, vL I1 v1 y_c, .int .i64 y_u, .int .i64 y_m, .int .i64 y_f, .int .i64 y_y, .int .i64 y_d] kk_ ↔ kk_ (.bool (decide ((⟨x_s, x_t, x_p, x_o, x_c, x_u, x_m, x_f, x_y, x_d⟩ : Shop) = (⟨y_s, y_t, y_p, y_o, y_c, y_u, y_m, y_f, y_y, y_d⟩ : Shop)))) :=
  P1_callF (by unfold F_eqWorkshop; exact mkF_eq F_eqWorkshop_inj ((⟨x_s, x_t, x_p, x_o, x_c, x_u, x_m, x_f, x_y, x_d⟩ : Shop), (⟨y_s, y_t, y_p, y_o, y_c, y_u, y_m, y_f, y_y, y_d⟩ : Shop)) hp)

def E_markWorkshop : Shop × Int → List V := fun (x, k) => [.int .i64 x.s, .int .i64 x.t, vL I2 v2 x.p, vL IL2 vLL2 x.o, vL I1 v1 x.c, .int .i64 x.u, .int .i64 x.m, .int .i64 x.f, .int .i64 x.y, .int .i64 x.d, .int .i64 k]
noncomputable def F_markWorkshop : List V → Option (List V) := mkF E_markWorkshop (fun (x, k) => x.p.length ≤ 1048576 ∧ fitLL x.o ∧ x.c.length ≤ 1048576 ∧ 0 ≤ k ∧ k + 2 * x.p.length + 2 * sum2 x.o ≤ 1099511627776) (fun (x, k) => [.int .i64 (k + 2 * x.p.length + 2 * sum2 x.o + x.c.length), vL I2 v2 (markL2 x.p.length k), vL IL2 vLL2 (markLL2 x.o (k + 2 * x.p.length)), vL I1 v1 (markL1 x.c.length (k + 2 * x.p.length + 2 * sum2 x.o))])
theorem F_markWorkshop_inj : ∀ x y, E_markWorkshop x = E_markWorkshop y → x = y := by
  rintro ⟨⟨xs, xt, xp, xo, xc, xu, xm, xf, xy, xd⟩, k⟩ ⟨⟨xs', xt', xp', xo', xc', xu', xm', xf', xy', xd'⟩, k'⟩ h
  simpa [E_markWorkshop, and_assoc] using h
theorem F_markWorkshop_elim {P : List V → List V → Prop} (h : ∀ (x : Shop) (k : Int), (x.p.length ≤ 1048576 ∧ fitLL x.o ∧ x.c.length ≤ 1048576 ∧ 0 ≤ k ∧ k + 2 * x.p.length + 2 * sum2 x.o ≤ 1099511627776) → P [.int .i64 x.s, .int .i64 x.t, vL I2 v2 x.p, vL IL2 vLL2 x.o, vL I1 v1 x.c, .int .i64 x.u, .int .i64 x.m, .int .i64 x.f, .int .i64 x.y, .int .i64 x.d, .int .i64 k] [.int .i64 (k + 2 * x.p.length + 2 * sum2 x.o + x.c.length), vL I2 v2 (markL2 x.p.length k), vL IL2 vLL2 (markLL2 x.o (k + 2 * x.p.length)), vL I1 v1 (markL1 x.c.length (k + 2 * x.p.length + 2 * sum2 x.o))]) : ∀ ds outs, F_markWorkshop ds = some outs → P ds outs := by
  intro ds outs hh
  obtain ⟨⟨x, k⟩, rfl, hp, rfl⟩ := mkF_inv hh
  exact h x k hp
theorem p_markWorkshop {x_s : Int} {x_t : Int} {x_p : List T2} {x_o : List (List T2)} {x_c : List Int} {x_u : Int} {x_m : Int} {x_f : Int} {x_y : Int} {x_d : Int} {k : Int} {kk_ : V → V → V → V → Prop} (hp : (⟨x_s, x_t, x_p, x_o, x_c, x_u, x_m, x_f, x_y, x_d⟩ : Shop).p.length ≤ 1048576 ∧ fitLL (⟨x_s, x_t, x_p, x_o, x_c, x_u, x_m, x_f, x_y, x_d⟩ : Shop).o ∧ (⟨x_s, x_t, x_p, x_o, x_c, x_u, x_m, x_f, x_y, x_d⟩ : Shop).c.length ≤ 1048576 ∧ 0 ≤ k ∧ k + 2 * (⟨x_s, x_t, x_p, x_o, x_c, x_u, x_m, x_f, x_y, x_d⟩ : Shop).p.length + 2 * sum2 (⟨x_s, x_t, x_p, x_o, x_c, x_u, x_m, x_f, x_y, x_d⟩ : Shop).o ≤ 1099511627776) : P4 (.callN F_markWorkshop 3 1) [.int .i64 x_s, .int .i64 x_t, vL I2 v2 x_p, vL IL2 vLL2 x_o, vL I1 v1 x_c, .int .i64 x_u, .int .i64 x_m, .int .i64 x_f, .int .i64 x_y, .int .i64 x_d, .int .i64 k, vL I2 v2 x_p, vL IL2 vLL2 x_o, vL I1 v1 x_c] kk_ ↔ kk_ (.int .i64 (k + 2 * (⟨x_s, x_t, x_p, x_o, x_c, x_u, x_m, x_f, x_y, x_d⟩ : Shop).p.length + 2 * sum2 (⟨x_s, x_t, x_p, x_o, x_c, x_u, x_m, x_f, x_y, x_d⟩ : Shop).o + (⟨x_s, x_t, x_p, x_o, x_c, x_u, x_m, x_f, x_y, x_d⟩ : Shop).c.length)) (vL I2 v2 (markL2 (⟨x_s, x_t, x_p, x_o, x_c, x_u, x_m, x_f, x_y, x_d⟩ : Shop).p.length k)) (vL IL2 vLL2 (markLL2 (⟨x_s, x_t, x_p, x_o, x_c, x_u, x_m, x_f, x_y, x_d⟩ : Shop).o (k + 2 * (⟨x_s, x_t, x_p, x_o, x_c, x_u, x_m, x_f, x_y, x_d⟩ : Shop).p.length))) (vL I1 v1 (markL1 (⟨x_s, x_t, x_p, x_o, x_c, x_u, x_m, x_f, x_y, x_d⟩ : Shop).c.length (k + 2 * (⟨x_s, x_t, x_p, x_o, x_c, x_u, x_m, x_f, x_y, x_d⟩ : Shop).p.length + 2 * sum2 (⟨x_s, x_t, x_p, x_o, x_c, x_u, x_m, x_f, x_y, x_d⟩ : Shop).o))) :=
  P4_of (callNIo_run (as := [.int .i64 x_s, .int .i64 x_t, vL I2 v2 x_p, vL IL2 vLL2 x_o, vL I1 v1 x_c, .int .i64 x_u, .int .i64 x_m, .int .i64 x_f, .int .i64 x_y, .int .i64 x_d, .int .i64 k]) (rs := [vL I2 v2 x_p, vL IL2 vLL2 x_o, vL I1 v1 x_c]) (n := 3) (nr := 1) rfl (by unfold F_markWorkshop; exact mkF_eq F_markWorkshop_inj ((⟨x_s, x_t, x_p, x_o, x_c, x_u, x_m, x_f, x_y, x_d⟩ : Shop), k) hp) (by simp [ksAll, vL, AK.eqs_refl]))

end Go.Mw

namespace Go.Mw
noncomputable section
def laws_szPinSS_b0 : L := .seq (.seq (.seq (.rg [zl 0, zb .lss 2 3]) (.ite (.v 4) (.skip) (.seq (zt [1]) (.exit 0)))) (.seq (.block 1 (.seq (.seq (.rg [⟨[], .idx [.sl [.sc, .sc]], [.v 0, .v 2], 1⟩, zc F_szPinS 1 [5, 1]]) (.seq (.rg [zk .lss 6 0]) (.ite (.v 7) (.seq (.rg []) (.ret [.k (.int .i64 (-1))])) (.skip)))) (zt [0, 6, 2]))) (.rg [zk .add 2 1]))) (zt [0, 1, 3])
theorem laws_szPinSS_b0_sh (Q : QT) (x0 x1 x2 : V) : shL laws_szPinSS_b0 Q [x0, x1, x2] = (
  P1 (.len) [x0] fun v0 =>
  P1 (.bin .lss) [x2, v0] fun v1 =>
  ifB v1 (
    P1 (.idx [.sl [.sc, .sc]]) [x0, x2] fun v2 =>
    P1 (.call F_szPinS 0 1) [v2, x1] fun v3 =>
    P1 (.bin .lss) [v3, .int .i64 0] fun v4 =>
    ifB v4 (
      Q .ret [.int .i64 (-1)]) (
      P1 (.bin .add) [x2, .int .i64 1] fun v5 =>
      Q .normal [x0, v3, v5])) (
    Q (.exit 0) [x1])) := by kernel_rfl

def laws_szPinSS_r1 : L := .seq (.rg []) (.ret [.v 0])
theorem laws_szPinSS_r1_sh (Q : QT) (x0 : V) : shL laws_szPinSS_r1 Q [x0] = (
  Q .ret [x0]) := by kernel_rfl

def laws_szPinSS_L : L := .seq (.rg []) (.seq (.rg [zl 0, zb .sub 1 2]) (.seq (.seq (.rg [zk .lss 3 0]) (.ite (.v 4) (.seq (.rg []) (.ret [.k (.int .i64 (-1))])) (.skip))) (.seq (.seq (.rg []) (.block 0 (.seq (.tup [.v 0, .v 3, .k (.int .i64 0)]) (.loop (laws_szPinSS_b0))))) (laws_szPinSS_r1))))
theorem laws_szPinSS_L_sh (Q : QT) (x0 x1 : V) : shL laws_szPinSS_L Q [x0, x1] = (
  P1 (.len) [x0] fun v0 =>
  P1 (.bin .sub) [x1, v0] fun v1 =>
  P1 (.bin .lss) [v1, .int .i64 0] fun v2 =>
  ifB v2 (
    Q .ret [.int .i64 (-1)]) (
    shL (.loop laws_szPinSS_b0) (qB 0 (qS (shL laws_szPinSS_r1 Q) Q)) [x0, v1, .int .i64 0])) := by kernel_rfl
def laws_szPinSS_S : Sig := ⟨[.val false [.sl [.sl [.sc, .sc]]], .val false [.sc]], [(false, [.sc])], F_szPinSS⟩
def laws_szPinSS_hs : List NF := [⟨[(1, zs)], [], [], 64⟩, ⟨[(0, .sc false [.ro [.sl [.sc, .sc]]]), (1, zs), (5, zs)], [], [], 64⟩, ⟨[(0, .sc false [.ro [.sl [.sc, .sc]]]), (1, zs), (5, zs)], [], [], 64⟩]

def laws_szBench_L : L := .seq (.rg []) (.seq (.rg [zc F_szCylinder 1 [0, 1, 2, 4]]) (.seq (.seq (.rg [zk .lss 5 0]) (.ite (.v 6) (.seq (.rg []) (.ret [.k (.int .i64 (-1))])) (.skip))) (.seq (.rg [zc F_szPinSS 1 [3, 5]]) (.seq (.seq (.rg [zk .lss 7 0]) (.ite (.v 8) (.seq (.rg []) (.ret [.k (.int .i64 (-1))])) (.skip))) (.seq (.rg []) (.ret [.v 7]))))))
theorem laws_szBench_L_sh (Q : QT) (x0 x1 x2 x3 x4 : V) : shL laws_szBench_L Q [x0, x1, x2, x3, x4] = (
  P1 (.call F_szCylinder 0 1) [x0, x1, x2, x4] fun v0 =>
  P1 (.bin .lss) [v0, .int .i64 0] fun v1 =>
  ifB v1 (
    Q .ret [.int .i64 (-1)]) (
    P1 (.call F_szPinSS 0 1) [x3, v0] fun v2 =>
    P1 (.bin .lss) [v2, .int .i64 0] fun v3 =>
    ifB v3 (
      Q .ret [.int .i64 (-1)]) (
      Q .ret [v2]))) := by kernel_rfl
def laws_szBench_S : Sig := ⟨[.val true [.sc, .sc, .sl [.sc, .sc], .sl [.sl [.sc, .sc]]], .val false [.sc]], [(false, [.sc])], F_szBench⟩
def laws_szBench_hs : List NF := []

def laws_toPinSS_b0 : L := .seq (.seq (.seq (.rg [zl 0, zb .lss 1 3]) (.ite (.v 4) (.skip) (.seq (zt [2]) (.exit 0)))) (.seq (.block 1 (.seq (.rg [⟨[], .idx [.sl [.sc, .sc]], [.v 0, .v 1], 1⟩, zc F_toPinS 1 [5], ⟨[], .idx [.sl [.sc, .sc]], [.v 2, .v 1], 1⟩, ⟨[], .set [.sl [.sc, .sc]] 0, [.v 2, .v 1, .v 6], 1⟩]) (zt [0, 1, 8]))) (.rg [zk .add 1 1]))) (zt [0, 3, 2])
theorem laws_toPinSS_b0_sh (Q : QT) (x0 x1 x2 : V) : shL laws_toPinSS_b0 Q [x0, x1, x2] = (
  P1 (.len) [x0] fun v0 =>
  P1 (.bin .lss) [x1, v0] fun v1 =>
  ifB v1 (
    P1 (.idx [.sl [.sc, .sc]]) [x0, x1] fun v2 =>
    P1 (.call F_toPinS 0 1) [v2] fun v3 =>
    P1 (.idx [.sl [.sc, .sc]]) [x2, x1] fun _ =>
    P1 (.set [.sl [.sc, .sc]] 0) [x2, x1, v3] fun v5 =>
    P1 (.bin .add) [x1, .int .i64 1] fun v6 =>
    Q .normal [x0, v6, v5]) (
    Q (.exit 0) [x2])) := by kernel_rfl

def laws_toPinSS_r1 : L := .seq (.rg []) (.ret [.v 0])
theorem laws_toPinSS_r1_sh (Q : QT) (x0 : V) : shL laws_toPinSS_r1 Q [x0] = (
  Q .ret [x0]) := by kernel_rfl

def laws_toPinSS_L : L := .seq (.rg []) (.seq (.rg [zl 0, ⟨[], .mk [.sl [.sc, .sc]] (.list [.sc, .sc] []) 24, [.v 1, .v 1], 1⟩]) (.seq (.seq (.rg []) (.block 0 (.seq (.tup [.v 0, .k (.int .i64 0), .v 2]) (.loop (laws_toPinSS_b0))))) (laws_toPinSS_r1)))
theorem laws_toPinSS_L_sh (Q : QT) (x0 : V) : shL laws_toPinSS_L Q [x0] = (
  P1 (.len) [x0] fun v0 =>
  P1 (.mk [.sl [.sc, .sc]] (.list [.sc, .sc] []) 24) [v0, v0] fun v1 =>
  shL (.loop laws_toPinSS_b0) (qB 0 (qS (shL laws_toPinSS_r1 Q) Q)) [x0, .int .i64 0, v1]) := by kernel_rfl
def laws_toPinSS_S : Sig := ⟨[.val false [.sl [.sl [.sc, .sc]]]], [(false, [.sl [.sl [.sc, .sc]]])], F_toPinSS⟩
def laws_toPinSS_hs : List NF := [⟨[(3, zo 64)], [(64, true, [.sl [.sc, .sc]])], [], 65⟩, ⟨[(0, .sc false [.ro [.sl [.sc, .sc]]]), (3, zo 64), (4, zs)], [(64, true, [.sl [.sc, .sc]])], [], 65⟩, ⟨[(0, .sc false [.ro [.sl [.sc, .sc]]]), (3, zo 64), (4, zs)], [(64, true, [.sl [.sc, .sc]])], [], 65⟩]

def laws_toBench_L : L := .seq (.rg []) (.seq (.rg []) (.seq (.rg [zc F_toCylinder 3 [0, 1, 2]]) (.seq (.rg [zc F_toPinSS 1 [3]]) (.seq (.rg []) (.ret [.v 4, .v 5, .v 6, .v 7])))))
theorem laws_toBench_L_sh (Q : QT) (x0 x1 x2 x3 : V) : shL laws_toBench_L Q [x0, x1, x2, x3] = (
  P3 (.call F_toCylinder 0 3) [x0, x1, x2] fun v0 v1 v2 =>
  P1 (.call F_toPinSS 0 1) [x3] fun v3 =>
  Q .ret [v0, v1, v2, v3]) := by kernel_rfl
def laws_toBench_S : Sig := ⟨[.val true [.sc, .sc, .sl [.sc, .sc], .sl [.sl [.sc, .sc]]]], [(true, [.sc, .sc, .sl [.sc, .sc], .sl [.sl [.sc, .sc]]])], F_toBench⟩
def laws_toBench_hs : List NF := []

def spec_BenchOk_b0 : L := .seq (.seq (.seq (.rg [zl 4, zb .lss 0 5]) (.ite (.v 6) (.skip) (.seq (zt [1, 2, 3, 4]) (.exit 0)))) (.seq (.block 1 (.seq (.seq (.rg [⟨[], .idx [.sl [.sc, .sc]], [.v 4, .v 0], 1⟩, zc F_CylinderOk 1 [1, 2, 7], zn 8]) (.ite (.v 9) (.seq (.rg []) (.ret [.k (.bool false)])) (.skip))) (zt [0, 1, 2, 3, 4]))) (.rg [zk .add 0 1]))) (zt [5, 1, 2, 3, 4])
theorem spec_BenchOk_b0_sh (Q : QT) (x0 x1 x2 x3 x4 : V) : shL spec_BenchOk_b0 Q [x0, x1, x2, x3, x4] = (
  P1 (.len) [x4] fun v0 =>
  P1 (.bin .lss) [x0, v0] fun v1 =>
  ifB v1 (
    P1 (.idx [.sl [.sc, .sc]]) [x4, x0] fun v2 =>
    P1 (.call F_CylinderOk 0 1) [x1, x2, v2] fun v3 =>
    P1 (.un .not) [v3] fun v4 =>
    ifB v4 (
      Q .ret [.bool false]) (
      P1 (.bin .add) [x0, .int .i64 1] fun v5 =>
      Q .normal [v5, x1, x2, x3, x4])) (
    Q (.exit 0) [x1, x2, x3, x4])) := by kernel_rfl

def spec_BenchOk_r1 : L := .seq (.rg [zc F_CylinderOk 1 [0, 1, 2], ⟨[(.v 4, true)], .len, [.v 3], 1⟩, ⟨[(.v 4, true)], .bin .leq, [.v 5, .k (.int .i64 30)], 1⟩, ⟨[], .pick, [.v 4, .v 6, .k (.bool false)], 1⟩]) (.ret [.v 7])
theorem spec_BenchOk_r1_sh (Q : QT) (x0 x1 x2 x3 : V) : shL spec_BenchOk_r1 Q [x0, x1, x2, x3] = (
  P1 (.call F_CylinderOk 0 1) [x0, x1, x2] fun v0 =>
  ifB v0 (
    P1 (.len) [x3] fun v1 =>
    P1 (.bin .leq) [v1, .int .i64 30] fun v2 =>
    Q .ret [v2]) (
    Q .ret [.bool false])) := by kernel_rfl

def spec_BenchOk_L : L := .seq (.rg []) (.seq (.seq (.rg []) (.block 0 (.seq (.tup [.k (.int .i64 0), .v 0, .v 1, .v 2, .v 3]) (.loop (spec_BenchOk_b0))))) (spec_BenchOk_r1))
theorem spec_BenchOk_L_sh (Q : QT) (x0 x1 x2 x3 : V) : shL spec_BenchOk_L Q [x0, x1, x2, x3] = (
  shL (.loop spec_BenchOk_b0) (qB 0 (qS (shL spec_BenchOk_r1 Q) Q)) [.int .i64 0, x0, x1, x2, x3]) := by kernel_rfl
def spec_BenchOk_S : Sig := ⟨[.val true [.sc, .sc, .sl [.sc, .sc], .sl [.sl [.sc, .sc]]]], [(false, [.sc])], F_BenchOk⟩
def spec_BenchOk_hs : List NF := [⟨[(1, .ptr 64 0)], [], [(64, [.sc, .sc, .ro [.sc, .sc], .ro [.sl [.sc, .sc]]])], 65⟩, ⟨[(1, .ptr 64 0), (3, zs)], [], [(64, [.sc, .sc, .ro [.sc, .sc], .ro [.sl [.sc, .sc]]])], 65⟩, ⟨[(1, .ptr 64 0), (3, zs)], [], [(64, [.sc, .sc, .ro [.sc, .sc], .ro [.sl [.sc, .sc]]])], 65⟩]

def impl_BenchOk_b0 : L := .seq (.seq (.rg [zb .lss 2 1]) (.seq (.ite (.v 7) (.skip) (.seq (.tup []) (.exit 0))) (.seq (.block 1 (.seq (.seq (.rg [⟨[], .idx [.sl [.sc, .sc]], [.v 0, .v 2], 1⟩]) (.seq (.rg [zc F_CylinderOk 1 [3, 4, 8], zn 9]) (.ite (.v 10) (.seq (.rg []) (.ret [.k (.bool false)])) (.skip)))) (zt [0, 1, 2, 3, 4, 5, 6]))) (.rg [zk .add 2 1])))) (zt [0, 1, 7, 3, 4, 5, 6])
theorem impl_BenchOk_b0_sh (Q : QT) (x0 x1 x2 x3 x4 x5 x6 : V) : shL impl_BenchOk_b0 Q [x0, x1, x2, x3, x4, x5, x6] = (
  P1 (.bin .lss) [x2, x1] fun v0 =>
  ifB v0 (
    P1 (.idx [.sl [.sc, .sc]]) [x0, x2] fun v1 =>
    P1 (.call F_CylinderOk 0 1) [x3, x4, v1] fun v2 =>
    P1 (.un .not) [v2] fun v3 =>
    ifB v3 (
      Q .ret [.bool false]) (
      P1 (.bin .add) [x2, .int .i64 1] fun v4 =>
      Q .normal [x0, x1, v4, x3, x4, x5, x6])) (
    Q (.exit 0) [])) := by kernel_rfl

def impl_BenchOk_r1 : L := .seq (.rg []) (.ret [.k (.bool true)])
theorem impl_BenchOk_r1_sh (Q : QT) : shL impl_BenchOk_r1 Q [] = (
  Q .ret [.bool true]) := by kernel_rfl

def impl_BenchOk_L : L := .seq (.rg []) (.seq (.seq (.rg [zc F_CylinderOk 1 [0, 1, 2], zn 4, ⟨[(.v 5, false)], .len, [.v 3], 1⟩, ⟨[(.v 5, false)], .bin .gtr, [.v 6, .k (.int .i64 30)], 1⟩, ⟨[], .pick, [.v 5, .k (.bool true), .v 7], 1⟩]) (.ite (.v 8) (.seq (.rg []) (.ret [.k (.bool false)])) (.skip))) (.seq (.seq (.rg [zl 3]) (.block 0 (.seq (.tup [.v 3, .v 9, .k (.int .i64 0), .v 0, .v 1, .v 2, .v 3]) (.loop (impl_BenchOk_b0))))) (impl_BenchOk_r1)))
theorem impl_BenchOk_L_sh (Q : QT) (x0 x1 x2 x3 : V) : shL impl_BenchOk_L Q [x0, x1, x2, x3] = (
  P1 (.call F_CylinderOk 0 1) [x0, x1, x2] fun v0 =>
  P1 (.un .not) [v0] fun v1 =>
  ifB v1 (
    Q .ret [.bool false]) (
    P1 (.len) [x3] fun v2 =>
    P1 (.bin .gtr) [v2, .int .i64 30] fun v3 =>
    ifB v3 (
      Q .ret [.bool false]) (
      P1 (.len) [x3] fun v4 =>
      shL (.loop impl_BenchOk_b0) (qB 0 (qS (shL impl_BenchOk_r1 Q) Q)) [x3, v4, .int .i64 0, x0, x1, x2, x3]))) := by kernel_rfl
def impl_BenchOk_S : Sig := ⟨[.val true [.sc, .sc, .sl [.sc, .sc], .sl [.sl [.sc, .sc]]]], [(false, [.sc])], F_BenchOk⟩
def impl_BenchOk_hs : List NF := [⟨[], [], [], 64⟩, ⟨[(1, .ptr 64 0), (16, .sc false [.ro [.sl [.sc, .sc]]]), (17, zs), (18, zs)], [], [(64, [.sc, .sc, .ro [.sc, .sc], .ro [.sl [.sc, .sc]]])], 65⟩, ⟨[(1, .ptr 64 0), (16, .sc false [.ro [.sl [.sc, .sc]]]), (17, zs), (18, zs)], [], [(64, [.sc, .sc, .ro [.sc, .sc], .ro [.sl [.sc, .sc]]])], 65⟩]

def laws_eqPinSS_b0 : L := .seq (.seq (.seq (.rg [zl 0, zb .lss 2 3]) (.ite (.v 4) (.skip) (.seq (.tup []) (.exit 0)))) (.seq (.block 1 (.seq (.seq (.rg [⟨[], .idx [.sl [.sc, .sc]], [.v 0, .v 2], 1⟩, ⟨[], .idx [.sl [.sc, .sc]], [.v 1, .v 2], 1⟩, zc F_eqPinS 1 [5, 6], zn 7]) (.ite (.v 8) (.seq (.rg []) (.ret [.k (.bool false)])) (.skip))) (zt [0, 1, 2]))) (.rg [zk .add 2 1]))) (zt [0, 1, 3])
theorem laws_eqPinSS_b0_sh (Q : QT) (x0 x1 x2 : V) : shL laws_eqPinSS_b0 Q [x0, x1, x2] = (
  P1 (.len) [x0] fun v0 =>
  P1 (.bin .lss) [x2, v0] fun v1 =>
  ifB v1 (
    P1 (.idx [.sl [.sc, .sc]]) [x0, x2] fun v2 =>
    P1 (.idx [.sl [.sc, .sc]]) [x1, x2] fun v3 =>
    P1 (.call F_eqPinS 0 1) [v2, v3] fun v4 =>
    P1 (.un .not) [v4] fun v5 =>
    ifB v5 (
      Q .ret [.bool false]) (
      P1 (.bin .add) [x2, .int .i64 1] fun v6 =>
      Q .normal [x0, x1, v6])) (
    Q (.exit 0) [])) := by kernel_rfl

def laws_eqPinSS_r1 : L := .seq (.rg []) (.ret [.k (.bool true)])
theorem laws_eqPinSS_r1_sh (Q : QT) : shL laws_eqPinSS_r1 Q [] = (
  Q .ret [.bool true]) := by kernel_rfl

def laws_eqPinSS_L : L := .seq (.rg []) (.seq (.seq (.rg [zl 0, zl 1, zb .neq 2 3]) (.ite (.v 4) (.seq (.rg []) (.ret [.k (.bool false)])) (.skip))) (.seq (.seq (.rg []) (.block 0 (.seq (.tup [.v 0, .v 1, .k (.int .i64 0)]) (.loop (laws_eqPinSS_b0))))) (laws_eqPinSS_r1)))
theorem laws_eqPinSS_L_sh (Q : QT) (x0 x1 : V) : shL laws_eqPinSS_L Q [x0, x1] = (
  P1 (.len) [x0] fun v0 =>
  P1 (.len) [x1] fun v1 =>
  P1 (.bin .neq) [v0, v1] fun v2 =>
  ifB v2 (
    Q .ret [.bool false]) (
    shL (.loop laws_eqPinSS_b0) (qB 0 (qS (shL laws_eqPinSS_r1 Q) Q)) [x0, x1, .int .i64 0])) := by kernel_rfl
def laws_eqPinSS_S : Sig := ⟨[.val false [.sl [.sl [.sc, .sc]]], .val false [.sl [.sl [.sc, .sc]]]], [(false, [.sc])], F_eqPinSS⟩
def laws_eqPinSS_hs : List NF := [⟨[], [], [], 64⟩, ⟨[(0, .sc false [.ro [.sl [.sc, .sc]]]), (1, .sc false [.ro [.sl [.sc, .sc]]]), (5, zs)], [], [], 64⟩, ⟨[(0, .sc false [.ro [.sl [.sc, .sc]]]), (1, .sc false [.ro [.sl [.sc, .sc]]]), (5, zs)], [], [], 64⟩]

def laws_eqBench_L : L := .seq (.rg []) (.seq (.seq (.rg [zc F_eqCylinder 1 [0, 1, 2, 4, 5, 6], zn 8]) (.ite (.v 9) (.seq (.rg []) (.ret [.k (.bool false)])) (.skip))) (.seq (.seq (.rg [zc F_eqPinSS 1 [3, 7], zn 10]) (.ite (.v 11) (.seq (.rg []) (.ret [.k (.bool false)])) (.skip))) (.seq (.rg []) (.ret [.k (.bool true)]))))
theorem laws_eqBench_L_sh (Q : QT) (x0 x1 x2 x3 x4 x5 x6 x7 : V) : shL laws_eqBench_L Q [x0, x1, x2, x3, x4, x5, x6, x7] = (
  P1 (.call F_eqCylinder 0 1) [x0, x1, x2, x4, x5, x6] fun v0 =>
  P1 (.un .not) [v0] fun v1 =>
  ifB v1 (
    Q .ret [.bool false]) (
    P1 (.call F_eqPinSS 0 1) [x3, x7] fun v2 =>
    P1 (.un .not) [v2] fun v3 =>
    ifB v3 (
      Q .ret [.bool false]) (
      Q .ret [.bool true]))) := by kernel_rfl
def laws_eqBench_S : Sig := ⟨[.val true [.sc, .sc, .sl [.sc, .sc], .sl [.sl [.sc, .sc]]], .val true [.sc, .sc, .sl [.sc, .sc], .sl [.sl [.sc, .sc]]]], [(false, [.sc])], F_eqBench⟩
def laws_eqBench_hs : List NF := []

def laws_markPinSS_b0 : L := .seq (.seq (.seq (.rg [zl 2, zb .lss 1 3]) (.ite (.v 4) (.skip) (.seq (zt [0, 2]) (.exit 0)))) (.seq (.block 1 (.seq (.rg [⟨[], .idx [.sl [.sc, .sc]], [.v 2, .v 1], 1⟩, ⟨[], .callIn F_markPinS 1 [.sl [.sc, .sc]] 0, [.v 5, .v 0, .v 5, .v 2, .v 1], 2⟩]) (zt [6, 1, 7]))) (.rg [zk .add 1 1]))) (zt [0, 3, 2])
theorem laws_markPinSS_b0_sh (Q : QT) (x0 x1 x2 : V) : shL laws_markPinSS_b0 Q [x0, x1, x2] = (
  P1 (.len) [x2] fun v0 =>
  P1 (.bin .lss) [x1, v0] fun v1 =>
  ifB v1 (
    P1 (.idx [.sl [.sc, .sc]]) [x2, x1] fun v2 =>
    P2 (.callIn F_markPinS 1 [.sl [.sc, .sc]] 0) [v2, x0, v2, x2, x1] fun v3 v4 =>
    P1 (.bin .add) [x1, .int .i64 1] fun v5 =>
    Q .normal [v3, v5, v4]) (
    Q (.exit 0) [x0, x2])) := by kernel_rfl

def laws_markPinSS_r1 : L := .seq (.rg []) (.ret [.v 0, .v 1])
theorem laws_markPinSS_r1_sh (Q : QT) (x0 x1 : V) : shL laws_markPinSS_r1 Q [x0, x1] = (
  Q .ret [x0, x1]) := by kernel_rfl

def laws_markPinSS_L : L := .seq (.rg []) (.seq (.seq (.rg []) (.block 0 (.seq (.tup [.v 1, .k (.int .i64 0), .v 0]) (.loop (laws_markPinSS_b0))))) (laws_markPinSS_r1))
theorem laws_markPinSS_L_sh (Q : QT) (x0 x1 : V) : shL laws_markPinSS_L Q [x0, x1] = (
  shL (.loop laws_markPinSS_b0) (qB 0 (qS (shL laws_markPinSS_r1 Q) Q)) [x1, .int .i64 0, x0]) := by kernel_rfl
def laws_markPinSS_S : Sig := ⟨[.io false [.sl [.sl [.sc, .sc]]], .val false [.sc]], [(false, [.sc])], F_markPinSS⟩
def laws_markPinSS_hs : List NF := [⟨[(1, zs)], [(0, false, [.sl [.sc, .sc]])], [], 64⟩, ⟨[(0, zo 0), (1, zs), (5, zs)], [(0, false, [.sl [.sc, .sc]])], [], 64⟩, ⟨[(0, zo 0), (1, zs), (5, zs)], [(0, false, [.sl [.sc, .sc]])], [], 64⟩]

def laws_markBench_L : L := .seq (.rg []) (.seq (.rg [⟨[], .call F_markCylinder 1 1, [.v 0, .v 1, .v 2, .v 4, .v 2], 2⟩]) (.seq (.rg [⟨[], .callN F_markPinSS 1 1, [.v 3, .v 5, .v 3], 2⟩]) (.seq (.rg []) (.ret [.v 7, .v 6, .v 8]))))
theorem laws_markBench_L_sh (Q : QT) (x0 x1 x2 x3 x4 : V) : shL laws_markBench_L Q [x0, x1, x2, x3, x4] = (
  P2 (.call F_markCylinder 1 1) [x0, x1, x2, x4, x2] fun v0 v1 =>
  P2 (.callN F_markPinSS 1 1) [x3, v0, x3] fun v2 v3 =>
  Q .ret [v2, v1, v3]) := by kernel_rfl
def laws_markBench_S : Sig := ⟨[.io true [.sc, .sc, .sl [.sc, .sc], .sl [.sl [.sc, .sc]]], .val false [.sc]], [(false, [.sc])], F_markBench⟩
def laws_markBench_hs : List NF := []

def laws_szIntS_L : L := .seq (.rg []) (.seq (.rg [zl 0, zb .sub 1 2]) (.seq (.seq (.rg [zk .lss 3 0]) (.ite (.v 4) (.seq (.rg []) (.ret [.k (.int .i64 (-1))])) (.skip))) (.seq (.rg []) (.ret [.v 3]))))
theorem laws_szIntS_L_sh (Q : QT) (x0 x1 : V) : shL laws_szIntS_L Q [x0, x1] = (
  P1 (.len) [x0] fun v0 =>
  P1 (.bin .sub) [x1, v0] fun v1 =>
  P1 (.bin .lss) [v1, .int .i64 0] fun v2 =>
  ifB v2 (
    Q .ret [.int .i64 (-1)]) (
    Q .ret [v1])) := by kernel_rfl
def laws_szIntS_S : Sig := ⟨[.val false [.sl [.sc]], .val false [.sc]], [(false, [.sc])], F_szIntS⟩
def laws_szIntS_hs : List NF := []

def laws_szWorkshop_L : L := .seq (.rg []) (.seq (.rg [zc F_szBench 1 [0, 1, 2, 3, 10]]) (.seq (.seq (.rg [zk .lss 11 0]) (.ite (.v 12) (.seq (.rg []) (.ret [.k (.int .i64 (-1))])) (.skip))) (.seq (.rg [zc F_szIntS 1 [4, 11]]) (.seq (.seq (.rg [zk .lss 13 0]) (.ite (.v 14) (.seq (.rg []) (.ret [.k (.int .i64 (-1))])) (.skip))) (.seq (.rg []) (.ret [.v 13]))))))
theorem laws_szWorkshop_L_sh (Q : QT) (x0 x1 x2 x3 x4 x5 x6 x7 x8 x9 x10 : V) : shL laws_szWorkshop_L Q [x0, x1, x2, x3, x4, x5, x6, x7, x8, x9, x10] = (
  P1 (.call F_szBench 0 1) [x0, x1, x2, x3, x10] fun v0 =>
  P1 (.bin .lss) [v0, .int .i64 0] fun v1 =>
  ifB v1 (
    Q .ret [.int .i64 (-1)]) (
    P1 (.call F_szIntS 0 1) [x4, v0] fun v2 =>
    P1 (.bin .lss) [v2, .int .i64 0] fun v3 =>
    ifB v3 (
      Q .ret [.int .i64 (-1)]) (
      Q .ret [v2]))) := by kernel_rfl
def laws_szWorkshop_S : Sig := ⟨[.val true [.sc, .sc, .sl [.sc, .sc], .sl [.sl [.sc, .sc]], .sl [.sc], .sc, .sc, .sc, .sc, .sc], .val false [.sc]], [(false, [.sc])], F_szWorkshop⟩
def laws_szWorkshop_hs : List NF := []

def laws_toSpring_L : L := .seq (.rg []) (.seq (.rg []) (.seq (.rg []) (.seq (.rg []) (.seq (.rg []) (.seq (.rg []) (.ret [.v 0, .v 1, .v 2]))))))
theorem laws_toSpring_L_sh (Q : QT) (x0 x1 x2 : V) : shL laws_toSpring_L Q [x0, x1, x2] = (
  Q .ret [x0, x1, x2]) := by kernel_rfl
def laws_toSpring_S : Sig := ⟨[.val true [.sc, .sc, .sc]], [(true, [.sc, .sc, .sc])], F_toSpring⟩
def laws_toSpring_hs : List NF := []

def laws_toWorkshop_L : L := .seq (.rg []) (.seq (.rg []) (.seq (.rg [zc F_toBench 4 [0, 1, 2, 3]]) (.seq (.rg [zc F_toIntS 1 [4]]) (.seq (.rg [zc F_toSpring 3 [5, 6, 7]]) (.seq (.rg []) (.seq (.rg []) (.seq (.rg []) (.ret [.v 10, .v 11, .v 12, .v 13, .v 14, .v 15, .v 16, .v 17, .v 8, .v 9]))))))))
theorem laws_toWorkshop_L_sh (Q : QT) (x0 x1 x2 x3 x4 x5 x6 x7 x8 x9 : V) : shL laws_toWorkshop_L Q [x0, x1, x2, x3, x4, x5, x6, x7, x8, x9] = (
  P4 (.call F_toBench 0 4) [x0, x1, x2, x3] fun v0 v1 v2 v3 =>
  P1 (.call F_toIntS 0 1) [x4] fun v4 =>
  P3 (.call F_toSpring 0 3) [x5, x6, x7] fun v5 v6 v7 =>
  Q .ret [v0, v1, v2, v3, v4, v5, v6, v7, x8, x9]) := by kernel_rfl
def laws_toWorkshop_S : Sig := ⟨[.val true [.sc, .sc, .sl [.sc, .sc], .sl [.sl [.sc, .sc]], .sl [.sc], .sc, .sc, .sc, .sc, .sc]], [(true, [.sc, .sc, .sl [.sc, .sc], .sl [.sl [.sc, .sc]], .sl [.sc], .sc, .sc, .sc, .sc, .sc])], F_toWorkshop⟩
def laws_toWorkshop_hs : List NF := []

def spec_CombOk_b0 : L := .seq (.seq (.seq (.rg [zl 0, zb .lss 1 2]) (.ite (.v 3) (.skip) (.seq (zt [0]) (.exit 0)))) (.seq (.block 1 (.seq (.seq (.rg [zi 0 1, ⟨[], .call F_l01In 0 1, [.v 4, .k (.int .i64 0), .k (.int .i64 60)], 1⟩, zn 5, ⟨[(.v 6, false)], .bin .gtr, [.v 1, .k (.int .i64 0)], 1⟩, ⟨[(.v 6, false), (.v 7, true)], .idx [.sc], [.v 0, .v 1], 1⟩, ⟨[(.v 6, false), (.v 7, true)], .bin .sub, [.v 1, .k (.int .i64 1)], 1⟩, ⟨[(.v 6, false), (.v 7, true)], .idx [.sc], [.v 0, .v 9], 1⟩, ⟨[(.v 6, false), (.v 7, true)], .bin .lss, [.v 8, .v 10], 1⟩, ⟨[(.v 6, false)], .pick, [.v 7, .v 11, .k (.bool false)], 1⟩, ⟨[], .pick, [.v 6, .k (.bool true), .v 12], 1⟩]) (.ite (.v 13) (.seq (.rg []) (.ret [.k (.bool false)])) (.skip))) (zt [0, 1]))) (.rg [zk .add 1 1]))) (zt [0, 2])
theorem spec_CombOk_b0_sh (Q : QT) (x0 x1 : V) : shL spec_CombOk_b0 Q [x0, x1] = (
  P1 (.len) [x0] fun v0 =>
  P1 (.bin .lss) [x1, v0] fun v1 =>
  ifB v1 (
    P1 (.idx [.sc]) [x0, x1] fun v2 =>
    P1 (.call F_l01In 0 1) [v2, .int .i64 0, .int .i64 60] fun v3 =>
    P1 (.un .not) [v3] fun v4 =>
    ifB v4 (
      Q .ret [.bool false]) (
      P1 (.bin .gtr) [x1, .int .i64 0] fun v5 =>
      ifB v5 (
        P1 (.idx [.sc]) [x0, x1] fun v6 =>
        P1 (.bin .sub) [x1, .int .i64 1] fun v7 =>
        P1 (.idx [.sc]) [x0, v7] fun v8 =>
        P1 (.bin .lss) [v6, v8] fun v9 =>
        ifB v9 (
          Q .ret [.bool false]) (
          P1 (.bin .add) [x1, .int .i64 1] fun v10 =>
          Q .normal [x0, v10])) (
        P1 (.bin .add) [x1, .int .i64 1] fun v11 =>
        Q .normal [x0, v11]))) (
    Q (.exit 0) [x0])) := by kernel_rfl

def spec_CombOk_r1 : L := .seq (.rg [zl 0, ⟨[], .call F_l01In 0 1, [.v 1, .k (.int .i64 1), .k (.int .i64 24)], 1⟩]) (.ret [.v 2])
theorem spec_CombOk_r1_sh (Q : QT) (x0 : V) : shL spec_CombOk_r1 Q [x0] = (
  P1 (.len) [x0] fun v0 =>
  P1 (.call F_l01In 0 1) [v0, .int .i64 1, .int .i64 24] fun v1 =>
  Q .ret [v1]) := by kernel_rfl

def spec_CombOk_L : L := .seq (.rg []) (.seq (.seq (.rg []) (.block 0 (.seq (.tup [.v 0, .k (.int .i64 0)]) (.loop (spec_CombOk_b0))))) (spec_CombOk_r1))
theorem spec_CombOk_L_sh (Q : QT) (x0 : V) : shL spec_CombOk_L Q [x0] = (
  shL (.loop spec_CombOk_b0) (qB 0 (qS (shL spec_CombOk_r1 Q) Q)) [x0, .int .i64 0]) := by kernel_rfl
def spec_CombOk_S : Sig := ⟨[.val false [.sl [.sc]]], [(false, [.sc])], F_CombOk⟩
def spec_CombOk_hs : List NF := [⟨[(0, zr)], [], [], 64⟩, ⟨[(0, zr), (3, zs)], [], [], 64⟩, ⟨[(0, zr), (3, zs)], [], [], 64⟩]

def spec_SpringOk_L : L := .seq (.rg []) (.seq (.rg [⟨[], .call F_l01In 0 1, [.v 1, .k (.int .i64 1), .k (.int .i64 50)], 1⟩, ⟨[(.v 3, true)], .call F_l01In 0 1, [.v 0, .k (.int .i64 0), .v 1], 1⟩, ⟨[], .pick, [.v 3, .v 4, .k (.bool false)], 1⟩, ⟨[(.v 5, true)], .call F_l01In 0 1, [.v 2, .k (.int .i64 1), .k (.int .i64 10000)], 1⟩, ⟨[], .pick, [.v 5, .v 6, .k (.bool false)], 1⟩]) (.ret [.v 7]))
theorem spec_SpringOk_L_sh (Q : QT) (x0 x1 x2 : V) : shL spec_SpringOk_L Q [x0, x1, x2] = (
  P1 (.call F_l01In 0 1) [x1, .int .i64 1, .int .i64 50] fun v0 =>
  ifB v0 (
    P1 (.call F_l01In 0 1) [x0, .int .i64 0, x1] fun v1 =>
    ifB v1 (
      P1 (.call F_l01In 0 1) [x2, .int .i64 1, .int .i64 10000] fun v2 =>
      Q .ret [v2]) (
      Q .ret [.bool false])) (
    Q .ret [.bool false])) := by kernel_rfl
def spec_SpringOk_S : Sig := ⟨[.val true [.sc, .sc, .sc]], [(false, [.sc])], F_SpringOk⟩
def spec_SpringOk_hs : List NF := []

def spec_WorkshopOk_L : L := .seq (.rg []) (.seq (.rg [zc F_BenchOk 1 [0, 1, 2, 3], ⟨[(.v 10, true)], .call F_CombOk 0 1, [.v 4], 1⟩, ⟨[], .pick, [.v 10, .v 11, .k (.bool false)], 1⟩, ⟨[(.v 12, true)], .call F_SpringOk 0 1, [.v 5, .v 6, .v 7], 1⟩, ⟨[], .pick, [.v 12, .v 13, .k (.bool false)], 1⟩, ⟨[(.v 14, true)], .len, [.v 4], 1⟩, ⟨[(.v 14, true)], .bin .eql, [.v 1, .v 15], 1⟩, ⟨[], .pick, [.v 14, .v 16, .k (.bool false)], 1⟩, ⟨[(.v 17, true)], .call F_l01In 0 1, [.v 8, .k (.int .i64 0), .k (.int .i64 1000000)], 1⟩, ⟨[], .pick, [.v 17, .v 18, .k (.bool false)], 1⟩, ⟨[(.v 19, true)], .call F_l01In 0 1, [.v 9, .k (.int .i64 0), .k (.int .i64 1000000)], 1⟩, ⟨[], .pick, [.v 19, .v 20, .k (.bool false)], 1⟩]) (.ret [.v 21]))
theorem spec_WorkshopOk_L_sh (Q : QT) (x0 x1 x2 x3 x4 x5 x6 x7 x8 x9 : V) : shL spec_WorkshopOk_L Q [x0, x1, x2, x3, x4, x5, x6, x7, x8, x9] = (
  P1 (.call F_BenchOk 0 1) [x0, x1, x2, x3] fun v0 =>
  ifB v0 (
    P1 (.call F_CombOk 0 1) [x4] fun v1 =>
    ifB v1 (
      P1 (.call F_SpringOk 0 1) [x5, x6, x7] fun v2 =>
      ifB v2 (
        P1 (.len) [x4] fun v3 =>
        P1 (.bin .eql) [x1, v3] fun v4 =>
        ifB v4 (
          P1 (.call F_l01In 0 1) [x8, .int .i64 0, .int .i64 1000000] fun v5 =>
          ifB v5 (
            P1 (.call F_l01In 0 1) [x9, .int .i64 0, .int .i64 1000000] fun v6 =>
            Q .ret [v6]) (
            Q .ret [.bool false])) (
          Q .ret [.bool false])) (
        Q .ret [.bool false])) (
      Q .ret [.bool false])) (
    Q .ret [.bool false])) := by kernel_rfl
def spec_WorkshopOk_S : Sig := ⟨[.val true [.sc, .sc, .sl [.sc, .sc], .sl [.sl [.sc, .sc]], .sl [.sc], .sc, .sc, .sc, .sc, .sc]], [(false, [.sc])], F_WorkshopOk⟩
def spec_WorkshopOk_hs : List NF := []

def impl_CombOk_b0 : L := .seq (.seq (.rg [zb .lss 3 2]) (.seq (.ite (.v 4) (.skip) (.seq (.tup []) (.exit 0))) (.seq (.block 1 (.seq (.seq (.rg [zi 1 3]) (.seq (.rg [⟨[], .call F_within 0 1, [.v 5, .k (.int .i64 0), .k (.int .i64 60)], 1⟩, zn 6, ⟨[(.v 7, false)], .bin .gtr, [.v 3, .k (.int .i64 0)], 1⟩, ⟨[(.v 7, false), (.v 8, true)], .bin .sub, [.v 3, .k (.int .i64 1)], 1⟩, ⟨[(.v 7, false), (.v 8, true)], .idx [.sc], [.v 0, .v 9], 1⟩, ⟨[(.v 7, false), (.v 8, true)], .bin .gtr, [.v 10, .v 5], 1⟩, ⟨[(.v 7, false)], .pick, [.v 8, .v 11, .k (.bool false)], 1⟩, ⟨[], .pick, [.v 7, .k (.bool true), .v 12], 1⟩]) (.ite (.v 13) (.seq (.rg []) (.ret [.k (.bool false)])) (.skip)))) (zt [0, 1, 2, 3]))) (.rg [zk .add 3 1])))) (zt [0, 1, 2, 4])
theorem impl_CombOk_b0_sh (Q : QT) (x0 x1 x2 x3 : V) : shL impl_CombOk_b0 Q [x0, x1, x2, x3] = (
  P1 (.bin .lss) [x3, x2] fun v0 =>
  ifB v0 (
    P1 (.idx [.sc]) [x1, x3] fun v1 =>
    P1 (.call F_within 0 1) [v1, .int .i64 0, .int .i64 60] fun v2 =>
    P1 (.un .not) [v2] fun v3 =>
    ifB v3 (
      Q .ret [.bool false]) (
      P1 (.bin .gtr) [x3, .int .i64 0] fun v4 =>
      ifB v4 (
        P1 (.bin .sub) [x3, .int .i64 1] fun v5 =>
        P1 (.idx [.sc]) [x0, v5] fun v6 =>
        P1 (.bin .gtr) [v6, v1] fun v7 =>
        ifB v7 (
          Q .ret [.bool false]) (
          P1 (.bin .add) [x3, .int .i64 1] fun v8 =>
          Q .normal [x0, x1, x2, v8])) (
        P1 (.bin .add) [x3, .int .i64 1] fun v9 =>
        Q .normal [x0, x1, x2, v9]))) (
    Q (.exit 0) [])) := by kernel_rfl

def impl_CombOk_r1 : L := .seq (.rg []) (.ret [.k (.bool true)])
theorem impl_CombOk_r1_sh (Q : QT) : shL impl_CombOk_r1 Q [] = (
  Q .ret [.bool true]) := by kernel_rfl

def impl_CombOk_L : L := .seq (.rg []) (.seq (.seq (.rg [zl 0, zk .lss 1 1, ⟨[(.v 2, false)], .len, [.v 0], 1⟩, ⟨[(.v 2, false)], .bin .gtr, [.v 3, .k (.int .i64 24)], 1⟩, ⟨[], .pick, [.v 2, .k (.bool true), .v 4], 1⟩]) (.ite (.v 5) (.seq (.rg []) (.ret [.k (.bool false)])) (.skip))) (.seq (.seq (.rg [zl 0]) (.block 0 (.seq (.tup [.v 0, .v 0, .v 6, .k (.int .i64 0)]) (.loop (impl_CombOk_b0))))) (impl_CombOk_r1)))
theorem impl_CombOk_L_sh (Q : QT) (x0 : V) : shL impl_CombOk_L Q [x0] = (
  P1 (.len) [x0] fun v0 =>
  P1 (.bin .lss) [v0, .int .i64 1] fun v1 =>
  ifB v1 (
    Q .ret [.bool false]) (
    P1 (.len) [x0] fun v2 =>
    P1 (.bin .gtr) [v2, .int .i64 24] fun v3 =>
    ifB v3 (
      Q .ret [.bool false]) (
      P1 (.len) [x0] fun v4 =>
      shL (.loop impl_CombOk_b0) (qB 0 (qS (shL impl_CombOk_r1 Q) Q)) [x0, x0, v4, .int .i64 0]))) := by kernel_rfl
def impl_CombOk_S : Sig := ⟨[.val false [.sl [.sc]]], [(false, [.sc])], F_CombOk⟩
def impl_CombOk_hs : List NF := [⟨[], [], [], 64⟩, ⟨[(0, zr), (13, zr), (14, zs), (15, zs)], [], [], 64⟩, ⟨[(0, zr), (13, zr), (14, zs), (15, zs)], [], [], 64⟩]

def impl_SpringOk_L : L := .seq (.rg []) (.seq (.rg [⟨[], .call F_within 0 1, [.v 1, .k (.int .i64 1), .k (.int .i64 50)], 1⟩, ⟨[(.v 3, true)], .call F_within 0 1, [.v 0, .k (.int .i64 0), .v 1], 1⟩, ⟨[], .pick, [.v 3, .v 4, .k (.bool false)], 1⟩, ⟨[(.v 5, true)], .call F_within 0 1, [.v 2, .k (.int .i64 1), .k (.int .i64 10000)], 1⟩, ⟨[], .pick, [.v 5, .v 6, .k (.bool false)], 1⟩]) (.ret [.v 7]))
theorem impl_SpringOk_L_sh (Q : QT) (x0 x1 x2 : V) : shL impl_SpringOk_L Q [x0, x1, x2] = (
  P1 (.call F_within 0 1) [x1, .int .i64 1, .int .i64 50] fun v0 =>
  ifB v0 (
    P1 (.call F_within 0 1) [x0, .int .i64 0, x1] fun v1 =>
    ifB v1 (
      P1 (.call F_within 0 1) [x2, .int .i64 1, .int .i64 10000] fun v2 =>
      Q .ret [v2]) (
      Q .ret [.bool false])) (
    Q .ret [.bool false])) := by kernel_rfl
def impl_SpringOk_S : Sig := ⟨[.val true [.sc, .sc, .sc]], [(false, [.sc])], F_SpringOk⟩
def impl_SpringOk_hs : List NF := []

def impl_WorkshopOk_r0 : L := .seq (.rg [⟨[], .call F_within 0 1, [.v 8, .k (.int .i64 0), .k (.int .i64 1000000)], 1⟩, ⟨[(.v 21, true)], .call F_within 0 1, [.v 9, .k (.int .i64 0), .k (.int .i64 1000000)], 1⟩, ⟨[], .pick, [.v 21, .v 22, .k (.bool false)], 1⟩]) (.ret [.v 23])
theorem impl_WorkshopOk_r0_sh (Q : QT) (x0 x1 x2 x3 x4 x5 x6 x7 x8 x9 x10 x11 x12 x13 x14 x15 x16 x17 x18 x19 x20 : V) : shL impl_WorkshopOk_r0 Q [x0, x1, x2, x3, x4, x5, x6, x7, x8, x9, x10, x11, x12, x13, x14, x15, x16, x17, x18, x19, x20] = (
  P1 (.call F_within 0 1) [x8, .int .i64 0, .int .i64 1000000] fun v0 =>
  ifB v0 (
    P1 (.call F_within 0 1) [x9, .int .i64 0, .int .i64 1000000] fun v1 =>
    Q .ret [v1]) (
    Q .ret [.bool false])) := by kernel_rfl

def impl_WorkshopOk_L : L := .seq (.rg []) (.seq (.seq (.rg [zc F_BenchOk 1 [0, 1, 2, 3], zn 10, ⟨[(.v 11, false)], .call F_CombOk 0 1, [.v 4], 1⟩, ⟨[(.v 11, false)], .un .not, [.v 12], 1⟩, ⟨[], .pick, [.v 11, .k (.bool true), .v 13], 1⟩, ⟨[(.v 14, false)], .call F_SpringOk 0 1, [.v 5, .v 6, .v 7], 1⟩, ⟨[(.v 14, false)], .un .not, [.v 15], 1⟩, ⟨[], .pick, [.v 14, .k (.bool true), .v 16], 1⟩, ⟨[(.v 17, false)], .len, [.v 4], 1⟩, ⟨[(.v 17, false)], .bin .neq, [.v 1, .v 18], 1⟩, ⟨[], .pick, [.v 17, .k (.bool true), .v 19], 1⟩]) (.ite (.v 20) (.seq (.rg []) (.ret [.k (.bool false)])) (.skip))) (impl_WorkshopOk_r0))
theorem impl_WorkshopOk_L_sh (Q : QT) (x0 x1 x2 x3 x4 x5 x6 x7 x8 x9 : V) : shL impl_WorkshopOk_L Q [x0, x1, x2, x3, x4, x5, x6, x7, x8, x9] = (
  P1 (.call F_BenchOk 0 1) [x0, x1, x2, x3] fun v0 =>
  P1 (.un .not) [v0] fun v1 =>
  ifB v1 (
    Q .ret [.bool false]) (
    P1 (.call F_CombOk 0 1) [x4] fun v2 =>
    P1 (.un .not) [v2] fun v3 =>
    ifB v3 (
      Q .ret [.bool false]) (
      P1 (.call F_SpringOk 0 1) [x5, x6, x7] fun v4 =>
      P1 (.un .not) [v4] fun v5 =>
      ifB v5 (
        Q .ret [.bool false]) (
        P1 (.len) [x4] fun v6 =>
        P1 (.bin .neq) [x1, v6] fun v7 =>
        ifB v7 (
          Q .ret [.bool false]) (
          shL impl_WorkshopOk_r0 Q [x0, x1, x2, x3, x4, x5, x6, x7, x8, x9, v0, .bool false, v2, v3, .bool false, v4, v5, .bool false, v6, v7, .bool false]))))) := by kernel_rfl
def impl_WorkshopOk_S : Sig := ⟨[.val true [.sc, .sc, .sl [.sc, .sc], .sl [.sl [.sc, .sc]], .sl [.sc], .sc, .sc, .sc, .sc, .sc]], [(false, [.sc])], F_WorkshopOk⟩
def impl_WorkshopOk_hs : List NF := []

def laws_eqSpring_L : L := .seq (.rg []) (.seq (.seq (.rg [zb .neq 0 3]) (.ite (.v 6) (.seq (.rg []) (.ret [.k (.bool false)])) (.skip))) (.seq (.seq (.rg [zb .neq 1 4]) (.ite (.v 7) (.seq (.rg []) (.ret [.k (.bool false)])) (.skip))) (.seq (.seq (.rg [zb .neq 2 5]) (.ite (.v 8) (.seq (.rg []) (.ret [.k (.bool false)])) (.skip))) (.seq (.rg []) (.ret [.k (.bool true)])))))
theorem laws_eqSpring_L_sh (Q : QT) (x0 x1 x2 x3 x4 x5 : V) : shL laws_eqSpring_L Q [x0, x1, x2, x3, x4, x5] = (
  P1 (.bin .neq) [x0, x3] fun v0 =>
  ifB v0 (
    Q .ret [.bool false]) (
    P1 (.bin .neq) [x1, x4] fun v1 =>
    ifB v1 (
      Q .ret [.bool false]) (
      P1 (.bin .neq) [x2, x5] fun v2 =>
      ifB v2 (
        Q .ret [.bool false]) (
        Q .ret [.bool true])))) := by kernel_rfl
def laws_eqSpring_S : Sig := ⟨[.val true [.sc, .sc, .sc], .val true [.sc, .sc, .sc]], [(false, [.sc])], F_eqSpring⟩
def laws_eqSpring_hs : List NF := []

def laws_eqWorkshop_L : L := .seq (.rg []) (.seq (.seq (.rg [zc F_eqBench 1 [0, 1, 2, 3, 10, 11, 12, 13], zn 20]) (.ite (.v 21) (.seq (.rg []) (.ret [.k (.bool false)])) (.skip))) (.seq (.seq (.rg [zc F_eqIntS 1 [4, 14], zn 22]) (.ite (.v 23) (.seq (.rg []) (.ret [.k (.bool false)])) (.skip))) (.seq (.seq (.rg [zc F_eqSpring 1 [5, 6, 7, 15, 16, 17], zn 24]) (.ite (.v 25) (.seq (.rg []) (.ret [.k (.bool false)])) (.skip))) (.seq (.seq (.rg [zb .neq 8 18]) (.ite (.v 26) (.seq (.rg []) (.ret [.k (.bool false)])) (.skip))) (.seq (.seq (.rg [zb .neq 9 19]) (.ite (.v 27) (.seq (.rg []) (.ret [.k (.bool false)])) (.skip))) (.seq (.rg []) (.ret [.k (.bool true)])))))))
theorem laws_eqWorkshop_L_sh (Q : QT) (x0 x1 x2 x3 x4 x5 x6 x7 x8 x9 x10 x11 x12 x13 x14 x15 x16 x17 x18 x19 : V) : shL laws_eqWorkshop_L Q [x0, x1, x2, x3, x4, x5, x6, x7, x8, x9, x10, x11, x12, x13, x14, x15, x16, x17, x18, x19] = (
  P1 (.call F_eqBench 0 1) [x0, x1, x2, x3, x10, x11, x12, x13] fun v0 =>
  P1 (.un .not) [v0] fun v1 =>
  ifB v1 (
    Q .ret [.bool false]) (
    P1 (.call F_eqIntS 0 1) [x4, x14] fun v2 =>
    P1 (.un .not) [v2] fun v3 =>
    ifB v3 (
      Q .ret [.bool false]) (
      P1 (.call F_eqSpring 0 1) [x5, x6, x7, x15, x16, x17] fun v4 =>
      P1 (.un .not) [v4] fun v5 =>
      ifB v5 (
        Q .ret [.bool false]) (
        P1 (.bin .neq) [x8, x18] fun v6 =>
        ifB v6 (
          Q .ret [.bool false]) (
          P1 (.bin .neq) [x9, x19] fun v7 =>
          ifB v7 (
            Q .ret [.bool false]) (
            Q .ret [.bool true])))))) := by kernel_rfl
def laws_eqWorkshop_S : Sig := ⟨[.val true [.sc, .sc, .sl [.sc, .sc], .sl [.sl [.sc, .sc]], .sl [.sc], .sc, .sc, .sc, .sc, .sc], .val true [.sc, .sc, .sl [.sc, .sc], .sl [.sl [.sc, .sc]], .sl [.sc], .sc, .sc, .sc, .sc, .sc]], [(false, [.sc])], F_eqWorkshop⟩
def laws_eqWorkshop_hs : List NF := []

def laws_markWorkshop_L : L := .seq (.rg []) (.seq (.rg [⟨[], .callN F_markBench 2 1, [.v 0, .v 1, .v 2, .v 3, .v 10, .v 2, .v 3], 3⟩]) (.seq (.rg [⟨[], .call F_markIntS 1 1, [.v 4, .v 11, .v 4], 2⟩]) (.seq (.rg []) (.ret [.v 14, .v 12, .v 13, .v 15]))))
theorem laws_markWorkshop_L_sh (Q : QT) (x0 x1 x2 x3 x4 x5 x6 x7 x8 x9 x10 : V) : shL laws_markWorkshop_L Q [x0, x1, x2, x3, x4, x5, x6, x7, x8, x9, x10] = (
  P3 (.callN F_markBench 2 1) [x0, x1, x2, x3, x10, x2, x3] fun v0 v1 v2 =>
  P2 (.call F_markIntS 1 1) [x4, v0, x4] fun v3 v4 =>
  Q .ret [v3, v1, v2, v4]) := by kernel_rfl
def laws_markWorkshop_S : Sig := ⟨[.io true [.sc, .sc, .sl [.sc, .sc], .sl [.sl [.sc, .sc]], .sl [.sc], .sc, .sc, .sc, .sc, .sc], .val false [.sc]], [(false, [.sc])], F_markWorkshop⟩
def laws_markWorkshop_hs : List NF := []

end
end Go.Mw

namespace Go.Mw
theorem laws_szIntS_ok : ∀ ds outs, F_szIntS ds = some outs → shL laws_szIntS_L (qRet outs) ds := F_szIntS_elim fun l n hp => by
  rw [laws_szIntS_L_sh]
  simp (disch := omega) [wrap_id]
  grind

theorem sum2_succ {l : List (List T2)} {k : Nat} (h : k < l.length) : sum2 (l.take (k + 1)) = sum2 (l.take k) + l[k].length := by
  unfold sum2
  rw [take_succ_get h, List.map_append, List.sum_append_nat, List.map_cons, List.map_nil, List.sum_cons, List.sum_nil, Nat.add_zero]
theorem sum2_take (l : List (List T2)) (k : Nat) : sum2 (l.take k) ≤ sum2 l := by
  have : sum2 l = sum2 (l.take k) + sum2 (l.drop k) := by
    conv => lhs; rw [← List.take_append_drop k l]
    unfold sum2
    rw [List.map_append, List.sum_append_nat]
  omega
theorem tot2_eq (l : List (List T2)) : tot2 l = l.length + sum2 l := rfl
theorem fit_of_tot {l : List (List T2)} (h : tot2 l ≤ 1048576) : fitLL l := by
  refine ⟨by rw [tot2_eq] at h; omega, fun x hx => ?_⟩
  obtain ⟨k, hk, rfl⟩ := List.getElem_of_mem hx
  have h1 := sum2_succ hk
  have h2 := sum2_take l (k + 1)
  rw [tot2_eq] at h; omega
theorem laws_szPinSS_ok : ∀ ds outs, F_szPinSS ds = some outs → shL laws_szPinSS_L (qRet outs) ds := F_szPinSS_elim fun l n hp => by
  rw [laws_szPinSS_L_sh]
  have hsub : IntKind.i64.wrap (n - l.length) = n - l.length := by rw [wrap_id] <;> omega
  simp [hsub]
  refine ⟨fun h => ?_, fun h => ?_⟩
  · intro h2; rw [tot2_eq] at h2; omega
  refine loop_upto l.length (fun k => [vL IL2 vLL2 l, .int .i64 (n - l.length - sum2 (l.take k)), .int .i64 k]) (by intro i j _ _ h; simp at h; omega) (fun k => (sum2 (l.take k) : Int) ≤ n - l.length) (by simp [sum2]) (by simp [sum2]; omega) ?_
  intro k hk hP
  rw [laws_szPinSS_b0_sh]
  simp
  refine ⟨fun h3 => ?_, fun h3 => ?_⟩
  · have hx := hp.2.1 l[k] (by simp)
    have h4 := sum2_succ h3
    have h5 := sum2_take l (k + 1)
    simp only [List.getElem?_eq_getElem h3, Option.some.injEq, exists_eq_left']
    rw [p_szPinS ⟨hx, by omega, by omega⟩]
    by_cases h6 : (l[k].length : Int) ≤ n - l.length - sum2 (l.take k)
    · have h7 : IntKind.i64.wrap ((k : Int) + 1) = k + 1 := wrap_id (by omega) (by omega)
      simp [h6, h7, h3]
      omega
    · simp [h6]
      rw [tot2_eq]; omega
  · obtain rfl : k = l.length := by omega
    rw [List.take_length] at hP ⊢
    simp [laws_szPinSS_r1_sh]
    rw [tot2_eq]; push_cast
    rw [if_pos (by omega)]; omega
theorem laws_toPinSS_ok : ∀ ds outs, F_toPinSS ds = some outs → shL laws_toPinSS_L (qRet outs) ds := F_toPinSS_elim fun l hp => by
  rw [laws_toPinSS_L_sh]
  have hl := hp.1
  simp
  refine ⟨by omega, ?_⟩
  refine loop_upto l.length (fun k => [vL IL2 vLL2 l, .int .i64 k, vL IL2 vLL2 (l.take k ++ List.replicate (l.length - k) [])]) (by intro i j _ _ h; simp at h; omega) (fun _ => True) (by simp) trivial ?_
  intro k hk _
  rw [laws_toPinSS_b0_sh]
  simp
  refine ⟨fun h => ?_, fun h => ?_⟩
  · have hx := hp.2 l[k] (by simp)
    have hg : (l.take k ++ List.replicate (l.length - k) ([] : List T2))[k]? = some [] := fill_get h (by omega)
    simp (disch := omega) [h, fill_set h, wrap_id, p_toPinS hx, hg]
  · obtain rfl : k = l.length := by omega
    simp [laws_toPinSS_r1_sh]
theorem laws_eqPinSS_ok : ∀ ds outs, F_eqPinSS ds = some outs → shL laws_eqPinSS_L (qRet outs) ds := F_eqPinSS_elim fun l m hp => by
  rw [laws_eqPinSS_L_sh]
  have hl := hp.1.1
  simp
  refine ⟨fun h => ?_, fun hl => ?_⟩
  · rintro rfl; omega
  refine loop_upto l.length (fun k => [vL IL2 vLL2 l, vL IL2 vLL2 m, .int .i64 k]) (by intro i j _ _ h; simp at h; omega) (fun k => l.take k = m.take k) (by simp) (by simp) ?_
  intro k hk hP
  rw [laws_eqPinSS_b0_sh]
  simp
  refine ⟨fun h => ?_, fun h => ?_⟩
  · have h2 : k < m.length := by omega
    have hx := hp.1.2 l[k] (by simp)
    have hy := hp.2.2 m[k] (by simp)
    simp (disch := omega) [h, wrap_id, p_eqPinS ⟨hx, hy⟩]
    refine ⟨fun hne he => ?_, fun h3 => ?_⟩
    · subst he; exact hne rfl
    · rw [take_succ_get h, take_succ_get h2, hP, h3]
  · obtain rfl : k = l.length := by omega
    rw [List.take_length, List.take_of_length_le (by omega)] at hP
    simp [laws_eqPinSS_r1_sh, hP]
end Go.Mw

namespace Go.Mw
theorem callIn_run {F : List V → Option (List V)} {l l' : List T2} {L : List (List T2)} {k r : V} {κ : IntKind} {i : Nat} (hF : F [vL I2 v2 l, k] = some [r, vL I2 v2 l']) (h : i < L.length) :
    Prim.run (.callIn F 1 [.sl [.sc, .sc]] 0) [vL I2 v2 l, k, vL I2 v2 l, vL IL2 vLL2 L, .int κ i] = some [r, vL IL2 vLL2 (L.set i l')] := by
  simp only [vL] at hF ⊢
  simp only [Prim.run, List.length_cons, List.length_nil, List.take, List.drop, hF]
  simp [ksAll, AK.eqs_refl, aksOk, akOk, h, vLL2, vL, V.put, List.map_set, IL2]
theorem P2_inL2 {F : List V → Option (List V)} {l l' : List T2} {L : List (List T2)} {k r : V} {κ : IntKind} {i : Nat} {kk : V → V → Prop} (hF : F [vL I2 v2 l, k] = some [r, vL I2 v2 l']) (h : i < L.length) :
    P2 (.callIn F 1 [.sl [.sc, .sc]] 0) [vL I2 v2 l, k, vL I2 v2 l, vL IL2 vLL2 L, .int κ i] kk ↔ kk r (vL IL2 vLL2 (L.set i l')) :=
  P2_of (callIn_run hF h)

theorem markLL2_len : ∀ (l : List (List T2)) (k : Int), (markLL2 l k).length = l.length
  | [], _ => rfl
  | _ :: r, k => by simp [markLL2, markLL2_len r]
theorem markLL2_get : ∀ (l : List (List T2)) (k : Int) (i : Nat) (h : i < l.length), (markLL2 l k)[i]'(by rw [markLL2_len]; exact h) = markL2 l[i].length (k + 2 * sum2 (l.take i))
  | x :: r, k, 0, _ => by simp [markLL2, sum2]
  | x :: r, k, i + 1, h => by
    have := markLL2_get r (k + 2 * x.length) i (by simpa using h)
    simp only [markLL2, List.getElem_cons_succ, this, List.take_succ_cons]
    congr 1
    simp only [sum2, List.map_cons, List.sum_cons]; push_cast; omega
theorem laws_markPinSS_ok : ∀ ds outs, F_markPinSS ds = some outs → shL laws_markPinSS_L (qRet outs) ds := F_markPinSS_elim fun l k hp => by
  rw [laws_markPinSS_L_sh]
  refine loop_upto l.length (fun i => [.int .i64 (k + 2 * sum2 (l.take i)), .int .i64 i, vL IL2 vLL2 ((markLL2 l k).take i ++ l.drop i)]) (by intro i j _ _ h; simp at h; omega) (fun _ => True) (by simp [sum2]) trivial ?_
  intro i hi _
  have hl := hp.1.1
  have hml : (markLL2 l k).length = l.length := markLL2_len l k
  have hlen : ((markLL2 l k).take i ++ l.drop i).length = l.length := by simp [hml]; omega
  rw [laws_markPinSS_b0_sh]
  simp only [P1_len, P1_lss, ifB_bool, hlen, decide_eq_true_eq, decide_eq_false_iff_not]
  refine ⟨fun h => ?_, fun h => ?_⟩
  · replace h : i < l.length := by omega
    have hx := hp.1.2 l[i] (by simp)
    have h4 := sum2_succ h
    have h5 := sum2_take l (i + 1)
    have hg : ((markLL2 l k).take i ++ l.drop i)[i]? = some l[i] := mark_get hml h
    have hs := mark_set hml h
    rw [markLL2_get l k i h] at hs
    simp only [P1_idxL2, Int.toNat_natCast, hg, Option.some.injEq, exists_eq_left']
    rw [P2_inL2 (l' := markL2 l[i].length (k + 2 * sum2 (l.take i))) (r := .int .i64 (k + 2 * sum2 (l.take i) + 2 * l[i].length)) (by unfold F_markPinS; exact mkF_eq F_markPinS_inj (l[i], _) ⟨by omega, by omega, by omega⟩) (by omega)]
    simp (disch := omega) [hs, wrap_id, h4, h]
    omega
  · obtain rfl : i = l.length := by omega
    have e1 : List.take l.length (markLL2 l k) = markLL2 l k := List.take_of_length_le (by omega)
    simp [laws_markPinSS_r1_sh, e1]
end Go.Mw

namespace Go.Mw
theorem laws_szBench_ok : ∀ ds outs, F_szBench ds = some outs → shL laws_szBench_L (qRet outs) ds := F_szBench_elim fun x n hp => by
  rw [laws_szBench_L_sh, p_szCylinder (x_p := x.p) ⟨hp.1, by omega, by omega⟩]
  by_cases h : (x.p.length : Int) ≤ n
  · have h2 : ¬ n - (x.p.length : Int) < 0 := by omega
    simp only [if_pos h, P1_lss, ifB_bool, decide_eq_true_eq, decide_eq_false_iff_not]
    refine ⟨fun h3 => absurd h3 h2, fun _ => ?_⟩
    rw [p_szPinSS ⟨hp.2.1, hp.2.2.1, by omega, by omega⟩]
    by_cases h3 : (tot2 x.o : Int) ≤ n - x.p.length
    · rw [if_pos h3]
      simp
      omega
    · rw [if_neg h3]
      simp
      omega
  · rw [if_neg h]
    simp
    omega
theorem laws_toBench_ok : ∀ ds outs, F_toBench ds = some outs → shL laws_toBench_L (qRet outs) ds := F_toBench_elim fun x hp => by
  rw [laws_toBench_L_sh]
  simp [p_toCylinder, p_toPinSS, hp]
theorem laws_eqBench_ok : ∀ ds outs, F_eqBench ds = some outs → shL laws_eqBench_L (qRet outs) ds := F_eqBench_elim fun x y hp => by
  rw [laws_eqBench_L_sh]
  simp [p_eqCylinder, p_eqPinSS, hp]
  grind
theorem laws_markBench_ok : ∀ ds outs, F_markBench ds = some outs → shL laws_markBench_L (qRet outs) ds := F_markBench_elim fun x k hp => by
  rw [laws_markBench_L_sh]
  rw [p_markCylinder (x_p := x.p) ⟨by show x.p.length ≤ 4194304; omega, by omega, by omega⟩, p_markPinSS ⟨hp.2.1, by show 0 ≤ k + 2 * (x.p.length : Int); omega, by show k + 2 * (x.p.length : Int) + 2 * (sum2 x.o : Int) ≤ _; omega⟩]
  simp
theorem benchOk_iff (b : Bench) : benchOk b = true ↔ cylOk ⟨b.s, b.t, b.p⟩ = true ∧ b.o.length ≤ 30 ∧ ∀ p ∈ b.o, cylOk ⟨b.s, b.t, p⟩ = true := by
  simp [benchOk]
theorem spec_BenchOk_ok : ∀ ds outs, F_BenchOk ds = some outs → shL spec_BenchOk_L (qRet outs) ds := F_BenchOk_elim fun b hp => by
  rw [spec_BenchOk_L_sh]
  have hl := hp.2.1
  refine loop_upto b.o.length (fun k => [.int .i64 k, .int .i64 b.s, .int .i64 b.t, vL I2 v2 b.p, vL IL2 vLL2 b.o]) (by intro i j _ _ h; simp at h; omega) (fun k => ∀ p ∈ b.o.take k, cylOk ⟨b.s, b.t, p⟩ = true) (by simp) (by simp) ?_
  intro k hk hP
  rw [spec_BenchOk_b0_sh]
  simp
  refine ⟨fun h => ?_, fun h => ?_⟩
  · have hx := hp.2.2 b.o[k] (by simp)
    have hno : cylOk ⟨b.s, b.t, b.o[k]⟩ = false → benchOk b = false := by
      intro hf
      cases hc : benchOk b with
      | false => rfl
      | true => have := ((benchOk_iff b).1 hc).2.2 b.o[k] (by simp); simp [hf] at this
    simp (disch := omega) only [h, List.getElem?_eq_getElem, Option.some.injEq, exists_eq_left', wrap_id, all_take_succ h]
    rw [p_CylinderOk (x_p := b.o[k]) hx]
    cases h1 : cylOk ⟨b.s, b.t, b.o[k]⟩ <;> simp_all
  · obtain rfl : k = b.o.length := by omega
    rw [List.take_length] at hP
    rw [spec_BenchOk_r1_sh, p_CylinderOk (x_p := b.p) hp.1]
    cases h1 : cylOk ⟨b.s, b.t, b.p⟩ with
    | false => simp [benchOk, h1]
    | true =>
      have h2 : (b.o.all fun p => cylOk ⟨b.s, b.t, p⟩) = true := List.all_eq_true.2 hP
      simp [benchOk, h1, h2]
      omega
theorem impl_BenchOk_ok : ∀ ds outs, F_BenchOk ds = some outs → shL impl_BenchOk_L (qRet outs) ds := F_BenchOk_elim fun b hp => by
  rw [impl_BenchOk_L_sh]
  have hl := hp.2.1
  rw [p_CylinderOk (x_p := b.p) hp.1]
  cases h1 : cylOk ⟨b.s, b.t, b.p⟩ with
  | false => simp [benchOk, h1]
  | true =>
  simp
  refine ⟨fun h => by simp [benchOk]; intro _ h; omega, fun h9 => ?_⟩
  refine loop_upto b.o.length (fun k => [vL IL2 vLL2 b.o, .int .i64 b.o.length, .int .i64 k, .int .i64 b.s, .int .i64 b.t, vL I2 v2 b.p, vL IL2 vLL2 b.o]) (by intro i j _ _ h; simp at h; omega) (fun k => ∀ p ∈ b.o.take k, cylOk ⟨b.s, b.t, p⟩ = true) (by simp) (by simp) ?_
  intro k hk hP
  rw [impl_BenchOk_b0_sh]
  simp
  refine ⟨fun h => ?_, fun h => ?_⟩
  · have hx := hp.2.2 b.o[k] (by simp)
    have hno : cylOk ⟨b.s, b.t, b.o[k]⟩ = false → benchOk b = false := by
      intro hf
      cases hc : benchOk b with
      | false => rfl
      | true => have := ((benchOk_iff b).1 hc).2.2 b.o[k] (by simp); simp [hf] at this
    simp (disch := omega) only [h, List.getElem?_eq_getElem, Option.some.injEq, exists_eq_left', wrap_id, all_take_succ h]
    rw [p_CylinderOk (x_p := b.o[k]) hx]
    cases h1 : cylOk ⟨b.s, b.t, b.o[k]⟩ <;> simp_all
  · obtain rfl : k = b.o.length := by omega
    rw [List.take_length] at hP
    simp [impl_BenchOk_r1_sh]
    exact (benchOk_iff b).2 ⟨h1, by omega, hP⟩
end Go.Mw

namespace Go.Mw
end Go.Mw

namespace Go.Mw
end Go.Mw

namespace Go.Mw
@[simp] theorem P1_lstL2 {a : List T2} {k : V → Prop} : P1 (.lst [.sl [.sc, .sc]] false 1) [vL I2 v2 a] k ↔ k (vL IL2 vLL2 [a]) := P1_of (by simp [Prim.run, aksOk, akOk, chunk, V.pack, vL, vLL2, AK.eqs_refl, IL2]) k
theorem impl_SpringOk_ok : ∀ ds outs, F_SpringOk ds = some outs → shL impl_SpringOk_L (qRet outs) ds := F_SpringOk_elim fun x => by
  rw [impl_SpringOk_L_sh]; simp [springOk]; grind
theorem spec_SpringOk_ok : ∀ ds outs, F_SpringOk ds = some outs → shL spec_SpringOk_L (qRet outs) ds := F_SpringOk_elim fun x => by
  rw [spec_SpringOk_L_sh]; simp [springOk]; grind
theorem laws_toSpring_ok : ∀ ds outs, F_toSpring ds = some outs → shL laws_toSpring_L (qRet outs) ds := F_toSpring_elim fun x => by
  rw [laws_toSpring_L_sh]; simp
theorem laws_eqSpring_ok : ∀ ds outs, F_eqSpring ds = some outs → shL laws_eqSpring_L (qRet outs) ds := F_eqSpring_elim fun x y => by
  rw [laws_eqSpring_L_sh]
  cases x; cases y
  simp
  grind
end Go.Mw

namespace Go.Mw
theorem upward_iff : ∀ l : List Int, upward l = true ↔ ∀ j (_ : j < l.length), 0 < j → l[j - 1] ≤ l[j]
  | [] => by simp [upward]
  | [a] => by simp [upward]
  | a :: b :: r => by
    simp only [upward, Bool.and_eq_true, upward_iff (b :: r), decide_eq_true_eq]
    constructor
    · rintro ⟨h1, h2⟩ j hj h0
      rcases j with _ | _ | j
      · omega
      · exact h1
      · exact h2 (j + 1) (by simp at hj ⊢; omega) (by omega)
    · intro h
      refine ⟨h 1 (by simp) (by omega), fun j hj h0 => ?_⟩
      have := h (j + 1) (by simp at hj ⊢; omega) (by omega)
      rcases j with _ | j
      · omega
      · exact this
def goodTooth (l : List Int) (j : Nat) (hj : j < l.length) : Prop := within l[j] 0 60 = true ∧ (0 < j → l[j - 1] ≤ l[j])
theorem combOk_iff (l : List Int) : combOk l = true ↔ within l.length 1 24 = true ∧ ∀ j (hj : j < l.length), goodTooth l j hj := by
  simp only [combOk, Bool.and_eq_true, upward_iff, List.all_eq_true, goodTooth]
  refine and_congr_right fun _ => ?_
  constructor
  · rintro ⟨h1, h2⟩ j hj
    exact ⟨h1 _ (List.getElem_mem hj), h2 j hj⟩
  · intro h
    refine ⟨fun p hp => ?_, fun j hj h0 => (h j hj).2 h0⟩
    obtain ⟨j, hj, rfl⟩ := List.getElem_of_mem hp
    exact (h j hj).1
theorem spec_CombOk_ok : ∀ ds outs, F_CombOk ds = some outs → shL spec_CombOk_L (qRet outs) ds := F_CombOk_elim fun l hp => by
  rw [spec_CombOk_L_sh]
  refine loop_upto l.length (fun k => [vL I1 v1 l, .int .i64 k]) (by intro i j _ _ h; simp at h; omega) (fun k => ∀ j (hj : j < l.length), j < k → goodTooth l j hj) (by simp) (by simp) ?_
  intro k hk hP
  rw [spec_CombOk_b0_sh]
  simp
  refine ⟨fun h => ?_, fun h => ?_⟩
  · have hbad : ¬ goodTooth l k h → combOk l = false := fun hn => by
      cases hcc : combOk l with
      | false => rfl
      | true => exact absurd (((combOk_iff l).1 hcc).2 k h) hn
    have hgood : goodTooth l k h → ∀ j (hj : j < l.length), j < k + 1 → goodTooth l j hj := fun hg j hj hjk => by
      by_cases hjk2 : j = k
      · subst hjk2; exact hg
      · exact hP j hj (by omega)
    have hw : IntKind.i64.wrap ((k : Int) + 1) = k + 1 := wrap_id (by omega) (by omega)
    have hw2 : IntKind.i64.wrap ((k : Int) - 1) = k - 1 := wrap_id (by omega) (by omega)
    have hk1 : ((k : Int) - 1).toNat = k - 1 := by omega
    have hk2 : k - 1 < l.length := by omega
    simp only [List.getElem?_eq_getElem h, Option.some.injEq, exists_eq_left', hw, hw2, hk1, List.getElem?_eq_getElem hk2]
    cases e1 : within l[k] 0 60 with
    | false => simp; exact hbad (by simp [goodTooth, e1])
    | true =>
    simp [h]
    refine ⟨fun hk0 => ⟨by omega, fun e3 => hbad (by simp [goodTooth, hk0]; intro _; omega), fun e3 => ?_⟩, fun hk0 => ?_⟩
    · exact hgood ⟨e1, fun _ => e3⟩
    · exact hgood ⟨e1, fun hh => by omega⟩
  · obtain rfl : k = l.length := by omega
    simp [spec_CombOk_r1_sh]
    have hall : ∀ j (hj : j < l.length), goodTooth l j hj := fun j hj => hP j hj hj
    cases hw : within l.length 1 24 with
    | false => cases hc : combOk l with
      | false => rfl
      | true => simp [((combOk_iff l).1 hc).1] at hw
    | true => exact ((combOk_iff l).2 ⟨hw, hall⟩).symm
theorem impl_CombOk_ok : ∀ ds outs, F_CombOk ds = some outs → shL impl_CombOk_L (qRet outs) ds := F_CombOk_elim fun l hp => by
  rw [impl_CombOk_L_sh]
  simp
  refine ⟨fun hh => ?_, fun h1 => ⟨fun hh => ?_, fun h24 => ?_⟩⟩
  · cases hc : combOk l with
    | false => rfl
    | true => have := ((combOk_iff l).1 hc).1; simp [within] at this; omega
  · cases hc : combOk l with
    | false => rfl
    | true => have := ((combOk_iff l).1 hc).1; simp [within] at this; omega
  refine loop_upto l.length (fun k => [vL I1 v1 l, vL I1 v1 l, .int .i64 l.length, .int .i64 k]) (by intro i j _ _ h; simp at h; omega) (fun k => ∀ j (hj : j < l.length), j < k → goodTooth l j hj) (by simp) (by simp) ?_
  intro k hk hP
  rw [impl_CombOk_b0_sh]
  simp
  refine ⟨fun h => ?_, fun h => ?_⟩
  · have hbad : ¬ goodTooth l k h → combOk l = false := fun hn => by
      cases hcc : combOk l with
      | false => rfl
      | true => exact absurd (((combOk_iff l).1 hcc).2 k h) hn
    have hgood : goodTooth l k h → ∀ j (hj : j < l.length), j < k + 1 → goodTooth l j hj := fun hg j hj hjk => by
      by_cases hjk2 : j = k
      · subst hjk2; exact hg
      · exact hP j hj (by omega)
    have hw : IntKind.i64.wrap ((k : Int) + 1) = k + 1 := wrap_id (by omega) (by omega)
    have hw2 : IntKind.i64.wrap ((k : Int) - 1) = k - 1 := wrap_id (by omega) (by omega)
    have hk1 : ((k : Int) - 1).toNat = k - 1 := by omega
    have hk2 : k - 1 < l.length := by omega
    simp only [List.getElem?_eq_getElem h, Option.some.injEq, exists_eq_left', hw, hw2, hk1, List.getElem?_eq_getElem hk2]
    cases e1 : within l[k] 0 60 with
    | false => simp; exact hbad (by simp [goodTooth, e1])
    | true =>
    simp [h]
    refine ⟨fun hk0 => ⟨by omega, fun e3 => hbad (by simp [goodTooth, hk0]; intro _; omega), fun e3 => ?_⟩, fun hk0 => ?_⟩
    · exact hgood ⟨e1, fun _ => e3⟩
    · exact hgood ⟨e1, fun hh => by omega⟩
  · obtain rfl : k = l.length := by omega
    simp [impl_CombOk_r1_sh]
    exact (combOk_iff l).2 ⟨by simp [within]; omega, fun j hj => hP j hj hj⟩
theorem laws_szWorkshop_ok : ∀ ds outs, F_szWorkshop ds = some outs → shL laws_szWorkshop_L (qRet outs) ds := F_szWorkshop_elim fun x n hp => by
  rw [laws_szWorkshop_L_sh]
  rw [p_szBench (x_p := x.p) (x_o := x.o) ⟨hp.1, hp.2.1, hp.2.2.1, by omega, by omega⟩]
  by_cases h : (x.p.length : Int) + tot2 x.o ≤ n
  · have h2 : ¬ n - (x.p.length : Int) - tot2 x.o < 0 := by omega
    rw [if_pos h]
    simp only [P1_lss, ifB_bool, decide_eq_true_eq, decide_eq_false_iff_not]
    refine ⟨fun h3 => absurd h3 h2, fun _ => ?_⟩
    rw [p_szIntS ⟨hp.2.2.2.1, by omega, by omega⟩]
    by_cases h3 : (x.c.length : Int) ≤ n - x.p.length - tot2 x.o
    · rw [if_pos h3]; simp; omega
    · rw [if_neg h3]; simp; omega
  · rw [if_neg h]; simp; omega
theorem laws_toWorkshop_ok : ∀ ds outs, F_toWorkshop ds = some outs → shL laws_toWorkshop_L (qRet outs) ds := F_toWorkshop_elim fun x hp => by
  rw [laws_toWorkshop_L_sh]
  simp [p_toBench, p_toIntS, hp]
end Go.Mw

namespace Go.Mw
theorem spec_WorkshopOk_ok : ∀ ds outs, F_WorkshopOk ds = some outs → shL spec_WorkshopOk_L (qRet outs) ds := F_WorkshopOk_elim fun x hp => by
  rw [spec_WorkshopOk_L_sh, p_BenchOk (x_p := x.p) (x_o := x.o) ⟨hp.1, hp.2.1⟩]
  simp only [shopOk, Shop.bench]
  cases h1 : benchOk ⟨x.s, x.t, x.p, x.o⟩ with
  | false => simp
  | true =>
  simp [p_CombOk hp.2.2]
  cases h2 : combOk x.c <;> cases h3 : springOk ⟨x.u, x.m, x.f⟩ <;> cases h5 : within x.y 0 1000000 <;> simp_all
theorem impl_WorkshopOk_ok : ∀ ds outs, F_WorkshopOk ds = some outs → shL impl_WorkshopOk_L (qRet outs) ds := F_WorkshopOk_elim fun x hp => by
  rw [impl_WorkshopOk_L_sh, p_BenchOk (x_p := x.p) (x_o := x.o) ⟨hp.1, hp.2.1⟩]
  simp only [shopOk, Shop.bench]
  cases h1 : benchOk ⟨x.s, x.t, x.p, x.o⟩ with
  | false => simp
  | true =>
  simp [p_CombOk hp.2.2, impl_WorkshopOk_r0_sh]
  cases h2 : combOk x.c <;> cases h3 : springOk ⟨x.u, x.m, x.f⟩ <;> cases h5 : within x.y 0 1000000 <;> simp_all
theorem laws_eqWorkshop_ok : ∀ ds outs, F_eqWorkshop ds = some outs → shL laws_eqWorkshop_L (qRet outs) ds := F_eqWorkshop_elim fun x y hp => by
  rw [laws_eqWorkshop_L_sh, p_eqBench (x_p := x.p) (x_o := x.o) (y_p := y.p) (y_o := y.o) ⟨hp.1, hp.2.1, hp.2.2.2.1, hp.2.2.2.2.1⟩]
  have h2 : x.c.length ≤ 1048576 ∧ y.c.length ≤ 1048576 := ⟨hp.2.2.1, hp.2.2.2.2.2⟩
  have hxy : x = y ↔ (x.s = y.s ∧ x.t = y.t ∧ x.p = y.p ∧ x.o = y.o) ∧ x.c = y.c ∧ (⟨x.u, x.m, x.f⟩ : T3) = ⟨y.u, y.m, y.f⟩ ∧ x.y = y.y ∧ x.d = y.d := by
    cases x; cases y; simp; grind
  have key : decide (x = y) = decide ((x.s = y.s ∧ x.t = y.t ∧ x.p = y.p ∧ x.o = y.o) ∧ x.c = y.c ∧ (⟨x.u, x.m, x.f⟩ : T3) = ⟨y.u, y.m, y.f⟩ ∧ x.y = y.y ∧ x.d = y.d) := by
    by_cases h : x = y <;> simp [h]
    simpa [hxy] using h
  simp only [p_eqIntS h2, p_eqSpring, P1_not, P1_neq, ifB_bool, key]
  by_cases hA : x.s = y.s ∧ x.t = y.t ∧ x.p = y.p ∧ x.o = y.o <;> by_cases hc : x.c = y.c <;> by_cases hs : (⟨x.u, x.m, x.f⟩ : T3) = ⟨y.u, y.m, y.f⟩ <;> by_cases hy : x.y = y.y <;> by_cases hd : x.d = y.d <;> simp only [hA, hc, hs, hy, hd] <;> simp [hy, hd]
end Go.Mw

namespace Go.Mw
theorem laws_markWorkshop_ok : ∀ ds outs, F_markWorkshop ds = some outs → shL laws_markWorkshop_L (qRet outs) ds := F_markWorkshop_elim fun x k hp => by
  rw [laws_markWorkshop_L_sh]
  rw [p_markBench (x_p := x.p) (x_o := x.o) ⟨hp.1, hp.2.1, hp.2.2.2.1, hp.2.2.2.2⟩]
  rw [p_markIntS ⟨by omega, by show 0 ≤ k + 2 * (x.p.length : Int) + 2 * (sum2 x.o : Int); omega, by show k + 2 * (x.p.length : Int) + 2 * (sum2 x.o : Int) ≤ _; omega⟩]
  simp
@[simp] theorem P1_lst14 {a b c d : Int} {k : V → Prop} : P1 (.lst [.sc] false 4) [.int .i64 a, .int .i64 b, .int .i64 c, .int .i64 d] k ↔ k (vL I1 v1 [a, b, c, d]) := P1_of (by simp [Prim.run, aksOk, akOk, chunk, V.pack, vL, v1]) k
end Go.Mw

namespace Go.Mw
noncomputable section
end
end Go.Mw

namespace Go.Mw
end Go.Mw

namespace Go.Mw
noncomputable section
end
end Go.Mw

namespace Go.Mw
def bSmall (b : Bench) : Prop := b.p.length ≤ 1048576 ∧ fitLL b.o ∧ 1 + 2 * (b.p.length : Int) + 2 * sum2 b.o ≤ 1099511627776
theorem bSmall_of_tot {b : Bench} (h : (b.p.length : Int) + tot2 b.o ≤ 1048576) : bSmall b := by
  have := tot2_eq b.o
  refine ⟨by omega, fit_of_tot (by omega), by omega⟩
end Go.Mw

namespace Go.Mw
end Go.Mw

namespace Go.Mw
@[simp] theorem P1_lstLL1 {x : List Int} {k : V → Prop} : P1 (.lst [.sl [.sc]] false 1) [vL I1 v1 x] k ↔ k (vL IL1 vLL1 [x]) := P1_of (by simp [Prim.run, aksOk, akOk, chunk, V.pack, vL, vLL1, IL1, I1, AK.eqs_refl]) k
@[simp] theorem P1_lstI2 {a b : Int} {k : V → Prop} : P1 (.lst [.sc] false 2) [.int .i64 a, .int .i64 b] k ↔ k (vL I1 v1 [a, b]) := P1_of (by simp [Prim.run, aksOk, akOk, chunk, V.pack, vL, v1]) k
@[simp] theorem P1_appLL1 {l m : List (List Int)} {b : Nat} {k : V → Prop} : P1 (.app [.sl [.sc]] b) [vL IL1 vLL1 l, vL IL1 vLL1 m] k ↔ ((l.length + m.length) * b ≤ 140737488355328 ∧ l.length + m.length ≤ 140737488355328) ∧ k (vL IL1 vLL1 (l ++ m)) := P1_app
@[simp] theorem P1_appLL1_0 {m : List (List Int)} {b : Nat} {k : V → Prop} : P1 (.app [.sl [.sc]] b) [.list [.sl [.sc]] [], vL IL1 vLL1 m] k ↔ (m.length * b ≤ 140737488355328 ∧ m.length ≤ 140737488355328) ∧ k (vL IL1 vLL1 m) := P1_app0

def Shop.spring (w : Shop) : T3 := ⟨w.u, w.m, w.f⟩
def played (w : Shop) : Shop := ⟨w.s, w.t, w.p, w.o, w.c, w.u - 1, w.m, w.f, w.y, w.d + w.p.length⟩
end Go.Mw

namespace Go.Mw
noncomputable section
end
end Go.Mw

namespace Go.Mw
theorem shopOk_iff (w : Shop) : shopOk w = true ↔ benchOk w.bench = true ∧ combOk w.c = true ∧ springOk w.spring = true ∧ w.t = w.c.length ∧ within w.y 0 1000000 = true ∧ within w.d 0 1000000 = true := by
  simp [shopOk, Shop.spring]
def sFit (w : Shop) : Prop := w.p.length ≤ 1048576 ∧ fitLL w.o ∧ w.c.length ≤ 1048576
def sSmall (w : Shop) : Prop := sFit w ∧ 1 + 2 * (w.p.length : Int) + 2 * sum2 w.o ≤ 1099511627776
theorem sSmall_of_tot {w : Shop} (h : (w.p.length : Int) + tot2 w.o + w.c.length ≤ 1048576) : sSmall w := by
  have h0 : 0 ≤ tot2 w.o := by rw [tot2_eq]; omega
  have := bSmall_of_tot (b := w.bench) (by simp only [Shop.bench]; omega)
  exact ⟨⟨this.1, this.2.1, by omega⟩, this.2.2⟩
end Go.Mw

namespace Go.Mw
def noteLess (x y : T2) : Bool := decide (x.a < y.a ∨ x.a = y.a ∧ x.b < y.b)
def putNote : List T2 → T2 → List T2
  | [], p => [p]
  | a :: r, p => if noteLess a p then a :: putNote r p else if a = p then a :: r else p :: a :: r
def noteIn (l : List T2) : List T2 := l.foldl putNote []
def cmpNotes (x y : T2) : Int := if noteLess x y then -1 else if x = y then 0 else 1
def sortN (l : List T2) : List T2 := l.mergeSort fun x y => !noteLess y x
def sortNotes (l : List T2) : List T2 := if l.length ≤ 40 then noteIn l else []
def noteOf (w : Shop) (x : T2) : T2 := ⟨x.b, w.c[x.a.toNat]?.getD 0⟩
def melody (w : Shop) : List T2 := if shopOk w && decide (w.p.length ≤ 40) then sortNotes (w.p.map (noteOf w)) else []
def uqTo (l : List T2) : Nat → List T2
  | 0 => []
  | k + 1 => uqTo l k ++ (if k = 0 ∨ l[k]? ≠ l[k - 1]? then [l[k]?.getD ⟨0, 0⟩] else [])
def uniq (l : List T2) : List T2 := uqTo l l.length
def E_l02Less : T2 × T2 → List V := fun (x, y) => [.int .i64 x.a, .int .i64 x.b, .int .i64 y.a, .int .i64 y.b]
noncomputable def F_l02Less : List V → Option (List V) := mkF E_l02Less (fun (_, _) => True) (fun (x, y) => [.bool (noteLess x y)])
theorem F_l02Less_inj : ∀ x y, E_l02Less x = E_l02Less y → x = y := by
  rintro ⟨⟨xa, xb⟩, ⟨ya, yb⟩⟩ ⟨⟨xa', xb'⟩, ⟨ya', yb'⟩⟩ h
  simpa [E_l02Less, and_assoc] using h
theorem F_l02Less_elim {P : List V → List V → Prop} (h : ∀ (x : T2) (y : T2), P [.int .i64 x.a, .int .i64 x.b, .int .i64 y.a, .int .i64 y.b] [.bool (noteLess x y)]) : ∀ ds outs, F_l02Less ds = some outs → P ds outs := by
  intro ds outs hh
  obtain ⟨⟨x, y⟩, rfl, -, rfl⟩ := mkF_inv hh
  exact h x y
@[simp] theorem p_l02Less {x_a : Int} {x_b : Int} {y_a : Int} {y_b : Int} {nr_ : Nat} {kk_ : V → Prop} : P1 (.call F_l02Less 0 nr_) [.int .i64 x_a, .int .i64 x_b, .int .i64 y_a, .int .i64 y_b] kk_ ↔ kk_ (.bool (noteLess (⟨x_a, x_b⟩ : T2) (⟨y_a, y_b⟩ : T2))) :=
  P1_callF (by unfold F_l02Less; exact mkF_eq F_l02Less_inj ((⟨x_a, x_b⟩ : T2), (⟨y_a, y_b⟩ : T2)) trivial)

def E_SortNotes (l : List T2) : List V := [vL I2 v2 l]
noncomputable def F_SortNotes : List V → Option (List V) := mkF E_SortNotes (fun l => l.length ≤ 1048576) (fun l => [vL I2 v2 (sortNotes l)])
theorem F_SortNotes_inj : ∀ x y, E_SortNotes x = E_SortNotes y → x = y := by
  rintro l l' h
  simpa [E_SortNotes] using h
theorem F_SortNotes_elim {P : List V → List V → Prop} (h : ∀ (l : List T2), (l.length ≤ 1048576) → P [vL I2 v2 l] [vL I2 v2 (sortNotes l)]) : ∀ ds outs, F_SortNotes ds = some outs → P ds outs := by
  intro ds outs hh
  obtain ⟨l, rfl, hp, rfl⟩ := mkF_inv hh
  exact h l hp
theorem p_SortNotes {l : List T2} {nr_ : Nat} {kk_ : V → Prop} (hp : l.length ≤ 1048576) : P1 (.call F_SortNotes 0 nr_) [vL I2 v2 l] kk_ ↔ kk_ (vL I2 v2 (sortNotes l)) :=
  P1_callF (by unfold F_SortNotes; exact mkF_eq F_SortNotes_inj (l) hp)

def E_MelodyOf (x : Shop) : List V := [.int .i64 x.s, .int .i64 x.t, vL I2 v2 x.p, vL IL2 vLL2 x.o, vL I1 v1 x.c, .int .i64 x.u, .int .i64 x.m, .int .i64 x.f, .int .i64 x.y, .int .i64 x.d]
noncomputable def F_MelodyOf : List V → Option (List V) := mkF E_MelodyOf (fun x => x.p.length ≤ 1048576 ∧ fitLL x.o ∧ x.c.length ≤ 1048576) (fun x => [vL I2 v2 (melody x)])
theorem F_MelodyOf_inj : ∀ x y, E_MelodyOf x = E_MelodyOf y → x = y := by
  rintro ⟨xs, xt, xp, xo, xc, xu, xm, xf, xy, xd⟩ ⟨xs', xt', xp', xo', xc', xu', xm', xf', xy', xd'⟩ h
  simpa [E_MelodyOf] using h
theorem F_MelodyOf_elim {P : List V → List V → Prop} (h : ∀ (x : Shop), (x.p.length ≤ 1048576 ∧ fitLL x.o ∧ x.c.length ≤ 1048576) → P [.int .i64 x.s, .int .i64 x.t, vL I2 v2 x.p, vL IL2 vLL2 x.o, vL I1 v1 x.c, .int .i64 x.u, .int .i64 x.m, .int .i64 x.f, .int .i64 x.y, .int .i64 x.d] [vL I2 v2 (melody x)]) : ∀ ds outs, F_MelodyOf ds = some outs → P ds outs := by
  intro ds outs hh
  obtain ⟨x, rfl, hp, rfl⟩ := mkF_inv hh
  exact h x hp
theorem p_MelodyOf {x_s : Int} {x_t : Int} {x_p : List T2} {x_o : List (List T2)} {x_c : List Int} {x_u : Int} {x_m : Int} {x_f : Int} {x_y : Int} {x_d : Int} {nr_ : Nat} {kk_ : V → Prop} (hp : (⟨x_s, x_t, x_p, x_o, x_c, x_u, x_m, x_f, x_y, x_d⟩ : Shop).p.length ≤ 1048576 ∧ fitLL (⟨x_s, x_t, x_p, x_o, x_c, x_u, x_m, x_f, x_y, x_d⟩ : Shop).o ∧ (⟨x_s, x_t, x_p, x_o, x_c, x_u, x_m, x_f, x_y, x_d⟩ : Shop).c.length ≤ 1048576) : P1 (.call F_MelodyOf 0 nr_) [.int .i64 x_s, .int .i64 x_t, vL I2 v2 x_p, vL IL2 vLL2 x_o, vL I1 v1 x_c, .int .i64 x_u, .int .i64 x_m, .int .i64 x_f, .int .i64 x_y, .int .i64 x_d] kk_ ↔ kk_ (vL I2 v2 (melody (⟨x_s, x_t, x_p, x_o, x_c, x_u, x_m, x_f, x_y, x_d⟩ : Shop))) :=
  P1_callF (by unfold F_MelodyOf; exact mkF_eq F_MelodyOf_inj ((⟨x_s, x_t, x_p, x_o, x_c, x_u, x_m, x_f, x_y, x_d⟩ : Shop)) hp)

def E_copyNotes (l : List T2) : List V := [vL I2 v2 l]
noncomputable def F_copyNotes : List V → Option (List V) := mkF E_copyNotes (fun l => l.length ≤ 1048576) (fun l => [vL I2 v2 l])
theorem F_copyNotes_inj : ∀ x y, E_copyNotes x = E_copyNotes y → x = y := by
  rintro l l' h
  simpa [E_copyNotes] using h
theorem F_copyNotes_elim {P : List V → List V → Prop} (h : ∀ (l : List T2), (l.length ≤ 1048576) → P [vL I2 v2 l] [vL I2 v2 l]) : ∀ ds outs, F_copyNotes ds = some outs → P ds outs := by
  intro ds outs hh
  obtain ⟨l, rfl, hp, rfl⟩ := mkF_inv hh
  exact h l hp
theorem p_copyNotes {l : List T2} {nr_ : Nat} {kk_ : V → Prop} (hp : l.length ≤ 1048576) : P1 (.call F_copyNotes 0 nr_) [vL I2 v2 l] kk_ ↔ kk_ (vL I2 v2 l) :=
  P1_callF (by unfold F_copyNotes; exact mkF_eq F_copyNotes_inj (l) hp)

def E_compareNotes : T2 × T2 → List V := fun (x, y) => [.int .i64 x.a, .int .i64 x.b, .int .i64 y.a, .int .i64 y.b]
noncomputable def F_compareNotes : List V → Option (List V) := mkF E_compareNotes (fun (_, _) => True) (fun (x, y) => [.int .i64 (cmpNotes x y)])
theorem F_compareNotes_inj : ∀ x y, E_compareNotes x = E_compareNotes y → x = y := by
  rintro ⟨⟨xa, xb⟩, ⟨ya, yb⟩⟩ ⟨⟨xa', xb'⟩, ⟨ya', yb'⟩⟩ h
  simpa [E_compareNotes, and_assoc] using h
theorem F_compareNotes_elim {P : List V → List V → Prop} (h : ∀ (x : T2) (y : T2), P [.int .i64 x.a, .int .i64 x.b, .int .i64 y.a, .int .i64 y.b] [.int .i64 (cmpNotes x y)]) : ∀ ds outs, F_compareNotes ds = some outs → P ds outs := by
  intro ds outs hh
  obtain ⟨⟨x, y⟩, rfl, -, rfl⟩ := mkF_inv hh
  exact h x y
@[simp] theorem p_compareNotes {x_a : Int} {x_b : Int} {y_a : Int} {y_b : Int} {nr_ : Nat} {kk_ : V → Prop} : P1 (.call F_compareNotes 0 nr_) [.int .i64 x_a, .int .i64 x_b, .int .i64 y_a, .int .i64 y_b] kk_ ↔ kk_ (.int .i64 (cmpNotes (⟨x_a, x_b⟩ : T2) (⟨y_a, y_b⟩ : T2))) :=
  P1_callF (by unfold F_compareNotes; exact mkF_eq F_compareNotes_inj ((⟨x_a, x_b⟩ : T2), (⟨y_a, y_b⟩ : T2)) trivial)

def E_slices_SortFunc_Limpl_Note_impl_Note (l : List T2) : List V := [vL I2 v2 l]
noncomputable def F_slices_SortFunc_Limpl_Note_impl_Note : List V → Option (List V) := mkF E_slices_SortFunc_Limpl_Note_impl_Note (fun l => l.length ≤ 1048576) (fun l => [vL I2 v2 (sortN l)])
theorem F_slices_SortFunc_Limpl_Note_impl_Note_inj : ∀ x y, E_slices_SortFunc_Limpl_Note_impl_Note x = E_slices_SortFunc_Limpl_Note_impl_Note y → x = y := by
  rintro l l' h
  simpa [E_slices_SortFunc_Limpl_Note_impl_Note] using h
theorem p_slices_SortFunc_Limpl_Note_impl_Note {l : List T2} {kk_ : V → Prop} (hp : l.length ≤ 1048576) : P1 (.call F_slices_SortFunc_Limpl_Note_impl_Note 1 0) [vL I2 v2 l, vL I2 v2 l] kk_ ↔ kk_ (vL I2 v2 (sortN l)) :=
  P1_of (callIo_run (as := [vL I2 v2 l]) (rs := [vL I2 v2 l]) (n := 1) (nr := 0) rfl (by simp) (by unfold F_slices_SortFunc_Limpl_Note_impl_Note; exact mkF_eq F_slices_SortFunc_Limpl_Note_impl_Note_inj (l) hp) (by simp [ksAll, vL, AK.eqs_refl]) rfl) kk_

def E_slices_Compact_Limpl_Note_impl_Note (l : List T2) : List V := [vL I2 v2 l]
noncomputable def F_slices_Compact_Limpl_Note_impl_Note : List V → Option (List V) := mkF E_slices_Compact_Limpl_Note_impl_Note (fun l => l.length ≤ 1048576) (fun l => [vL I2 v2 (uniq l)])
theorem F_slices_Compact_Limpl_Note_impl_Note_inj : ∀ x y, E_slices_Compact_Limpl_Note_impl_Note x = E_slices_Compact_Limpl_Note_impl_Note y → x = y := by
  rintro l l' h
  simpa [E_slices_Compact_Limpl_Note_impl_Note] using h
theorem p_slices_Compact_Limpl_Note_impl_Note {l : List T2} {nr_ : Nat} {kk_ : V → Prop} (hp : l.length ≤ 1048576) : P1 (.call F_slices_Compact_Limpl_Note_impl_Note 0 nr_) [vL I2 v2 l] kk_ ↔ kk_ (vL I2 v2 (uniq l)) :=
  P1_callF (by unfold F_slices_Compact_Limpl_Note_impl_Note; exact mkF_eq F_slices_Compact_Limpl_Note_impl_Note_inj (l) hp)

def E_sorted (l : List T2) : List V := [vL I2 v2 l]
noncomputable def F_sorted : List V → Option (List V) := mkF E_sorted (fun l => l.length ≤ 1048576) (fun l => [vL I2 v2 (noteIn l)])
theorem F_sorted_inj : ∀ x y, E_sorted x = E_sorted y → x = y := by
  rintro l l' h
  simpa [E_sorted] using h
theorem F_sorted_elim {P : List V → List V → Prop} (h : ∀ (l : List T2), (l.length ≤ 1048576) → P [vL I2 v2 l] [vL I2 v2 (noteIn l)]) : ∀ ds outs, F_sorted ds = some outs → P ds outs := by
  intro ds outs hh
  obtain ⟨l, rfl, hp, rfl⟩ := mkF_inv hh
  exact h l hp
theorem p_sorted {l : List T2} {nr_ : Nat} {kk_ : V → Prop} (hp : l.length ≤ 1048576) : P1 (.call F_sorted 0 nr_) [vL I2 v2 l] kk_ ↔ kk_ (vL I2 v2 (noteIn l)) :=
  P1_callF (by unfold F_sorted; exact mkF_eq F_sorted_inj (l) hp)

def E_eqNote : T2 × T2 → List V := fun (x, y) => [.int .i64 x.a, .int .i64 x.b, .int .i64 y.a, .int .i64 y.b]
noncomputable def F_eqNote : List V → Option (List V) := mkF E_eqNote (fun (_, _) => True) (fun (x, y) => [.bool (decide (x = y))])
theorem F_eqNote_inj : ∀ x y, E_eqNote x = E_eqNote y → x = y := by
  rintro ⟨⟨xa, xb⟩, ⟨ya, yb⟩⟩ ⟨⟨xa', xb'⟩, ⟨ya', yb'⟩⟩ h
  simpa [E_eqNote, and_assoc] using h
theorem F_eqNote_elim {P : List V → List V → Prop} (h : ∀ (x : T2) (y : T2), P [.int .i64 x.a, .int .i64 x.b, .int .i64 y.a, .int .i64 y.b] [.bool (decide (x = y))]) : ∀ ds outs, F_eqNote ds = some outs → P ds outs := by
  intro ds outs hh
  obtain ⟨⟨x, y⟩, rfl, -, rfl⟩ := mkF_inv hh
  exact h x y
@[simp] theorem p_eqNote {x_a : Int} {x_b : Int} {y_a : Int} {y_b : Int} {nr_ : Nat} {kk_ : V → Prop} : P1 (.call F_eqNote 0 nr_) [.int .i64 x_a, .int .i64 x_b, .int .i64 y_a, .int .i64 y_b] kk_ ↔ kk_ (.bool (decide ((⟨x_a, x_b⟩ : T2) = (⟨y_a, y_b⟩ : T2)))) :=
  P1_callF (by unfold F_eqNote; exact mkF_eq F_eqNote_inj ((⟨x_a, x_b⟩ : T2), (⟨y_a, y_b⟩ : T2)) trivial)

def E_eqNoteS : List T2 × List T2 → List V := fun (l, m) => [vL I2 v2 l, vL I2 v2 m]
noncomputable def F_eqNoteS : List V → Option (List V) := mkF E_eqNoteS (fun (l, m) => l.length ≤ 1048576 ∧ m.length ≤ 1048576) (fun (l, m) => [.bool (decide (l = m))])
theorem F_eqNoteS_inj : ∀ x y, E_eqNoteS x = E_eqNoteS y → x = y := by
  rintro ⟨l, m⟩ ⟨l', m'⟩ h
  simpa [E_eqNoteS] using h
theorem F_eqNoteS_elim {P : List V → List V → Prop} (h : ∀ (l : List T2) (m : List T2), (l.length ≤ 1048576 ∧ m.length ≤ 1048576) → P [vL I2 v2 l, vL I2 v2 m] [.bool (decide (l = m))]) : ∀ ds outs, F_eqNoteS ds = some outs → P ds outs := by
  intro ds outs hh
  obtain ⟨⟨l, m⟩, rfl, hp, rfl⟩ := mkF_inv hh
  exact h l m hp
theorem p_eqNoteS {l : List T2} {m : List T2} {nr_ : Nat} {kk_ : V → Prop} (hp : l.length ≤ 1048576 ∧ m.length ≤ 1048576) : P1 (.call F_eqNoteS 0 nr_) [vL I2 v2 l, vL I2 v2 m] kk_ ↔ kk_ (.bool (decide (l = m))) :=
  P1_callF (by unfold F_eqNoteS; exact mkF_eq F_eqNoteS_inj (l, m) hp)

def E_markNoteS : List T2 × Int → List V := fun (l, k) => [vL I2 v2 l, .int .i64 k]
noncomputable def F_markNoteS : List V → Option (List V) := mkF E_markNoteS (fun (l, k) => l.length ≤ 4194304 ∧ 0 ≤ k ∧ k ≤ 1099511627776) (fun (l, k) => [.int .i64 (k + 2 * l.length), vL I2 v2 (markL2 l.length k)])
theorem F_markNoteS_inj : ∀ x y, E_markNoteS x = E_markNoteS y → x = y := by
  rintro ⟨l, k⟩ ⟨l', k'⟩ h
  simpa [E_markNoteS] using h
theorem F_markNoteS_elim {P : List V → List V → Prop} (h : ∀ (l : List T2) (k : Int), (l.length ≤ 4194304 ∧ 0 ≤ k ∧ k ≤ 1099511627776) → P [vL I2 v2 l, .int .i64 k] [.int .i64 (k + 2 * l.length), vL I2 v2 (markL2 l.length k)]) : ∀ ds outs, F_markNoteS ds = some outs → P ds outs := by
  intro ds outs hh
  obtain ⟨⟨l, k⟩, rfl, hp, rfl⟩ := mkF_inv hh
  exact h l k hp
theorem p_markNoteS {l : List T2} {k : Int} {kk_ : V → V → Prop} (hp : l.length ≤ 4194304 ∧ 0 ≤ k ∧ k ≤ 1099511627776) : P2 (.call F_markNoteS 1 1) [vL I2 v2 l, .int .i64 k, vL I2 v2 l] kk_ ↔ kk_ (.int .i64 (k + 2 * l.length)) (vL I2 v2 (markL2 l.length k)) :=
  P2_of (callIo_run (as := [vL I2 v2 l, .int .i64 k]) (rs := [vL I2 v2 l]) (n := 1) (nr := 1) rfl (by simp) (by unfold F_markNoteS; exact mkF_eq F_markNoteS_inj (l, k) hp) (by simp [ksAll, vL, AK.eqs_refl]) rfl)

def E_heldNoteS : List T2 × Int → List V := fun (l, k) => [vL I2 v2 l, .int .i64 k]
noncomputable def F_heldNoteS : List V → Option (List V) := mkF E_heldNoteS (fun (l, k) => l.length ≤ 4194304 ∧ 0 ≤ k ∧ k ≤ 1099511627776) (fun (l, k) => [.int .i64 (if l = markL2 l.length k then k + 2 * l.length else -1)])
theorem F_heldNoteS_inj : ∀ x y, E_heldNoteS x = E_heldNoteS y → x = y := by
  rintro ⟨l, k⟩ ⟨l', k'⟩ h
  simpa [E_heldNoteS] using h
theorem F_heldNoteS_elim {P : List V → List V → Prop} (h : ∀ (l : List T2) (k : Int), (l.length ≤ 4194304 ∧ 0 ≤ k ∧ k ≤ 1099511627776) → P [vL I2 v2 l, .int .i64 k] [.int .i64 (if l = markL2 l.length k then k + 2 * l.length else -1)]) : ∀ ds outs, F_heldNoteS ds = some outs → P ds outs := by
  intro ds outs hh
  obtain ⟨⟨l, k⟩, rfl, hp, rfl⟩ := mkF_inv hh
  exact h l k hp
theorem p_heldNoteS {l : List T2} {k : Int} {nr_ : Nat} {kk_ : V → Prop} (hp : l.length ≤ 4194304 ∧ 0 ≤ k ∧ k ≤ 1099511627776) : P1 (.call F_heldNoteS 0 nr_) [vL I2 v2 l, .int .i64 k] kk_ ↔ kk_ (.int .i64 (if l = markL2 l.length k then k + 2 * l.length else -1)) :=
  P1_callF (by unfold F_heldNoteS; exact mkF_eq F_heldNoteS_inj (l, k) hp)

def E_FnExactMelodyOf (x : Shop) : List V := [.int .i64 x.s, .int .i64 x.t, vL I2 v2 x.p, vL IL2 vLL2 x.o, vL I1 v1 x.c, .int .i64 x.u, .int .i64 x.m, .int .i64 x.f, .int .i64 x.y, .int .i64 x.d]
noncomputable def F_FnExactMelodyOf : List V → Option (List V) := mkF E_FnExactMelodyOf (fun x => wfI x.s ∧ wfI x.t ∧ wfL2 x.p ∧ wfLL2 x.o ∧ wfL1 x.c ∧ wfI x.u ∧ wfI x.m ∧ wfI x.f ∧ wfI x.y ∧ wfI x.d) (fun _ => [.bool true])
theorem F_FnExactMelodyOf_inj : ∀ x y, E_FnExactMelodyOf x = E_FnExactMelodyOf y → x = y := by
  rintro ⟨xs, xt, xp, xo, xc, xu, xm, xf, xy, xd⟩ ⟨xs', xt', xp', xo', xc', xu', xm', xf', xy', xd'⟩ h
  simpa [E_FnExactMelodyOf] using h
theorem F_FnExactMelodyOf_elim {P : List V → List V → Prop} (h : ∀ (x : Shop), (wfI x.s ∧ wfI x.t ∧ wfL2 x.p ∧ wfLL2 x.o ∧ wfL1 x.c ∧ wfI x.u ∧ wfI x.m ∧ wfI x.f ∧ wfI x.y ∧ wfI x.d) → P [.int .i64 x.s, .int .i64 x.t, vL I2 v2 x.p, vL IL2 vLL2 x.o, vL I1 v1 x.c, .int .i64 x.u, .int .i64 x.m, .int .i64 x.f, .int .i64 x.y, .int .i64 x.d] [.bool true]) : ∀ ds outs, F_FnExactMelodyOf ds = some outs → P ds outs := by
  intro ds outs hh
  obtain ⟨x, rfl, hp, rfl⟩ := mkF_inv hh
  exact h x hp
theorem F_FnExactMelodyOf_law : ∀ ds, okTKs [.int .i64, .int .i64, .list true [.int .i64, .int .i64], .list false [.list true [.int .i64, .int .i64]], .list false [.int .i64], .int .i64, .int .i64, .int .i64, .int .i64, .int .i64] ds → F_FnExactMelodyOf ds = some [.bool true] := by
  intro ds g0
  obtain ⟨_, _, rfl, h0, g1⟩ := okTKs_cons g0
  obtain ⟨x_s, rfl, r0⟩ := dec_I h0
  obtain ⟨_, _, rfl, h1, g2⟩ := okTKs_cons g1
  obtain ⟨x_t, rfl, r1⟩ := dec_I h1
  obtain ⟨_, _, rfl, h2, g3⟩ := okTKs_cons g2
  obtain ⟨x_p, rfl, r2⟩ := dec_L2 h2
  obtain ⟨_, _, rfl, h3, g4⟩ := okTKs_cons g3
  obtain ⟨x_o, rfl, r3⟩ := dec_LL2 h3
  obtain ⟨_, _, rfl, h4, g5⟩ := okTKs_cons g4
  obtain ⟨x_c, rfl, r4⟩ := dec_L1 h4
  obtain ⟨_, _, rfl, h5, g6⟩ := okTKs_cons g5
  obtain ⟨x_u, rfl, r5⟩ := dec_I h5
  obtain ⟨_, _, rfl, h6, g7⟩ := okTKs_cons g6
  obtain ⟨x_m, rfl, r6⟩ := dec_I h6
  obtain ⟨_, _, rfl, h7, g8⟩ := okTKs_cons g7
  obtain ⟨x_f, rfl, r7⟩ := dec_I h7
  obtain ⟨_, _, rfl, h8, g9⟩ := okTKs_cons g8
  obtain ⟨x_y, rfl, r8⟩ := dec_I h8
  obtain ⟨_, _, rfl, h9, g10⟩ := okTKs_cons g9
  obtain ⟨x_d, rfl, r9⟩ := dec_I h9
  obtain rfl := okTKs_nil g10
  exact mkF_eq F_FnExactMelodyOf_inj ((⟨x_s, x_t, x_p, x_o, x_c, x_u, x_m, x_f, x_y, x_d⟩ : Shop)) ⟨r0, r1, r2, r3, r4, r5, r6, r7, r8, r9⟩


end Go.Mw

namespace Go.Mw
noncomputable section
def spec_l02Less_L : L := .seq (.rg []) (.seq (.rg [zb .lss 0 2, ⟨[(.v 4, false)], .bin .eql, [.v 0, .v 2], 1⟩, ⟨[(.v 4, false), (.v 5, true)], .bin .lss, [.v 1, .v 3], 1⟩, ⟨[(.v 4, false)], .pick, [.v 5, .v 6, .k (.bool false)], 1⟩, ⟨[], .pick, [.v 4, .k (.bool true), .v 7], 1⟩]) (.ret [.v 8]))
theorem spec_l02Less_L_sh (Q : QT) (x0 x1 x2 x3 : V) : shL spec_l02Less_L Q [x0, x1, x2, x3] = (
  P1 (.bin .lss) [x0, x2] fun v0 =>
  ifB v0 (
    Q .ret [.bool true]) (
    P1 (.bin .eql) [x0, x2] fun v1 =>
    ifB v1 (
      P1 (.bin .lss) [x1, x3] fun v2 =>
      Q .ret [v2]) (
      Q .ret [.bool false]))) := by kernel_rfl
def spec_l02Less_S : Sig := ⟨[.val true [.sc, .sc], .val true [.sc, .sc]], [(false, [.sc])], F_l02Less⟩
def spec_l02Less_hs : List NF := []

def spec_SortNotes_b1 : L := .seq (.seq (.seq (.rg [zl 3, zb .lss 2 4, ⟨[(.v 5, true)], .idx [.sc, .sc], [.v 3, .v 2], 2⟩, ⟨[(.v 5, true)], .idx [.sc, .sc], [.v 0, .v 1], 2⟩, ⟨[(.v 5, true)], .call F_l02Less 0 1, [.v 6, .v 7, .v 8, .v 9], 1⟩, ⟨[], .pick, [.v 5, .v 10, .k (.bool false)], 1⟩]) (.ite (.v 11) (.skip) (.seq (zt [0, 1, 2, 3]) (.exit 2)))) (.block 3 (.seq (.rg [zk .add 2 1]) (zt [0, 1, 12, 3])))) (zt [0, 1, 2, 3])
theorem spec_SortNotes_b1_sh (Q : QT) (x0 x1 x2 x3 : V) : shL spec_SortNotes_b1 Q [x0, x1, x2, x3] = (
  P1 (.len) [x3] fun v0 =>
  P1 (.bin .lss) [x2, v0] fun v1 =>
  ifB v1 (
    P2 (.idx [.sc, .sc]) [x3, x2] fun v2 v3 =>
    P2 (.idx [.sc, .sc]) [x0, x1] fun v4 v5 =>
    P1 (.call F_l02Less 0 1) [v2, v3, v4, v5] fun v6 =>
    ifB v6 (
      P1 (.bin .add) [x2, .int .i64 1] fun v7 =>
      Q .normal [x0, x1, v7, x3]) (
      Q (.exit 2) [x0, x1, x2, x3])) (
    Q (.exit 2) [x0, x1, x2, x3])) := by kernel_rfl

def spec_SortNotes_r2 : L := .seq (.rg [zl 3, zb .eql 2 4, ⟨[(.v 5, false)], .idx [.sc, .sc], [.v 3, .v 2], 2⟩, ⟨[(.v 5, false)], .idx [.sc, .sc], [.v 0, .v 1], 2⟩, ⟨[(.v 5, false)], .eqa true [.i, .i], [.v 6, .v 7, .v 8, .v 9], 1⟩, ⟨[], .pick, [.v 5, .k (.bool true), .v 10], 1⟩]) (.ite (.v 11) (.seq (.rg [⟨[], .lst [.sc, .sc] true 0, [], 1⟩, ⟨[], .lsub [.sc, .sc], [.v 3, .k (.int .i64 0), .v 2], 1⟩, ⟨[], .app [.sc, .sc] 16, [.v 12, .v 13], 1⟩, zj 0 1, ⟨[], .lst [.sc, .sc] true 1, [.v 15, .v 16], 1⟩, ⟨[], .app [.sc, .sc] 16, [.v 14, .v 17], 1⟩, ⟨[], .lsub [.sc, .sc], [.v 3, .v 2], 1⟩, ⟨[], .app [.sc, .sc] 16, [.v 18, .v 19], 1⟩]) (zt [0, 1, 20])) (.seq (.skip) (zt [0, 1, 3])))
theorem spec_SortNotes_r2_sh (Q : QT) (x0 x1 x2 x3 : V) : shL spec_SortNotes_r2 Q [x0, x1, x2, x3] = (
  P1 (.len) [x3] fun v0 =>
  P1 (.bin .eql) [x2, v0] fun v1 =>
  ifB v1 (
    P1 (.lst [.sc, .sc] true 0) [] fun v2 =>
    P1 (.lsub [.sc, .sc]) [x3, .int .i64 0, x2] fun v3 =>
    P1 (.app [.sc, .sc] 16) [v2, v3] fun v4 =>
    P2 (.idx [.sc, .sc]) [x0, x1] fun v5 v6 =>
    P1 (.lst [.sc, .sc] true 1) [v5, v6] fun v7 =>
    P1 (.app [.sc, .sc] 16) [v4, v7] fun v8 =>
    P1 (.lsub [.sc, .sc]) [x3, x2] fun v9 =>
    P1 (.app [.sc, .sc] 16) [v8, v9] fun v10 =>
    Q .normal [x0, x1, v10]) (
    P2 (.idx [.sc, .sc]) [x3, x2] fun v11 v12 =>
    P2 (.idx [.sc, .sc]) [x0, x1] fun v13 v14 =>
    P1 (.eqa true [.i, .i]) [v11, v12, v13, v14] fun v15 =>
    ifB v15 (
      P1 (.lst [.sc, .sc] true 0) [] fun v16 =>
      P1 (.lsub [.sc, .sc]) [x3, .int .i64 0, x2] fun v17 =>
      P1 (.app [.sc, .sc] 16) [v16, v17] fun v18 =>
      P2 (.idx [.sc, .sc]) [x0, x1] fun v19 v20 =>
      P1 (.lst [.sc, .sc] true 1) [v19, v20] fun v21 =>
      P1 (.app [.sc, .sc] 16) [v18, v21] fun v22 =>
      P1 (.lsub [.sc, .sc]) [x3, x2] fun v23 =>
      P1 (.app [.sc, .sc] 16) [v22, v23] fun v24 =>
      Q .normal [x0, x1, v24]) (
      Q .normal [x0, x1, x3]))) := by kernel_rfl

def spec_SortNotes_r3 : L := zt [0, 1, 2]
theorem spec_SortNotes_r3_sh (Q : QT) (x0 x1 x2 : V) : shL spec_SortNotes_r3 Q [x0, x1, x2] = (
  Q .normal [x0, x1, x2]) := by kernel_rfl

def spec_SortNotes_r4 : L := .rg [zk .add 1 1]
theorem spec_SortNotes_r4_sh (Q : QT) (x0 x1 x2 : V) : shL spec_SortNotes_r4 Q [x0, x1, x2] = (
  P1 (.bin .add) [x1, .int .i64 1] fun v0 =>
  Q .normal [x0, x1, x2, v0]) := by kernel_rfl

def spec_SortNotes_r5 : L := zt [0, 3, 2]
theorem spec_SortNotes_r5_sh (Q : QT) (x0 x1 x2 x3 : V) : shL spec_SortNotes_r5 Q [x0, x1, x2, x3] = (
  Q .normal [x0, x3, x2]) := by kernel_rfl

def spec_SortNotes_b0 : L := .seq (.seq (.seq (.rg [zl 0, zb .lss 1 3, ⟨[(.v 4, true)], .len, [.v 0], 1⟩, ⟨[(.v 4, true)], .bin .leq, [.v 5, .k (.int .i64 40)], 1⟩, ⟨[], .pick, [.v 4, .v 6, .k (.bool false)], 1⟩]) (.ite (.v 7) (.skip) (.seq (zt [2]) (.exit 0)))) (.seq (.block 1 (.seq (.seq (.rg []) (.seq (.block 2 (.seq (.tup [.v 0, .v 1, .k (.int .i64 0), .v 2]) (.loop (spec_SortNotes_b1)))) (spec_SortNotes_r2))) (spec_SortNotes_r3))) (spec_SortNotes_r4))) (spec_SortNotes_r5)
theorem spec_SortNotes_b0_sh (Q : QT) (x0 x1 x2 : V) : shL spec_SortNotes_b0 Q [x0, x1, x2] = (
  P1 (.len) [x0] fun v0 =>
  P1 (.bin .lss) [x1, v0] fun v1 =>
  ifB v1 (
    P1 (.len) [x0] fun v2 =>
    P1 (.bin .leq) [v2, .int .i64 40] fun v3 =>
    ifB v3 (
      shL (.loop spec_SortNotes_b1) (qB 2 (qS (shL spec_SortNotes_r2 (qS (shL spec_SortNotes_r3 (qB 1 (qS (shL spec_SortNotes_r4 (qS (shL spec_SortNotes_r5 Q) Q)) (qS (shL spec_SortNotes_r5 Q) Q)))) (qB 1 (qS (shL spec_SortNotes_r4 (qS (shL spec_SortNotes_r5 Q) Q)) (qS (shL spec_SortNotes_r5 Q) Q))))) (qS (shL spec_SortNotes_r3 (qB 1 (qS (shL spec_SortNotes_r4 (qS (shL spec_SortNotes_r5 Q) Q)) (qS (shL spec_SortNotes_r5 Q) Q)))) (qB 1 (qS (shL spec_SortNotes_r4 (qS (shL spec_SortNotes_r5 Q) Q)) (qS (shL spec_SortNotes_r5 Q) Q)))))) [x0, x1, .int .i64 0, x2]) (
      Q (.exit 0) [x2])) (
    Q (.exit 0) [x2])) := by kernel_rfl

def spec_SortNotes_r6 : L := .seq (.rg []) (.ret [.v 0])
theorem spec_SortNotes_r6_sh (Q : QT) (x0 : V) : shL spec_SortNotes_r6 Q [x0] = (
  Q .ret [x0]) := by kernel_rfl

def spec_SortNotes_L : L := .seq (.rg []) (.seq (.rg [⟨[], .lst [.sc, .sc] true 0, [], 1⟩]) (.seq (.seq (.rg []) (.block 0 (.seq (.tup [.v 0, .k (.int .i64 0), .v 1]) (.loop (spec_SortNotes_b0))))) (spec_SortNotes_r6)))
theorem spec_SortNotes_L_sh (Q : QT) (x0 : V) : shL spec_SortNotes_L Q [x0] = (
  P1 (.lst [.sc, .sc] true 0) [] fun v0 =>
  shL (.loop spec_SortNotes_b0) (qB 0 (qS (shL spec_SortNotes_r6 Q) Q)) [x0, .int .i64 0, v0]) := by kernel_rfl
def spec_SortNotes_S : Sig := ⟨[.val false [.sl [.sc, .sc]]], [(false, [.sl [.sc, .sc]])], F_SortNotes⟩
def spec_SortNotes_hs : List NF := [⟨[(3, zo 64)], [(64, true, [.sc, .sc])], [], 65⟩, ⟨[(0, zq), (3, zo 64), (4, zs)], [(64, true, [.sc, .sc])], [], 65⟩, ⟨[(0, zq), (3, zo 64), (4, zs)], [(64, true, [.sc, .sc])], [], 65⟩, ⟨[(0, zq), (3, zo 64), (4, zs), (5, zs)], [(64, true, [.sc, .sc])], [], 65⟩, ⟨[(0, zq), (3, zo 64), (4, zs), (5, zs)], [(64, true, [.sc, .sc])], [], 65⟩, ⟨[(0, zq), (3, zo 64), (4, zs), (5, zs)], [(64, true, [.sc, .sc])], [], 65⟩, ⟨[(0, zq), (3, zo 64), (4, zs)], [(64, true, [.sc, .sc])], [], 65⟩]

def spec_MelodyOf_b0 : L := .seq (.seq (.seq (.rg [zl 4, zb .lss 0 12]) (.ite (.v 13) (.skip) (.seq (zt [1]) (.exit 0)))) (.seq (.block 1 (.seq (.seq (.rg [zj 4 0]) (.rg [zi 6 14, ⟨[], .lst [.sc, .sc] true 1, [.v 15, .v 16], 1⟩, ⟨[], .app [.sc, .sc] 16, [.v 1, .v 17], 1⟩])) (zt [0, 18, 2, 3, 4, 5, 6, 7, 8, 9, 10, 11]))) (.rg [zk .add 0 1]))) (zt [12, 1, 2, 3, 4, 5, 6, 7, 8, 9, 10, 11])
theorem spec_MelodyOf_b0_sh (Q : QT) (x0 x1 x2 x3 x4 x5 x6 x7 x8 x9 x10 x11 : V) : shL spec_MelodyOf_b0 Q [x0, x1, x2, x3, x4, x5, x6, x7, x8, x9, x10, x11] = (
  P1 (.len) [x4] fun v0 =>
  P1 (.bin .lss) [x0, v0] fun v1 =>
  ifB v1 (
    P2 (.idx [.sc, .sc]) [x4, x0] fun v2 v3 =>
    P1 (.idx [.sc]) [x6, v2] fun v4 =>
    P1 (.lst [.sc, .sc] true 1) [v3, v4] fun v5 =>
    P1 (.app [.sc, .sc] 16) [x1, v5] fun v6 =>
    P1 (.bin .add) [x0, .int .i64 1] fun v7 =>
    Q .normal [v7, v6, x2, x3, x4, x5, x6, x7, x8, x9, x10, x11]) (
    Q (.exit 0) [x1])) := by kernel_rfl

def spec_MelodyOf_r1 : L := .seq (.rg [zc F_SortNotes 1 [0]]) (.ret [.v 1])
theorem spec_MelodyOf_r1_sh (Q : QT) (x0 : V) : shL spec_MelodyOf_r1 Q [x0] = (
  P1 (.call F_SortNotes 0 1) [x0] fun v0 =>
  Q .ret [v0]) := by kernel_rfl

def spec_MelodyOf_L : L := .seq (.rg []) (.seq (.rg [⟨[], .lst [.sc, .sc] true 0, [], 1⟩]) (.seq (.seq (.rg [zc F_WorkshopOk 1 [0, 1, 2, 3, 4, 5, 6, 7, 8, 9], zn 11, ⟨[(.v 12, false)], .len, [.v 2], 1⟩, ⟨[(.v 12, false)], .bin .gtr, [.v 13, .k (.int .i64 40)], 1⟩, ⟨[], .pick, [.v 12, .k (.bool true), .v 14], 1⟩]) (.ite (.v 15) (.seq (.rg []) (.ret [.v 10])) (.skip))) (.seq (.seq (.rg []) (.block 0 (.seq (.tup [.k (.int .i64 0), .v 10, .v 0, .v 1, .v 2, .v 3, .v 4, .v 5, .v 6, .v 7, .v 8, .v 9]) (.loop (spec_MelodyOf_b0))))) (spec_MelodyOf_r1))))
theorem spec_MelodyOf_L_sh (Q : QT) (x0 x1 x2 x3 x4 x5 x6 x7 x8 x9 : V) : shL spec_MelodyOf_L Q [x0, x1, x2, x3, x4, x5, x6, x7, x8, x9] = (
  P1 (.lst [.sc, .sc] true 0) [] fun v0 =>
  P1 (.call F_WorkshopOk 0 1) [x0, x1, x2, x3, x4, x5, x6, x7, x8, x9] fun v1 =>
  P1 (.un .not) [v1] fun v2 =>
  ifB v2 (
    Q .ret [v0]) (
    P1 (.len) [x2] fun v3 =>
    P1 (.bin .gtr) [v3, .int .i64 40] fun v4 =>
    ifB v4 (
      Q .ret [v0]) (
      shL (.loop spec_MelodyOf_b0) (qB 0 (qS (shL spec_MelodyOf_r1 Q) Q)) [.int .i64 0, v0, x0, x1, x2, x3, x4, x5, x6, x7, x8, x9]))) := by kernel_rfl
def spec_MelodyOf_S : Sig := ⟨[.val true [.sc, .sc, .sl [.sc, .sc], .sl [.sl [.sc, .sc]], .sl [.sc], .sc, .sc, .sc, .sc, .sc]], [(false, [.sl [.sc, .sc]])], F_MelodyOf⟩
def spec_MelodyOf_hs : List NF := [⟨[(3, zo 64)], [(64, true, [.sc, .sc])], [], 65⟩, ⟨[(1, .ptr 64 0), (3, zo 65), (4, zs)], [(65, true, [.sc, .sc])], [(64, [.sc, .sc, .ro [.sc, .sc], .ro [.sl [.sc, .sc]], .ro [.sc], .sc, .sc, .sc, .sc, .sc])], 66⟩, ⟨[(1, .ptr 64 0), (3, zo 65), (4, zs)], [(65, true, [.sc, .sc])], [(64, [.sc, .sc, .ro [.sc, .sc], .ro [.sl [.sc, .sc]], .ro [.sc], .sc, .sc, .sc, .sc, .sc])], 66⟩]

def impl_copyNotes_L : L := .seq (.rg []) (.seq (.rg [⟨[], .lst [.sc, .sc] true 0, [], 1⟩, ⟨[], .app [.sc, .sc] 16, [.v 1, .v 0], 1⟩]) (.ret [.v 2]))
theorem impl_copyNotes_L_sh (Q : QT) (x0 : V) : shL impl_copyNotes_L Q [x0] = (
  P1 (.lst [.sc, .sc] true 0) [] fun v0 =>
  P1 (.app [.sc, .sc] 16) [v0, x0] fun v1 =>
  Q .ret [v1]) := by kernel_rfl
def impl_copyNotes_S : Sig := ⟨[.val false [.sl [.sc, .sc]]], [(false, [.sl [.sc, .sc]])], F_copyNotes⟩
def impl_copyNotes_hs : List NF := []

def impl_compareNotes_L : L := .seq (.rg []) (.seq (.seq (.rg [zb .lss 0 2, ⟨[(.v 4, false)], .bin .eql, [.v 0, .v 2], 1⟩, ⟨[(.v 4, false), (.v 5, true)], .bin .lss, [.v 1, .v 3], 1⟩, ⟨[(.v 4, false)], .pick, [.v 5, .v 6, .k (.bool false)], 1⟩, ⟨[], .pick, [.v 4, .k (.bool true), .v 7], 1⟩]) (.ite (.v 8) (.seq (.rg []) (.ret [.k (.int .i64 (-1))])) (.skip))) (.seq (.seq (.rg [⟨[], .eqa false [.i, .i], [.v 0, .v 1, .v 2, .v 3], 1⟩]) (.ite (.v 9) (.seq (.rg []) (.ret [.k (.int .i64 0)])) (.skip))) (.seq (.rg []) (.ret [.k (.int .i64 1)]))))
theorem impl_compareNotes_L_sh (Q : QT) (x0 x1 x2 x3 : V) : shL impl_compareNotes_L Q [x0, x1, x2, x3] = (
  P1 (.bin .lss) [x0, x2] fun v0 =>
  ifB v0 (
    Q .ret [.int .i64 (-1)]) (
    P1 (.bin .eql) [x0, x2] fun v1 =>
    ifB v1 (
      P1 (.bin .lss) [x1, x3] fun v2 =>
      ifB v2 (
        Q .ret [.int .i64 (-1)]) (
        P1 (.eqa false [.i, .i]) [x0, x1, x2, x3] fun v3 =>
        ifB v3 (
          Q .ret [.int .i64 0]) (
          Q .ret [.int .i64 1]))) (
      P1 (.eqa false [.i, .i]) [x0, x1, x2, x3] fun v4 =>
      ifB v4 (
        Q .ret [.int .i64 0]) (
        Q .ret [.int .i64 1])))) := by kernel_rfl
def impl_compareNotes_S : Sig := ⟨[.val true [.sc, .sc], .val true [.sc, .sc]], [(false, [.sc])], F_compareNotes⟩
def impl_compareNotes_hs : List NF := []

def impl_sorted_L : L := .seq (.rg []) (.seq (.rg [zc F_copyNotes 1 [0]]) (.seq (.rg [⟨[], .call F_slices_SortFunc_Limpl_Note_impl_Note 1 0, [.v 1, .v 1], 1⟩]) (.seq (.rg [zc F_slices_Compact_Limpl_Note_impl_Note 1 [2]]) (.ret [.v 3]))))
theorem impl_sorted_L_sh (Q : QT) (x0 : V) : shL impl_sorted_L Q [x0] = (
  P1 (.call F_copyNotes 0 1) [x0] fun v0 =>
  P1 (.call F_slices_SortFunc_Limpl_Note_impl_Note 1 0) [v0, v0] fun v1 =>
  P1 (.call F_slices_Compact_Limpl_Note_impl_Note 0 1) [v1] fun v2 =>
  Q .ret [v2]) := by kernel_rfl
def impl_sorted_S : Sig := ⟨[.val false [.sl [.sc, .sc]]], [(false, [.sl [.sc, .sc]])], F_sorted⟩
def impl_sorted_hs : List NF := []

def impl_SortNotes_L : L := .seq (.rg []) (.seq (.seq (.rg [zl 0, zk .gtr 1 40]) (.ite (.v 2) (.seq (.rg []) (.ret [.k (.list [.sc, .sc] [])])) (.skip))) (.seq (.rg [zc F_sorted 1 [0]]) (.ret [.v 3])))
theorem impl_SortNotes_L_sh (Q : QT) (x0 : V) : shL impl_SortNotes_L Q [x0] = (
  P1 (.len) [x0] fun v0 =>
  P1 (.bin .gtr) [v0, .int .i64 40] fun v1 =>
  ifB v1 (
    Q .ret [.list [.sc, .sc] []]) (
    P1 (.call F_sorted 0 1) [x0] fun v2 =>
    Q .ret [v2])) := by kernel_rfl
def impl_SortNotes_S : Sig := ⟨[.val false [.sl [.sc, .sc]]], [(false, [.sl [.sc, .sc]])], F_SortNotes⟩
def impl_SortNotes_hs : List NF := []

def impl_MelodyOf_b0 : L := .seq (.seq (.rg [zb .lss 2 1]) (.seq (.ite (.v 14) (.skip) (.seq (zt [3]) (.exit 0))) (.seq (.block 1 (.seq (.seq (.rg [zj 0 2]) (.rg [zi 8 15, ⟨[], .lst [.sc, .sc] true 1, [.v 16, .v 17], 1⟩, ⟨[], .app [.sc, .sc] 16, [.v 3, .v 18], 1⟩])) (zt [0, 1, 2, 19, 4, 5, 6, 7, 8, 9, 10, 11, 12, 13]))) (.rg [zk .add 2 1])))) (zt [0, 1, 14, 3, 4, 5, 6, 7, 8, 9, 10, 11, 12, 13])
theorem impl_MelodyOf_b0_sh (Q : QT) (x0 x1 x2 x3 x4 x5 x6 x7 x8 x9 x10 x11 x12 x13 : V) : shL impl_MelodyOf_b0 Q [x0, x1, x2, x3, x4, x5, x6, x7, x8, x9, x10, x11, x12, x13] = (
  P1 (.bin .lss) [x2, x1] fun v0 =>
  ifB v0 (
    P2 (.idx [.sc, .sc]) [x0, x2] fun v1 v2 =>
    P1 (.idx [.sc]) [x8, v1] fun v3 =>
    P1 (.lst [.sc, .sc] true 1) [v2, v3] fun v4 =>
    P1 (.app [.sc, .sc] 16) [x3, v4] fun v5 =>
    P1 (.bin .add) [x2, .int .i64 1] fun v6 =>
    Q .normal [x0, x1, v6, v5, x4, x5, x6, x7, x8, x9, x10, x11, x12, x13]) (
    Q (.exit 0) [x3])) := by kernel_rfl

def impl_MelodyOf_r1 : L := .seq (.rg [zc F_SortNotes 1 [0]]) (.ret [.v 1])
theorem impl_MelodyOf_r1_sh (Q : QT) (x0 : V) : shL impl_MelodyOf_r1 Q [x0] = (
  P1 (.call F_SortNotes 0 1) [x0] fun v0 =>
  Q .ret [v0]) := by kernel_rfl

def impl_MelodyOf_L : L := .seq (.rg []) (.seq (.seq (.rg [zc F_WorkshopOk 1 [0, 1, 2, 3, 4, 5, 6, 7, 8, 9], zn 10, ⟨[(.v 11, false)], .len, [.v 2], 1⟩, ⟨[(.v 11, false)], .bin .gtr, [.v 12, .k (.int .i64 40)], 1⟩, ⟨[], .pick, [.v 11, .k (.bool true), .v 13], 1⟩]) (.ite (.v 14) (.seq (.rg []) (.ret [.k (.list [.sc, .sc] [])])) (.skip))) (.seq (.rg [⟨[], .lst [.sc, .sc] true 0, [], 1⟩]) (.seq (.seq (.rg [zl 2]) (.block 0 (.seq (.tup [.v 2, .v 16, .k (.int .i64 0), .v 15, .v 0, .v 1, .v 2, .v 3, .v 4, .v 5, .v 6, .v 7, .v 8, .v 9]) (.loop (impl_MelodyOf_b0))))) (impl_MelodyOf_r1))))
theorem impl_MelodyOf_L_sh (Q : QT) (x0 x1 x2 x3 x4 x5 x6 x7 x8 x9 : V) : shL impl_MelodyOf_L Q [x0, x1, x2, x3, x4, x5, x6, x7, x8, x9] = (
  P1 (.call F_WorkshopOk 0 1) [x0, x1, x2, x3, x4, x5, x6, x7, x8, x9] fun v0 =>
  P1 (.un .not) [v0] fun v1 =>
  ifB v1 (
    Q .ret [.list [.sc, .sc] []]) (
    P1 (.len) [x2] fun v2 =>
    P1 (.bin .gtr) [v2, .int .i64 40] fun v3 =>
    ifB v3 (
      Q .ret [.list [.sc, .sc] []]) (
      P1 (.lst [.sc, .sc] true 0) [] fun v4 =>
      P1 (.len) [x2] fun v5 =>
      shL (.loop impl_MelodyOf_b0) (qB 0 (qS (shL impl_MelodyOf_r1 Q) Q)) [x2, v5, .int .i64 0, v4, x0, x1, x2, x3, x4, x5, x6, x7, x8, x9]))) := by kernel_rfl
def impl_MelodyOf_S : Sig := ⟨[.val true [.sc, .sc, .sl [.sc, .sc], .sl [.sl [.sc, .sc]], .sl [.sc], .sc, .sc, .sc, .sc, .sc]], [(false, [.sl [.sc, .sc]])], F_MelodyOf⟩
def impl_MelodyOf_hs : List NF := [⟨[(3, zo 64)], [(64, true, [.sc, .sc])], [], 65⟩, ⟨[(1, .ptr 64 0), (3, zo 65), (21, zq), (22, zs), (23, zs)], [(65, true, [.sc, .sc])], [(64, [.sc, .sc, .ro [.sc, .sc], .ro [.sl [.sc, .sc]], .ro [.sc], .sc, .sc, .sc, .sc, .sc])], 66⟩, ⟨[(1, .ptr 64 0), (3, zo 65), (21, zq), (22, zs), (23, zs)], [(65, true, [.sc, .sc])], [(64, [.sc, .sc, .ro [.sc, .sc], .ro [.sl [.sc, .sc]], .ro [.sc], .sc, .sc, .sc, .sc, .sc])], 66⟩]

def laws_eqNote_L : L := .seq (.rg []) (.seq (.seq (.rg [zb .neq 0 2]) (.ite (.v 4) (.seq (.rg []) (.ret [.k (.bool false)])) (.skip))) (.seq (.seq (.rg [zb .neq 1 3]) (.ite (.v 5) (.seq (.rg []) (.ret [.k (.bool false)])) (.skip))) (.seq (.rg []) (.ret [.k (.bool true)]))))
theorem laws_eqNote_L_sh (Q : QT) (x0 x1 x2 x3 : V) : shL laws_eqNote_L Q [x0, x1, x2, x3] = (
  P1 (.bin .neq) [x0, x2] fun v0 =>
  ifB v0 (
    Q .ret [.bool false]) (
    P1 (.bin .neq) [x1, x3] fun v1 =>
    ifB v1 (
      Q .ret [.bool false]) (
      Q .ret [.bool true]))) := by kernel_rfl
def laws_eqNote_S : Sig := ⟨[.val true [.sc, .sc], .val true [.sc, .sc]], [(false, [.sc])], F_eqNote⟩
def laws_eqNote_hs : List NF := []

def laws_eqNoteS_b0 : L := .seq (.seq (.seq (.rg [zl 0, zb .lss 2 3]) (.ite (.v 4) (.skip) (.seq (.tup []) (.exit 0)))) (.seq (.block 1 (.seq (.seq (.rg [zj 0 2, zj 1 2, zc F_eqNote 1 [5, 6, 7, 8], zn 9]) (.ite (.v 10) (.seq (.rg []) (.ret [.k (.bool false)])) (.skip))) (zt [0, 1, 2]))) (.rg [zk .add 2 1]))) (zt [0, 1, 3])
theorem laws_eqNoteS_b0_sh (Q : QT) (x0 x1 x2 : V) : shL laws_eqNoteS_b0 Q [x0, x1, x2] = (
  P1 (.len) [x0] fun v0 =>
  P1 (.bin .lss) [x2, v0] fun v1 =>
  ifB v1 (
    P2 (.idx [.sc, .sc]) [x0, x2] fun v2 v3 =>
    P2 (.idx [.sc, .sc]) [x1, x2] fun v4 v5 =>
    P1 (.call F_eqNote 0 1) [v2, v3, v4, v5] fun v6 =>
    P1 (.un .not) [v6] fun v7 =>
    ifB v7 (
      Q .ret [.bool false]) (
      P1 (.bin .add) [x2, .int .i64 1] fun v8 =>
      Q .normal [x0, x1, v8])) (
    Q (.exit 0) [])) := by kernel_rfl

def laws_eqNoteS_r1 : L := .seq (.rg []) (.ret [.k (.bool true)])
theorem laws_eqNoteS_r1_sh (Q : QT) : shL laws_eqNoteS_r1 Q [] = (
  Q .ret [.bool true]) := by kernel_rfl

def laws_eqNoteS_L : L := .seq (.rg []) (.seq (.seq (.rg [zl 0, zl 1, zb .neq 2 3]) (.ite (.v 4) (.seq (.rg []) (.ret [.k (.bool false)])) (.skip))) (.seq (.seq (.rg []) (.block 0 (.seq (.tup [.v 0, .v 1, .k (.int .i64 0)]) (.loop (laws_eqNoteS_b0))))) (laws_eqNoteS_r1)))
theorem laws_eqNoteS_L_sh (Q : QT) (x0 x1 : V) : shL laws_eqNoteS_L Q [x0, x1] = (
  P1 (.len) [x0] fun v0 =>
  P1 (.len) [x1] fun v1 =>
  P1 (.bin .neq) [v0, v1] fun v2 =>
  ifB v2 (
    Q .ret [.bool false]) (
    shL (.loop laws_eqNoteS_b0) (qB 0 (qS (shL laws_eqNoteS_r1 Q) Q)) [x0, x1, .int .i64 0])) := by kernel_rfl
def laws_eqNoteS_S : Sig := ⟨[.val false [.sl [.sc, .sc]], .val false [.sl [.sc, .sc]]], [(false, [.sc])], F_eqNoteS⟩
def laws_eqNoteS_hs : List NF := [⟨[], [], [], 64⟩, ⟨[(0, zq), (1, zq), (5, zs)], [], [], 64⟩, ⟨[(0, zq), (1, zq), (5, zs)], [], [], 64⟩]

def laws_markNoteS_b0 : L := .seq (.seq (.seq (.rg [zl 2, zb .lss 1 3]) (.ite (.v 4) (.skip) (.seq (zt [0, 2]) (.exit 0)))) (.seq (.block 1 (.seq (.seq (.rg [zj 2 1, ⟨[], .set [.sc, .sc] 0, [.v 2, .v 1, .v 0], 1⟩]) (.seq (.rg [zk .add 0 1]) (.seq (.rg [zj 7 1, ⟨[], .set [.sc, .sc] 1, [.v 7, .v 1, .v 8], 1⟩]) (.rg [zk .add 8 1])))) (zt [12, 1, 11]))) (.rg [zk .add 1 1]))) (zt [0, 3, 2])
theorem laws_markNoteS_b0_sh (Q : QT) (x0 x1 x2 : V) : shL laws_markNoteS_b0 Q [x0, x1, x2] = (
  P1 (.len) [x2] fun v0 =>
  P1 (.bin .lss) [x1, v0] fun v1 =>
  ifB v1 (
    P2 (.idx [.sc, .sc]) [x2, x1] fun _ _ =>
    P1 (.set [.sc, .sc] 0) [x2, x1, x0] fun v4 =>
    P1 (.bin .add) [x0, .int .i64 1] fun v5 =>
    P2 (.idx [.sc, .sc]) [v4, x1] fun _ _ =>
    P1 (.set [.sc, .sc] 1) [v4, x1, v5] fun v8 =>
    P1 (.bin .add) [v5, .int .i64 1] fun v9 =>
    P1 (.bin .add) [x1, .int .i64 1] fun v10 =>
    Q .normal [v9, v10, v8]) (
    Q (.exit 0) [x0, x2])) := by kernel_rfl

def laws_markNoteS_r1 : L := .seq (.rg []) (.ret [.v 0, .v 1])
theorem laws_markNoteS_r1_sh (Q : QT) (x0 x1 : V) : shL laws_markNoteS_r1 Q [x0, x1] = (
  Q .ret [x0, x1]) := by kernel_rfl

def laws_markNoteS_L : L := .seq (.rg []) (.seq (.seq (.rg []) (.block 0 (.seq (.tup [.v 1, .k (.int .i64 0), .v 0]) (.loop (laws_markNoteS_b0))))) (laws_markNoteS_r1))
theorem laws_markNoteS_L_sh (Q : QT) (x0 x1 : V) : shL laws_markNoteS_L Q [x0, x1] = (
  shL (.loop laws_markNoteS_b0) (qB 0 (qS (shL laws_markNoteS_r1 Q) Q)) [x1, .int .i64 0, x0]) := by kernel_rfl
def laws_markNoteS_S : Sig := ⟨[.io false [.sl [.sc, .sc]], .val false [.sc]], [(false, [.sc])], F_markNoteS⟩
def laws_markNoteS_hs : List NF := [⟨[(1, zs)], [(0, false, [.sc, .sc])], [], 64⟩, ⟨[(0, zo 0), (1, zs), (5, zs)], [(0, false, [.sc, .sc])], [], 64⟩, ⟨[(0, zo 0), (1, zs), (5, zs)], [(0, false, [.sc, .sc])], [], 64⟩]

def laws_heldNoteS_b0 : L := .seq (.seq (.seq (.rg [zl 0, zb .lss 2 3]) (.ite (.v 4) (.skip) (.seq (zt [1]) (.exit 0)))) (.seq (.block 1 (.seq (.seq (.seq (.rg [zj 0 2, zb .neq 5 1]) (.ite (.v 7) (.seq (.rg []) (.ret [.k (.int .i64 (-1))])) (.skip))) (.seq (.rg [zk .add 1 1]) (.seq (.seq (.rg [zj 0 2, zb .neq 10 8]) (.ite (.v 11) (.seq (.rg []) (.ret [.k (.int .i64 (-1))])) (.skip))) (.rg [zk .add 8 1])))) (zt [0, 12, 2]))) (.rg [zk .add 2 1]))) (zt [0, 1, 3])
theorem laws_heldNoteS_b0_sh (Q : QT) (x0 x1 x2 : V) : shL laws_heldNoteS_b0 Q [x0, x1, x2] = (
  P1 (.len) [x0] fun v0 =>
  P1 (.bin .lss) [x2, v0] fun v1 =>
  ifB v1 (
    P2 (.idx [.sc, .sc]) [x0, x2] fun v2 _ =>
    P1 (.bin .neq) [v2, x1] fun v4 =>
    ifB v4 (
      Q .ret [.int .i64 (-1)]) (
      P1 (.bin .add) [x1, .int .i64 1] fun v5 =>
      P2 (.idx [.sc, .sc]) [x0, x2] fun _ v7 =>
      P1 (.bin .neq) [v7, v5] fun v8 =>
      ifB v8 (
        Q .ret [.int .i64 (-1)]) (
        P1 (.bin .add) [v5, .int .i64 1] fun v9 =>
        P1 (.bin .add) [x2, .int .i64 1] fun v10 =>
        Q .normal [x0, v9, v10]))) (
    Q (.exit 0) [x1])) := by kernel_rfl

def laws_heldNoteS_r1 : L := .seq (.rg []) (.ret [.v 0])
theorem laws_heldNoteS_r1_sh (Q : QT) (x0 : V) : shL laws_heldNoteS_r1 Q [x0] = (
  Q .ret [x0]) := by kernel_rfl

def laws_heldNoteS_L : L := .seq (.rg []) (.seq (.seq (.rg []) (.block 0 (.seq (.tup [.v 0, .v 1, .k (.int .i64 0)]) (.loop (laws_heldNoteS_b0))))) (laws_heldNoteS_r1))
theorem laws_heldNoteS_L_sh (Q : QT) (x0 x1 : V) : shL laws_heldNoteS_L Q [x0, x1] = (
  shL (.loop laws_heldNoteS_b0) (qB 0 (qS (shL laws_heldNoteS_r1 Q) Q)) [x0, x1, .int .i64 0]) := by kernel_rfl
def laws_heldNoteS_S : Sig := ⟨[.val false [.sl [.sc, .sc]], .val false [.sc]], [(false, [.sc])], F_heldNoteS⟩
def laws_heldNoteS_hs : List NF := [⟨[(1, zs)], [], [], 64⟩, ⟨[(0, zq), (1, zs), (5, zs)], [], [], 64⟩, ⟨[(0, zq), (1, zs), (5, zs)], [], [], 64⟩]

def laws_FnExactMelodyOf_r0 : L := .seq (.rg []) (.seq (.rg [⟨[], .call F_markNoteS 1 1, [.v 33, .k (.int .i64 1), .v 33], 2⟩]) (.seq (.rg []) (.seq (.rg [⟨[], .call F_heldNoteS 0 1, [.v 57, .k (.int .i64 1)], 1⟩]) (.seq (.seq (.rg [zk .lss 58 0]) (.ite (.v 59) (.seq (.rg []) (.ret [.k (.bool false)])) (.skip))) (.seq (.seq (.rg [zb .neq 58 56]) (.ite (.v 60) (.seq (.rg []) (.ret [.k (.bool false)])) (.skip))) (.seq (.rg [zc F_toWorkshop 10 [0, 1, 2, 3, 4, 5, 6, 7, 8, 9], zc F_MelodyOf 1 [61, 62, 63, 64, 65, 66, 67, 68, 69, 70]]) (.seq (.seq (.rg [zc F_eqNoteS 1 [71, 22], zn 72]) (.ite (.v 73) (.seq (.rg []) (.ret [.k (.bool false)])) (.skip))) (.seq (.rg []) (.seq (.rg [⟨[], .call F_heldNoteS 0 1, [.v 57, .k (.int .i64 1)], 1⟩]) (.seq (.seq (.rg [zk .lss 74 0]) (.ite (.v 75) (.seq (.rg []) (.ret [.k (.bool false)])) (.skip))) (.seq (.seq (.rg [zb .neq 74 56]) (.ite (.v 76) (.seq (.rg []) (.ret [.k (.bool false)])) (.skip))) (.seq (.rg []) (.ret [.k (.bool true)])))))))))))))
theorem laws_FnExactMelodyOf_r0_sh (Q : QT) (x0 x1 x2 x3 x4 x5 x6 x7 x8 x9 x10 x11 x12 x13 x14 x15 x16 x17 x18 x19 x20 x21 x22 x23 x24 x25 x26 x27 x28 x29 x30 x31 x32 x33 x34 x35 x36 x37 x38 x39 x40 x41 x42 x43 x44 x45 x46 x47 x48 x49 x50 x51 x52 x53 x54 x55 : V) : shL laws_FnExactMelodyOf_r0 Q [x0, x1, x2, x3, x4, x5, x6, x7, x8, x9, x10, x11, x12, x13, x14, x15, x16, x17, x18, x19, x20, x21, x22, x23, x24, x25, x26, x27, x28, x29, x30, x31, x32, x33, x34, x35, x36, x37, x38, x39, x40, x41, x42, x43, x44, x45, x46, x47, x48, x49, x50, x51, x52, x53, x54, x55] = (
  P2 (.call F_markNoteS 1 1) [x33, .int .i64 1, x33] fun v0 v1 =>
  P1 (.call F_heldNoteS 0 1) [v1, .int .i64 1] fun v2 =>
  P1 (.bin .lss) [v2, .int .i64 0] fun v3 =>
  ifB v3 (
    Q .ret [.bool false]) (
    P1 (.bin .neq) [v2, v0] fun v4 =>
    ifB v4 (
      Q .ret [.bool false]) (
      P10 (.call F_toWorkshop 0 10) [x0, x1, x2, x3, x4, x5, x6, x7, x8, x9] fun v5 v6 v7 v8 v9 v10 v11 v12 v13 v14 =>
      P1 (.call F_MelodyOf 0 1) [v5, v6, v7, v8, v9, v10, v11, v12, v13, v14] fun v15 =>
      P1 (.call F_eqNoteS 0 1) [v15, x22] fun v16 =>
      P1 (.un .not) [v16] fun v17 =>
      ifB v17 (
        Q .ret [.bool false]) (
        P1 (.call F_heldNoteS 0 1) [v1, .int .i64 1] fun v18 =>
        P1 (.bin .lss) [v18, .int .i64 0] fun v19 =>
        ifB v19 (
          Q .ret [.bool false]) (
          P1 (.bin .neq) [v18, v0] fun v20 =>
          ifB v20 (
            Q .ret [.bool false]) (
            Q .ret [.bool true])))))) := by kernel_rfl

def laws_FnExactMelodyOf_L : L := .seq (.rg []) (.seq (.rg []) (.seq (.rg [⟨[], .call F_szWorkshop 0 1, [.v 0, .v 1, .v 2, .v 3, .v 4, .v 5, .v 6, .v 7, .v 8, .v 9, .k (.int .i64 1048576)], 1⟩]) (.seq (.seq (.rg [zk .lss 10 0]) (.ite (.v 11) (.seq (.rg []) (.ret [.k (.bool true)])) (.skip))) (.seq (.rg [zc F_toWorkshop 10 [0, 1, 2, 3, 4, 5, 6, 7, 8, 9], zc F_MelodyOf 1 [12, 13, 14, 15, 16, 17, 18, 19, 20, 21]]) (.seq (.rg [zc F_toWorkshop 10 [0, 1, 2, 3, 4, 5, 6, 7, 8, 9]]) (.seq (.rg [zc F_MelodyOf 1 [23, 24, 25, 26, 27, 28, 29, 30, 31, 32]]) (.seq (.seq (.rg [zc F_eqNoteS 1 [33, 22], zn 34]) (.ite (.v 35) (.seq (.rg []) (.ret [.k (.bool false)])) (.skip))) (.seq (.seq (.rg [zc F_toWorkshop 10 [0, 1, 2, 3, 4, 5, 6, 7, 8, 9], zc F_eqWorkshop 1 [23, 24, 25, 26, 27, 28, 29, 30, 31, 32, 36, 37, 38, 39, 40, 41, 42, 43, 44, 45], zn 46]) (.ite (.v 47) (.seq (.rg []) (.ret [.k (.bool false)])) (.skip))) (.seq (.rg []) (.seq (.rg [⟨[], .callN F_markWorkshop 3 1, [.v 23, .v 24, .v 25, .v 26, .v 27, .v 28, .v 29, .v 30, .v 31, .v 32, .k (.int .i64 1), .v 25, .v 26, .v 27], 4⟩]) (.seq (.seq (.rg [zk .lss 48 0, ⟨[(.v 52, false)], .call F_eqNoteS 0 1, [.v 33, .v 22], 1⟩, ⟨[(.v 52, false)], .un .not, [.v 53], 1⟩, ⟨[], .pick, [.v 52, .k (.bool true), .v 54], 1⟩]) (.ite (.v 55) (.seq (.rg []) (.ret [.k (.bool false)])) (.skip))) (laws_FnExactMelodyOf_r0))))))))))))
theorem laws_FnExactMelodyOf_L_sh (Q : QT) (x0 x1 x2 x3 x4 x5 x6 x7 x8 x9 : V) : shL laws_FnExactMelodyOf_L Q [x0, x1, x2, x3, x4, x5, x6, x7, x8, x9] = (
  P1 (.call F_szWorkshop 0 1) [x0, x1, x2, x3, x4, x5, x6, x7, x8, x9, .int .i64 1048576] fun v0 =>
  P1 (.bin .lss) [v0, .int .i64 0] fun v1 =>
  ifB v1 (
    Q .ret [.bool true]) (
    P10 (.call F_toWorkshop 0 10) [x0, x1, x2, x3, x4, x5, x6, x7, x8, x9] fun v2 v3 v4 v5 v6 v7 v8 v9 v10 v11 =>
    P1 (.call F_MelodyOf 0 1) [v2, v3, v4, v5, v6, v7, v8, v9, v10, v11] fun v12 =>
    P10 (.call F_toWorkshop 0 10) [x0, x1, x2, x3, x4, x5, x6, x7, x8, x9] fun v13 v14 v15 v16 v17 v18 v19 v20 v21 v22 =>
    P1 (.call F_MelodyOf 0 1) [v13, v14, v15, v16, v17, v18, v19, v20, v21, v22] fun v23 =>
    P1 (.call F_eqNoteS 0 1) [v23, v12] fun v24 =>
    P1 (.un .not) [v24] fun v25 =>
    ifB v25 (
      Q .ret [.bool false]) (
      P10 (.call F_toWorkshop 0 10) [x0, x1, x2, x3, x4, x5, x6, x7, x8, x9] fun v26 v27 v28 v29 v30 v31 v32 v33 v34 v35 =>
      P1 (.call F_eqWorkshop 0 1) [v13, v14, v15, v16, v17, v18, v19, v20, v21, v22, v26, v27, v28, v29, v30, v31, v32, v33, v34, v35] fun v36 =>
      P1 (.un .not) [v36] fun v37 =>
      ifB v37 (
        Q .ret [.bool false]) (
        P4 (.callN F_markWorkshop 3 1) [v13, v14, v15, v16, v17, v18, v19, v20, v21, v22, .int .i64 1, v15, v16, v17] fun v38 v39 v40 v41 =>
        P1 (.bin .lss) [v38, .int .i64 0] fun v42 =>
        ifB v42 (
          Q .ret [.bool false]) (
          P1 (.call F_eqNoteS 0 1) [v23, v12] fun v43 =>
          P1 (.un .not) [v43] fun v44 =>
          ifB v44 (
            Q .ret [.bool false]) (
            shL laws_FnExactMelodyOf_r0 Q [x0, x1, x2, x3, x4, x5, x6, x7, x8, x9, v0, .bool false, v2, v3, v4, v5, v6, v7, v8, v9, v10, v11, v12, v13, v14, v15, v16, v17, v18, v19, v20, v21, v22, v23, v24, .bool false, v26, v27, v28, v29, v30, v31, v32, v33, v34, v35, v36, .bool false, v38, v39, v40, v41, .bool false, v43, v44, .bool false])))))) := by kernel_rfl
def laws_FnExactMelodyOf_S : Sig := ⟨[.val true [.sc, .sc, .sl [.sc, .sc], .sl [.sl [.sc, .sc]], .sl [.sc], .sc, .sc, .sc, .sc, .sc]], [(false, [.sc])], F_FnExactMelodyOf⟩
def laws_FnExactMelodyOf_hs : List NF := []

end
end Go.Mw

namespace Go.Mw
theorem noteLess_iff {x y : T2} : noteLess x y = true ↔ x.a < y.a ∨ x.a = y.a ∧ x.b < y.b := by simp [noteLess]
theorem noteLess_trans {a b c : T2} (h1 : noteLess a b = true) (h2 : noteLess b c = true) : noteLess a c = true := by
  rw [noteLess_iff] at *; omega
theorem noteLess_irrefl (a : T2) : noteLess a a = false := by simp [noteLess]
theorem noteLess_or {a b : T2} (h : noteLess a b = false) (hne : a ≠ b) : noteLess b a = true := by
  rw [noteLess_iff]
  have h : ¬ (a.a < b.a ∨ a.a = b.a ∧ a.b < b.b) := fun e => by rw [noteLess_iff.2 e] at h; exact absurd h (by simp)
  by_cases e : a.a = b.a ∧ a.b = b.b
  · exact absurd (by cases a; cases b; simp_all) hne
  · omega
theorem putNote_mem : ∀ {l : List T2} {y p : T2}, p ∈ putNote l y ↔ p = y ∨ p ∈ l
  | [], y, p => by simp [putNote]
  | a :: r, y, p => by
    unfold putNote
    split
    · rw [List.mem_cons, putNote_mem (l := r)]
      simp only [List.mem_cons]
      exact ⟨fun h => by rcases h with h | h | h <;> simp [h], fun h => by rcases h with h | h | h <;> simp [h]⟩
    · split
      · rename_i e
        subst e
        simp
      · simp
theorem putNote_less : ∀ {l : List T2} {y : T2}, (l.Pairwise fun x y => noteLess x y = true) → (putNote l y).Pairwise fun x y => noteLess x y = true
  | [], y, _ => by simp [putNote]
  | a :: r, y, h => by
    obtain ⟨h1, h2⟩ := List.pairwise_cons.1 h
    unfold putNote
    cases c : noteLess a y with
    | true =>
      rw [if_pos rfl]
      refine .cons (fun b hb => ?_) (putNote_less h2)
      rcases putNote_mem.1 hb with rfl | hb
      · exact c
      · exact h1 b hb
    | false =>
      rw [if_neg (by simp)]
      split
      · exact h
      · rename_i e
        have g := noteLess_or c e
        refine .cons (fun b hb => ?_) h
        rcases List.mem_cons.1 hb with rfl | hb
        · exact g
        · exact noteLess_trans g (h1 b hb)
theorem putNote_len (l : List T2) (y : T2) : (putNote l y).length ≤ l.length + 1 := by
  induction l with
  | nil => simp [putNote]
  | cons a r ih =>
    unfold putNote
    split
    · simp only [List.length_cons]; omega
    · split <;> simp
theorem putNote_at : ∀ (l : List T2) (y : T2) (i : Nat), (∀ j (h : j < l.length), j < i → noteLess l[j] y = true) → i ≤ l.length → (∀ (h : i < l.length), noteLess l[i] y = false) →
    putNote l y = (if l[i]? = some y then l else l.take i ++ [y] ++ l.drop i)
  | [], y, i, _, hi, _ => by
    obtain rfl : i = 0 := by simpa using hi
    simp [putNote]
  | a :: r, y, 0, _, _, h => by
    have h := h (by simp)
    simp only [List.getElem_cons_zero] at h
    by_cases e : a = y
    · subst e; simp [putNote, h]
    · simp [putNote, h, e]
  | a :: r, y, i + 1, h1, h2, h3 => by
    have ha := h1 0 (by simp) (by omega)
    simp only [List.getElem_cons_zero] at ha
    have ih := putNote_at r y i (fun j hj hji => by have := h1 (j + 1) (by simp; omega) (by omega); simpa using this) (by simpa using h2) (fun h => by have := h3 (by simp; omega); simpa using this)
    simp only [putNote, ha, if_true, List.getElem?_cons_succ, ih, List.take_succ_cons, List.drop_succ_cons]
    split <;> simp
theorem note_one : ∀ {l m : List T2}, (l.Pairwise fun x y => noteLess x y = true) → (m.Pairwise fun x y => noteLess x y = true) → l.Perm m → l = m
  | [], m, _, _, h => by simpa using h.symm.eq_nil
  | a :: r, [], _, _, h => by simpa using h.eq_nil
  | a :: r, b :: s, h1, h2, h => by
    have hab : a = b := by
      have ha : a ∈ b :: s := h.subset (by simp)
      have hb : b ∈ a :: r := h.symm.subset (by simp)
      rcases List.mem_cons.1 ha with e | ha
      · exact e
      · rcases List.mem_cons.1 hb with e | hb
        · exact e.symm
        · have g1 := List.rel_of_pairwise_cons h1 hb
          have g2 := List.rel_of_pairwise_cons h2 ha
          have := noteLess_trans g1 g2
          rw [noteLess_irrefl] at this
          exact absurd this (by simp)
    subst hab
    rw [note_one h1.of_cons h2.of_cons (List.Perm.cons_inv h)]
theorem notes_mem : ∀ (l acc : List T2) (p : T2), p ∈ l.foldl putNote acc ↔ p ∈ l ∨ p ∈ acc
  | [], acc, p => by simp
  | x :: r, acc, p => by
    rw [List.foldl_cons, notes_mem r, putNote_mem, List.mem_cons]
    exact ⟨fun h => by rcases h with h | h | h <;> simp [h], fun h => by rcases h with (h | h) | h <;> simp [h]⟩
theorem notes_rising : ∀ (l acc : List T2), (acc.Pairwise fun x y => noteLess x y = true) → (l.foldl putNote acc).Pairwise fun x y => noteLess x y = true
  | [], _, h => h
  | _ :: r, _, h => notes_rising r _ (putNote_less h)
theorem note_nodup {l : List T2} (h : l.Pairwise fun x y => noteLess x y = true) : l.Nodup := h.imp fun {x y} hxy e => by rw [e, noteLess_irrefl] at hxy; exact absurd hxy (by simp)
theorem uq_spec {s : List T2} (hs : s.Pairwise fun x y => noteLess y x = false) : ∀ k, k ≤ s.length → (uqTo s k).Pairwise (fun x y => noteLess x y = true) ∧ ∀ p, p ∈ uqTo s k ↔ p ∈ s.take k
  | 0, _ => ⟨.nil, fun p => by simp [uqTo]⟩
  | k + 1, h => by
    have hk : k < s.length := by omega
    obtain ⟨h1, h2⟩ := uq_spec hs k (by omega)
    have hg := List.pairwise_iff_getElem.1 hs
    have e : uqTo s (k + 1) = uqTo s k ++ (if k = 0 ∨ s[k]? ≠ s[k - 1]? then [s[k]] else []) := by rw [uqTo, List.getElem?_eq_getElem hk]; rfl
    rw [e, take_succ_get hk]
    by_cases c : k = 0 ∨ s[k]? ≠ s[k - 1]?
    · rw [if_pos c]
      refine ⟨List.pairwise_append.2 ⟨h1, List.pairwise_singleton _ _, fun a ha b hb => ?_⟩, fun p => by rw [List.mem_append, List.mem_append, h2]⟩
      rw [List.mem_singleton.1 hb]
      obtain ⟨j, hj, ej⟩ := List.mem_take_iff_getElem.1 ((h2 a).1 ha)
      have hk0 : ¬ k = 0 := by omega
      have c : s[k]? ≠ s[k - 1]? := c.resolve_left hk0
      rw [List.getElem?_eq_getElem hk, List.getElem?_eq_getElem (show k - 1 < s.length by omega)] at c
      have c : s[k] ≠ s[k - 1] := fun e => c (by rw [e])
      have g1 := hg (k - 1) k (by omega) hk (by omega)
      have g3 : noteLess s[k - 1] s[k] = true := noteLess_or g1 c
      by_cases e : j = k - 1
      · subst e; rw [← ej]; exact g3
      · have g2 := hg j (k - 1) (by omega) (by omega) (by omega)
        rw [ej] at g2
        simp only [noteLess, decide_eq_true_eq, decide_eq_false_iff_not] at *
        omega
    · rw [if_neg c, List.append_nil]
      refine ⟨h1, fun p => ?_⟩
      rw [h2, List.mem_append, List.mem_singleton]
      refine ⟨.inl, fun h => h.elim id fun e => ?_⟩
      have c2 : ¬ k = 0 ∧ s[k]? = s[k - 1]? := by
        refine ⟨fun e => c (.inl e), ?_⟩
        by_cases e2 : s[k]? = s[k - 1]?
        · exact e2
        · exact absurd (.inr e2) c
      rw [List.getElem?_eq_getElem hk, List.getElem?_eq_getElem (show k - 1 < s.length by omega), Option.some.injEq] at c2
      rw [e, c2.2]
      exact List.mem_take_iff_getElem.2 ⟨k - 1, by omega, rfl⟩
theorem uniq_sort (l : List T2) : uniq (sortN l) = noteIn l := by
  have hs : (sortN l).Pairwise fun x y => noteLess y x = false := by
    refine (List.pairwise_mergeSort (le := fun x y => !noteLess y x) (fun x y z h1 h2 => ?_) (fun x y => ?_) l).imp fun h => by simpa using h
    · simp only [noteLess, Bool.not_eq_true', decide_eq_false_iff_not] at *; omega
    · simp only [noteLess, Bool.or_eq_true, Bool.not_eq_true', decide_eq_false_iff_not]; omega
  obtain ⟨h1, h2⟩ := uq_spec hs (sortN l).length (Nat.le_refl _)
  have h3 := notes_rising l [] .nil
  refine note_one h1 h3 ((List.perm_ext_iff_of_nodup (note_nodup h1) (note_nodup h3)).2 fun p => ?_)
  rw [h2, List.take_length, notes_mem]
  simp [sortN]
theorem notes_len : ∀ (l acc : List T2), (l.foldl putNote acc).length ≤ acc.length + l.length
  | [], acc => by simp
  | x :: r, acc => by
    have h1 := notes_len r (putNote acc x)
    have h2 := putNote_len acc x
    simp only [List.foldl_cons, List.length_cons]
    omega
theorem noteIn_len (l : List T2) : (noteIn l).length ≤ l.length := by have := notes_len l []; simpa [noteIn] using this
theorem sortNotes_len (l : List T2) : (sortNotes l).length ≤ 40 := by
  unfold sortNotes
  split
  · have := noteIn_len l; omega
  · simp
theorem melody_len (w : Shop) : (melody w).length ≤ 40 := by
  unfold melody
  split
  · exact sortNotes_len _
  · simp
theorem noteIn_succ {l : List T2} {k : Nat} (h : k < l.length) : noteIn (l.take (k + 1)) = putNote (noteIn (l.take k)) l[k] := by
  unfold noteIn; rw [take_succ_get h, List.foldl_append]; rfl

theorem spec_l02Less_ok : ∀ ds outs, F_l02Less ds = some outs → shL spec_l02Less_L (qRet outs) ds := F_l02Less_elim fun x y => by
  rw [spec_l02Less_L_sh]; simp [noteLess]; grind
theorem spec_SortNotes_ok : ∀ ds outs, F_SortNotes ds = some outs → shL spec_SortNotes_L (qRet outs) ds := F_SortNotes_elim fun l hp => by
  rw [spec_SortNotes_L_sh]
  simp only [P1_lst0]
  refine loop_upto (if l.length ≤ 40 then l.length else 0) (fun k => [vL I2 v2 l, .int .i64 k, vL I2 v2 (noteIn (l.take k))]) (by intro i j _ _ h; simp at h; omega) (fun _ => True) (by simp [noteIn, vL]) trivial ?_
  intro k hk _
  have hk' : k ≤ l.length := by split at hk <;> omega
  rw [spec_SortNotes_b0_sh]
  simp only [P1_len, P1_lss, P1_leq, ifB_bool, decide_eq_true_eq, decide_eq_false_iff_not]
  have stop : ¬ (k < l.length ∧ l.length ≤ 40) → sortNotes l = noteIn (l.take k) := fun h => by
    unfold sortNotes
    by_cases h40 : l.length ≤ 40
    · rw [if_pos h40, List.take_of_length_le (by omega)]
    · rw [if_neg h40] at hk ⊢
      obtain rfl : k = 0 := by omega
      rfl
  refine ⟨fun h => ⟨fun h40 => ?_, fun h40 => ?_⟩, fun h => ?_⟩
  · have hkl : k < l.length := by omega
    have hl40 : l.length ≤ 40 := by omega
    rw [if_pos hl40] at hk ⊢
    have hs := noteIn_succ hkl
    have hlen : (noteIn (l.take k)).length ≤ 40 := by have := noteIn_len (l.take k); rw [List.length_take] at this; omega
    generalize noteIn (l.take k) = o at *
    generalize hy : l[k] = y at hs
    have hw : IntKind.i64.wrap ((k : Int) + 1) = ((k + 1 : Nat) : Int) := by rw [wrap_id (by omega) (by omega)]; omega
    refine loop_upto o.length (fun i => [vL I2 v2 l, .int .i64 k, .int .i64 i, vL I2 v2 o]) (by intro i j _ _ h; simp at h; omega) (fun i => ∀ j (h : j < o.length), j < i → noteLess o[j] y = true) (by simp) (by simp) ?_
    intro i hi hP
    rw [spec_SortNotes_b1_sh]
    simp only [P1_len, P1_lss, ifB_bool, decide_eq_true_eq, decide_eq_false_iff_not]
    have fin : ∀ {Q : QT}, (∀ (h : i < o.length), noteLess o[i] y = false) → Q .normal [vL I2 v2 l, .int .i64 ((k + 1 : Nat) : Int), vL I2 v2 (putNote o y)] →
        qB 2 (qS (shL spec_SortNotes_r2 (qS (shL spec_SortNotes_r3 (qB 1 (qS (shL spec_SortNotes_r4 (qS (shL spec_SortNotes_r5 Q) Q)) (qS (shL spec_SortNotes_r5 Q) Q)))) (qB 1 (qS (shL spec_SortNotes_r4 (qS (shL spec_SortNotes_r5 Q) Q)) (qS (shL spec_SortNotes_r5 Q) Q))))) (qS (shL spec_SortNotes_r3 (qB 1 (qS (shL spec_SortNotes_r4 (qS (shL spec_SortNotes_r5 Q) Q)) (qS (shL spec_SortNotes_r5 Q) Q)))) (qB 1 (qS (shL spec_SortNotes_r4 (qS (shL spec_SortNotes_r5 Q) Q)) (qS (shL spec_SortNotes_r5 Q) Q))))) (.exit 2) [vL I2 v2 l, .int .i64 k, .int .i64 i, vL I2 v2 o] := by
      intro Q h hQ
      have e1 := putNote_at o y i hP hi h
      simp only [qB_exit, if_true, qS_normal]
      rw [spec_SortNotes_r2_sh]
      have tail : ∀ {z : List T2}, z = putNote o y → qS (shL spec_SortNotes_r3 (qB 1 (qS (shL spec_SortNotes_r4 (qS (shL spec_SortNotes_r5 Q) Q)) (qS (shL spec_SortNotes_r5 Q) Q)))) (qB 1 (qS (shL spec_SortNotes_r4 (qS (shL spec_SortNotes_r5 Q) Q)) (qS (shL spec_SortNotes_r5 Q) Q))) .normal [vL I2 v2 l, .int .i64 k, vL I2 v2 z] := by
        rintro z rfl
        simp only [qS_normal, spec_SortNotes_r3_sh, qB_normal, spec_SortNotes_r4_sh, P1_add, hw, spec_SortNotes_r5_sh]
        exact hQ
      have e0 : i - 0 = i := by omega
      have lt : (o.take i).length = i := by rw [List.length_take]; omega
      have ld : (o.drop i).length = o.length - i := by simp
      simp only [P1_len, P1_eql, ifB_bool, P1_lst0, P1_lsub2_2, P1_lsub2_1, Int.toNat_natCast, Int.toNat_zero, List.drop_zero, Nat.sub_zero, P1_app2_0, P2_idxI, List.getElem?_eq_getElem hkl, Option.some.injEq, exists_eq_left', hy, P1_lst2, P1_app2_, lt, ld, List.length_append, List.length_singleton]
      have ey : (⟨y.a, y.b⟩ : T2) = y := rfl
      refine ⟨fun h2 => ?_, fun h2 => ?_⟩
      · have hio : i = o.length := by simp at h2; omega
        refine ⟨by omega, by omega, by omega, by omega, by omega, by omega, tail ?_⟩
        rw [e1, if_neg (by rw [List.getElem?_eq_none (by omega)]; simp)]
      · have hio : i < o.length := by
          have : i ≠ o.length := fun e => by rw [e] at h2; simp at h2
          omega
        refine ⟨by omega, o[i], List.getElem?_eq_getElem hio, by omega, ?_⟩
        simp only [P1_nea22, ifB_bool]
        refine ⟨fun h3 => ⟨by omega, by omega, by omega, by omega, by omega, by omega, tail ?_⟩, fun h3 => tail ?_⟩
        · have h4 : o[i] ≠ y := fun e => by rw [e] at h3; simp at h3
          rw [e1, List.getElem?_eq_getElem hio, if_neg (fun e => h4 (Option.some.inj e))]
        · have h4 : o[i] = y := by
            simp at h3
            cases hh : o[i]; rw [hh] at h3; cases y; simp_all
          rw [e1, List.getElem?_eq_getElem hio, if_pos (by rw [h4])]
    refine ⟨fun h => ?_, fun h => fin (fun h2 => absurd h2 (by omega)) ⟨by omega, by rw [hs], trivial⟩⟩
    have hio : i < o.length := by omega
    simp only [P2_idxI, Int.toNat_natCast, List.getElem?_eq_getElem hio, List.getElem?_eq_getElem hkl, Option.some.injEq, exists_eq_left', hy]
    refine ⟨by omega, by omega, ?_⟩
    rw [p_l02Less (x_a := o[i].a) (x_b := o[i].b) (y_a := y.a) (y_b := y.b)]
    have hw2 : IntKind.i64.wrap ((i : Int) + 1) = ((i + 1 : Nat) : Int) := by rw [wrap_id (by omega) (by omega)]; omega
    cases hc : noteLess o[i] y with
    | true =>
      simp only [ifB_bool, P1_add, hw2, qS_normal]
      refine ⟨fun _ => ⟨hio, trivial, fun j hj hji => ?_⟩, fun h => absurd h (by simp)⟩
      by_cases e : j = i
      · subst e; exact hc
      · exact hP j hj (by omega)
    | false =>
      simp only [ifB_bool, P1_add, hw2, qS_normal]
      exact ⟨fun h => absurd h (by simp), fun _ => fin (fun _ => hc) ⟨by omega, by rw [hs], trivial⟩⟩
  · simp only [qS_exit, qB_exit, if_true, qS_normal, spec_SortNotes_r6_sh, qRet_ret]
    rw [stop (by omega)]
  · simp only [qS_exit, qB_exit, if_true, qS_normal, spec_SortNotes_r6_sh, qRet_ret]
    rw [stop (by omega)]
theorem cylOk_tooth {x : Cyl} (h : cylOk x = true) {k : Nat} (hk : k < x.p.length) : 0 ≤ x.p[k].a ∧ x.p[k].a < x.t := by
  have := ((cylOk_iff x).1 h).2.2.2 k hk
  have h2 := this.1
  simp only [pinIn, within, Bool.and_eq_true, decide_eq_true_eq] at h2
  omega
theorem spec_MelodyOf_ok : ∀ ds outs, F_MelodyOf ds = some outs → shL spec_MelodyOf_L (qRet outs) ds := F_MelodyOf_elim fun w hp => by
  obtain ⟨h1, h2, h3⟩ := hp
  rw [spec_MelodyOf_L_sh]
  simp only [P1_lst0, p_WorkshopOk (x_p := w.p) (x_o := w.o) (x_c := w.c) ⟨h1, h2, h3⟩, P1_not, P1_len, P1_gtr, ifB_bool, decide_eq_true_eq, decide_eq_false_iff_not]
  refine ⟨fun h => ?_, fun h => ⟨fun h4 => ?_, fun h4 => ?_⟩⟩
  · have hn : shopOk w = false := by simpa using h
    simp [melody, hn, vL]
  · simp only [qRet_ret, melody]
    rw [if_neg (by simp; omega)]
    rfl
  · have hok : shopOk w = true := by simpa using h
    have hl : w.p.length ≤ 40 := by omega
    have hs := (shopOk_iff w).1 hok
    have hc : cylOk ⟨w.s, w.t, w.p⟩ = true := ((benchOk_iff _).1 hs.1).1
    refine loop_upto w.p.length (fun k => [.int .i64 k, vL I2 v2 ((w.p.take k).map (noteOf w)), .int .i64 w.s, .int .i64 w.t, vL I2 v2 w.p, vL IL2 vLL2 w.o, vL I1 v1 w.c, .int .i64 w.u, .int .i64 w.m, .int .i64 w.f, .int .i64 w.y, .int .i64 w.d]) (by intro i j _ _ h; simp at h; omega) (fun _ => True) rfl trivial ?_
    intro k hk _
    rw [spec_MelodyOf_b0_sh]
    simp only [P1_len, P1_lss, ifB_bool, decide_eq_true_eq, decide_eq_false_iff_not]
    refine ⟨fun h => ?_, fun h => ?_⟩
    · have hkl : k < w.p.length := by omega
      have ht := cylOk_tooth hc hkl
      have hw : IntKind.i64.wrap ((k : Int) + 1) = ((k + 1 : Nat) : Int) := by rw [wrap_id (by omega) (by omega)]; omega
      have hcl : w.p[k].a.toNat < w.c.length := by have := hs.2.2.2.1; dsimp only at ht; omega
      have e : (w.p.take k).map (noteOf w) ++ [(⟨w.p[k].b, w.c[w.p[k].a.toNat]⟩ : T2)] = (w.p.take (k + 1)).map (noteOf w) := by
        rw [take_succ_get hkl, List.map_append]
        simp [noteOf, hcl]
      have hlen : ((w.p.take k).map (noteOf w)).length = k := by simp; omega
      simp only [P2_idxI, Int.toNat_natCast, List.getElem?_eq_getElem hkl, P1_idxI, List.getElem?_eq_getElem hcl, Option.some.injEq, exists_eq_left', P1_lst2, P1_app2_, e, hlen, List.length_singleton, P1_add, hw, qS_normal]
      exact ⟨by omega, ht.1, ⟨by omega, by omega⟩, hkl, trivial, trivial⟩
    · obtain rfl : k = w.p.length := by omega
      simp only [qS_exit, qB_exit, if_true, qS_normal, spec_MelodyOf_r1_sh, List.take_length]
      rw [p_SortNotes (by simp; omega)]
      simp [melody, hok, hl]
theorem impl_copyNotes_ok : ∀ ds outs, F_copyNotes ds = some outs → shL impl_copyNotes_L (qRet outs) ds := F_copyNotes_elim fun l hp => by
  rw [impl_copyNotes_L_sh]
  simp; omega
theorem impl_compareNotes_ok : ∀ ds outs, F_compareNotes ds = some outs → shL impl_compareNotes_L (qRet outs) ds := F_compareNotes_elim fun x y => by
  rw [impl_compareNotes_L_sh]
  cases x; cases y
  simp [cmpNotes, noteLess]
  grind
theorem impl_sorted_ok : ∀ ds outs, F_sorted ds = some outs → shL impl_sorted_L (qRet outs) ds := F_sorted_elim fun l hp => by
  have hl : (sortN l).length = l.length := List.length_mergeSort _
  rw [impl_sorted_L_sh, p_copyNotes hp, p_slices_SortFunc_Limpl_Note_impl_Note hp, p_slices_Compact_Limpl_Note_impl_Note (by omega), uniq_sort]
  simp
theorem impl_SortNotes_ok : ∀ ds outs, F_SortNotes ds = some outs → shL impl_SortNotes_L (qRet outs) ds := F_SortNotes_elim fun l hp => by
  rw [impl_SortNotes_L_sh]
  simp only [P1_len, P1_gtr, ifB_bool, decide_eq_true_eq, decide_eq_false_iff_not]
  refine ⟨fun h => ?_, fun h => ?_⟩
  · simp only [qRet_ret, sortNotes]
    rw [if_neg (by omega)]
    rfl
  · rw [p_sorted hp]
    simp only [qRet_ret, sortNotes]
    rw [if_pos (by omega)]
theorem impl_MelodyOf_ok : ∀ ds outs, F_MelodyOf ds = some outs → shL impl_MelodyOf_L (qRet outs) ds := F_MelodyOf_elim fun w hp => by
  obtain ⟨h1, h2, h3⟩ := hp
  rw [impl_MelodyOf_L_sh]
  simp only [P1_lst0, p_WorkshopOk (x_p := w.p) (x_o := w.o) (x_c := w.c) ⟨h1, h2, h3⟩, P1_not, P1_len, P1_gtr, ifB_bool, decide_eq_true_eq, decide_eq_false_iff_not]
  refine ⟨fun h => ?_, fun h => ⟨fun h4 => ?_, fun h4 => ?_⟩⟩
  · have hn : shopOk w = false := by simpa using h
    simp [melody, hn, vL]
  · simp only [qRet_ret, melody]
    rw [if_neg (by simp; omega)]
    rfl
  · have hok : shopOk w = true := by simpa using h
    have hl : w.p.length ≤ 40 := by omega
    have hs := (shopOk_iff w).1 hok
    have hc : cylOk ⟨w.s, w.t, w.p⟩ = true := ((benchOk_iff _).1 hs.1).1
    refine loop_upto w.p.length (fun k => [vL I2 v2 w.p, .int .i64 w.p.length, .int .i64 k, vL I2 v2 ((w.p.take k).map (noteOf w)), .int .i64 w.s, .int .i64 w.t, vL I2 v2 w.p, vL IL2 vLL2 w.o, vL I1 v1 w.c, .int .i64 w.u, .int .i64 w.m, .int .i64 w.f, .int .i64 w.y, .int .i64 w.d]) (by intro i j _ _ h; simp at h; omega) (fun _ => True) rfl trivial ?_
    intro k hk _
    rw [impl_MelodyOf_b0_sh]
    simp only [P1_lss, ifB_bool, decide_eq_true_eq, decide_eq_false_iff_not]
    refine ⟨fun h => ?_, fun h => ?_⟩
    · have hkl : k < w.p.length := by omega
      have ht := cylOk_tooth hc hkl
      have hw : IntKind.i64.wrap ((k : Int) + 1) = ((k + 1 : Nat) : Int) := by rw [wrap_id (by omega) (by omega)]; omega
      have hcl : w.p[k].a.toNat < w.c.length := by have := hs.2.2.2.1; dsimp only at ht; omega
      have e : (w.p.take k).map (noteOf w) ++ [(⟨w.p[k].b, w.c[w.p[k].a.toNat]⟩ : T2)] = (w.p.take (k + 1)).map (noteOf w) := by
        rw [take_succ_get hkl, List.map_append]
        simp [noteOf, hcl]
      have hlen : ((w.p.take k).map (noteOf w)).length = k := by simp; omega
      simp only [P2_idxI, Int.toNat_natCast, List.getElem?_eq_getElem hkl, P1_idxI, List.getElem?_eq_getElem hcl, Option.some.injEq, exists_eq_left', P1_lst2, P1_app2_, e, hlen, List.length_singleton, P1_add, hw, qS_normal]
      exact ⟨by omega, ht.1, ⟨by omega, by omega⟩, hkl, trivial, trivial⟩
    · obtain rfl : k = w.p.length := by omega
      simp only [qS_exit, qB_exit, if_true, qS_normal, impl_MelodyOf_r1_sh, List.take_length]
      rw [p_SortNotes (by simp; omega)]
      simp [melody, hok, hl]
end Go.Mw

namespace Go.Mw
theorem laws_eqNote_ok : ∀ ds outs, F_eqNote ds = some outs → shL laws_eqNote_L (qRet outs) ds := F_eqNote_elim fun x y => by
  rw [laws_eqNote_L_sh]
  cases x; cases y
  simp
  grind
theorem laws_eqNoteS_ok : ∀ ds outs, F_eqNoteS ds = some outs → shL laws_eqNoteS_L (qRet outs) ds := F_eqNoteS_elim fun l m hp => by
  rw [laws_eqNoteS_L_sh]
  simp
  refine ⟨fun h => ?_, fun hl => ?_⟩
  · rintro rfl; omega
  refine loop_upto l.length (fun k => [vL I2 v2 l, vL I2 v2 m, .int .i64 k]) (by intro i j _ _ h; simp at h; omega) (fun k => l.take k = m.take k) (by simp) (by simp) ?_
  intro k hk hP
  rw [laws_eqNoteS_b0_sh]
  simp
  refine ⟨fun h => ?_, fun h => ?_⟩
  · have h2 : k < m.length := by omega
    simp (disch := omega) [h, wrap_id]
    refine ⟨fun hne he => ?_, fun h3 => ?_⟩
    · subst he; exact hne rfl
    · rw [take_succ_get h, take_succ_get h2, hP, h3]
  · obtain rfl : k = l.length := by omega
    rw [List.take_length, List.take_of_length_le (by omega)] at hP
    simp [laws_eqNoteS_r1_sh, hP]
theorem laws_markNoteS_ok : ∀ ds outs, F_markNoteS ds = some outs → shL laws_markNoteS_L (qRet outs) ds := F_markNoteS_elim fun l k hp => by
  rw [laws_markNoteS_L_sh]
  refine loop_upto l.length (fun i => [.int .i64 (k + 2 * i), .int .i64 i, vL I2 v2 ((markL2 l.length k).take i ++ l.drop i)]) (by intro i j _ _ h; simp at h; omega) (fun _ => True) (by simp) trivial ?_
  intro i hi _
  have hml : (markL2 l.length k).length = l.length := markL2_len
  rw [laws_markNoteS_b0_sh]
  simp
  have e0 : ((min i l.length : Nat) : Int) + ((l.length - i : Nat) : Int) = l.length := by omega
  simp only [e0]
  refine ⟨fun h => ?_, fun h => ?_⟩
  · replace h : i < l.length := by omega
    rw [mark_get hml h]
    have hs := mark_set hml h
    have hg : (markL2 l.length k)[i]'(by omega) = ⟨k + 2 * (i : Int), k + 2 * (i : Int) + 1⟩ := by simp [markL2]
    rw [hg] at hs
    simp (disch := omega) [h, wrap_id, hs, fun x => mark_set_get (x := x) hml h]
    omega
  · obtain rfl : i = l.length := by omega
    have e1 : List.take l.length (markL2 l.length k) = markL2 l.length k := List.take_of_length_le (by simp)
    simp [laws_markNoteS_r1_sh, e1]
theorem laws_heldNoteS_ok : ∀ ds outs, F_heldNoteS ds = some outs → shL laws_heldNoteS_L (qRet outs) ds := F_heldNoteS_elim fun l k hp => by
  rw [laws_heldNoteS_L_sh]
  refine loop_upto l.length (fun i => [vL I2 v2 l, .int .i64 (k + 2 * i), .int .i64 i]) (by intro i j _ _ h; simp at h; omega) (fun i => ∀ j (hj : j < l.length), j < i → l[j] = (markL2 l.length k)[j]'(by simp; omega)) (by simp) (by simp) ?_
  intro i hi hP
  rw [laws_heldNoteS_b0_sh]
  simp
  refine ⟨fun h => ?_, fun h => ?_⟩
  · have hg : (markL2 l.length k)[i]'(by simp; omega) = ⟨k + 2 * (i : Int), k + 2 * (i : Int) + 1⟩ := by simp [markL2]
    have hno : l[i] ≠ (markL2 l.length k)[i]'(by simp; omega) → l ≠ markL2 l.length k := by
      intro hne he
      exact hne (by simp only [← he])
    have hstep : l[i] = (markL2 l.length k)[i]'(by simp; omega) → ∀ j (hj : j < l.length), j < i + 1 → l[j] = (markL2 l.length k)[j]'(by simp; omega) := by
      intro he j hj hji
      by_cases hjj : j = i
      · subst hjj; exact he
      · exact hP j hj (by omega)
    rw [hg] at hno hstep
    simp (disch := omega) only [h, List.getElem?_eq_getElem, Option.some.injEq, exists_eq_left', wrap_id, true_and]
    rcases hx : l[i] with ⟨xa, xb⟩
    simp only [hx, T2.mk.injEq] at hno hstep
    grind
  · obtain rfl : i = l.length := by omega
    have he : l = markL2 l.length k := List.ext_getElem (by simp) fun j h1 h2 => hP j h1 h1
    simp [laws_heldNoteS_r1_sh]
    intro h; exact absurd he h
theorem laws_FnExactMelodyOf_ok : ∀ ds outs, F_FnExactMelodyOf ds = some outs → shL laws_FnExactMelodyOf_L (qRet outs) ds := F_FnExactMelodyOf_elim fun x hp => by
  rw [laws_FnExactMelodyOf_L_sh]
  have hw : x.o.length ≤ 9223372036854775807 ∧ ∀ y ∈ x.o, y.length ≤ 9223372036854775807 := ⟨hp.2.2.2.1.1, fun y hy => (hp.2.2.2.1.2 y hy).1⟩
  rw [p_szWorkshop (x_p := x.p) (x_o := x.o) (x_c := x.c) ⟨hp.2.2.1.1, hw.1, hw.2, hp.2.2.2.2.1.1, by omega, by omega⟩]
  by_cases h : (x.p.length : Int) + tot2 x.o + x.c.length ≤ 1048576
  · have hx := sSmall_of_tot h
    have h3 : ¬ (1048576 - (x.p.length : Int) - tot2 x.o - x.c.length < 0) := by omega
    have hf : x.p.length ≤ 1048576 ∧ fitLL x.o ∧ x.c.length ≤ 1048576 := hx.1
    rw [if_pos h]
    simp only [P1_lss, ifB_bool, decide_eq_true_eq, decide_eq_false_iff_not, laws_FnExactMelodyOf_r0_sh, p_toWorkshop (x_p := x.p) (x_o := x.o) (x_c := x.c) hf, p_MelodyOf (x_p := x.p) (x_o := x.o) (x_c := x.c) hf]
    refine ⟨fun h4 => absurd h4 h3, fun _ => ?_⟩
    obtain ⟨⟨x1, x2, x3⟩, x4⟩ := hx
    clear h3 h hw hp
    have hg := melody_len x
    generalize melody x = g at *
    have g1 : g.length ≤ 1048576 := by omega
    have g2 : g.length ≤ 4194304 := by omega
    have g3 : (0 : Int) ≤ 1 + 2 * g.length := by omega
    have x6 : (0 : Int) ≤ 1 + 2 * (x.p.length : Int) + 2 * sum2 x.o + x.c.length := by omega
    simp [p_eqWorkshop, x1, x2, x3, p_markWorkshop, x4, x6, g1, g2, g3, p_eqNoteS, p_markNoteS, p_heldNoteS]
  · rw [if_neg h]; simp
end Go.Mw

