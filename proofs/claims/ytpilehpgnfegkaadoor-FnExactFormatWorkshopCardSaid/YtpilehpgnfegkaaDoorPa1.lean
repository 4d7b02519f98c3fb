/- What functions of the program compute, as small pure programs, shown against plain Lean functions: no condition. -/
import Derived.KernelRfl
import Derived.Test.YtpilehpgnfegkaaDoorFwH
/- What the functions of the first rows compute, in plain terms. -/
namespace Go.Mw
def within (n low high : Int) : Bool := decide (low ≤ n) && decide (n ≤ high)
def E_within : Int × Int × Int → List V := fun (a, b, c) => [.int .i64 a, .int .i64 b, .int .i64 c]
noncomputable def F_within : List V → Option (List V) := mkF E_within (fun (_, _, _) => True) (fun (a, b, c) => [.bool (within a b c)])
theorem F_within_inj : ∀ x y, E_within x = E_within y → x = y := by
  rintro ⟨a, b, c⟩ ⟨a', b', c'⟩ h
  simpa [E_within] using h
theorem F_within_elim {P : List V → List V → Prop} (h : ∀ (a : Int) (b : Int) (c : Int), P [.int .i64 a, .int .i64 b, .int .i64 c] [.bool (within a b c)]) : ∀ ds outs, F_within ds = some outs → P ds outs := by
  intro ds outs hh
  obtain ⟨⟨a, b, c⟩, rfl, -, rfl⟩ := mkF_inv hh
  exact h a b c
@[simp] theorem p_within {a : Int} {b : Int} {c : Int} {nr_ : Nat} {kk_ : V → Prop} : P1 (.call F_within 0 nr_) [.int .i64 a, .int .i64 b, .int .i64 c] kk_ ↔ kk_ (.bool (within a b c)) :=
  P1_callF (by unfold F_within; exact mkF_eq F_within_inj (a, b, c) trivial)

noncomputable abbrev F_l01In := F_within

/-! lists of pairs -/
end Go.Mw

/- Functions of the program, as small pure programs (printed by a program of ours). -/
namespace Go.Mw
noncomputable section
def spec_l01In_L : L := .seq (.rg []) (.seq (.rg [⟨[], .bin .geq, [.v 0, .v 1], 1⟩, ⟨[(.v 3, true)], .bin .leq, [.v 0, .v 2], 1⟩, ⟨[], .pick, [.v 3, .v 4, .k (.bool false)], 1⟩]) (.ret [.v 5]))
theorem spec_l01In_L_sh (Q : QT) (x0 x1 x2 : V) : shL spec_l01In_L Q [x0, x1, x2] = (
  P1 (.bin .geq) [x0, x1] fun v0 =>
  ifB v0 (
    P1 (.bin .leq) [x0, x2] fun v1 =>
    Q .ret [v1]) (
    Q .ret [.bool false])) := by kernel_rfl
def spec_l01In_S : Sig := ⟨[.val false [.sc], .val false [.sc], .val false [.sc]], [(false, [.sc])], F_l01In⟩
def spec_l01In_hs : List NF := []

def impl_within_L : L := .seq (.rg []) (.seq (.rg [⟨[], .bin .geq, [.v 0, .v 1], 1⟩, ⟨[(.v 3, true)], .bin .leq, [.v 0, .v 2], 1⟩, ⟨[], .pick, [.v 3, .v 4, .k (.bool false)], 1⟩]) (.ret [.v 5]))
theorem impl_within_L_sh (Q : QT) (x0 x1 x2 : V) : shL impl_within_L Q [x0, x1, x2] = (
  P1 (.bin .geq) [x0, x1] fun v0 =>
  ifB v0 (
    P1 (.bin .leq) [x0, x2] fun v1 =>
    Q .ret [v1]) (
    Q .ret [.bool false])) := by kernel_rfl
def impl_within_S : Sig := ⟨[.val false [.sc], .val false [.sc], .val false [.sc]], [(false, [.sc])], F_within⟩
def impl_within_hs : List NF := []

end
end Go.Mw

/- The functions of the first rows compute what was said. -/
namespace Go.Mw
theorem spec_l01In_ok : ∀ ds outs, F_l01In ds = some outs → shL spec_l01In_L (qRet outs) ds := F_within_elim fun a b c => by
  rw [spec_l01In_L_sh]; simp [within]; grind
theorem impl_within_ok : ∀ ds outs, F_within ds = some outs → shL impl_within_L (qRet outs) ds := F_within_elim fun a b c => by
  rw [impl_within_L_sh]; simp [within]; grind
end Go.Mw

/- The structs of the program, flat. -/
namespace Go.Mw
/-- A cylinder: steps, tracks, pins (track, angle). -/
structure Cyl where
  s : Int
  t : Int
  p : List T2
/-- A state: angle, on, played. -/
structure Stt where
  a : Int
  n : Bool
  p : Int
  deriving DecidableEq
/-- A bench: its cylinder, and the former pins. -/
structure Bench where
  s : Int
  t : Int
  p : List T2
  o : List (List T2)
/-- A workshop: its bench; comb; spring (turns, most, force); money; played. -/
structure Shop where
  s : Int
  t : Int
  p : List T2
  o : List (List T2)
  c : List Int
  u : Int
  m : Int
  f : Int
  y : Int
  d : Int
  deriving DecidableEq
@[simp] theorem Cyl.eta (x : Cyl) : Cyl.mk x.s x.t x.p = x := rfl
@[simp] theorem Stt.eta (x : Stt) : Stt.mk x.a x.n x.p = x := rfl
@[simp] theorem P1_eqa22 {a b c d : Int} {k : V → Prop} : P1 (.eqa false [.i, .i]) [.int .i64 a, .int .i64 b, .int .i64 c, .int .i64 d] k ↔ k (.bool (decide (a = c ∧ b = d))) := P1_of (by simp only [Prim.run, eqVs, eqV1, List.length_cons, List.length_nil, List.take, List.drop, if_true]; cases h1 : a == c <;> cases h2 : b == d <;> simp_all) k
@[simp] theorem P1_nea22 {a b c d : Int} {k : V → Prop} : P1 (.eqa true [.i, .i]) [.int .i64 a, .int .i64 b, .int .i64 c, .int .i64 d] k ↔ k (.bool (!decide (a = c ∧ b = d))) := P1_of (by simp only [Prim.run, eqVs, eqV1, List.length_cons, List.length_nil, List.take, List.drop, if_true]; cases h1 : a == c <;> cases h2 : b == d <;> simp_all) k
@[simp] theorem P1_eqaX {a c e g : Int} {b f : Bool} {k : V → Prop} : P1 (.eqa false [.i, .b, .i]) [.int .i64 a, .bool b, .int .i64 c, .int .i64 e, .bool f, .int .i64 g] k ↔ k (.bool (decide (a = e ∧ b = f ∧ c = g))) := P1_of (by simp only [Prim.run, eqVs, eqV1, List.length_cons, List.length_nil, List.take, List.drop, if_true]; cases h1 : a == e <;> cases h2 : b == f <;> cases h3 : c == g <;> simp_all) k
theorem P1_lsub2 {α : Type} {ks : List AK} {f : α → V} {l : List α} {κ κ' : IntKind} {i j : Int} {k : V → Prop} : P1 (.lsub ks) [vL ks f l, .int κ i, .int κ' j] k ↔ (0 ≤ i ∧ i ≤ j ∧ j ≤ l.length) ∧ k (vL ks f ((l.take j.toNat).drop i.toNat)) :=
  P1_opt (by simp only [Prim.run, vL, AK.eqs_refl, if_true, subB, List.length_map]; split <;> simp_all [List.map_drop, List.map_take]) k
theorem P1_lsub1 {α : Type} {ks : List AK} {f : α → V} {l : List α} {κ : IntKind} {i : Int} {k : V → Prop} : P1 (.lsub ks) [vL ks f l, .int κ i] k ↔ (0 ≤ i ∧ i ≤ l.length) ∧ k (vL ks f (l.drop i.toNat)) :=
  P1_opt (by simp only [Prim.run, vL, AK.eqs_refl, if_true, subB, List.length_map]; split <;> simp_all [List.map_drop, List.take_of_length_le]) k
@[simp] theorem P1_lsubI_2 {l : List Int} {κ κ' : IntKind} {i j : Int} {k : V → Prop} : P1 (.lsub [.sc]) [vL I1 v1 l, .int κ i, .int κ' j] k ↔ (0 ≤ i ∧ i ≤ j ∧ j ≤ l.length) ∧ k (vL I1 v1 ((l.take j.toNat).drop i.toNat)) := P1_lsub2
@[simp] theorem P1_lsubI_1 {l : List Int} {κ : IntKind} {i : Int} {k : V → Prop} : P1 (.lsub [.sc]) [vL I1 v1 l, .int κ i] k ↔ (0 ≤ i ∧ i ≤ l.length) ∧ k (vL I1 v1 (l.drop i.toNat)) := P1_lsub1
@[simp] theorem P1_appI_ {l m : List Int} {b : Nat} {k : V → Prop} : P1 (.app [.sc] b) [vL I1 v1 l, vL I1 v1 m] k ↔ ((l.length + m.length) * b ≤ 140737488355328 ∧ l.length + m.length ≤ 140737488355328) ∧ k (vL I1 v1 (l ++ m)) := P1_app
@[simp] theorem P1_appI_0 {m : List Int} {b : Nat} {k : V → Prop} : P1 (.app [.sc] b) [.list [.sc] [], vL I1 v1 m] k ↔ (m.length * b ≤ 140737488355328 ∧ m.length ≤ 140737488355328) ∧ k (vL I1 v1 m) := P1_app0
@[simp] theorem P1_appI_1 {l : List Int} {b : Nat} {k : V → Prop} : P1 (.app [.sc] b) [vL I1 v1 l, .list [.sc] []] k ↔ (l.length * b ≤ 140737488355328 ∧ l.length ≤ 140737488355328) ∧ k (vL I1 v1 l) := P1_app1
@[simp] theorem P1_lsubY_2 {l : List UInt8} {κ κ' : IntKind} {i j : Int} {k : V → Prop} : P1 (.lsub [.sc]) [vL I1 vY l, .int κ i, .int κ' j] k ↔ (0 ≤ i ∧ i ≤ j ∧ j ≤ l.length) ∧ k (vL I1 vY ((l.take j.toNat).drop i.toNat)) := P1_lsub2
@[simp] theorem P1_lsubY_1 {l : List UInt8} {κ : IntKind} {i : Int} {k : V → Prop} : P1 (.lsub [.sc]) [vL I1 vY l, .int κ i] k ↔ (0 ≤ i ∧ i ≤ l.length) ∧ k (vL I1 vY (l.drop i.toNat)) := P1_lsub1
@[simp] theorem P1_appY_ {l m : List UInt8} {b : Nat} {k : V → Prop} : P1 (.app [.sc] b) [vL I1 vY l, vL I1 vY m] k ↔ ((l.length + m.length) * b ≤ 140737488355328 ∧ l.length + m.length ≤ 140737488355328) ∧ k (vL I1 vY (l ++ m)) := P1_app
@[simp] theorem P1_appY_0 {m : List UInt8} {b : Nat} {k : V → Prop} : P1 (.app [.sc] b) [.list [.sc] [], vL I1 vY m] k ↔ (m.length * b ≤ 140737488355328 ∧ m.length ≤ 140737488355328) ∧ k (vL I1 vY m) := P1_app0
@[simp] theorem P1_appY_1 {l : List UInt8} {b : Nat} {k : V → Prop} : P1 (.app [.sc] b) [vL I1 vY l, .list [.sc] []] k ↔ (l.length * b ≤ 140737488355328 ∧ l.length ≤ 140737488355328) ∧ k (vL I1 vY l) := P1_app1
@[simp] theorem P1_lsubS_2 {l : List (List UInt8)} {κ κ' : IntKind} {i j : Int} {k : V → Prop} : P1 (.lsub [.sc]) [vL I1 vS l, .int κ i, .int κ' j] k ↔ (0 ≤ i ∧ i ≤ j ∧ j ≤ l.length) ∧ k (vL I1 vS ((l.take j.toNat).drop i.toNat)) := P1_lsub2
@[simp] theorem P1_lsubS_1 {l : List (List UInt8)} {κ : IntKind} {i : Int} {k : V → Prop} : P1 (.lsub [.sc]) [vL I1 vS l, .int κ i] k ↔ (0 ≤ i ∧ i ≤ l.length) ∧ k (vL I1 vS (l.drop i.toNat)) := P1_lsub1
@[simp] theorem P1_appS_ {l m : List (List UInt8)} {b : Nat} {k : V → Prop} : P1 (.app [.sc] b) [vL I1 vS l, vL I1 vS m] k ↔ ((l.length + m.length) * b ≤ 140737488355328 ∧ l.length + m.length ≤ 140737488355328) ∧ k (vL I1 vS (l ++ m)) := P1_app
@[simp] theorem P1_appS_0 {m : List (List UInt8)} {b : Nat} {k : V → Prop} : P1 (.app [.sc] b) [.list [.sc] [], vL I1 vS m] k ↔ (m.length * b ≤ 140737488355328 ∧ m.length ≤ 140737488355328) ∧ k (vL I1 vS m) := P1_app0
@[simp] theorem P1_appS_1 {l : List (List UInt8)} {b : Nat} {k : V → Prop} : P1 (.app [.sc] b) [vL I1 vS l, .list [.sc] []] k ↔ (l.length * b ≤ 140737488355328 ∧ l.length ≤ 140737488355328) ∧ k (vL I1 vS l) := P1_app1
@[simp] theorem P1_lsub2_2 {l : List T2} {κ κ' : IntKind} {i j : Int} {k : V → Prop} : P1 (.lsub [.sc, .sc]) [vL I2 v2 l, .int κ i, .int κ' j] k ↔ (0 ≤ i ∧ i ≤ j ∧ j ≤ l.length) ∧ k (vL I2 v2 ((l.take j.toNat).drop i.toNat)) := P1_lsub2
@[simp] theorem P1_lsub2_1 {l : List T2} {κ : IntKind} {i : Int} {k : V → Prop} : P1 (.lsub [.sc, .sc]) [vL I2 v2 l, .int κ i] k ↔ (0 ≤ i ∧ i ≤ l.length) ∧ k (vL I2 v2 (l.drop i.toNat)) := P1_lsub1
@[simp] theorem P1_app2_ {l m : List T2} {b : Nat} {k : V → Prop} : P1 (.app [.sc, .sc] b) [vL I2 v2 l, vL I2 v2 m] k ↔ ((l.length + m.length) * b ≤ 140737488355328 ∧ l.length + m.length ≤ 140737488355328) ∧ k (vL I2 v2 (l ++ m)) := P1_app
@[simp] theorem P1_app2_0 {m : List T2} {b : Nat} {k : V → Prop} : P1 (.app [.sc, .sc] b) [.list [.sc, .sc] [], vL I2 v2 m] k ↔ (m.length * b ≤ 140737488355328 ∧ m.length ≤ 140737488355328) ∧ k (vL I2 v2 m) := P1_app0
@[simp] theorem P1_app2_1 {l : List T2} {b : Nat} {k : V → Prop} : P1 (.app [.sc, .sc] b) [vL I2 v2 l, .list [.sc, .sc] []] k ↔ (l.length * b ≤ 140737488355328 ∧ l.length ≤ 140737488355328) ∧ k (vL I2 v2 l) := P1_app1
@[simp] theorem P1_lsub3_2 {l : List T3} {κ κ' : IntKind} {i j : Int} {k : V → Prop} : P1 (.lsub [.sc, .sc, .sc]) [vL I3 v3 l, .int κ i, .int κ' j] k ↔ (0 ≤ i ∧ i ≤ j ∧ j ≤ l.length) ∧ k (vL I3 v3 ((l.take j.toNat).drop i.toNat)) := P1_lsub2
@[simp] theorem P1_lsub3_1 {l : List T3} {κ : IntKind} {i : Int} {k : V → Prop} : P1 (.lsub [.sc, .sc, .sc]) [vL I3 v3 l, .int κ i] k ↔ (0 ≤ i ∧ i ≤ l.length) ∧ k (vL I3 v3 (l.drop i.toNat)) := P1_lsub1
@[simp] theorem P1_app3_ {l m : List T3} {b : Nat} {k : V → Prop} : P1 (.app [.sc, .sc, .sc] b) [vL I3 v3 l, vL I3 v3 m] k ↔ ((l.length + m.length) * b ≤ 140737488355328 ∧ l.length + m.length ≤ 140737488355328) ∧ k (vL I3 v3 (l ++ m)) := P1_app
@[simp] theorem P1_app3_0 {m : List T3} {b : Nat} {k : V → Prop} : P1 (.app [.sc, .sc, .sc] b) [.list [.sc, .sc, .sc] [], vL I3 v3 m] k ↔ (m.length * b ≤ 140737488355328 ∧ m.length ≤ 140737488355328) ∧ k (vL I3 v3 m) := P1_app0
@[simp] theorem P1_app3_1 {l : List T3} {b : Nat} {k : V → Prop} : P1 (.app [.sc, .sc, .sc] b) [vL I3 v3 l, .list [.sc, .sc, .sc] []] k ↔ (l.length * b ≤ 140737488355328 ∧ l.length ≤ 140737488355328) ∧ k (vL I3 v3 l) := P1_app1
@[simp] theorem P1_lsubL2_2 {l : List (List T2)} {κ κ' : IntKind} {i j : Int} {k : V → Prop} : P1 (.lsub [.sl [.sc, .sc]]) [vL IL2 vLL2 l, .int κ i, .int κ' j] k ↔ (0 ≤ i ∧ i ≤ j ∧ j ≤ l.length) ∧ k (vL IL2 vLL2 ((l.take j.toNat).drop i.toNat)) := P1_lsub2
@[simp] theorem P1_lsubL2_1 {l : List (List T2)} {κ : IntKind} {i : Int} {k : V → Prop} : P1 (.lsub [.sl [.sc, .sc]]) [vL IL2 vLL2 l, .int κ i] k ↔ (0 ≤ i ∧ i ≤ l.length) ∧ k (vL IL2 vLL2 (l.drop i.toNat)) := P1_lsub1
@[simp] theorem P1_appL2_ {l m : List (List T2)} {b : Nat} {k : V → Prop} : P1 (.app [.sl [.sc, .sc]] b) [vL IL2 vLL2 l, vL IL2 vLL2 m] k ↔ ((l.length + m.length) * b ≤ 140737488355328 ∧ l.length + m.length ≤ 140737488355328) ∧ k (vL IL2 vLL2 (l ++ m)) := P1_app
@[simp] theorem P1_appL2_0 {m : List (List T2)} {b : Nat} {k : V → Prop} : P1 (.app [.sl [.sc, .sc]] b) [.list [.sl [.sc, .sc]] [], vL IL2 vLL2 m] k ↔ (m.length * b ≤ 140737488355328 ∧ m.length ≤ 140737488355328) ∧ k (vL IL2 vLL2 m) := P1_app0
@[simp] theorem P1_appL2_1 {l : List (List T2)} {b : Nat} {k : V → Prop} : P1 (.app [.sl [.sc, .sc]] b) [vL IL2 vLL2 l, .list [.sl [.sc, .sc]] []] k ↔ (l.length * b ≤ 140737488355328 ∧ l.length ≤ 140737488355328) ∧ k (vL IL2 vLL2 l) := P1_app1
end Go.Mw

/- What functions compute, in plain terms: pieces, pins, cylinders, states, digits, boxes. -/
namespace Go.Mw
/-! memory -/
def E_szPinS : List T2 × Int → List V := fun (l, n) => [vL I2 v2 l, .int .i64 n]
noncomputable def F_szPinS : List V → Option (List V) := mkF E_szPinS (fun (l, n) => l.length ≤ 9223372036854775807 ∧ 0 ≤ n ∧ n ≤ 1048576) (fun (l, n) => [.int .i64 (if (l.length : Int) ≤ n then n - l.length else -1)])
theorem F_szPinS_inj : ∀ x y, E_szPinS x = E_szPinS y → x = y := by
  rintro ⟨l, n⟩ ⟨l', n'⟩ h
  simpa [E_szPinS] using h
theorem F_szPinS_elim {P : List V → List V → Prop} (h : ∀ (l : List T2) (n : Int), (l.length ≤ 9223372036854775807 ∧ 0 ≤ n ∧ n ≤ 1048576) → P [vL I2 v2 l, .int .i64 n] [.int .i64 (if (l.length : Int) ≤ n then n - l.length else -1)]) : ∀ ds outs, F_szPinS ds = some outs → P ds outs := by
  intro ds outs hh
  obtain ⟨⟨l, n⟩, rfl, hp, rfl⟩ := mkF_inv hh
  exact h l n hp
theorem p_szPinS {l : List T2} {n : Int} {nr_ : Nat} {kk_ : V → Prop} (hp : l.length ≤ 9223372036854775807 ∧ 0 ≤ n ∧ n ≤ 1048576) : P1 (.call F_szPinS 0 nr_) [vL I2 v2 l, .int .i64 n] kk_ ↔ kk_ (.int .i64 (if (l.length : Int) ≤ n then n - l.length else -1)) :=
  P1_callF (by unfold F_szPinS; exact mkF_eq F_szPinS_inj (l, n) hp)

def E_toPinS (l : List T2) : List V := [vL I2 v2 l]
noncomputable def F_toPinS : List V → Option (List V) := mkF E_toPinS (fun l => l.length ≤ 1048576) (fun l => [vL I2 v2 l])
theorem F_toPinS_inj : ∀ x y, E_toPinS x = E_toPinS y → x = y := by
  rintro l l' h
  simpa [E_toPinS] using h
theorem F_toPinS_elim {P : List V → List V → Prop} (h : ∀ (l : List T2), (l.length ≤ 1048576) → P [vL I2 v2 l] [vL I2 v2 l]) : ∀ ds outs, F_toPinS ds = some outs → P ds outs := by
  intro ds outs hh
  obtain ⟨l, rfl, hp, rfl⟩ := mkF_inv hh
  exact h l hp
theorem p_toPinS {l : List T2} {nr_ : Nat} {kk_ : V → Prop} (hp : l.length ≤ 1048576) : P1 (.call F_toPinS 0 nr_) [vL I2 v2 l] kk_ ↔ kk_ (vL I2 v2 l) :=
  P1_callF (by unfold F_toPinS; exact mkF_eq F_toPinS_inj (l) hp)

def E_eqPinS : List T2 × List T2 → List V := fun (l, m) => [vL I2 v2 l, vL I2 v2 m]
noncomputable def F_eqPinS : List V → Option (List V) := mkF E_eqPinS (fun (l, m) => l.length ≤ 1048576 ∧ m.length ≤ 1048576) (fun (l, m) => [.bool (decide (l = m))])
theorem F_eqPinS_inj : ∀ x y, E_eqPinS x = E_eqPinS y → x = y := by
  rintro ⟨l, m⟩ ⟨l', m'⟩ h
  simpa [E_eqPinS] using h
theorem F_eqPinS_elim {P : List V → List V → Prop} (h : ∀ (l : List T2) (m : List T2), (l.length ≤ 1048576 ∧ m.length ≤ 1048576) → P [vL I2 v2 l, vL I2 v2 m] [.bool (decide (l = m))]) : ∀ ds outs, F_eqPinS ds = some outs → P ds outs := by
  intro ds outs hh
  obtain ⟨⟨l, m⟩, rfl, hp, rfl⟩ := mkF_inv hh
  exact h l m hp
theorem p_eqPinS {l : List T2} {m : List T2} {nr_ : Nat} {kk_ : V → Prop} (hp : l.length ≤ 1048576 ∧ m.length ≤ 1048576) : P1 (.call F_eqPinS 0 nr_) [vL I2 v2 l, vL I2 v2 m] kk_ ↔ kk_ (.bool (decide (l = m))) :=
  P1_callF (by unfold F_eqPinS; exact mkF_eq F_eqPinS_inj (l, m) hp)

def E_toIntS (l : List Int) : List V := [vL I1 v1 l]
noncomputable def F_toIntS : List V → Option (List V) := mkF E_toIntS (fun l => l.length ≤ 1048576) (fun l => [vL I1 v1 l])
theorem F_toIntS_inj : ∀ x y, E_toIntS x = E_toIntS y → x = y := by
  rintro l l' h
  simpa [E_toIntS] using h
theorem F_toIntS_elim {P : List V → List V → Prop} (h : ∀ (l : List Int), (l.length ≤ 1048576) → P [vL I1 v1 l] [vL I1 v1 l]) : ∀ ds outs, F_toIntS ds = some outs → P ds outs := by
  intro ds outs hh
  obtain ⟨l, rfl, hp, rfl⟩ := mkF_inv hh
  exact h l hp
theorem p_toIntS {l : List Int} {nr_ : Nat} {kk_ : V → Prop} (hp : l.length ≤ 1048576) : P1 (.call F_toIntS 0 nr_) [vL I1 v1 l] kk_ ↔ kk_ (vL I1 v1 l) :=
  P1_callF (by unfold F_toIntS; exact mkF_eq F_toIntS_inj (l) hp)

def E_eqIntS : List Int × List Int → List V := fun (l, m) => [vL I1 v1 l, vL I1 v1 m]
noncomputable def F_eqIntS : List V → Option (List V) := mkF E_eqIntS (fun (l, m) => l.length ≤ 1048576 ∧ m.length ≤ 1048576) (fun (l, m) => [.bool (decide (l = m))])
theorem F_eqIntS_inj : ∀ x y, E_eqIntS x = E_eqIntS y → x = y := by
  rintro ⟨l, m⟩ ⟨l', m'⟩ h
  simpa [E_eqIntS] using h
theorem F_eqIntS_elim {P : List V → List V → Prop} (h : ∀ (l : List Int) (m : List Int), (l.length ≤ 1048576 ∧ m.length ≤ 1048576) → P [vL I1 v1 l, vL I1 v1 m] [.bool (decide (l = m))]) : ∀ ds outs, F_eqIntS ds = some outs → P ds outs := by
  intro ds outs hh
  obtain ⟨⟨l, m⟩, rfl, hp, rfl⟩ := mkF_inv hh
  exact h l m hp
theorem p_eqIntS {l : List Int} {m : List Int} {nr_ : Nat} {kk_ : V → Prop} (hp : l.length ≤ 1048576 ∧ m.length ≤ 1048576) : P1 (.call F_eqIntS 0 nr_) [vL I1 v1 l, vL I1 v1 m] kk_ ↔ kk_ (.bool (decide (l = m))) :=
  P1_callF (by unfold F_eqIntS; exact mkF_eq F_eqIntS_inj (l, m) hp)

def E_markIntS : List Int × Int → List V := fun (l, k) => [vL I1 v1 l, .int .i64 k]
noncomputable def F_markIntS : List V → Option (List V) := mkF E_markIntS (fun (l, k) => l.length ≤ 4194304 ∧ 0 ≤ k ∧ k ≤ 1099511627776) (fun (l, k) => [.int .i64 (k + 1 * l.length), vL I1 v1 (markL1 l.length k)])
theorem F_markIntS_inj : ∀ x y, E_markIntS x = E_markIntS y → x = y := by
  rintro ⟨l, k⟩ ⟨l', k'⟩ h
  simpa [E_markIntS] using h
theorem F_markIntS_elim {P : List V → List V → Prop} (h : ∀ (l : List Int) (k : Int), (l.length ≤ 4194304 ∧ 0 ≤ k ∧ k ≤ 1099511627776) → P [vL I1 v1 l, .int .i64 k] [.int .i64 (k + 1 * l.length), vL I1 v1 (markL1 l.length k)]) : ∀ ds outs, F_markIntS ds = some outs → P ds outs := by
  intro ds outs hh
  obtain ⟨⟨l, k⟩, rfl, hp, rfl⟩ := mkF_inv hh
  exact h l k hp
theorem p_markIntS {l : List Int} {k : Int} {kk_ : V → V → Prop} (hp : l.length ≤ 4194304 ∧ 0 ≤ k ∧ k ≤ 1099511627776) : P2 (.call F_markIntS 1 1) [vL I1 v1 l, .int .i64 k, vL I1 v1 l] kk_ ↔ kk_ (.int .i64 (k + 1 * l.length)) (vL I1 v1 (markL1 l.length k)) :=
  P2_of (callIo_run (as := [vL I1 v1 l, .int .i64 k]) (rs := [vL I1 v1 l]) (n := 1) (nr := 1) rfl (by simp) (by unfold F_markIntS; exact mkF_eq F_markIntS_inj (l, k) hp) (by simp [ksAll, vL, AK.eqs_refl]) rfl)

def E_markPinS : List T2 × Int → List V := fun (l, k) => [vL I2 v2 l, .int .i64 k]
noncomputable def F_markPinS : List V → Option (List V) := mkF E_markPinS (fun (l, k) => l.length ≤ 4194304 ∧ 0 ≤ k ∧ k ≤ 1099511627776) (fun (l, k) => [.int .i64 (k + 2 * l.length), vL I2 v2 (markL2 l.length k)])
theorem F_markPinS_inj : ∀ x y, E_markPinS x = E_markPinS y → x = y := by
  rintro ⟨l, k⟩ ⟨l', k'⟩ h
  simpa [E_markPinS] using h
theorem F_markPinS_elim {P : List V → List V → Prop} (h : ∀ (l : List T2) (k : Int), (l.length ≤ 4194304 ∧ 0 ≤ k ∧ k ≤ 1099511627776) → P [vL I2 v2 l, .int .i64 k] [.int .i64 (k + 2 * l.length), vL I2 v2 (markL2 l.length k)]) : ∀ ds outs, F_markPinS ds = some outs → P ds outs := by
  intro ds outs hh
  obtain ⟨⟨l, k⟩, rfl, hp, rfl⟩ := mkF_inv hh
  exact h l k hp
theorem p_markPinS {l : List T2} {k : Int} {kk_ : V → V → Prop} (hp : l.length ≤ 4194304 ∧ 0 ≤ k ∧ k ≤ 1099511627776) : P2 (.call F_markPinS 1 1) [vL I2 v2 l, .int .i64 k, vL I2 v2 l] kk_ ↔ kk_ (.int .i64 (k + 2 * l.length)) (vL I2 v2 (markL2 l.length k)) :=
  P2_of (callIo_run (as := [vL I2 v2 l, .int .i64 k]) (rs := [vL I2 v2 l]) (n := 1) (nr := 1) rfl (by simp) (by unfold F_markPinS; exact mkF_eq F_markPinS_inj (l, k) hp) (by simp [ksAll, vL, AK.eqs_refl]) rfl)


def E_toPin (x : T2) : List V := [.int .i64 x.a, .int .i64 x.b]
noncomputable def F_toPin : List V → Option (List V) := mkF E_toPin (fun _ => True) (fun x => [.int .i64 x.a, .int .i64 x.b])
theorem F_toPin_inj : ∀ x y, E_toPin x = E_toPin y → x = y := by
  rintro ⟨xa, xb⟩ ⟨xa', xb'⟩ h
  simpa [E_toPin] using h
theorem F_toPin_elim {P : List V → List V → Prop} (h : ∀ (x : T2), P [.int .i64 x.a, .int .i64 x.b] [.int .i64 x.a, .int .i64 x.b]) : ∀ ds outs, F_toPin ds = some outs → P ds outs := by
  intro ds outs hh
  obtain ⟨x, rfl, -, rfl⟩ := mkF_inv hh
  exact h x
@[simp] theorem p_toPin {x_a : Int} {x_b : Int} {nr_ : Nat} {kk_ : V → V → Prop} : P2 (.call F_toPin 0 nr_) [.int .i64 x_a, .int .i64 x_b] kk_ ↔ kk_ (.int .i64 ((⟨x_a, x_b⟩ : T2)).a) (.int .i64 ((⟨x_a, x_b⟩ : T2)).b) :=
  P2_callF (by unfold F_toPin; exact mkF_eq F_toPin_inj ((⟨x_a, x_b⟩ : T2)) trivial)

def E_eqPin : T2 × T2 → List V := fun (x, y) => [.int .i64 x.a, .int .i64 x.b, .int .i64 y.a, .int .i64 y.b]
noncomputable def F_eqPin : List V → Option (List V) := mkF E_eqPin (fun (_, _) => True) (fun (x, y) => [.bool (decide (x = y))])
theorem F_eqPin_inj : ∀ x y, E_eqPin x = E_eqPin y → x = y := by
  rintro ⟨⟨xa, xb⟩, ⟨ya, yb⟩⟩ ⟨⟨xa', xb'⟩, ⟨ya', yb'⟩⟩ h
  simpa [E_eqPin, and_assoc] using h
theorem F_eqPin_elim {P : List V → List V → Prop} (h : ∀ (x : T2) (y : T2), P [.int .i64 x.a, .int .i64 x.b, .int .i64 y.a, .int .i64 y.b] [.bool (decide (x = y))]) : ∀ ds outs, F_eqPin ds = some outs → P ds outs := by
  intro ds outs hh
  obtain ⟨⟨x, y⟩, rfl, -, rfl⟩ := mkF_inv hh
  exact h x y
@[simp] theorem p_eqPin {x_a : Int} {x_b : Int} {y_a : Int} {y_b : Int} {nr_ : Nat} {kk_ : V → Prop} : P1 (.call F_eqPin 0 nr_) [.int .i64 x_a, .int .i64 x_b, .int .i64 y_a, .int .i64 y_b] kk_ ↔ kk_ (.bool (decide ((⟨x_a, x_b⟩ : T2) = (⟨y_a, y_b⟩ : T2)))) :=
  P1_callF (by unfold F_eqPin; exact mkF_eq F_eqPin_inj ((⟨x_a, x_b⟩ : T2), (⟨y_a, y_b⟩ : T2)) trivial)

def E_szCylinder : Cyl × Int → List V := fun (x, n) => [.int .i64 x.s, .int .i64 x.t, vL I2 v2 x.p, .int .i64 n]
noncomputable def F_szCylinder : List V → Option (List V) := mkF E_szCylinder (fun (x, n) => x.p.length ≤ 9223372036854775807 ∧ 0 ≤ n ∧ n ≤ 1048576) (fun (x, n) => [.int .i64 (if (x.p.length : Int) ≤ n then n - x.p.length else -1)])
theorem F_szCylinder_inj : ∀ x y, E_szCylinder x = E_szCylinder y → x = y := by
  rintro ⟨⟨xs, xt, xp⟩, n⟩ ⟨⟨xs', xt', xp'⟩, n'⟩ h
  simpa [E_szCylinder, and_assoc] using h
theorem F_szCylinder_elim {P : List V → List V → Prop} (h : ∀ (x : Cyl) (n : Int), (x.p.length ≤ 9223372036854775807 ∧ 0 ≤ n ∧ n ≤ 1048576) → P [.int .i64 x.s, .int .i64 x.t, vL I2 v2 x.p, .int .i64 n] [.int .i64 (if (x.p.length : Int) ≤ n then n - x.p.length else -1)]) : ∀ ds outs, F_szCylinder ds = some outs → P ds outs := by
  intro ds outs hh
  obtain ⟨⟨x, n⟩, rfl, hp, rfl⟩ := mkF_inv hh
  exact h x n hp
theorem p_szCylinder {x_s : Int} {x_t : Int} {x_p : List T2} {n : Int} {nr_ : Nat} {kk_ : V → Prop} (hp : (⟨x_s, x_t, x_p⟩ : Cyl).p.length ≤ 9223372036854775807 ∧ 0 ≤ n ∧ n ≤ 1048576) : P1 (.call F_szCylinder 0 nr_) [.int .i64 x_s, .int .i64 x_t, vL I2 v2 x_p, .int .i64 n] kk_ ↔ kk_ (.int .i64 (if ((⟨x_s, x_t, x_p⟩ : Cyl).p.length : Int) ≤ n then n - (⟨x_s, x_t, x_p⟩ : Cyl).p.length else -1)) :=
  P1_callF (by unfold F_szCylinder; exact mkF_eq F_szCylinder_inj ((⟨x_s, x_t, x_p⟩ : Cyl), n) hp)

def E_toCylinder (x : Cyl) : List V := [.int .i64 x.s, .int .i64 x.t, vL I2 v2 x.p]
noncomputable def F_toCylinder : List V → Option (List V) := mkF E_toCylinder (fun x => x.p.length ≤ 1048576) (fun x => [.int .i64 x.s, .int .i64 x.t, vL I2 v2 x.p])
theorem F_toCylinder_inj : ∀ x y, E_toCylinder x = E_toCylinder y → x = y := by
  rintro ⟨xs, xt, xp⟩ ⟨xs', xt', xp'⟩ h
  simpa [E_toCylinder] using h
theorem F_toCylinder_elim {P : List V → List V → Prop} (h : ∀ (x : Cyl), (x.p.length ≤ 1048576) → P [.int .i64 x.s, .int .i64 x.t, vL I2 v2 x.p] [.int .i64 x.s, .int .i64 x.t, vL I2 v2 x.p]) : ∀ ds outs, F_toCylinder ds = some outs → P ds outs := by
  intro ds outs hh
  obtain ⟨x, rfl, hp, rfl⟩ := mkF_inv hh
  exact h x hp
theorem p_toCylinder {x_s : Int} {x_t : Int} {x_p : List T2} {nr_ : Nat} {kk_ : V → V → V → Prop} (hp : (⟨x_s, x_t, x_p⟩ : Cyl).p.length ≤ 1048576) : P3 (.call F_toCylinder 0 nr_) [.int .i64 x_s, .int .i64 x_t, vL I2 v2 x_p] kk_ ↔ kk_ (.int .i64 ((⟨x_s, x_t, x_p⟩ : Cyl)).s) (.int .i64 ((⟨x_s, x_t, x_p⟩ : Cyl)).t) (vL I2 v2 ((⟨x_s, x_t, x_p⟩ : Cyl)).p) :=
  P3_callF (by unfold F_toCylinder; exact mkF_eq F_toCylinder_inj ((⟨x_s, x_t, x_p⟩ : Cyl)) hp)

def E_eqCylinder : Cyl × Cyl → List V := fun (x, y) => [.int .i64 x.s, .int .i64 x.t, vL I2 v2 x.p, .int .i64 y.s, .int .i64 y.t, vL I2 v2 y.p]
noncomputable def F_eqCylinder : List V → Option (List V) := mkF E_eqCylinder (fun (x, y) => x.p.length ≤ 1048576 ∧ y.p.length ≤ 1048576) (fun (x, y) => [.bool (decide (x.s = y.s ∧ x.t = y.t ∧ x.p = y.p))])
theorem F_eqCylinder_inj : ∀ x y, E_eqCylinder x = E_eqCylinder y → x = y := by
  rintro ⟨⟨xs, xt, xp⟩, ⟨ys, yt, yp⟩⟩ ⟨⟨xs', xt', xp'⟩, ⟨ys', yt', yp'⟩⟩ h
  simpa [E_eqCylinder, and_assoc] using h
theorem F_eqCylinder_elim {P : List V → List V → Prop} (h : ∀ (x : Cyl) (y : Cyl), (x.p.length ≤ 1048576 ∧ y.p.length ≤ 1048576) → P [.int .i64 x.s, .int .i64 x.t, vL I2 v2 x.p, .int .i64 y.s, .int .i64 y.t, vL I2 v2 y.p] [.bool (decide (x.s = y.s ∧ x.t = y.t ∧ x.p = y.p))]) : ∀ ds outs, F_eqCylinder ds = some outs → P ds outs := by
  intro ds outs hh
  obtain ⟨⟨x, y⟩, rfl, hp, rfl⟩ := mkF_inv hh
  exact h x y hp
theorem p_eqCylinder {x_s : Int} {x_t : Int} {x_p : List T2} {y_s : Int} {y_t : Int} {y_p : List T2} {nr_ : Nat} {kk_ : V → Prop} (hp : (⟨x_s, x_t, x_p⟩ : Cyl).p.length ≤ 1048576 ∧ (⟨y_s, y_t, y_p⟩ : Cyl).p.length ≤ 1048576) : P1 (.call F_eqCylinder 0 nr_) [.int .i64 x_s, .int .i64 x_t, vL I2 v2 x_p, .int .i64 y_s, .int .i64 y_t, vL I2 v2 y_p] kk_ ↔ kk_ (.bool (decide ((⟨x_s, x_t, x_p⟩ : Cyl).s = (⟨y_s, y_t, y_p⟩ : Cyl).s ∧ (⟨x_s, x_t, x_p⟩ : Cyl).t = (⟨y_s, y_t, y_p⟩ : Cyl).t ∧ (⟨x_s, x_t, x_p⟩ : Cyl).p = (⟨y_s, y_t, y_p⟩ : Cyl).p))) :=
  P1_callF (by unfold F_eqCylinder; exact mkF_eq F_eqCylinder_inj ((⟨x_s, x_t, x_p⟩ : Cyl), (⟨y_s, y_t, y_p⟩ : Cyl)) hp)

def E_markCylinder : Cyl × Int → List V := fun (x, k) => [.int .i64 x.s, .int .i64 x.t, vL I2 v2 x.p, .int .i64 k]
noncomputable def F_markCylinder : List V → Option (List V) := mkF E_markCylinder (fun (x, k) => x.p.length ≤ 4194304 ∧ 0 ≤ k ∧ k ≤ 1099511627776) (fun (x, k) => [.int .i64 (k + 2 * x.p.length), vL I2 v2 (markL2 x.p.length k)])
theorem F_markCylinder_inj : ∀ x y, E_markCylinder x = E_markCylinder y → x = y := by
  rintro ⟨⟨xs, xt, xp⟩, k⟩ ⟨⟨xs', xt', xp'⟩, k'⟩ h
  simpa [E_markCylinder, and_assoc] using h
theorem F_markCylinder_elim {P : List V → List V → Prop} (h : ∀ (x : Cyl) (k : Int), (x.p.length ≤ 4194304 ∧ 0 ≤ k ∧ k ≤ 1099511627776) → P [.int .i64 x.s, .int .i64 x.t, vL I2 v2 x.p, .int .i64 k] [.int .i64 (k + 2 * x.p.length), vL I2 v2 (markL2 x.p.length k)]) : ∀ ds outs, F_markCylinder ds = some outs → P ds outs := by
  intro ds outs hh
  obtain ⟨⟨x, k⟩, rfl, hp, rfl⟩ := mkF_inv hh
  exact h x k hp
theorem p_markCylinder {x_s : Int} {x_t : Int} {x_p : List T2} {k : Int} {kk_ : V → V → Prop} (hp : (⟨x_s, x_t, x_p⟩ : Cyl).p.length ≤ 4194304 ∧ 0 ≤ k ∧ k ≤ 1099511627776) : P2 (.call F_markCylinder 1 1) [.int .i64 x_s, .int .i64 x_t, vL I2 v2 x_p, .int .i64 k, vL I2 v2 x_p] kk_ ↔ kk_ (.int .i64 (k + 2 * (⟨x_s, x_t, x_p⟩ : Cyl).p.length)) (vL I2 v2 (markL2 (⟨x_s, x_t, x_p⟩ : Cyl).p.length k)) :=
  P2_of (callIo_run (as := [.int .i64 x_s, .int .i64 x_t, vL I2 v2 x_p, .int .i64 k]) (rs := [vL I2 v2 x_p]) (n := 1) (nr := 1) rfl (by simp) (by unfold F_markCylinder; exact mkF_eq F_markCylinder_inj ((⟨x_s, x_t, x_p⟩ : Cyl), k) hp) (by simp [ksAll, vL, AK.eqs_refl]) rfl)


/-! pieces -/
/-! pins -/
def pinLess (p q : T2) : Bool := decide (p.b < q.b ∨ p.b = q.b ∧ p.a < q.a)
def E_l06Less : T2 × T2 → List V := fun (x, y) => [.int .i64 x.a, .int .i64 x.b, .int .i64 y.a, .int .i64 y.b]
noncomputable def F_l06Less : List V → Option (List V) := mkF E_l06Less (fun (_, _) => True) (fun (x, y) => [.bool (pinLess x y)])
theorem F_l06Less_inj : ∀ x y, E_l06Less x = E_l06Less y → x = y := by
  rintro ⟨⟨xa, xb⟩, ⟨ya, yb⟩⟩ ⟨⟨xa', xb'⟩, ⟨ya', yb'⟩⟩ h
  simpa [E_l06Less, and_assoc] using h
theorem F_l06Less_elim {P : List V → List V → Prop} (h : ∀ (x : T2) (y : T2), P [.int .i64 x.a, .int .i64 x.b, .int .i64 y.a, .int .i64 y.b] [.bool (pinLess x y)]) : ∀ ds outs, F_l06Less ds = some outs → P ds outs := by
  intro ds outs hh
  obtain ⟨⟨x, y⟩, rfl, -, rfl⟩ := mkF_inv hh
  exact h x y
@[simp] theorem p_l06Less {x_a : Int} {x_b : Int} {y_a : Int} {y_b : Int} {nr_ : Nat} {kk_ : V → Prop} : P1 (.call F_l06Less 0 nr_) [.int .i64 x_a, .int .i64 x_b, .int .i64 y_a, .int .i64 y_b] kk_ ↔ kk_ (.bool (pinLess (⟨x_a, x_b⟩ : T2) (⟨y_a, y_b⟩ : T2))) :=
  P1_callF (by unfold F_l06Less; exact mkF_eq F_l06Less_inj ((⟨x_a, x_b⟩ : T2), (⟨y_a, y_b⟩ : T2)) trivial)

def E_comparePins : T2 × T2 → List V := fun (x, y) => [.int .i64 x.a, .int .i64 x.b, .int .i64 y.a, .int .i64 y.b]
noncomputable def F_comparePins : List V → Option (List V) := mkF E_comparePins (fun (_, _) => True) (fun (x, y) => [.int .i64 (if pinLess x y then -1 else if x = y then 0 else 1)])
theorem F_comparePins_inj : ∀ x y, E_comparePins x = E_comparePins y → x = y := by
  rintro ⟨⟨xa, xb⟩, ⟨ya, yb⟩⟩ ⟨⟨xa', xb'⟩, ⟨ya', yb'⟩⟩ h
  simpa [E_comparePins, and_assoc] using h
theorem F_comparePins_elim {P : List V → List V → Prop} (h : ∀ (x : T2) (y : T2), P [.int .i64 x.a, .int .i64 x.b, .int .i64 y.a, .int .i64 y.b] [.int .i64 (if pinLess x y then -1 else if x = y then 0 else 1)]) : ∀ ds outs, F_comparePins ds = some outs → P ds outs := by
  intro ds outs hh
  obtain ⟨⟨x, y⟩, rfl, -, rfl⟩ := mkF_inv hh
  exact h x y
@[simp] theorem p_comparePins {x_a : Int} {x_b : Int} {y_a : Int} {y_b : Int} {nr_ : Nat} {kk_ : V → Prop} : P1 (.call F_comparePins 0 nr_) [.int .i64 x_a, .int .i64 x_b, .int .i64 y_a, .int .i64 y_b] kk_ ↔ kk_ (.int .i64 (if pinLess (⟨x_a, x_b⟩ : T2) (⟨y_a, y_b⟩ : T2) then -1 else if (⟨x_a, x_b⟩ : T2) = (⟨y_a, y_b⟩ : T2) then 0 else 1)) :=
  P1_callF (by unfold F_comparePins; exact mkF_eq F_comparePins_inj ((⟨x_a, x_b⟩ : T2), (⟨y_a, y_b⟩ : T2)) trivial)

def rising : List T2 → Bool
  | [] => true
  | [_] => true
  | a :: b :: r => pinLess a b && rising (b :: r)
def pinIn (s t : Int) (p : T2) : Bool := within p.a 0 (t - 1) && within p.b 0 (s - 1)
def cylOk (c : Cyl) : Bool := within c.s 4 96 && within c.t 1 100 && decide (c.p.length ≤ 100) && (c.p.all (pinIn c.s c.t) && rising c.p)
def E_CylinderOk (x : Cyl) : List V := [.int .i64 x.s, .int .i64 x.t, vL I2 v2 x.p]
noncomputable def F_CylinderOk : List V → Option (List V) := mkF E_CylinderOk (fun x => x.p.length ≤ 1048576) (fun x => [.bool (cylOk x)])
theorem F_CylinderOk_inj : ∀ x y, E_CylinderOk x = E_CylinderOk y → x = y := by
  rintro ⟨xs, xt, xp⟩ ⟨xs', xt', xp'⟩ h
  simpa [E_CylinderOk] using h
theorem F_CylinderOk_elim {P : List V → List V → Prop} (h : ∀ (x : Cyl), (x.p.length ≤ 1048576) → P [.int .i64 x.s, .int .i64 x.t, vL I2 v2 x.p] [.bool (cylOk x)]) : ∀ ds outs, F_CylinderOk ds = some outs → P ds outs := by
  intro ds outs hh
  obtain ⟨x, rfl, hp, rfl⟩ := mkF_inv hh
  exact h x hp
theorem p_CylinderOk {x_s : Int} {x_t : Int} {x_p : List T2} {nr_ : Nat} {kk_ : V → Prop} (hp : (⟨x_s, x_t, x_p⟩ : Cyl).p.length ≤ 1048576) : P1 (.call F_CylinderOk 0 nr_) [.int .i64 x_s, .int .i64 x_t, vL I2 v2 x_p] kk_ ↔ kk_ (.bool (cylOk (⟨x_s, x_t, x_p⟩ : Cyl))) :=
  P1_callF (by unfold F_CylinderOk; exact mkF_eq F_CylinderOk_inj ((⟨x_s, x_t, x_p⟩ : Cyl)) hp)

def sttOk (c : Cyl) (x : Stt) : Bool := cylOk c && (within x.a 0 (c.s - 1) && within x.p 0 100000)
def pinsAt (c : Cyl) (a : Int) : List Int := if cylOk c && within a (-1000000) 1000000 then (c.p.filter fun p => p.b == a % c.s).map (·.a) else []
/-! states -/
def stepsLeft (c : Cyl) (x : Stt) : Int := if sttOk c x then (if x.n then c.s - x.a else 0) else -1
def nextStt (c : Cyl) (x : Stt) : Stt := ⟨(x.a + 1) % c.s, decide ((x.a + 1) % c.s ≠ 0), x.p + (pinsAt c x.a).length⟩
def canStep (c : Cyl) (x : Stt) : Bool := sttOk c x && x.n && sttOk c (nextStt c x)
/-- The run: so many steps from x. -/
def itS (c : Cyl) (x : Stt) : Nat → Stt
  | 0 => x
  | k + 1 => nextStt c (itS c x k)
def itL (c : Cyl) (x : Stt) : Nat → List Int
  | 0 => []
  | k + 1 => itL c x k ++ pinsAt c (itS c x k).a
def runN (c : Cyl) (x : Stt) : Nat := (c.s - x.a).toNat
def runOk (c : Cyl) (x : Stt) : Bool := sttOk c x && (x.n && (List.range (runN c x)).all fun k => canStep c (itS c x k))
def runBox (c : Cyl) (x : Stt) : Stt × List Int := if runOk c x then (itS c x (runN c x), itL c x (runN c x)) else (x, [])
/-! digits -/
def areDigits (l : List Int) (a b : Int) : Bool := within l.length a b && l.all (within · 0 9)
/-! boxes -/
end Go.Mw

/- Functions of the program, as small pure programs (printed by a program of ours). -/
namespace Go.Mw
noncomputable section
def laws_szPinS_L : L := .seq (.rg []) (.seq (.rg [⟨[], .len, [.v 0], 1⟩, ⟨[], .bin .sub, [.v 1, .v 2], 1⟩]) (.seq (.seq (.rg [⟨[], .bin .lss, [.v 3, .k (.int .i64 0)], 1⟩]) (.ite (.v 4) (.seq (.rg []) (.ret [.k (.int .i64 (-1))])) (.skip))) (.seq (.rg []) (.ret [.v 3]))))
theorem laws_szPinS_L_sh (Q : QT) (x0 x1 : V) : shL laws_szPinS_L Q [x0, x1] = (
  P1 (.len) [x0] fun v0 =>
  P1 (.bin .sub) [x1, v0] fun v1 =>
  P1 (.bin .lss) [v1, .int .i64 0] fun v2 =>
  ifB v2 (
    Q .ret [.int .i64 (-1)]) (
    Q .ret [v1])) := by kernel_rfl
def laws_szPinS_S : Sig := ⟨[.val false [.sl [.sc, .sc]], .val false [.sc]], [(false, [.sc])], F_szPinS⟩
def laws_szPinS_hs : List NF := []

def laws_szCylinder_L : L := .seq (.rg []) (.seq (.rg [⟨[], .call F_szPinS 0 1, [.v 2, .v 3], 1⟩]) (.seq (.seq (.rg [⟨[], .bin .lss, [.v 4, .k (.int .i64 0)], 1⟩]) (.ite (.v 5) (.seq (.rg []) (.ret [.k (.int .i64 (-1))])) (.skip))) (.seq (.rg []) (.ret [.v 4]))))
theorem laws_szCylinder_L_sh (Q : QT) (x0 x1 x2 x3 : V) : shL laws_szCylinder_L Q [x0, x1, x2, x3] = (
  P1 (.call F_szPinS 0 1) [x2, x3] fun v0 =>
  P1 (.bin .lss) [v0, .int .i64 0] fun v1 =>
  ifB v1 (
    Q .ret [.int .i64 (-1)]) (
    Q .ret [v0])) := by kernel_rfl
def laws_szCylinder_S : Sig := ⟨[.val true [.sc, .sc, .sl [.sc, .sc]], .val false [.sc]], [(false, [.sc])], F_szCylinder⟩
def laws_szCylinder_hs : List NF := []

def laws_toPin_L : L := .seq (.rg []) (.seq (.rg []) (.seq (.rg []) (.seq (.rg []) (.seq (.rg []) (.ret [.v 0, .v 1])))))
theorem laws_toPin_L_sh (Q : QT) (x0 x1 : V) : shL laws_toPin_L Q [x0, x1] = (
  Q .ret [x0, x1]) := by kernel_rfl
def laws_toPin_S : Sig := ⟨[.val true [.sc, .sc]], [(true, [.sc, .sc])], F_toPin⟩
def laws_toPin_hs : List NF := []

def laws_toPinS_b0 : L := .seq (.seq (.seq (.rg [⟨[], .len, [.v 0], 1⟩, ⟨[], .bin .lss, [.v 1, .v 3], 1⟩]) (.ite (.v 4) (.skip) (.seq (.tup [.v 2]) (.exit 0)))) (.seq (.block 1 (.seq (.rg [⟨[], .idx [.sc, .sc], [.v 0, .v 1], 2⟩, ⟨[], .call F_toPin 0 2, [.v 5, .v 6], 2⟩, ⟨[], .idx [.sc, .sc], [.v 2, .v 1], 2⟩, ⟨[], .set [.sc, .sc] 0, [.v 2, .v 1, .v 7, .v 8], 1⟩]) (.tup [.v 0, .v 1, .v 11]))) (.rg [⟨[], .bin .add, [.v 1, .k (.int .i64 1)], 1⟩]))) (.tup [.v 0, .v 3, .v 2])
theorem laws_toPinS_b0_sh (Q : QT) (x0 x1 x2 : V) : shL laws_toPinS_b0 Q [x0, x1, x2] = (
  P1 (.len) [x0] fun v0 =>
  P1 (.bin .lss) [x1, v0] fun v1 =>
  ifB v1 (
    P2 (.idx [.sc, .sc]) [x0, x1] fun v2 v3 =>
    P2 (.call F_toPin 0 2) [v2, v3] fun v4 v5 =>
    P2 (.idx [.sc, .sc]) [x2, x1] fun _ _ =>
    P1 (.set [.sc, .sc] 0) [x2, x1, v4, v5] fun v8 =>
    P1 (.bin .add) [x1, .int .i64 1] fun v9 =>
    Q .normal [x0, v9, v8]) (
    Q (.exit 0) [x2])) := by kernel_rfl

def laws_toPinS_r1 : L := .seq (.rg []) (.ret [.v 0])
theorem laws_toPinS_r1_sh (Q : QT) (x0 : V) : shL laws_toPinS_r1 Q [x0] = (
  Q .ret [x0]) := by kernel_rfl

def laws_toPinS_L : L := .seq (.rg []) (.seq (.rg [⟨[], .len, [.v 0], 1⟩, ⟨[], .mk [.sc, .sc] (.agg [.int .i64 0, .int .i64 0]) 16, [.v 1, .v 1], 1⟩]) (.seq (.seq (.rg []) (.block 0 (.seq (.tup [.v 0, .k (.int .i64 0), .v 2]) (.loop (laws_toPinS_b0))))) (laws_toPinS_r1)))
theorem laws_toPinS_L_sh (Q : QT) (x0 : V) : shL laws_toPinS_L Q [x0] = (
  P1 (.len) [x0] fun v0 =>
  P1 (.mk [.sc, .sc] (.agg [.int .i64 0, .int .i64 0]) 16) [v0, v0] fun v1 =>
  shL (.loop laws_toPinS_b0) (qB 0 (qS (shL laws_toPinS_r1 Q) Q)) [x0, .int .i64 0, v1]) := by kernel_rfl
def laws_toPinS_S : Sig := ⟨[.val false [.sl [.sc, .sc]]], [(false, [.sl [.sc, .sc]])], F_toPinS⟩
def laws_toPinS_hs : List NF := [⟨[(3, .sc false [.own 64])], [(64, true, [.sc, .sc])], [], 65⟩, ⟨[(0, .sc false [.ro [.sc, .sc]]), (3, .sc false [.own 64]), (4, .sc false [.sc])], [(64, true, [.sc, .sc])], [], 65⟩, ⟨[(0, .sc false [.ro [.sc, .sc]]), (3, .sc false [.own 64]), (4, .sc false [.sc])], [(64, true, [.sc, .sc])], [], 65⟩]

def laws_toCylinder_L : L := .seq (.rg []) (.seq (.rg []) (.seq (.rg []) (.seq (.rg []) (.seq (.rg [⟨[], .call F_toPinS 0 1, [.v 2], 1⟩]) (.seq (.rg []) (.ret [.v 0, .v 1, .v 3]))))))
theorem laws_toCylinder_L_sh (Q : QT) (x0 x1 x2 : V) : shL laws_toCylinder_L Q [x0, x1, x2] = (
  P1 (.call F_toPinS 0 1) [x2] fun v0 =>
  Q .ret [x0, x1, v0]) := by kernel_rfl
def laws_toCylinder_S : Sig := ⟨[.val true [.sc, .sc, .sl [.sc, .sc]]], [(true, [.sc, .sc, .sl [.sc, .sc]])], F_toCylinder⟩
def laws_toCylinder_hs : List NF := []

def spec_l06Less_L : L := .seq (.rg []) (.seq (.rg [⟨[], .bin .lss, [.v 1, .v 3], 1⟩, ⟨[(.v 4, false)], .bin .eql, [.v 1, .v 3], 1⟩, ⟨[(.v 4, false), (.v 5, true)], .bin .lss, [.v 0, .v 2], 1⟩, ⟨[(.v 4, false)], .pick, [.v 5, .v 6, .k (.bool false)], 1⟩, ⟨[], .pick, [.v 4, .k (.bool true), .v 7], 1⟩]) (.ret [.v 8]))
theorem spec_l06Less_L_sh (Q : QT) (x0 x1 x2 x3 : V) : shL spec_l06Less_L Q [x0, x1, x2, x3] = (
  P1 (.bin .lss) [x1, x3] fun v0 =>
  ifB v0 (
    Q .ret [.bool true]) (
    P1 (.bin .eql) [x1, x3] fun v1 =>
    ifB v1 (
      P1 (.bin .lss) [x0, x2] fun v2 =>
      Q .ret [v2]) (
      Q .ret [.bool false]))) := by kernel_rfl
def spec_l06Less_S : Sig := ⟨[.val true [.sc, .sc], .val true [.sc, .sc]], [(false, [.sc])], F_l06Less⟩
def spec_l06Less_hs : List NF := []

def spec_CylinderOk_b0 : L := .seq (.seq (.seq (.rg [⟨[], .len, [.v 3], 1⟩, ⟨[], .bin .lss, [.v 0, .v 4], 1⟩]) (.ite (.v 5) (.skip) (.seq (.tup []) (.exit 0)))) (.seq (.block 1 (.seq (.seq (.rg [⟨[], .idx [.sc, .sc], [.v 3, .v 0], 2⟩]) (.seq (.rg [⟨[], .bin .sub, [.v 2, .k (.int .i64 1)], 1⟩, ⟨[], .call F_l01In 0 1, [.v 6, .k (.int .i64 0), .v 8], 1⟩, ⟨[], .un .not, [.v 9], 1⟩, ⟨[(.v 10, false)], .bin .sub, [.v 1, .k (.int .i64 1)], 1⟩, ⟨[(.v 10, false)], .call F_l01In 0 1, [.v 7, .k (.int .i64 0), .v 11], 1⟩, ⟨[(.v 10, false)], .un .not, [.v 12], 1⟩, ⟨[], .pick, [.v 10, .k (.bool true), .v 13], 1⟩, ⟨[(.v 14, false)], .bin .gtr, [.v 0, .k (.int .i64 0)], 1⟩, ⟨[(.v 14, false), (.v 15, true)], .bin .sub, [.v 0, .k (.int .i64 1)], 1⟩, ⟨[(.v 14, false), (.v 15, true)], .idx [.sc, .sc], [.v 3, .v 16], 2⟩, ⟨[(.v 14, false), (.v 15, true)], .call F_l06Less 0 1, [.v 17, .v 18, .v 6, .v 7], 1⟩, ⟨[(.v 14, false), (.v 15, true)], .un .not, [.v 19], 1⟩, ⟨[(.v 14, false)], .pick, [.v 15, .v 20, .k (.bool false)], 1⟩, ⟨[], .pick, [.v 14, .k (.bool true), .v 21], 1⟩]) (.ite (.v 22) (.seq (.rg []) (.ret [.k (.bool false)])) (.skip)))) (.tup [.v 0, .v 1, .v 2, .v 3]))) (.rg [⟨[], .bin .add, [.v 0, .k (.int .i64 1)], 1⟩]))) (.tup [.v 4, .v 1, .v 2, .v 3])
theorem spec_CylinderOk_b0_sh (Q : QT) (x0 x1 x2 x3 : V) : shL spec_CylinderOk_b0 Q [x0, x1, x2, x3] = (
  P1 (.len) [x3] fun v0 =>
  P1 (.bin .lss) [x0, v0] fun v1 =>
  ifB v1 (
    P2 (.idx [.sc, .sc]) [x3, x0] fun v2 v3 =>
    P1 (.bin .sub) [x2, .int .i64 1] fun v4 =>
    P1 (.call F_l01In 0 1) [v2, .int .i64 0, v4] fun v5 =>
    P1 (.un .not) [v5] fun v6 =>
    ifB v6 (
      Q .ret [.bool false]) (
      P1 (.bin .sub) [x1, .int .i64 1] fun v7 =>
      P1 (.call F_l01In 0 1) [v3, .int .i64 0, v7] fun v8 =>
      P1 (.un .not) [v8] fun v9 =>
      ifB v9 (
        Q .ret [.bool false]) (
        P1 (.bin .gtr) [x0, .int .i64 0] fun v10 =>
        ifB v10 (
          P1 (.bin .sub) [x0, .int .i64 1] fun v11 =>
          P2 (.idx [.sc, .sc]) [x3, v11] fun v12 v13 =>
          P1 (.call F_l06Less 0 1) [v12, v13, v2, v3] fun v14 =>
          P1 (.un .not) [v14] fun v15 =>
          ifB v15 (
            Q .ret [.bool false]) (
            P1 (.bin .add) [x0, .int .i64 1] fun v16 =>
            Q .normal [v16, x1, x2, x3])) (
          P1 (.bin .add) [x0, .int .i64 1] fun v17 =>
          Q .normal [v17, x1, x2, x3])))) (
    Q (.exit 0) [])) := by kernel_rfl

def spec_CylinderOk_r1 : L := .seq (.rg []) (.ret [.k (.bool true)])
theorem spec_CylinderOk_r1_sh (Q : QT) : shL spec_CylinderOk_r1 Q [] = (
  Q .ret [.bool true]) := by kernel_rfl

def spec_CylinderOk_L : L := .seq (.rg []) (.seq (.seq (.rg [⟨[], .call F_l01In 0 1, [.v 0, .k (.int .i64 4), .k (.int .i64 96)], 1⟩, ⟨[], .un .not, [.v 3], 1⟩, ⟨[(.v 4, false)], .call F_l01In 0 1, [.v 1, .k (.int .i64 1), .k (.int .i64 100)], 1⟩, ⟨[(.v 4, false)], .un .not, [.v 5], 1⟩, ⟨[], .pick, [.v 4, .k (.bool true), .v 6], 1⟩, ⟨[(.v 7, false)], .len, [.v 2], 1⟩, ⟨[(.v 7, false)], .bin .gtr, [.v 8, .k (.int .i64 100)], 1⟩, ⟨[], .pick, [.v 7, .k (.bool true), .v 9], 1⟩]) (.ite (.v 10) (.seq (.rg []) (.ret [.k (.bool false)])) (.skip))) (.seq (.seq (.rg []) (.block 0 (.seq (.tup [.k (.int .i64 0), .v 0, .v 1, .v 2]) (.loop (spec_CylinderOk_b0))))) (spec_CylinderOk_r1)))
theorem spec_CylinderOk_L_sh (Q : QT) (x0 x1 x2 : V) : shL spec_CylinderOk_L Q [x0, x1, x2] = (
  P1 (.call F_l01In 0 1) [x0, .int .i64 4, .int .i64 96] fun v0 =>
  P1 (.un .not) [v0] fun v1 =>
  ifB v1 (
    Q .ret [.bool false]) (
    P1 (.call F_l01In 0 1) [x1, .int .i64 1, .int .i64 100] fun v2 =>
    P1 (.un .not) [v2] fun v3 =>
    ifB v3 (
      Q .ret [.bool false]) (
      P1 (.len) [x2] fun v4 =>
      P1 (.bin .gtr) [v4, .int .i64 100] fun v5 =>
      ifB v5 (
        Q .ret [.bool false]) (
        shL (.loop spec_CylinderOk_b0) (qB 0 (qS (shL spec_CylinderOk_r1 Q) Q)) [.int .i64 0, x0, x1, x2])))) := by kernel_rfl
def spec_CylinderOk_S : Sig := ⟨[.val true [.sc, .sc, .sl [.sc, .sc]]], [(false, [.sc])], F_CylinderOk⟩
def spec_CylinderOk_hs : List NF := [⟨[], [], [], 64⟩, ⟨[(1, .ptr 64 0), (3, .sc false [.sc])], [], [(64, [.sc, .sc, .ro [.sc, .sc]])], 65⟩, ⟨[(1, .ptr 64 0), (3, .sc false [.sc])], [], [(64, [.sc, .sc, .ro [.sc, .sc]])], 65⟩]

def impl_comparePins_L : L := .seq (.rg []) (.seq (.seq (.rg [⟨[], .bin .lss, [.v 1, .v 3], 1⟩, ⟨[(.v 4, false)], .bin .eql, [.v 1, .v 3], 1⟩, ⟨[(.v 4, false), (.v 5, true)], .bin .lss, [.v 0, .v 2], 1⟩, ⟨[(.v 4, false)], .pick, [.v 5, .v 6, .k (.bool false)], 1⟩, ⟨[], .pick, [.v 4, .k (.bool true), .v 7], 1⟩]) (.ite (.v 8) (.seq (.rg []) (.ret [.k (.int .i64 (-1))])) (.skip))) (.seq (.seq (.rg [⟨[], .eqa false [.i, .i], [.v 0, .v 1, .v 2, .v 3], 1⟩]) (.ite (.v 9) (.seq (.rg []) (.ret [.k (.int .i64 0)])) (.skip))) (.seq (.rg []) (.ret [.k (.int .i64 1)]))))
theorem impl_comparePins_L_sh (Q : QT) (x0 x1 x2 x3 : V) : shL impl_comparePins_L Q [x0, x1, x2, x3] = (
  P1 (.bin .lss) [x1, x3] fun v0 =>
  ifB v0 (
    Q .ret [.int .i64 (-1)]) (
    P1 (.bin .eql) [x1, x3] fun v1 =>
    ifB v1 (
      P1 (.bin .lss) [x0, x2] fun v2 =>
      ifB v2 (
        Q .ret [.int .i64 (-1)]) (
        P1 (.eqa false [.i, .i]) [x0, x1, x2, x3] fun v3 =>
        ifB v3 (
          Q .ret [.int .i64 0]) (
          Q .ret [.int .i64 1]))) (
      P1 (.eqa false [.i, .i]) [x0, x1, x2, x3] fun v4 =>
      ifB v4 (
        Q .ret [.int .i64 0]) (
        Q .ret [.int .i64 1])))) := by kernel_rfl
def impl_comparePins_S : Sig := ⟨[.val true [.sc, .sc], .val true [.sc, .sc]], [(false, [.sc])], F_comparePins⟩
def impl_comparePins_hs : List NF := []

def impl_CylinderOk_b0 : L := .seq (.seq (.rg [⟨[], .bin .lss, [.v 2, .v 1], 1⟩]) (.seq (.ite (.v 6) (.skip) (.seq (.tup []) (.exit 0))) (.seq (.block 1 (.seq (.seq (.rg [⟨[], .idx [.sc, .sc], [.v 0, .v 2], 2⟩]) (.seq (.seq (.rg [⟨[], .bin .sub, [.v 4, .k (.int .i64 1)], 1⟩, ⟨[], .call F_within 0 1, [.v 7, .k (.int .i64 0), .v 9], 1⟩, ⟨[], .un .not, [.v 10], 1⟩, ⟨[(.v 11, false)], .bin .sub, [.v 3, .k (.int .i64 1)], 1⟩, ⟨[(.v 11, false)], .call F_within 0 1, [.v 8, .k (.int .i64 0), .v 12], 1⟩, ⟨[(.v 11, false)], .un .not, [.v 13], 1⟩, ⟨[], .pick, [.v 11, .k (.bool true), .v 14], 1⟩]) (.ite (.v 15) (.seq (.rg []) (.ret [.k (.bool false)])) (.skip))) (.seq (.rg [⟨[], .bin .gtr, [.v 2, .k (.int .i64 0)], 1⟩, ⟨[(.v 16, true)], .bin .sub, [.v 2, .k (.int .i64 1)], 1⟩, ⟨[(.v 16, true)], .idx [.sc, .sc], [.v 5, .v 17], 2⟩, ⟨[(.v 16, true)], .call F_comparePins 0 1, [.v 18, .v 19, .v 7, .v 8], 1⟩, ⟨[(.v 16, true)], .bin .geq, [.v 20, .k (.int .i64 0)], 1⟩, ⟨[], .pick, [.v 16, .v 21, .k (.bool false)], 1⟩]) (.ite (.v 22) (.seq (.rg []) (.ret [.k (.bool false)])) (.skip))))) (.tup [.v 0, .v 1, .v 2, .v 3, .v 4, .v 5]))) (.rg [⟨[], .bin .add, [.v 2, .k (.int .i64 1)], 1⟩])))) (.tup [.v 0, .v 1, .v 6, .v 3, .v 4, .v 5])
theorem impl_CylinderOk_b0_sh (Q : QT) (x0 x1 x2 x3 x4 x5 : V) : shL impl_CylinderOk_b0 Q [x0, x1, x2, x3, x4, x5] = (
  P1 (.bin .lss) [x2, x1] fun v0 =>
  ifB v0 (
    P2 (.idx [.sc, .sc]) [x0, x2] fun v1 v2 =>
    P1 (.bin .sub) [x4, .int .i64 1] fun v3 =>
    P1 (.call F_within 0 1) [v1, .int .i64 0, v3] fun v4 =>
    P1 (.un .not) [v4] fun v5 =>
    ifB v5 (
      Q .ret [.bool false]) (
      P1 (.bin .sub) [x3, .int .i64 1] fun v6 =>
      P1 (.call F_within 0 1) [v2, .int .i64 0, v6] fun v7 =>
      P1 (.un .not) [v7] fun v8 =>
      ifB v8 (
        Q .ret [.bool false]) (
        P1 (.bin .gtr) [x2, .int .i64 0] fun v9 =>
        ifB v9 (
          P1 (.bin .sub) [x2, .int .i64 1] fun v10 =>
          P2 (.idx [.sc, .sc]) [x5, v10] fun v11 v12 =>
          P1 (.call F_comparePins 0 1) [v11, v12, v1, v2] fun v13 =>
          P1 (.bin .geq) [v13, .int .i64 0] fun v14 =>
          ifB v14 (
            Q .ret [.bool false]) (
            P1 (.bin .add) [x2, .int .i64 1] fun v15 =>
            Q .normal [x0, x1, v15, x3, x4, x5])) (
          P1 (.bin .add) [x2, .int .i64 1] fun v16 =>
          Q .normal [x0, x1, v16, x3, x4, x5])))) (
    Q (.exit 0) [])) := by kernel_rfl

def impl_CylinderOk_r1 : L := .seq (.rg []) (.ret [.k (.bool true)])
theorem impl_CylinderOk_r1_sh (Q : QT) : shL impl_CylinderOk_r1 Q [] = (
  Q .ret [.bool true]) := by kernel_rfl

def impl_CylinderOk_L : L := .seq (.rg []) (.seq (.seq (.rg [⟨[], .call F_within 0 1, [.v 0, .k (.int .i64 4), .k (.int .i64 96)], 1⟩, ⟨[], .un .not, [.v 3], 1⟩, ⟨[(.v 4, false)], .call F_within 0 1, [.v 1, .k (.int .i64 1), .k (.int .i64 100)], 1⟩, ⟨[(.v 4, false)], .un .not, [.v 5], 1⟩, ⟨[], .pick, [.v 4, .k (.bool true), .v 6], 1⟩, ⟨[(.v 7, false)], .len, [.v 2], 1⟩, ⟨[(.v 7, false)], .bin .gtr, [.v 8, .k (.int .i64 100)], 1⟩, ⟨[], .pick, [.v 7, .k (.bool true), .v 9], 1⟩]) (.ite (.v 10) (.seq (.rg []) (.ret [.k (.bool false)])) (.skip))) (.seq (.seq (.rg [⟨[], .len, [.v 2], 1⟩]) (.block 0 (.seq (.tup [.v 2, .v 11, .k (.int .i64 0), .v 0, .v 1, .v 2]) (.loop (impl_CylinderOk_b0))))) (impl_CylinderOk_r1)))
theorem impl_CylinderOk_L_sh (Q : QT) (x0 x1 x2 : V) : shL impl_CylinderOk_L Q [x0, x1, x2] = (
  P1 (.call F_within 0 1) [x0, .int .i64 4, .int .i64 96] fun v0 =>
  P1 (.un .not) [v0] fun v1 =>
  ifB v1 (
    Q .ret [.bool false]) (
    P1 (.call F_within 0 1) [x1, .int .i64 1, .int .i64 100] fun v2 =>
    P1 (.un .not) [v2] fun v3 =>
    ifB v3 (
      Q .ret [.bool false]) (
      P1 (.len) [x2] fun v4 =>
      P1 (.bin .gtr) [v4, .int .i64 100] fun v5 =>
      ifB v5 (
        Q .ret [.bool false]) (
        P1 (.len) [x2] fun v6 =>
        shL (.loop impl_CylinderOk_b0) (qB 0 (qS (shL impl_CylinderOk_r1 Q) Q)) [x2, v6, .int .i64 0, x0, x1, x2])))) := by kernel_rfl
def impl_CylinderOk_S : Sig := ⟨[.val true [.sc, .sc, .sl [.sc, .sc]]], [(false, [.sc])], F_CylinderOk⟩
def impl_CylinderOk_hs : List NF := [⟨[], [], [], 64⟩, ⟨[(1, .ptr 64 0), (22, .sc false [.ro [.sc, .sc]]), (23, .sc false [.sc]), (24, .sc false [.sc])], [], [(64, [.sc, .sc, .ro [.sc, .sc]])], 65⟩, ⟨[(1, .ptr 64 0), (22, .sc false [.ro [.sc, .sc]]), (23, .sc false [.sc]), (24, .sc false [.sc])], [], [(64, [.sc, .sc, .ro [.sc, .sc]])], 65⟩]

def laws_eqPin_L : L := .seq (.rg []) (.seq (.seq (.rg [⟨[], .bin .neq, [.v 0, .v 2], 1⟩]) (.ite (.v 4) (.seq (.rg []) (.ret [.k (.bool false)])) (.skip))) (.seq (.seq (.rg [⟨[], .bin .neq, [.v 1, .v 3], 1⟩]) (.ite (.v 5) (.seq (.rg []) (.ret [.k (.bool false)])) (.skip))) (.seq (.rg []) (.ret [.k (.bool true)]))))
theorem laws_eqPin_L_sh (Q : QT) (x0 x1 x2 x3 : V) : shL laws_eqPin_L Q [x0, x1, x2, x3] = (
  P1 (.bin .neq) [x0, x2] fun v0 =>
  ifB v0 (
    Q .ret [.bool false]) (
    P1 (.bin .neq) [x1, x3] fun v1 =>
    ifB v1 (
      Q .ret [.bool false]) (
      Q .ret [.bool true]))) := by kernel_rfl
def laws_eqPin_S : Sig := ⟨[.val true [.sc, .sc], .val true [.sc, .sc]], [(false, [.sc])], F_eqPin⟩
def laws_eqPin_hs : List NF := []

def laws_eqPinS_b0 : L := .seq (.seq (.seq (.rg [⟨[], .len, [.v 0], 1⟩, ⟨[], .bin .lss, [.v 2, .v 3], 1⟩]) (.ite (.v 4) (.skip) (.seq (.tup []) (.exit 0)))) (.seq (.block 1 (.seq (.seq (.rg [⟨[], .idx [.sc, .sc], [.v 0, .v 2], 2⟩, ⟨[], .idx [.sc, .sc], [.v 1, .v 2], 2⟩, ⟨[], .call F_eqPin 0 1, [.v 5, .v 6, .v 7, .v 8], 1⟩, ⟨[], .un .not, [.v 9], 1⟩]) (.ite (.v 10) (.seq (.rg []) (.ret [.k (.bool false)])) (.skip))) (.tup [.v 0, .v 1, .v 2]))) (.rg [⟨[], .bin .add, [.v 2, .k (.int .i64 1)], 1⟩]))) (.tup [.v 0, .v 1, .v 3])
theorem laws_eqPinS_b0_sh (Q : QT) (x0 x1 x2 : V) : shL laws_eqPinS_b0 Q [x0, x1, x2] = (
  P1 (.len) [x0] fun v0 =>
  P1 (.bin .lss) [x2, v0] fun v1 =>
  ifB v1 (
    P2 (.idx [.sc, .sc]) [x0, x2] fun v2 v3 =>
    P2 (.idx [.sc, .sc]) [x1, x2] fun v4 v5 =>
    P1 (.call F_eqPin 0 1) [v2, v3, v4, v5] fun v6 =>
    P1 (.un .not) [v6] fun v7 =>
    ifB v7 (
      Q .ret [.bool false]) (
      P1 (.bin .add) [x2, .int .i64 1] fun v8 =>
      Q .normal [x0, x1, v8])) (
    Q (.exit 0) [])) := by kernel_rfl

def laws_eqPinS_r1 : L := .seq (.rg []) (.ret [.k (.bool true)])
theorem laws_eqPinS_r1_sh (Q : QT) : shL laws_eqPinS_r1 Q [] = (
  Q .ret [.bool true]) := by kernel_rfl

def laws_eqPinS_L : L := .seq (.rg []) (.seq (.seq (.rg [⟨[], .len, [.v 0], 1⟩, ⟨[], .len, [.v 1], 1⟩, ⟨[], .bin .neq, [.v 2, .v 3], 1⟩]) (.ite (.v 4) (.seq (.rg []) (.ret [.k (.bool false)])) (.skip))) (.seq (.seq (.rg []) (.block 0 (.seq (.tup [.v 0, .v 1, .k (.int .i64 0)]) (.loop (laws_eqPinS_b0))))) (laws_eqPinS_r1)))
theorem laws_eqPinS_L_sh (Q : QT) (x0 x1 : V) : shL laws_eqPinS_L Q [x0, x1] = (
  P1 (.len) [x0] fun v0 =>
  P1 (.len) [x1] fun v1 =>
  P1 (.bin .neq) [v0, v1] fun v2 =>
  ifB v2 (
    Q .ret [.bool false]) (
    shL (.loop laws_eqPinS_b0) (qB 0 (qS (shL laws_eqPinS_r1 Q) Q)) [x0, x1, .int .i64 0])) := by kernel_rfl
def laws_eqPinS_S : Sig := ⟨[.val false [.sl [.sc, .sc]], .val false [.sl [.sc, .sc]]], [(false, [.sc])], F_eqPinS⟩
def laws_eqPinS_hs : List NF := [⟨[], [], [], 64⟩, ⟨[(0, .sc false [.ro [.sc, .sc]]), (1, .sc false [.ro [.sc, .sc]]), (5, .sc false [.sc])], [], [], 64⟩, ⟨[(0, .sc false [.ro [.sc, .sc]]), (1, .sc false [.ro [.sc, .sc]]), (5, .sc false [.sc])], [], [], 64⟩]

def laws_eqCylinder_L : L := .seq (.rg []) (.seq (.seq (.rg [⟨[], .bin .neq, [.v 0, .v 3], 1⟩]) (.ite (.v 6) (.seq (.rg []) (.ret [.k (.bool false)])) (.skip))) (.seq (.seq (.rg [⟨[], .bin .neq, [.v 1, .v 4], 1⟩]) (.ite (.v 7) (.seq (.rg []) (.ret [.k (.bool false)])) (.skip))) (.seq (.seq (.rg [⟨[], .call F_eqPinS 0 1, [.v 2, .v 5], 1⟩, ⟨[], .un .not, [.v 8], 1⟩]) (.ite (.v 9) (.seq (.rg []) (.ret [.k (.bool false)])) (.skip))) (.seq (.rg []) (.ret [.k (.bool true)])))))
theorem laws_eqCylinder_L_sh (Q : QT) (x0 x1 x2 x3 x4 x5 : V) : shL laws_eqCylinder_L Q [x0, x1, x2, x3, x4, x5] = (
  P1 (.bin .neq) [x0, x3] fun v0 =>
  ifB v0 (
    Q .ret [.bool false]) (
    P1 (.bin .neq) [x1, x4] fun v1 =>
    ifB v1 (
      Q .ret [.bool false]) (
      P1 (.call F_eqPinS 0 1) [x2, x5] fun v2 =>
      P1 (.un .not) [v2] fun v3 =>
      ifB v3 (
        Q .ret [.bool false]) (
        Q .ret [.bool true])))) := by kernel_rfl
def laws_eqCylinder_S : Sig := ⟨[.val true [.sc, .sc, .sl [.sc, .sc]], .val true [.sc, .sc, .sl [.sc, .sc]]], [(false, [.sc])], F_eqCylinder⟩
def laws_eqCylinder_hs : List NF := []

def laws_toIntS_b0 : L := .seq (.seq (.seq (.rg [⟨[], .len, [.v 0], 1⟩, ⟨[], .bin .lss, [.v 1, .v 3], 1⟩]) (.ite (.v 4) (.skip) (.seq (.tup [.v 2]) (.exit 0)))) (.seq (.block 1 (.seq (.rg [⟨[], .idx [.sc], [.v 0, .v 1], 1⟩, ⟨[], .idx [.sc], [.v 2, .v 1], 1⟩, ⟨[], .set [.sc] 0, [.v 2, .v 1, .v 5], 1⟩]) (.tup [.v 0, .v 1, .v 7]))) (.rg [⟨[], .bin .add, [.v 1, .k (.int .i64 1)], 1⟩]))) (.tup [.v 0, .v 3, .v 2])
theorem laws_toIntS_b0_sh (Q : QT) (x0 x1 x2 : V) : shL laws_toIntS_b0 Q [x0, x1, x2] = (
  P1 (.len) [x0] fun v0 =>
  P1 (.bin .lss) [x1, v0] fun v1 =>
  ifB v1 (
    P1 (.idx [.sc]) [x0, x1] fun v2 =>
    P1 (.idx [.sc]) [x2, x1] fun _ =>
    P1 (.set [.sc] 0) [x2, x1, v2] fun v4 =>
    P1 (.bin .add) [x1, .int .i64 1] fun v5 =>
    Q .normal [x0, v5, v4]) (
    Q (.exit 0) [x2])) := by kernel_rfl

def laws_toIntS_r1 : L := .seq (.rg []) (.ret [.v 0])
theorem laws_toIntS_r1_sh (Q : QT) (x0 : V) : shL laws_toIntS_r1 Q [x0] = (
  Q .ret [x0]) := by kernel_rfl

def laws_toIntS_L : L := .seq (.rg []) (.seq (.rg [⟨[], .len, [.v 0], 1⟩, ⟨[], .mk [.sc] (.int .i64 0) 8, [.v 1, .v 1], 1⟩]) (.seq (.seq (.rg []) (.block 0 (.seq (.tup [.v 0, .k (.int .i64 0), .v 2]) (.loop (laws_toIntS_b0))))) (laws_toIntS_r1)))
theorem laws_toIntS_L_sh (Q : QT) (x0 : V) : shL laws_toIntS_L Q [x0] = (
  P1 (.len) [x0] fun v0 =>
  P1 (.mk [.sc] (.int .i64 0) 8) [v0, v0] fun v1 =>
  shL (.loop laws_toIntS_b0) (qB 0 (qS (shL laws_toIntS_r1 Q) Q)) [x0, .int .i64 0, v1]) := by kernel_rfl
def laws_toIntS_S : Sig := ⟨[.val false [.sl [.sc]]], [(false, [.sl [.sc]])], F_toIntS⟩
def laws_toIntS_hs : List NF := [⟨[(3, .sc false [.own 64])], [(64, true, [.sc])], [], 65⟩, ⟨[(0, .sc false [.ro [.sc]]), (3, .sc false [.own 64]), (4, .sc false [.sc])], [(64, true, [.sc])], [], 65⟩, ⟨[(0, .sc false [.ro [.sc]]), (3, .sc false [.own 64]), (4, .sc false [.sc])], [(64, true, [.sc])], [], 65⟩]

def laws_eqIntS_b0 : L := .seq (.seq (.seq (.rg [⟨[], .len, [.v 0], 1⟩, ⟨[], .bin .lss, [.v 2, .v 3], 1⟩]) (.ite (.v 4) (.skip) (.seq (.tup []) (.exit 0)))) (.seq (.block 1 (.seq (.seq (.rg [⟨[], .idx [.sc], [.v 0, .v 2], 1⟩, ⟨[], .idx [.sc], [.v 1, .v 2], 1⟩, ⟨[], .bin .neq, [.v 5, .v 6], 1⟩]) (.ite (.v 7) (.seq (.rg []) (.ret [.k (.bool false)])) (.skip))) (.tup [.v 0, .v 1, .v 2]))) (.rg [⟨[], .bin .add, [.v 2, .k (.int .i64 1)], 1⟩]))) (.tup [.v 0, .v 1, .v 3])
theorem laws_eqIntS_b0_sh (Q : QT) (x0 x1 x2 : V) : shL laws_eqIntS_b0 Q [x0, x1, x2] = (
  P1 (.len) [x0] fun v0 =>
  P1 (.bin .lss) [x2, v0] fun v1 =>
  ifB v1 (
    P1 (.idx [.sc]) [x0, x2] fun v2 =>
    P1 (.idx [.sc]) [x1, x2] fun v3 =>
    P1 (.bin .neq) [v2, v3] fun v4 =>
    ifB v4 (
      Q .ret [.bool false]) (
      P1 (.bin .add) [x2, .int .i64 1] fun v5 =>
      Q .normal [x0, x1, v5])) (
    Q (.exit 0) [])) := by kernel_rfl

def laws_eqIntS_r1 : L := .seq (.rg []) (.ret [.k (.bool true)])
theorem laws_eqIntS_r1_sh (Q : QT) : shL laws_eqIntS_r1 Q [] = (
  Q .ret [.bool true]) := by kernel_rfl

def laws_eqIntS_L : L := .seq (.rg []) (.seq (.seq (.rg [⟨[], .len, [.v 0], 1⟩, ⟨[], .len, [.v 1], 1⟩, ⟨[], .bin .neq, [.v 2, .v 3], 1⟩]) (.ite (.v 4) (.seq (.rg []) (.ret [.k (.bool false)])) (.skip))) (.seq (.seq (.rg []) (.block 0 (.seq (.tup [.v 0, .v 1, .k (.int .i64 0)]) (.loop (laws_eqIntS_b0))))) (laws_eqIntS_r1)))
theorem laws_eqIntS_L_sh (Q : QT) (x0 x1 : V) : shL laws_eqIntS_L Q [x0, x1] = (
  P1 (.len) [x0] fun v0 =>
  P1 (.len) [x1] fun v1 =>
  P1 (.bin .neq) [v0, v1] fun v2 =>
  ifB v2 (
    Q .ret [.bool false]) (
    shL (.loop laws_eqIntS_b0) (qB 0 (qS (shL laws_eqIntS_r1 Q) Q)) [x0, x1, .int .i64 0])) := by kernel_rfl
def laws_eqIntS_S : Sig := ⟨[.val false [.sl [.sc]], .val false [.sl [.sc]]], [(false, [.sc])], F_eqIntS⟩
def laws_eqIntS_hs : List NF := [⟨[], [], [], 64⟩, ⟨[(0, .sc false [.ro [.sc]]), (1, .sc false [.ro [.sc]]), (5, .sc false [.sc])], [], [], 64⟩, ⟨[(0, .sc false [.ro [.sc]]), (1, .sc false [.ro [.sc]]), (5, .sc false [.sc])], [], [], 64⟩]

def laws_markIntS_b0 : L := .seq (.seq (.seq (.rg [⟨[], .len, [.v 2], 1⟩, ⟨[], .bin .lss, [.v 1, .v 3], 1⟩]) (.ite (.v 4) (.skip) (.seq (.tup [.v 0, .v 2]) (.exit 0)))) (.seq (.block 1 (.seq (.seq (.rg [⟨[], .idx [.sc], [.v 2, .v 1], 1⟩, ⟨[], .set [.sc] 0, [.v 2, .v 1, .v 0], 1⟩]) (.rg [⟨[], .bin .add, [.v 0, .k (.int .i64 1)], 1⟩])) (.tup [.v 7, .v 1, .v 6]))) (.rg [⟨[], .bin .add, [.v 1, .k (.int .i64 1)], 1⟩]))) (.tup [.v 0, .v 3, .v 2])
theorem laws_markIntS_b0_sh (Q : QT) (x0 x1 x2 : V) : shL laws_markIntS_b0 Q [x0, x1, x2] = (
  P1 (.len) [x2] fun v0 =>
  P1 (.bin .lss) [x1, v0] fun v1 =>
  ifB v1 (
    P1 (.idx [.sc]) [x2, x1] fun _ =>
    P1 (.set [.sc] 0) [x2, x1, x0] fun v3 =>
    P1 (.bin .add) [x0, .int .i64 1] fun v4 =>
    P1 (.bin .add) [x1, .int .i64 1] fun v5 =>
    Q .normal [v4, v5, v3]) (
    Q (.exit 0) [x0, x2])) := by kernel_rfl

def laws_markIntS_r1 : L := .seq (.rg []) (.ret [.v 0, .v 1])
theorem laws_markIntS_r1_sh (Q : QT) (x0 x1 : V) : shL laws_markIntS_r1 Q [x0, x1] = (
  Q .ret [x0, x1]) := by kernel_rfl

def laws_markIntS_L : L := .seq (.rg []) (.seq (.seq (.rg []) (.block 0 (.seq (.tup [.v 1, .k (.int .i64 0), .v 0]) (.loop (laws_markIntS_b0))))) (laws_markIntS_r1))
theorem laws_markIntS_L_sh (Q : QT) (x0 x1 : V) : shL laws_markIntS_L Q [x0, x1] = (
  shL (.loop laws_markIntS_b0) (qB 0 (qS (shL laws_markIntS_r1 Q) Q)) [x1, .int .i64 0, x0]) := by kernel_rfl
def laws_markIntS_S : Sig := ⟨[.io false [.sl [.sc]], .val false [.sc]], [(false, [.sc])], F_markIntS⟩
def laws_markIntS_hs : List NF := [⟨[(1, .sc false [.sc])], [(0, false, [.sc])], [], 64⟩, ⟨[(0, .sc false [.own 0]), (1, .sc false [.sc]), (5, .sc false [.sc])], [(0, false, [.sc])], [], 64⟩, ⟨[(0, .sc false [.own 0]), (1, .sc false [.sc]), (5, .sc false [.sc])], [(0, false, [.sc])], [], 64⟩]

def laws_markPinS_b0 : L := .seq (.seq (.seq (.rg [⟨[], .len, [.v 2], 1⟩, ⟨[], .bin .lss, [.v 1, .v 3], 1⟩]) (.ite (.v 4) (.skip) (.seq (.tup [.v 0, .v 2]) (.exit 0)))) (.seq (.block 1 (.seq (.seq (.rg [⟨[], .idx [.sc, .sc], [.v 2, .v 1], 2⟩, ⟨[], .set [.sc, .sc] 0, [.v 2, .v 1, .v 0], 1⟩]) (.seq (.rg [⟨[], .bin .add, [.v 0, .k (.int .i64 1)], 1⟩]) (.seq (.rg [⟨[], .idx [.sc, .sc], [.v 7, .v 1], 2⟩, ⟨[], .set [.sc, .sc] 1, [.v 7, .v 1, .v 8], 1⟩]) (.rg [⟨[], .bin .add, [.v 8, .k (.int .i64 1)], 1⟩])))) (.tup [.v 12, .v 1, .v 11]))) (.rg [⟨[], .bin .add, [.v 1, .k (.int .i64 1)], 1⟩]))) (.tup [.v 0, .v 3, .v 2])
theorem laws_markPinS_b0_sh (Q : QT) (x0 x1 x2 : V) : shL laws_markPinS_b0 Q [x0, x1, x2] = (
  P1 (.len) [x2] fun v0 =>
  P1 (.bin .lss) [x1, v0] fun v1 =>
  ifB v1 (
    P2 (.idx [.sc, .sc]) [x2, x1] fun _ _ =>
    P1 (.set [.sc, .sc] 0) [x2, x1, x0] fun v4 =>
    P1 (.bin .add) [x0, .int .i64 1] fun v5 =>
    P2 (.idx [.sc, .sc]) [v4, x1] fun _ _ =>
    P1 (.set [.sc, .sc] 1) [v4, x1, v5] fun v8 =>
    P1 (.bin .add) [v5, .int .i64 1] fun v9 =>
    P1 (.bin .add) [x1, .int .i64 1] fun v10 =>
    Q .normal [v9, v10, v8]) (
    Q (.exit 0) [x0, x2])) := by kernel_rfl

def laws_markPinS_r1 : L := .seq (.rg []) (.ret [.v 0, .v 1])
theorem laws_markPinS_r1_sh (Q : QT) (x0 x1 : V) : shL laws_markPinS_r1 Q [x0, x1] = (
  Q .ret [x0, x1]) := by kernel_rfl

def laws_markPinS_L : L := .seq (.rg []) (.seq (.seq (.rg []) (.block 0 (.seq (.tup [.v 1, .k (.int .i64 0), .v 0]) (.loop (laws_markPinS_b0))))) (laws_markPinS_r1))
theorem laws_markPinS_L_sh (Q : QT) (x0 x1 : V) : shL laws_markPinS_L Q [x0, x1] = (
  shL (.loop laws_markPinS_b0) (qB 0 (qS (shL laws_markPinS_r1 Q) Q)) [x1, .int .i64 0, x0]) := by kernel_rfl
def laws_markPinS_S : Sig := ⟨[.io false [.sl [.sc, .sc]], .val false [.sc]], [(false, [.sc])], F_markPinS⟩
def laws_markPinS_hs : List NF := [⟨[(1, .sc false [.sc])], [(0, false, [.sc, .sc])], [], 64⟩, ⟨[(0, .sc false [.own 0]), (1, .sc false [.sc]), (5, .sc false [.sc])], [(0, false, [.sc, .sc])], [], 64⟩, ⟨[(0, .sc false [.own 0]), (1, .sc false [.sc]), (5, .sc false [.sc])], [(0, false, [.sc, .sc])], [], 64⟩]

def laws_markCylinder_L : L := .seq (.rg []) (.seq (.rg [⟨[], .call F_markPinS 1 1, [.v 2, .v 3, .v 2], 2⟩]) (.seq (.rg []) (.ret [.v 4, .v 5])))
theorem laws_markCylinder_L_sh (Q : QT) (x0 x1 x2 x3 : V) : shL laws_markCylinder_L Q [x0, x1, x2, x3] = (
  P2 (.call F_markPinS 1 1) [x2, x3, x2] fun v0 v1 =>
  Q .ret [v0, v1]) := by kernel_rfl
def laws_markCylinder_S : Sig := ⟨[.io true [.sc, .sc, .sl [.sc, .sc]], .val false [.sc]], [(false, [.sc])], F_markCylinder⟩
def laws_markCylinder_hs : List NF := []

end
end Go.Mw

/- Laws' helpers on memory, and the plain functions of pieces, pins, cylinders, states. -/
namespace Go.Mw
theorem mark_set_get {α : Type} {l m : List α} {k : Nat} {x : α} (hm : m.length = l.length) (h : k < l.length) : ((m.take k ++ l.drop k).set k x)[k]? = some x := by
  rw [List.getElem?_set_self (by simp; omega)]

theorem laws_szPinS_ok : ∀ ds outs, F_szPinS ds = some outs → shL laws_szPinS_L (qRet outs) ds := F_szPinS_elim fun l n hp => by
  rw [laws_szPinS_L_sh]
  simp (disch := omega) [wrap_id]
  grind

theorem laws_toPinS_ok : ∀ ds outs, F_toPinS ds = some outs → shL laws_toPinS_L (qRet outs) ds := F_toPinS_elim fun l hp => by
  rw [laws_toPinS_L_sh]
  simp
  refine ⟨by omega, ?_⟩
  refine loop_upto l.length (fun k => [vL I2 v2 l, .int .i64 k, vL I2 v2 (l.take k ++ List.replicate (l.length - k) ⟨0, 0⟩)]) (by intro i j _ _ h; simp at h; omega) (fun _ => True) (by simp) trivial ?_
  intro k hk _
  rw [laws_toPinS_b0_sh]
  simp
  refine ⟨fun h => ?_, fun h => ?_⟩
  · rw [fill_get h (by omega)]
    simp (disch := omega) [h, fill_set h, wrap_id]
  · obtain rfl : k = l.length := by omega
    simp [laws_toPinS_r1_sh]

theorem laws_eqPinS_ok : ∀ ds outs, F_eqPinS ds = some outs → shL laws_eqPinS_L (qRet outs) ds := F_eqPinS_elim fun l m hp => by
  rw [laws_eqPinS_L_sh]
  simp
  refine ⟨fun h => ?_, fun hl => ?_⟩
  · rintro rfl; omega
  refine loop_upto l.length (fun k => [vL I2 v2 l, vL I2 v2 m, .int .i64 k]) (by intro i j _ _ h; simp at h; omega) (fun k => l.take k = m.take k) (by simp) (by simp) ?_
  intro k hk hP
  rw [laws_eqPinS_b0_sh]
  simp
  refine ⟨fun h => ?_, fun h => ?_⟩
  · have h2 : k < m.length := by omega
    simp (disch := omega) [h, wrap_id]
    refine ⟨fun hne he => ?_, fun h3 => ?_⟩
    · subst he; exact hne rfl
    · rw [take_succ_get h, take_succ_get h2, hP, h3]
  · obtain rfl : k = l.length := by omega
    rw [List.take_length, List.take_of_length_le (by omega)] at hP
    simp [laws_eqPinS_r1_sh, hP]

theorem laws_toIntS_ok : ∀ ds outs, F_toIntS ds = some outs → shL laws_toIntS_L (qRet outs) ds := F_toIntS_elim fun l hp => by
  rw [laws_toIntS_L_sh]
  simp
  refine ⟨by omega, ?_⟩
  refine loop_upto l.length (fun k => [vL I1 v1 l, .int .i64 k, vL I1 v1 (l.take k ++ List.replicate (l.length - k) 0)]) (by intro i j _ _ h; simp at h; omega) (fun _ => True) (by simp) trivial ?_
  intro k hk _
  rw [laws_toIntS_b0_sh]
  simp
  refine ⟨fun h => ?_, fun h => ?_⟩
  · rw [fill_get h (by omega)]
    simp (disch := omega) [h, fill_set h, wrap_id]
  · obtain rfl : k = l.length := by omega
    simp [laws_toIntS_r1_sh]

theorem laws_eqIntS_ok : ∀ ds outs, F_eqIntS ds = some outs → shL laws_eqIntS_L (qRet outs) ds := F_eqIntS_elim fun l m hp => by
  rw [laws_eqIntS_L_sh]
  simp
  refine ⟨fun h => ?_, fun hl => ?_⟩
  · rintro rfl; omega
  refine loop_upto l.length (fun k => [vL I1 v1 l, vL I1 v1 m, .int .i64 k]) (by intro i j _ _ h; simp at h; omega) (fun k => l.take k = m.take k) (by simp) (by simp) ?_
  intro k hk hP
  rw [laws_eqIntS_b0_sh]
  simp
  refine ⟨fun h => ?_, fun h => ?_⟩
  · have h2 : k < m.length := by omega
    simp (disch := omega) [h, wrap_id]
    refine ⟨fun hne he => ?_, fun h3 => ?_⟩
    · subst he; exact hne rfl
    · rw [take_succ_get h, take_succ_get h2, hP, h3]
  · obtain rfl : k = l.length := by omega
    rw [List.take_length, List.take_of_length_le (by omega)] at hP
    simp [laws_eqIntS_r1_sh, hP]

theorem laws_markIntS_ok : ∀ ds outs, F_markIntS ds = some outs → shL laws_markIntS_L (qRet outs) ds := F_markIntS_elim fun l k hp => by
  rw [laws_markIntS_L_sh]
  refine loop_upto l.length (fun i => [.int .i64 (k + 1 * i), .int .i64 i, vL I1 v1 ((markL1 l.length k).take i ++ l.drop i)]) (by intro i j _ _ h; simp at h; omega) (fun _ => True) (by simp) trivial ?_
  intro i hi _
  have hml : (markL1 l.length k).length = l.length := markL1_len
  rw [laws_markIntS_b0_sh]
  simp
  have e0 : ((min i l.length : Nat) : Int) + ((l.length - i : Nat) : Int) = l.length := by omega
  simp only [e0]
  refine ⟨fun h => ?_, fun h => ?_⟩
  · replace h : i < l.length := by omega
    rw [mark_get hml h]
    have hs := mark_set hml h
    have hg : (markL1 l.length k)[i]'(by omega) = k + (i : Int) := by simp [markL1]
    rw [hg] at hs
    simp (disch := omega) [h, wrap_id, hs]
    omega
  · obtain rfl : i = l.length := by omega
    have e1 : List.take l.length (markL1 l.length k) = markL1 l.length k := List.take_of_length_le (by simp)
    simp [laws_markIntS_r1_sh, e1]

theorem laws_markPinS_ok : ∀ ds outs, F_markPinS ds = some outs → shL laws_markPinS_L (qRet outs) ds := F_markPinS_elim fun l k hp => by
  rw [laws_markPinS_L_sh]
  refine loop_upto l.length (fun i => [.int .i64 (k + 2 * i), .int .i64 i, vL I2 v2 ((markL2 l.length k).take i ++ l.drop i)]) (by intro i j _ _ h; simp at h; omega) (fun _ => True) (by simp) trivial ?_
  intro i hi _
  have hml : (markL2 l.length k).length = l.length := markL2_len
  rw [laws_markPinS_b0_sh]
  simp
  have e0 : ((min i l.length : Nat) : Int) + ((l.length - i : Nat) : Int) = l.length := by omega
  simp only [e0]
  refine ⟨fun h => ?_, fun h => ?_⟩
  · replace h : i < l.length := by omega
    rw [mark_get hml h]
    have hs := mark_set hml h
    have hg : (markL2 l.length k)[i]'(by omega) = ⟨k + 2 * (i : Int), k + 2 * (i : Int) + 1⟩ := by simp [markL2]
    rw [hg] at hs
    simp (disch := omega) [h, wrap_id, hs, fun x => mark_set_get (x := x) hml h]
    omega
  · obtain rfl : i = l.length := by omega
    have e1 : List.take l.length (markL2 l.length k) = markL2 l.length k := List.take_of_length_le (by simp)
    simp [laws_markPinS_r1_sh, e1]

theorem laws_toPin_ok : ∀ ds outs, F_toPin ds = some outs → shL laws_toPin_L (qRet outs) ds := F_toPin_elim fun x => by
  rw [laws_toPin_L_sh]; simp
theorem laws_eqPin_ok : ∀ ds outs, F_eqPin ds = some outs → shL laws_eqPin_L (qRet outs) ds := F_eqPin_elim fun x y => by
  rw [laws_eqPin_L_sh]
  cases x; cases y
  simp
  grind
theorem laws_szCylinder_ok : ∀ ds outs, F_szCylinder ds = some outs → shL laws_szCylinder_L (qRet outs) ds := F_szCylinder_elim fun x n hp => by
  rw [laws_szCylinder_L_sh]
  simp [p_szPinS hp]
  grind
theorem laws_toCylinder_ok : ∀ ds outs, F_toCylinder ds = some outs → shL laws_toCylinder_L (qRet outs) ds := F_toCylinder_elim fun x hp => by
  rw [laws_toCylinder_L_sh]
  simp [p_toPinS hp]
end Go.Mw

/- Pieces, pins, cylinders, states: the functions compute what was said. -/
namespace Go.Mw
theorem laws_eqCylinder_ok : ∀ ds outs, F_eqCylinder ds = some outs → shL laws_eqCylinder_L (qRet outs) ds := F_eqCylinder_elim fun x y hp => by
  rw [laws_eqCylinder_L_sh]
  simp [p_eqPinS hp]
  grind
theorem laws_markCylinder_ok : ∀ ds outs, F_markCylinder ds = some outs → shL laws_markCylinder_L (qRet outs) ds := F_markCylinder_elim fun x k hp => by
  rw [laws_markCylinder_L_sh]
  simp [p_markPinS hp]

/-! show time -/
/-! cylinders -/
theorem spec_l06Less_ok : ∀ ds outs, F_l06Less ds = some outs → shL spec_l06Less_L (qRet outs) ds := F_l06Less_elim fun x y => by
  rw [spec_l06Less_L_sh]; simp [pinLess]; grind
theorem impl_comparePins_ok : ∀ ds outs, F_comparePins ds = some outs → shL impl_comparePins_L (qRet outs) ds := F_comparePins_elim fun x y => by
  rw [impl_comparePins_L_sh]
  cases x; cases y
  simp [pinLess]
  grind
end Go.Mw

/- Cylinders and their pins. -/
namespace Go.Mw
theorem rising_iff : ∀ l : List T2, rising l = true ↔ ∀ j (_ : j < l.length), 0 < j → pinLess l[j - 1] l[j] = true
  | [] => by simp [rising]
  | [a] => by simp [rising]
  | a :: b :: r => by
    simp only [rising, Bool.and_eq_true, rising_iff (b :: r)]
    constructor
    · rintro ⟨h1, h2⟩ j hj h0
      rcases j with _ | _ | j
      · omega
      · exact h1
      · exact h2 (j + 1) (by simp at hj ⊢; omega) (by omega)
    · intro h
      refine ⟨h 1 (by simp) (by omega), fun j hj h0 => ?_⟩
      have := h (j + 1) (by simp at hj ⊢; omega) (by omega)
      rcases j with _ | j
      · omega
      · exact this

def goodPin (x : Cyl) (j : Nat) (hj : j < x.p.length) : Prop := pinIn x.s x.t x.p[j] = true ∧ (0 < j → pinLess x.p[j - 1] x.p[j] = true)
theorem cylOk_iff (x : Cyl) : cylOk x = true ↔ within x.s 4 96 = true ∧ within x.t 1 100 = true ∧ x.p.length ≤ 100 ∧ ∀ j (hj : j < x.p.length), goodPin x j hj := by
  simp only [cylOk, Bool.and_eq_true, decide_eq_true_eq, rising_iff, List.all_eq_true, goodPin, and_assoc]
  refine and_congr_right fun _ => and_congr_right fun _ => and_congr_right fun _ => ?_
  constructor
  · rintro ⟨h1, h2⟩ j hj
    exact ⟨h1 _ (List.getElem_mem hj), h2 j hj⟩
  · intro h
    refine ⟨fun p hp => ?_, fun j hj h0 => (h j hj).2 h0⟩
    obtain ⟨j, hj, rfl⟩ := List.getElem_of_mem hp
    exact (h j hj).1

theorem spec_CylinderOk_ok : ∀ ds outs, F_CylinderOk ds = some outs → shL spec_CylinderOk_L (qRet outs) ds := F_CylinderOk_elim fun x hp => by
  rw [spec_CylinderOk_L_sh]
  cases h1 : within x.s 4 96 with
  | false => simp [h1, cylOk]
  | true =>
  cases h2 : within x.t 1 100 with
  | false => simp [h1, h2, cylOk]
  | true =>
  have hs : 4 ≤ x.s ∧ x.s ≤ 96 := by simpa [within] using h1
  have ht : 1 ≤ x.t ∧ x.t ≤ 100 := by simpa [within] using h2
  simp [h1, h2]
  refine ⟨fun h => ?_, fun h3 => ?_⟩
  · cases hc : cylOk x with
    | false => rfl
    | true => have := ((cylOk_iff x).1 hc).2.2.1; omega
  have hc : cylOk x = true ↔ ∀ j (hj : j < x.p.length), goodPin x j hj := by
    rw [cylOk_iff, h1, h2]; simp; intro _; omega
  refine loop_upto x.p.length (fun k => [.int .i64 k, .int .i64 x.s, .int .i64 x.t, vL I2 v2 x.p]) (by intro i j _ _ h; simp at h; omega) (fun k => ∀ j (hj : j < x.p.length), j < k → goodPin x j hj) (by simp) (by simp) ?_
  intro k hk hP
  rw [spec_CylinderOk_b0_sh]
  simp
  refine ⟨fun h => ?_, fun h => ?_⟩
  · have hbad : ¬ goodPin x k h → cylOk x = false := fun hn => by
      cases hcc : cylOk x with
      | false => rfl
      | true => exact absurd (hc.1 hcc k h) hn
    have hgood : goodPin x k h → ∀ j (hj : j < x.p.length), j < k + 1 → goodPin x j hj := fun hg j hj hjk => by
      by_cases hjk2 : j = k
      · subst hjk2; exact hg
      · exact hP j hj (by omega)
    simp (disch := omega) only [h, List.getElem?_eq_getElem, Option.some.injEq, exists_eq_left', wrap_id]
    cases e1 : within x.p[k].a 0 (x.t - 1) with
    | false => simp; exact hbad (by simp [goodPin, pinIn, e1])
    | true =>
    cases e2 : within x.p[k].b 0 (x.s - 1) with
    | false => simp; exact hbad (by simp [goodPin, pinIn, e1, e2])
    | true =>
    have hk1 : ((k : Int) - 1).toNat = k - 1 := by omega
    have hk2 : k - 1 < x.p.length := by omega
    simp (disch := omega) [hk1]
    refine ⟨fun hk0 => ⟨by omega, fun e3 => hbad (by simp [goodPin, e3, hk0]), fun e3 => ?_⟩, fun hk0 => ?_⟩
    · exact hgood (by simp [goodPin, pinIn, e1, e2, e3])
    · exact hgood ⟨by simp [pinIn, e1, e2], fun hh => by omega⟩
  · obtain rfl : k = x.p.length := by omega
    simp [spec_CylinderOk_r1_sh]
    exact (hc.2 fun j hj => hP j hj hj)
theorem impl_CylinderOk_ok : ∀ ds outs, F_CylinderOk ds = some outs → shL impl_CylinderOk_L (qRet outs) ds := F_CylinderOk_elim fun x hp => by
  rw [impl_CylinderOk_L_sh]
  cases h1 : within x.s 4 96 with
  | false => simp [h1, cylOk]
  | true =>
  cases h2 : within x.t 1 100 with
  | false => simp [h1, h2, cylOk]
  | true =>
  have hs : 4 ≤ x.s ∧ x.s ≤ 96 := by simpa [within] using h1
  have ht : 1 ≤ x.t ∧ x.t ≤ 100 := by simpa [within] using h2
  simp [h1, h2]
  refine ⟨fun h => ?_, fun h3 => ?_⟩
  · cases hc : cylOk x with
    | false => rfl
    | true => have := ((cylOk_iff x).1 hc).2.2.1; omega
  have hc : cylOk x = true ↔ ∀ j (hj : j < x.p.length), goodPin x j hj := by
    rw [cylOk_iff, h1, h2]; simp; intro _; omega
  refine loop_upto x.p.length (fun k => [vL I2 v2 x.p, .int .i64 x.p.length, .int .i64 k, .int .i64 x.s, .int .i64 x.t, vL I2 v2 x.p]) (by intro i j _ _ h; simp at h; omega) (fun k => ∀ j (hj : j < x.p.length), j < k → goodPin x j hj) (by simp) (by simp) ?_
  intro k hk hP
  rw [impl_CylinderOk_b0_sh]
  simp
  refine ⟨fun h => ?_, fun h => ?_⟩
  · have hbad : ¬ goodPin x k h → cylOk x = false := fun hn => by
      cases hcc : cylOk x with
      | false => rfl
      | true => exact absurd (hc.1 hcc k h) hn
    have hgood : goodPin x k h → ∀ j (hj : j < x.p.length), j < k + 1 → goodPin x j hj := fun hg j hj hjk => by
      by_cases hjk2 : j = k
      · subst hjk2; exact hg
      · exact hP j hj (by omega)
    simp (disch := omega) only [h, List.getElem?_eq_getElem, Option.some.injEq, exists_eq_left', wrap_id]
    cases e1 : within x.p[k].a 0 (x.t - 1) with
    | false => simp; exact hbad (by simp [goodPin, pinIn, e1])
    | true =>
    cases e2 : within x.p[k].b 0 (x.s - 1) with
    | false => simp; exact hbad (by simp [goodPin, pinIn, e1, e2])
    | true =>
    have hk1 : ((k : Int) - 1).toNat = k - 1 := by omega
    have hk2 : k - 1 < x.p.length := by omega
    simp (disch := omega) [hk1]
    refine ⟨fun hk0 => ⟨by omega, fun e3 => hbad ?_, fun e3 => ?_⟩, fun hk0 => ?_⟩
    · simp only [goodPin, hk0, forall_const, not_and]
      intro _ e4
      simp [e4] at e3
    · refine hgood ⟨by simp [pinIn, e1, e2], fun _ => ?_⟩
      by_cases e4 : pinLess x.p[k - 1] x.p[k] = true
      · exact e4
      · rw [if_neg e4] at e3
        split at e3 <;> omega
    · exact hgood ⟨by simp [pinIn, e1, e2], fun hh => by omega⟩
  · obtain rfl : k = x.p.length := by omega
    simp [impl_CylinderOk_r1_sh]
    exact (hc.2 fun j hj => hP j hj hj)

end Go.Mw

/- Sums, steps, states. -/
namespace Go.Mw
theorem cylOk_bounds {x : Cyl} (h : cylOk x = true) : (4 ≤ x.s ∧ x.s ≤ 96) ∧ (1 ≤ x.t ∧ x.t ≤ 100) ∧ x.p.length ≤ 100 := by
  have h := (cylOk_iff x).1 h
  exact ⟨by simpa [within] using h.1, by simpa [within] using h.2.1, h.2.2.1⟩
end Go.Mw

/- States: around, pins at an angle, start, stop, step. -/
namespace Go.Mw
theorem sttOk_iff (x : Cyl) (y : Stt) : sttOk x y = true ↔ cylOk x = true ∧ (0 ≤ y.a ∧ y.a ≤ x.s - 1) ∧ (0 ≤ y.p ∧ y.p ≤ 100000) := by
  simp [sttOk, within]
end Go.Mw

/- Steps and runs. -/
namespace Go.Mw
theorem canStep_iff (x : Cyl) (y : Stt) : canStep x y = true ↔ sttOk x y = true ∧ y.n = true ∧ sttOk x (nextStt x y) = true := by
  simp [canStep, and_assoc]
theorem itS_on {x : Cyl} {y : Stt} (h : sttOk x y = true) (hn : y.n = true) : ∀ k, k < runN x y → (itS x y k).a = y.a + k ∧ (itS x y k).n = true
  | 0, _ => by simp [itS, hn]
  | k + 1, hk => by
    have ih := itS_on h hn k (by omega)
    have hs := (sttOk_iff x y).1 h
    unfold runN at hk
    have e : (y.a + k + 1) % x.s = y.a + k + 1 := Int.emod_eq_of_lt (by omega) (by omega)
    simp only [itS, nextStt, ih.1, e]
    simp; omega
theorem itS_off {x : Cyl} {y : Stt} (h : sttOk x y = true) (hn : y.n = true) : (itS x y (runN x y)).a = 0 ∧ (itS x y (runN x y)).n = false := by
  have hs := (sttOk_iff x y).1 h
  obtain ⟨k, hk⟩ : ∃ k, runN x y = k + 1 := ⟨runN x y - 1, by unfold runN; omega⟩
  have ih := itS_on h hn k (by omega)
  rw [hk]
  have e : (y.a + k + 1) % x.s = 0 := by
    rw [show y.a + k + 1 = x.s by unfold runN at hk; omega, Int.emod_self]
  simp only [itS, nextStt, ih.1, e]
  simp
end Go.Mw

/- Digits; boxes. -/
namespace Go.Mw
theorem areDigits_iff {l : List Int} {a b : Int} : areDigits l a b = true ↔ within l.length a b = true ∧ ∀ x ∈ l, within x 0 9 = true := by
  simp [areDigits]
end Go.Mw

/- Checked digits. -/
namespace Go.Mw
end Go.Mw

/- Boxes; moods. -/
namespace Go.Mw
end Go.Mw

/- Moods. -/
namespace Go.Mw
/-- Which of the numbers below n stand in the list. -/
def seenOf (l : List Int) (n : Nat) : List Bool := (List.range n).map fun j : Nat => decide ((j : Int) ∈ l)
@[simp] theorem seenOf_len {l : List Int} {n : Nat} : (seenOf l n).length = n := by simp [seenOf]
end Go.Mw

/- What functions compute, in plain terms: benches and workshops. -/
namespace Go.Mw
/-! memory -/
def tot2 (l : List (List T2)) : Nat := l.length + (l.map List.length).sum
def sum2 (l : List (List T2)) : Nat := (l.map List.length).sum
def fitLL (l : List (List T2)) : Prop := l.length ≤ 1048576 ∧ ∀ x ∈ l, x.length ≤ 1048576
def markLL2 : List (List T2) → Int → List (List T2)
  | [], _ => []
  | x :: r, k => markL2 x.length k :: markLL2 r (k + 2 * x.length)
def E_szIntS : List Int × Int → List V := fun (l, n) => [vL I1 v1 l, .int .i64 n]
noncomputable def F_szIntS : List V → Option (List V) := mkF E_szIntS (fun (l, n) => l.length ≤ 9223372036854775807 ∧ 0 ≤ n ∧ n ≤ 1048576) (fun (l, n) => [.int .i64 (if (l.length : Int) ≤ n then n - l.length else -1)])
theorem F_szIntS_inj : ∀ x y, E_szIntS x = E_szIntS y → x = y := by
  rintro ⟨l, n⟩ ⟨l', n'⟩ h
  simpa [E_szIntS] using h
theorem F_szIntS_elim {P : List V → List V → Prop} (h : ∀ (l : List Int) (n : Int), (l.length ≤ 9223372036854775807 ∧ 0 ≤ n ∧ n ≤ 1048576) → P [vL I1 v1 l, .int .i64 n] [.int .i64 (if (l.length : Int) ≤ n then n - l.length else -1)]) : ∀ ds outs, F_szIntS ds = some outs → P ds outs := by
  intro ds outs hh
  obtain ⟨⟨l, n⟩, rfl, hp, rfl⟩ := mkF_inv hh
  exact h l n hp
theorem p_szIntS {l : List Int} {n : Int} {nr_ : Nat} {kk_ : V → Prop} (hp : l.length ≤ 9223372036854775807 ∧ 0 ≤ n ∧ n ≤ 1048576) : P1 (.call F_szIntS 0 nr_) [vL I1 v1 l, .int .i64 n] kk_ ↔ kk_ (.int .i64 (if (l.length : Int) ≤ n then n - l.length else -1)) :=
  P1_callF (by unfold F_szIntS; exact mkF_eq F_szIntS_inj (l, n) hp)

def E_szPinSS : List (List T2) × Int → List V := fun (l, n) => [vL IL2 vLL2 l, .int .i64 n]
noncomputable def F_szPinSS : List V → Option (List V) := mkF E_szPinSS (fun (l, n) => l.length ≤ 9223372036854775807 ∧ (∀ x ∈ l, x.length ≤ 9223372036854775807) ∧ 0 ≤ n ∧ n ≤ 1048576) (fun (l, n) => [.int .i64 (if (tot2 l : Int) ≤ n then n - tot2 l else -1)])
theorem F_szPinSS_inj : ∀ x y, E_szPinSS x = E_szPinSS y → x = y := by
  rintro ⟨l, n⟩ ⟨l', n'⟩ h
  simpa [E_szPinSS] using h
theorem F_szPinSS_elim {P : List V → List V → Prop} (h : ∀ (l : List (List T2)) (n : Int), (l.length ≤ 9223372036854775807 ∧ (∀ x ∈ l, x.length ≤ 9223372036854775807) ∧ 0 ≤ n ∧ n ≤ 1048576) → P [vL IL2 vLL2 l, .int .i64 n] [.int .i64 (if (tot2 l : Int) ≤ n then n - tot2 l else -1)]) : ∀ ds outs, F_szPinSS ds = some outs → P ds outs := by
  intro ds outs hh
  obtain ⟨⟨l, n⟩, rfl, hp, rfl⟩ := mkF_inv hh
  exact h l n hp
theorem p_szPinSS {l : List (List T2)} {n : Int} {nr_ : Nat} {kk_ : V → Prop} (hp : l.length ≤ 9223372036854775807 ∧ (∀ x ∈ l, x.length ≤ 9223372036854775807) ∧ 0 ≤ n ∧ n ≤ 1048576) : P1 (.call F_szPinSS 0 nr_) [vL IL2 vLL2 l, .int .i64 n] kk_ ↔ kk_ (.int .i64 (if (tot2 l : Int) ≤ n then n - tot2 l else -1)) :=
  P1_callF (by unfold F_szPinSS; exact mkF_eq F_szPinSS_inj (l, n) hp)

def E_toPinSS (l : List (List T2)) : List V := [vL IL2 vLL2 l]
noncomputable def F_toPinSS : List V → Option (List V) := mkF E_toPinSS (fun l => fitLL l) (fun l => [vL IL2 vLL2 l])
theorem F_toPinSS_inj : ∀ x y, E_toPinSS x = E_toPinSS y → x = y := by
  rintro l l' h
  simpa [E_toPinSS] using h
theorem F_toPinSS_elim {P : List V → List V → Prop} (h : ∀ (l : List (List T2)), (fitLL l) → P [vL IL2 vLL2 l] [vL IL2 vLL2 l]) : ∀ ds outs, F_toPinSS ds = some outs → P ds outs := by
  intro ds outs hh
  obtain ⟨l, rfl, hp, rfl⟩ := mkF_inv hh
  exact h l hp
theorem p_toPinSS {l : List (List T2)} {nr_ : Nat} {kk_ : V → Prop} (hp : fitLL l) : P1 (.call F_toPinSS 0 nr_) [vL IL2 vLL2 l] kk_ ↔ kk_ (vL IL2 vLL2 l) :=
  P1_callF (by unfold F_toPinSS; exact mkF_eq F_toPinSS_inj (l) hp)

def E_eqPinSS : List (List T2) × List (List T2) → List V := fun (l, m) => [vL IL2 vLL2 l, vL IL2 vLL2 m]
noncomputable def F_eqPinSS : List V → Option (List V) := mkF E_eqPinSS (fun (l, m) => fitLL l ∧ fitLL m) (fun (l, m) => [.bool (decide (l = m))])
theorem F_eqPinSS_inj : ∀ x y, E_eqPinSS x = E_eqPinSS y → x = y := by
  rintro ⟨l, m⟩ ⟨l', m'⟩ h
  simpa [E_eqPinSS] using h
theorem F_eqPinSS_elim {P : List V → List V → Prop} (h : ∀ (l : List (List T2)) (m : List (List T2)), (fitLL l ∧ fitLL m) → P [vL IL2 vLL2 l, vL IL2 vLL2 m] [.bool (decide (l = m))]) : ∀ ds outs, F_eqPinSS ds = some outs → P ds outs := by
  intro ds outs hh
  obtain ⟨⟨l, m⟩, rfl, hp, rfl⟩ := mkF_inv hh
  exact h l m hp
theorem p_eqPinSS {l : List (List T2)} {m : List (List T2)} {nr_ : Nat} {kk_ : V → Prop} (hp : fitLL l ∧ fitLL m) : P1 (.call F_eqPinSS 0 nr_) [vL IL2 vLL2 l, vL IL2 vLL2 m] kk_ ↔ kk_ (.bool (decide (l = m))) :=
  P1_callF (by unfold F_eqPinSS; exact mkF_eq F_eqPinSS_inj (l, m) hp)

def E_markPinSS : List (List T2) × Int → List V := fun (l, k) => [vL IL2 vLL2 l, .int .i64 k]
noncomputable def F_markPinSS : List V → Option (List V) := mkF E_markPinSS (fun (l, k) => fitLL l ∧ 0 ≤ k ∧ k + 2 * sum2 l ≤ 1099511627776) (fun (l, k) => [.int .i64 (k + 2 * sum2 l), vL IL2 vLL2 (markLL2 l k)])
theorem F_markPinSS_inj : ∀ x y, E_markPinSS x = E_markPinSS y → x = y := by
  rintro ⟨l, k⟩ ⟨l', k'⟩ h
  simpa [E_markPinSS] using h
theorem F_markPinSS_elim {P : List V → List V → Prop} (h : ∀ (l : List (List T2)) (k : Int), (fitLL l ∧ 0 ≤ k ∧ k + 2 * sum2 l ≤ 1099511627776) → P [vL IL2 vLL2 l, .int .i64 k] [.int .i64 (k + 2 * sum2 l), vL IL2 vLL2 (markLL2 l k)]) : ∀ ds outs, F_markPinSS ds = some outs → P ds outs := by
  intro ds outs hh
  obtain ⟨⟨l, k⟩, rfl, hp, rfl⟩ := mkF_inv hh
  exact h l k hp
theorem p_markPinSS {l : List (List T2)} {k : Int} {kk_ : V → V → Prop} (hp : fitLL l ∧ 0 ≤ k ∧ k + 2 * sum2 l ≤ 1099511627776) : P2 (.callN F_markPinSS 1 1) [vL IL2 vLL2 l, .int .i64 k, vL IL2 vLL2 l] kk_ ↔ kk_ (.int .i64 (k + 2 * sum2 l)) (vL IL2 vLL2 (markLL2 l k)) :=
  P2_of (callNIo_run (as := [vL IL2 vLL2 l, .int .i64 k]) (rs := [vL IL2 vLL2 l]) (n := 1) (nr := 1) rfl (by unfold F_markPinSS; exact mkF_eq F_markPinSS_inj (l, k) hp) (by simp [ksAll, vL, AK.eqs_refl]))

def E_szBench : Bench × Int → List V := fun (x, n) => [.int .i64 x.s, .int .i64 x.t, vL I2 v2 x.p, vL IL2 vLL2 x.o, .int .i64 n]
noncomputable def F_szBench : List V → Option (List V) := mkF E_szBench (fun (x, n) => x.p.length ≤ 9223372036854775807 ∧ x.o.length ≤ 9223372036854775807 ∧ (∀ y ∈ x.o, y.length ≤ 9223372036854775807) ∧ 0 ≤ n ∧ n ≤ 1048576) (fun (x, n) => [.int .i64 (if (x.p.length : Int) + tot2 x.o ≤ n then n - x.p.length - tot2 x.o else -1)])
theorem F_szBench_inj : ∀ x y, E_szBench x = E_szBench y → x = y := by
  rintro ⟨⟨xs, xt, xp, xo⟩, n⟩ ⟨⟨xs', xt', xp', xo'⟩, n'⟩ h
  simpa [E_szBench, and_assoc] using h
theorem F_szBench_elim {P : List V → List V → Prop} (h : ∀ (x : Bench) (n : Int), (x.p.length ≤ 9223372036854775807 ∧ x.o.length ≤ 9223372036854775807 ∧ (∀ y ∈ x.o, y.length ≤ 9223372036854775807) ∧ 0 ≤ n ∧ n ≤ 1048576) → P [.int .i64 x.s, .int .i64 x.t, vL I2 v2 x.p, vL IL2 vLL2 x.o, .int .i64 n] [.int .i64 (if (x.p.length : Int) + tot2 x.o ≤ n then n - x.p.length - tot2 x.o else -1)]) : ∀ ds outs, F_szBench ds = some outs → P ds outs := by
  intro ds outs hh
  obtain ⟨⟨x, n⟩, rfl, hp, rfl⟩ := mkF_inv hh
  exact h x n hp
theorem p_szBench {x_s : Int} {x_t : Int} {x_p : List T2} {x_o : List (List T2)} {n : Int} {nr_ : Nat} {kk_ : V → Prop} (hp : (⟨x_s, x_t, x_p, x_o⟩ : Bench).p.length ≤ 9223372036854775807 ∧ (⟨x_s, x_t, x_p, x_o⟩ : Bench).o.length ≤ 9223372036854775807 ∧ (∀ y ∈ (⟨x_s, x_t, x_p, x_o⟩ : Bench).o, y.length ≤ 9223372036854775807) ∧ 0 ≤ n ∧ n ≤ 1048576) : P1 (.call F_szBench 0 nr_) [.int .i64 x_s, .int .i64 x_t, vL I2 v2 x_p, vL IL2 vLL2 x_o, .int .i64 n] kk_ ↔ kk_ (.int .i64 (if ((⟨x_s, x_t, x_p, x_o⟩ : Bench).p.length : Int) + tot2 (⟨x_s, x_t, x_p, x_o⟩ : Bench).o ≤ n then n - (⟨x_s, x_t, x_p, x_o⟩ : Bench).p.length - tot2 (⟨x_s, x_t, x_p, x_o⟩ : Bench).o else -1)) :=
  P1_callF (by unfold F_szBench; exact mkF_eq F_szBench_inj ((⟨x_s, x_t, x_p, x_o⟩ : Bench), n) hp)

def E_toBench (x : Bench) : List V := [.int .i64 x.s, .int .i64 x.t, vL I2 v2 x.p, vL IL2 vLL2 x.o]
noncomputable def F_toBench : List V → Option (List V) := mkF E_toBench (fun x => x.p.length ≤ 1048576 ∧ fitLL x.o) (fun x => [.int .i64 x.s, .int .i64 x.t, vL I2 v2 x.p, vL IL2 vLL2 x.o])
theorem F_toBench_inj : ∀ x y, E_toBench x = E_toBench y → x = y := by
  rintro ⟨xs, xt, xp, xo⟩ ⟨xs', xt', xp', xo'⟩ h
  simpa [E_toBench] using h
theorem F_toBench_elim {P : List V → List V → Prop} (h : ∀ (x : Bench), (x.p.length ≤ 1048576 ∧ fitLL x.o) → P [.int .i64 x.s, .int .i64 x.t, vL I2 v2 x.p, vL IL2 vLL2 x.o] [.int .i64 x.s, .int .i64 x.t, vL I2 v2 x.p, vL IL2 vLL2 x.o]) : ∀ ds outs, F_toBench ds = some outs → P ds outs := by
  intro ds outs hh
  obtain ⟨x, rfl, hp, rfl⟩ := mkF_inv hh
  exact h x hp
theorem p_toBench {x_s : Int} {x_t : Int} {x_p : List T2} {x_o : List (List T2)} {nr_ : Nat} {kk_ : V → V → V → V → Prop} (hp : (⟨x_s, x_t, x_p, x_o⟩ : Bench).p.length ≤ 1048576 ∧ fitLL (⟨x_s, x_t, x_p, x_o⟩ : Bench).o) : P4 (.call F_toBench 0 nr_) [.int .i64 x_s, .int .i64 x_t, vL I2 v2 x_p, vL IL2 vLL2 x_o] kk_ ↔ kk_ (.int .i64 ((⟨x_s, x_t, x_p, x_o⟩ : Bench)).s) (.int .i64 ((⟨x_s, x_t, x_p, x_o⟩ : Bench)).t) (vL I2 v2 ((⟨x_s, x_t, x_p, x_o⟩ : Bench)).p) (vL IL2 vLL2 ((⟨x_s, x_t, x_p, x_o⟩ : Bench)).o) :=
  P4_callF (by unfold F_toBench; exact mkF_eq F_toBench_inj ((⟨x_s, x_t, x_p, x_o⟩ : Bench)) hp)

def E_eqBench : Bench × Bench → List V := fun (x, y) => [.int .i64 x.s, .int .i64 x.t, vL I2 v2 x.p, vL IL2 vLL2 x.o, .int .i64 y.s, .int .i64 y.t, vL I2 v2 y.p, vL IL2 vLL2 y.o]
noncomputable def F_eqBench : List V → Option (List V) := mkF E_eqBench (fun (x, y) => x.p.length ≤ 1048576 ∧ fitLL x.o ∧ y.p.length ≤ 1048576 ∧ fitLL y.o) (fun (x, y) => [.bool (decide (x.s = y.s ∧ x.t = y.t ∧ x.p = y.p ∧ x.o = y.o))])
theorem F_eqBench_inj : ∀ x y, E_eqBench x = E_eqBench y → x = y := by
  rintro ⟨⟨xs, xt, xp, xo⟩, ⟨ys, yt, yp, yo⟩⟩ ⟨⟨xs', xt', xp', xo'⟩, ⟨ys', yt', yp', yo'⟩⟩ h
  simpa [E_eqBench, and_assoc] using h
theorem F_eqBench_elim {P : List V → List V → Prop} (h : ∀ (x : Bench) (y : Bench), (x.p.length ≤ 1048576 ∧ fitLL x.o ∧ y.p.length ≤ 1048576 ∧ fitLL y.o) → P [.int .i64 x.s, .int .i64 x.t, vL I2 v2 x.p, vL IL2 vLL2 x.o, .int .i64 y.s, .int .i64 y.t, vL I2 v2 y.p, vL IL2 vLL2 y.o] [.bool (decide (x.s = y.s ∧ x.t = y.t ∧ x.p = y.p ∧ x.o = y.o))]) : ∀ ds outs, F_eqBench ds = some outs → P ds outs := by
  intro ds outs hh
  obtain ⟨⟨x, y⟩, rfl, hp, rfl⟩ := mkF_inv hh
  exact h x y hp
theorem p_eqBench {x_s : Int} {x_t : Int} {x_p : List T2} {x_o : List (List T2)} {y_s : Int} {y_t : Int} {y_p : List T2} {y_o : List (List T2)} {nr_ : Nat} {kk_ : V → Prop} (hp : (⟨x_s, x_t, x_p, x_o⟩ : Bench).p.length ≤ 1048576 ∧ fitLL (⟨x_s, x_t, x_p, x_o⟩ : Bench).o ∧ (⟨y_s, y_t, y_p, y_o⟩ : Bench).p.length ≤ 1048576 ∧ fitLL (⟨y_s, y_t, y_p, y_o⟩ : Bench).o) : P1 (.call F_eqBench 0 nr_) [.int .i64 x_s, .int .i64 x_t, vL I2 v2 x_p, vL IL2 vLL2 x_o, .int .i64 y_s, .int .i64 y_t, vL I2 v2 y_p, vL IL2 vLL2 y_o] kk_ ↔ kk_ (.bool (decide ((⟨x_s, x_t, x_p, x_o⟩ : Bench).s = (⟨y_s, y_t, y_p, y_o⟩ : Bench).s ∧ (⟨x_s, x_t, x_p, x_o⟩ : Bench).t = (⟨y_s, y_t, y_p, y_o⟩ : Bench).t ∧ (⟨x_s, x_t, x_p, x_o⟩ : Bench).p = (⟨y_s, y_t, y_p, y_o⟩ : Bench).p ∧ (⟨x_s, x_t, x_p, x_o⟩ : Bench).o = (⟨y_s, y_t, y_p, y_o⟩ : Bench).o))) :=
  P1_callF (by unfold F_eqBench; exact mkF_eq F_eqBench_inj ((⟨x_s, x_t, x_p, x_o⟩ : Bench), (⟨y_s, y_t, y_p, y_o⟩ : Bench)) hp)

def E_markBench : Bench × Int → List V := fun (x, k) => [.int .i64 x.s, .int .i64 x.t, vL I2 v2 x.p, vL IL2 vLL2 x.o, .int .i64 k]
noncomputable def F_markBench : List V → Option (List V) := mkF E_markBench (fun (x, k) => x.p.length ≤ 1048576 ∧ fitLL x.o ∧ 0 ≤ k ∧ k + 2 * x.p.length + 2 * sum2 x.o ≤ 1099511627776) (fun (x, k) => [.int .i64 (k + 2 * x.p.length + 2 * sum2 x.o), vL I2 v2 (markL2 x.p.length k), vL IL2 vLL2 (markLL2 x.o (k + 2 * x.p.length))])
theorem F_markBench_inj : ∀ x y, E_markBench x = E_markBench y → x = y := by
  rintro ⟨⟨xs, xt, xp, xo⟩, k⟩ ⟨⟨xs', xt', xp', xo'⟩, k'⟩ h
  simpa [E_markBench, and_assoc] using h
theorem F_markBench_elim {P : List V → List V → Prop} (h : ∀ (x : Bench) (k : Int), (x.p.length ≤ 1048576 ∧ fitLL x.o ∧ 0 ≤ k ∧ k + 2 * x.p.length + 2 * sum2 x.o ≤ 1099511627776) → P [.int .i64 x.s, .int .i64 x.t, vL I2 v2 x.p, vL IL2 vLL2 x.o, .int .i64 k] [.int .i64 (k + 2 * x.p.length + 2 * sum2 x.o), vL I2 v2 (markL2 x.p.length k), vL IL2 vLL2 (markLL2 x.o (k + 2 * x.p.length))]) : ∀ ds outs, F_markBench ds = some outs → P ds outs := by
  intro ds outs hh
  obtain ⟨⟨x, k⟩, rfl, hp, rfl⟩ := mkF_inv hh
  exact h x k hp
theorem p_markBench {x_s : Int} {x_t : Int} {x_p : List T2} {x_o : List (List T2)} {k : Int} {kk_ : V → V → V → Prop} (hp : (⟨x_s, x_t, x_p, x_o⟩ : Bench).p.length ≤ 1048576 ∧ fitLL (⟨x_s, x_t, x_p, x_o⟩ : Bench).o ∧ 0 ≤ k ∧ k + 2 * (⟨x_s, x_t, x_p, x_o⟩ : Bench).p.length + 2 * sum2 (⟨x_s, x_t, x_p, x_o⟩ : Bench).o ≤ 1099511627776) : P3 (.callN F_markBench 2 1) [.int .i64 x_s, .int .i64 x_t, vL I2 v2 x_p, vL IL2 vLL2 x_o, .int .i64 k, vL I2 v2 x_p, vL IL2 vLL2 x_o] kk_ ↔ kk_ (.int .i64 (k + 2 * (⟨x_s, x_t, x_p, x_o⟩ : Bench).p.length + 2 * sum2 (⟨x_s, x_t, x_p, x_o⟩ : Bench).o)) (vL I2 v2 (markL2 (⟨x_s, x_t, x_p, x_o⟩ : Bench).p.length k)) (vL IL2 vLL2 (markLL2 (⟨x_s, x_t, x_p, x_o⟩ : Bench).o (k + 2 * (⟨x_s, x_t, x_p, x_o⟩ : Bench).p.length))) :=
  P3_of (callNIo_run (as := [.int .i64 x_s, .int .i64 x_t, vL I2 v2 x_p, vL IL2 vLL2 x_o, .int .i64 k]) (rs := [vL I2 v2 x_p, vL IL2 vLL2 x_o]) (n := 2) (nr := 1) rfl (by unfold F_markBench; exact mkF_eq F_markBench_inj ((⟨x_s, x_t, x_p, x_o⟩ : Bench), k) hp) (by simp [ksAll, vL, AK.eqs_refl]))

/-! benches -/
def benchOk (b : Bench) : Bool := cylOk ⟨b.s, b.t, b.p⟩ && (decide (b.o.length ≤ 30) && b.o.all fun p => cylOk ⟨b.s, b.t, p⟩)
def E_BenchOk (x : Bench) : List V := [.int .i64 x.s, .int .i64 x.t, vL I2 v2 x.p, vL IL2 vLL2 x.o]
noncomputable def F_BenchOk : List V → Option (List V) := mkF E_BenchOk (fun x => x.p.length ≤ 1048576 ∧ fitLL x.o) (fun x => [.bool (benchOk x)])
theorem F_BenchOk_inj : ∀ x y, E_BenchOk x = E_BenchOk y → x = y := by
  rintro ⟨xs, xt, xp, xo⟩ ⟨xs', xt', xp', xo'⟩ h
  simpa [E_BenchOk] using h
theorem F_BenchOk_elim {P : List V → List V → Prop} (h : ∀ (x : Bench), (x.p.length ≤ 1048576 ∧ fitLL x.o) → P [.int .i64 x.s, .int .i64 x.t, vL I2 v2 x.p, vL IL2 vLL2 x.o] [.bool (benchOk x)]) : ∀ ds outs, F_BenchOk ds = some outs → P ds outs := by
  intro ds outs hh
  obtain ⟨x, rfl, hp, rfl⟩ := mkF_inv hh
  exact h x hp
theorem p_BenchOk {x_s : Int} {x_t : Int} {x_p : List T2} {x_o : List (List T2)} {nr_ : Nat} {kk_ : V → Prop} (hp : (⟨x_s, x_t, x_p, x_o⟩ : Bench).p.length ≤ 1048576 ∧ fitLL (⟨x_s, x_t, x_p, x_o⟩ : Bench).o) : P1 (.call F_BenchOk 0 nr_) [.int .i64 x_s, .int .i64 x_t, vL I2 v2 x_p, vL IL2 vLL2 x_o] kk_ ↔ kk_ (.bool (benchOk (⟨x_s, x_t, x_p, x_o⟩ : Bench))) :=
  P1_callF (by unfold F_BenchOk; exact mkF_eq F_BenchOk_inj ((⟨x_s, x_t, x_p, x_o⟩ : Bench)) hp)

def newBench (s t : Int) : Bench := if benchOk ⟨s, t, [], []⟩ then ⟨s, t, [], []⟩ else ⟨0, 0, [], []⟩
def E_NewBench : Int × Int → List V := fun (s, t) => [.int .i64 s, .int .i64 t]
noncomputable def F_NewBench : List V → Option (List V) := mkF E_NewBench (fun (_, _) => True) (fun (s, t) => [.int .i64 (newBench s t).s, .int .i64 (newBench s t).t, vL I2 v2 (newBench s t).p, vL IL2 vLL2 (newBench s t).o, .bool (benchOk ⟨s, t, [], []⟩)])
theorem F_NewBench_inj : ∀ x y, E_NewBench x = E_NewBench y → x = y := by
  rintro ⟨s, t⟩ ⟨s', t'⟩ h
  simpa [E_NewBench] using h
theorem F_NewBench_elim {P : List V → List V → Prop} (h : ∀ (s : Int) (t : Int), P [.int .i64 s, .int .i64 t] [.int .i64 (newBench s t).s, .int .i64 (newBench s t).t, vL I2 v2 (newBench s t).p, vL IL2 vLL2 (newBench s t).o, .bool (benchOk ⟨s, t, [], []⟩)]) : ∀ ds outs, F_NewBench ds = some outs → P ds outs := by
  intro ds outs hh
  obtain ⟨⟨s, t⟩, rfl, -, rfl⟩ := mkF_inv hh
  exact h s t
@[simp] theorem p_NewBench {s : Int} {t : Int} {nr_ : Nat} {kk_ : V → V → V → V → V → Prop} : P5 (.call F_NewBench 0 nr_) [.int .i64 s, .int .i64 t] kk_ ↔ kk_ (.int .i64 (newBench s t).s) (.int .i64 (newBench s t).t) (vL I2 v2 (newBench s t).p) (vL IL2 vLL2 (newBench s t).o) (.bool (benchOk ⟨s, t, [], []⟩)) :=
  P5_callF (by unfold F_NewBench; exact mkF_eq F_NewBench_inj (s, t) trivial)

def E_l06Copy (x : Cyl) : List V := [.int .i64 x.s, .int .i64 x.t, vL I2 v2 x.p]
noncomputable def F_l06Copy : List V → Option (List V) := mkF E_l06Copy (fun x => x.p.length ≤ 4194304) (fun x => [.int .i64 x.s, .int .i64 x.t, vL I2 v2 x.p])
theorem F_l06Copy_inj : ∀ x y, E_l06Copy x = E_l06Copy y → x = y := by
  rintro ⟨xs, xt, xp⟩ ⟨xs', xt', xp'⟩ h
  simpa [E_l06Copy] using h
theorem F_l06Copy_elim {P : List V → List V → Prop} (h : ∀ (x : Cyl), (x.p.length ≤ 4194304) → P [.int .i64 x.s, .int .i64 x.t, vL I2 v2 x.p] [.int .i64 x.s, .int .i64 x.t, vL I2 v2 x.p]) : ∀ ds outs, F_l06Copy ds = some outs → P ds outs := by
  intro ds outs hh
  obtain ⟨x, rfl, hp, rfl⟩ := mkF_inv hh
  exact h x hp
theorem p_l06Copy {x_s : Int} {x_t : Int} {x_p : List T2} {nr_ : Nat} {kk_ : V → V → V → Prop} (hp : (⟨x_s, x_t, x_p⟩ : Cyl).p.length ≤ 4194304) : P3 (.call F_l06Copy 0 nr_) [.int .i64 x_s, .int .i64 x_t, vL I2 v2 x_p] kk_ ↔ kk_ (.int .i64 ((⟨x_s, x_t, x_p⟩ : Cyl)).s) (.int .i64 ((⟨x_s, x_t, x_p⟩ : Cyl)).t) (vL I2 v2 ((⟨x_s, x_t, x_p⟩ : Cyl)).p) :=
  P3_callF (by unfold F_l06Copy; exact mkF_eq F_l06Copy_inj ((⟨x_s, x_t, x_p⟩ : Cyl)) hp)

def E_l37Copy (x : Bench) : List V := [.int .i64 x.s, .int .i64 x.t, vL I2 v2 x.p, vL IL2 vLL2 x.o]
noncomputable def F_l37Copy : List V → Option (List V) := mkF E_l37Copy (fun x => x.p.length ≤ 1048576 ∧ fitLL x.o) (fun x => [.int .i64 x.s, .int .i64 x.t, vL I2 v2 x.p, vL IL2 vLL2 x.o])
theorem F_l37Copy_inj : ∀ x y, E_l37Copy x = E_l37Copy y → x = y := by
  rintro ⟨xs, xt, xp, xo⟩ ⟨xs', xt', xp', xo'⟩ h
  simpa [E_l37Copy] using h
theorem F_l37Copy_elim {P : List V → List V → Prop} (h : ∀ (x : Bench), (x.p.length ≤ 1048576 ∧ fitLL x.o) → P [.int .i64 x.s, .int .i64 x.t, vL I2 v2 x.p, vL IL2 vLL2 x.o] [.int .i64 x.s, .int .i64 x.t, vL I2 v2 x.p, vL IL2 vLL2 x.o]) : ∀ ds outs, F_l37Copy ds = some outs → P ds outs := by
  intro ds outs hh
  obtain ⟨x, rfl, hp, rfl⟩ := mkF_inv hh
  exact h x hp
theorem p_l37Copy {x_s : Int} {x_t : Int} {x_p : List T2} {x_o : List (List T2)} {nr_ : Nat} {kk_ : V → V → V → V → Prop} (hp : (⟨x_s, x_t, x_p, x_o⟩ : Bench).p.length ≤ 1048576 ∧ fitLL (⟨x_s, x_t, x_p, x_o⟩ : Bench).o) : P4 (.call F_l37Copy 0 nr_) [.int .i64 x_s, .int .i64 x_t, vL I2 v2 x_p, vL IL2 vLL2 x_o] kk_ ↔ kk_ (.int .i64 ((⟨x_s, x_t, x_p, x_o⟩ : Bench)).s) (.int .i64 ((⟨x_s, x_t, x_p, x_o⟩ : Bench)).t) (vL I2 v2 ((⟨x_s, x_t, x_p, x_o⟩ : Bench)).p) (vL IL2 vLL2 ((⟨x_s, x_t, x_p, x_o⟩ : Bench)).o) :=
  P4_callF (by unfold F_l37Copy; exact mkF_eq F_l37Copy_inj ((⟨x_s, x_t, x_p, x_o⟩ : Bench)) hp)

def missing (a b : List T2) : Int := (a.filter fun p => decide (p ∉ b)).length
def pullPin (c : Cyl) (k : Int) : List T2 := if cylOk c && (decide (0 ≤ k) && decide (k < c.p.length)) then c.p.take k.toNat ++ c.p.drop (k.toNat + 1) else c.p
def E_PullPin : Cyl × Int → List V := fun (x, k) => [.int .i64 x.s, .int .i64 x.t, vL I2 v2 x.p, .int .i64 k]
noncomputable def F_PullPin : List V → Option (List V) := mkF E_PullPin (fun (x, _) => x.p.length ≤ 1048576) (fun (x, k) => [.int .i64 ((⟨x.s, x.t, pullPin x k⟩ : Cyl)).s, .int .i64 ((⟨x.s, x.t, pullPin x k⟩ : Cyl)).t, vL I2 v2 ((⟨x.s, x.t, pullPin x k⟩ : Cyl)).p, .bool (cylOk x && (decide (0 ≤ k) && decide (k < x.p.length)))])
theorem F_PullPin_inj : ∀ x y, E_PullPin x = E_PullPin y → x = y := by
  rintro ⟨⟨xs, xt, xp⟩, k⟩ ⟨⟨xs', xt', xp'⟩, k'⟩ h
  simpa [E_PullPin, and_assoc] using h
theorem F_PullPin_elim {P : List V → List V → Prop} (h : ∀ (x : Cyl) (k : Int), (x.p.length ≤ 1048576) → P [.int .i64 x.s, .int .i64 x.t, vL I2 v2 x.p, .int .i64 k] [.int .i64 ((⟨x.s, x.t, pullPin x k⟩ : Cyl)).s, .int .i64 ((⟨x.s, x.t, pullPin x k⟩ : Cyl)).t, vL I2 v2 ((⟨x.s, x.t, pullPin x k⟩ : Cyl)).p, .bool (cylOk x && (decide (0 ≤ k) && decide (k < x.p.length)))]) : ∀ ds outs, F_PullPin ds = some outs → P ds outs := by
  intro ds outs hh
  obtain ⟨⟨x, k⟩, rfl, hp, rfl⟩ := mkF_inv hh
  exact h x k hp
theorem p_PullPin {x_s : Int} {x_t : Int} {x_p : List T2} {k : Int} {nr_ : Nat} {kk_ : V → V → V → V → Prop} (hp : (⟨x_s, x_t, x_p⟩ : Cyl).p.length ≤ 1048576) : P4 (.call F_PullPin 0 nr_) [.int .i64 x_s, .int .i64 x_t, vL I2 v2 x_p, .int .i64 k] kk_ ↔ kk_ (.int .i64 ((⟨(⟨x_s, x_t, x_p⟩ : Cyl).s, (⟨x_s, x_t, x_p⟩ : Cyl).t, pullPin (⟨x_s, x_t, x_p⟩ : Cyl) k⟩ : Cyl)).s) (.int .i64 ((⟨(⟨x_s, x_t, x_p⟩ : Cyl).s, (⟨x_s, x_t, x_p⟩ : Cyl).t, pullPin (⟨x_s, x_t, x_p⟩ : Cyl) k⟩ : Cyl)).t) (vL I2 v2 ((⟨(⟨x_s, x_t, x_p⟩ : Cyl).s, (⟨x_s, x_t, x_p⟩ : Cyl).t, pullPin (⟨x_s, x_t, x_p⟩ : Cyl) k⟩ : Cyl)).p) (.bool (cylOk (⟨x_s, x_t, x_p⟩ : Cyl) && (decide (0 ≤ k) && decide (k < (⟨x_s, x_t, x_p⟩ : Cyl).p.length)))) :=
  P4_callF (by unfold F_PullPin; exact mkF_eq F_PullPin_inj ((⟨x_s, x_t, x_p⟩ : Cyl), k) hp)


/-! workshops -/
def upward : List Int → Bool
  | [] => true
  | [_] => true
  | a :: b :: r => decide (a ≤ b) && upward (b :: r)
def combOk (l : List Int) : Bool := within l.length 1 24 && (l.all (within · 0 60) && upward l)
def E_CombOk (l : List Int) : List V := [vL I1 v1 l]
noncomputable def F_CombOk : List V → Option (List V) := mkF E_CombOk (fun l => l.length ≤ 1048576) (fun l => [.bool (combOk l)])
theorem F_CombOk_inj : ∀ x y, E_CombOk x = E_CombOk y → x = y := by
  rintro l l' h
  simpa [E_CombOk] using h
theorem F_CombOk_elim {P : List V → List V → Prop} (h : ∀ (l : List Int), (l.length ≤ 1048576) → P [vL I1 v1 l] [.bool (combOk l)]) : ∀ ds outs, F_CombOk ds = some outs → P ds outs := by
  intro ds outs hh
  obtain ⟨l, rfl, hp, rfl⟩ := mkF_inv hh
  exact h l hp
theorem p_CombOk {l : List Int} {nr_ : Nat} {kk_ : V → Prop} (hp : l.length ≤ 1048576) : P1 (.call F_CombOk 0 nr_) [vL I1 v1 l] kk_ ↔ kk_ (.bool (combOk l)) :=
  P1_callF (by unfold F_CombOk; exact mkF_eq F_CombOk_inj (l) hp)

def springOk (s : T3) : Bool := within s.b 1 50 && (within s.a 0 s.b && within s.c 1 10000)
def E_SpringOk (x : T3) : List V := [.int .i64 x.a, .int .i64 x.b, .int .i64 x.c]
noncomputable def F_SpringOk : List V → Option (List V) := mkF E_SpringOk (fun _ => True) (fun x => [.bool (springOk x)])
theorem F_SpringOk_inj : ∀ x y, E_SpringOk x = E_SpringOk y → x = y := by
  rintro ⟨xa, xb, xc⟩ ⟨xa', xb', xc'⟩ h
  simpa [E_SpringOk] using h
theorem F_SpringOk_elim {P : List V → List V → Prop} (h : ∀ (x : T3), P [.int .i64 x.a, .int .i64 x.b, .int .i64 x.c] [.bool (springOk x)]) : ∀ ds outs, F_SpringOk ds = some outs → P ds outs := by
  intro ds outs hh
  obtain ⟨x, rfl, -, rfl⟩ := mkF_inv hh
  exact h x
@[simp] theorem p_SpringOk {x_a : Int} {x_b : Int} {x_c : Int} {nr_ : Nat} {kk_ : V → Prop} : P1 (.call F_SpringOk 0 nr_) [.int .i64 x_a, .int .i64 x_b, .int .i64 x_c] kk_ ↔ kk_ (.bool (springOk (⟨x_a, x_b, x_c⟩ : T3))) :=
  P1_callF (by unfold F_SpringOk; exact mkF_eq F_SpringOk_inj ((⟨x_a, x_b, x_c⟩ : T3)) trivial)

def E_toSpring (x : T3) : List V := [.int .i64 x.a, .int .i64 x.b, .int .i64 x.c]
noncomputable def F_toSpring : List V → Option (List V) := mkF E_toSpring (fun _ => True) (fun x => [.int .i64 x.a, .int .i64 x.b, .int .i64 x.c])
theorem F_toSpring_inj : ∀ x y, E_toSpring x = E_toSpring y → x = y := by
  rintro ⟨xa, xb, xc⟩ ⟨xa', xb', xc'⟩ h
  simpa [E_toSpring] using h
theorem F_toSpring_elim {P : List V → List V → Prop} (h : ∀ (x : T3), P [.int .i64 x.a, .int .i64 x.b, .int .i64 x.c] [.int .i64 x.a, .int .i64 x.b, .int .i64 x.c]) : ∀ ds outs, F_toSpring ds = some outs → P ds outs := by
  intro ds outs hh
  obtain ⟨x, rfl, -, rfl⟩ := mkF_inv hh
  exact h x
@[simp] theorem p_toSpring {x_a : Int} {x_b : Int} {x_c : Int} {nr_ : Nat} {kk_ : V → V → V → Prop} : P3 (.call F_toSpring 0 nr_) [.int .i64 x_a, .int .i64 x_b, .int .i64 x_c] kk_ ↔ kk_ (.int .i64 ((⟨x_a, x_b, x_c⟩ : T3)).a) (.int .i64 ((⟨x_a, x_b, x_c⟩ : T3)).b) (.int .i64 ((⟨x_a, x_b, x_c⟩ : T3)).c) :=
  P3_callF (by unfold F_toSpring; exact mkF_eq F_toSpring_inj ((⟨x_a, x_b, x_c⟩ : T3)) trivial)

def E_eqSpring : T3 × T3 → List V := fun (x, y) => [.int .i64 x.a, .int .i64 x.b, .int .i64 x.c, .int .i64 y.a, .int .i64 y.b, .int .i64 y.c]
noncomputable def F_eqSpring : List V → Option (List V) := mkF E_eqSpring (fun (_, _) => True) (fun (x, y) => [.bool (decide (x = y))])
theorem F_eqSpring_inj : ∀ x y, E_eqSpring x = E_eqSpring y → x = y := by
  rintro ⟨⟨xa, xb, xc⟩, ⟨ya, yb, yc⟩⟩ ⟨⟨xa', xb', xc'⟩, ⟨ya', yb', yc'⟩⟩ h
  simpa [E_eqSpring, and_assoc] using h
theorem F_eqSpring_elim {P : List V → List V → Prop} (h : ∀ (x : T3) (y : T3), P [.int .i64 x.a, .int .i64 x.b, .int .i64 x.c, .int .i64 y.a, .int .i64 y.b, .int .i64 y.c] [.bool (decide (x = y))]) : ∀ ds outs, F_eqSpring ds = some outs → P ds outs := by
  intro ds outs hh
  obtain ⟨⟨x, y⟩, rfl, -, rfl⟩ := mkF_inv hh
  exact h x y
@[simp] theorem p_eqSpring {x_a : Int} {x_b : Int} {x_c : Int} {y_a : Int} {y_b : Int} {y_c : Int} {nr_ : Nat} {kk_ : V → Prop} : P1 (.call F_eqSpring 0 nr_) [.int .i64 x_a, .int .i64 x_b, .int .i64 x_c, .int .i64 y_a, .int .i64 y_b, .int .i64 y_c] kk_ ↔ kk_ (.bool (decide ((⟨x_a, x_b, x_c⟩ : T3) = (⟨y_a, y_b, y_c⟩ : T3)))) :=
  P1_callF (by unfold F_eqSpring; exact mkF_eq F_eqSpring_inj ((⟨x_a, x_b, x_c⟩ : T3), (⟨y_a, y_b, y_c⟩ : T3)) trivial)

def Shop.bench (w : Shop) : Bench := ⟨w.s, w.t, w.p, w.o⟩
def shopOk (w : Shop) : Bool := benchOk w.bench && (combOk w.c && (springOk ⟨w.u, w.m, w.f⟩ && (decide (w.t = w.c.length) && (within w.y 0 1000000 && within w.d 0 1000000))))
def E_WorkshopOk (x : Shop) : List V := [.int .i64 x.s, .int .i64 x.t, vL I2 v2 x.p, vL IL2 vLL2 x.o, vL I1 v1 x.c, .int .i64 x.u, .int .i64 x.m, .int .i64 x.f, .int .i64 x.y, .int .i64 x.d]
noncomputable def F_WorkshopOk : List V → Option (List V) := mkF E_WorkshopOk (fun x => x.p.length ≤ 1048576 ∧ fitLL x.o ∧ x.c.length ≤ 1048576) (fun x => [.bool (shopOk x)])
theorem F_WorkshopOk_inj : ∀ x y, E_WorkshopOk x = E_WorkshopOk y → x = y := by
  rintro ⟨xs, xt, xp, xo, xc, xu, xm, xf, xy, xd⟩ ⟨xs', xt', xp', xo', xc', xu', xm', xf', xy', xd'⟩ h
  simpa [E_WorkshopOk] using h
theorem F_WorkshopOk_elim {P : List V → List V → Prop} (h : ∀ (x : Shop), (x.p.length ≤ 1048576 ∧ fitLL x.o ∧ x.c.length ≤ 1048576) → P [.int .i64 x.s, .int .i64 x.t, vL I2 v2 x.p, vL IL2 vLL2 x.o, vL I1 v1 x.c, .int .i64 x.u, .int .i64 x.m, .int .i64 x.f, .int .i64 x.y, .int .i64 x.d] [.bool (shopOk x)]) : ∀ ds outs, F_WorkshopOk ds = some outs → P ds outs := by
  intro ds outs hh
  obtain ⟨x, rfl, hp, rfl⟩ := mkF_inv hh
  exact h x hp
theorem p_WorkshopOk {x_s : Int} {x_t : Int} {x_p : List T2} {x_o : List (List T2)} {x_c : List Int} {x_u : Int} {x_m : Int} {x_f : Int} {x_y : Int} {x_d : Int} {nr_ : Nat} {kk_ : V → Prop} (hp : (⟨x_s, x_t, x_p, x_o, x_c, x_u, x_m, x_f, x_y, x_d⟩ : Shop).p.length ≤ 1048576 ∧ fitLL (⟨x_s, x_t, x_p, x_o, x_c, x_u, x_m, x_f, x_y, x_d⟩ : Shop).o ∧ (⟨x_s, x_t, x_p, x_o, x_c, x_u, x_m, x_f, x_y, x_d⟩ : Shop).c.length ≤ 1048576) : P1 (.call F_WorkshopOk 0 nr_) [.int .i64 x_s, .int .i64 x_t, vL I2 v2 x_p, vL IL2 vLL2 x_o, vL I1 v1 x_c, .int .i64 x_u, .int .i64 x_m, .int .i64 x_f, .int .i64 x_y, .int .i64 x_d] kk_ ↔ kk_ (.bool (shopOk (⟨x_s, x_t, x_p, x_o, x_c, x_u, x_m, x_f, x_y, x_d⟩ : Shop))) :=
  P1_callF (by unfold F_WorkshopOk; exact mkF_eq F_WorkshopOk_inj ((⟨x_s, x_t, x_p, x_o, x_c, x_u, x_m, x_f, x_y, x_d⟩ : Shop)) hp)

def E_szWorkshop : Shop × Int → List V := fun (x, n) => [.int .i64 x.s, .int .i64 x.t, vL I2 v2 x.p, vL IL2 vLL2 x.o, vL I1 v1 x.c, .int .i64 x.u, .int .i64 x.m, .int .i64 x.f, .int .i64 x.y, .int .i64 x.d, .int .i64 n]
noncomputable def F_szWorkshop : List V → Option (List V) := mkF E_szWorkshop (fun (x, n) => x.p.length ≤ 9223372036854775807 ∧ x.o.length ≤ 9223372036854775807 ∧ (∀ y ∈ x.o, y.length ≤ 9223372036854775807) ∧ x.c.length ≤ 9223372036854775807 ∧ 0 ≤ n ∧ n ≤ 1048576) (fun (x, n) => [.int .i64 (if (x.p.length : Int) + tot2 x.o + x.c.length ≤ n then n - x.p.length - tot2 x.o - x.c.length else -1)])
theorem F_szWorkshop_inj : ∀ x y, E_szWorkshop x = E_szWorkshop y → x = y := by
  rintro ⟨⟨xs, xt, xp, xo, xc, xu, xm, xf, xy, xd⟩, n⟩ ⟨⟨xs', xt', xp', xo', xc', xu', xm', xf', xy', xd'⟩, n'⟩ h
  simpa [E_szWorkshop, and_assoc] using h
theorem F_szWorkshop_elim {P : List V → List V → Prop} (h : ∀ (x : Shop) (n : Int), (x.p.length ≤ 9223372036854775807 ∧ x.o.length ≤ 9223372036854775807 ∧ (∀ y ∈ x.o, y.length ≤ 9223372036854775807) ∧ x.c.length ≤ 9223372036854775807 ∧ 0 ≤ n ∧ n ≤ 1048576) → P [.int .i64 x.s, .int .i64 x.t, vL I2 v2 x.p, vL IL2 vLL2 x.o, vL I1 v1 x.c, .int .i64 x.u, .int .i64 x.m, .int .i64 x.f, .int .i64 x.y, .int .i64 x.d, .int .i64 n] [.int .i64 (if (x.p.length : Int) + tot2 x.o + x.c.length ≤ n then n - x.p.length - tot2 x.o - x.c.length else -1)]) : ∀ ds outs, F_szWorkshop ds = some outs → P ds outs := by
  intro ds outs hh
  obtain ⟨⟨x, n⟩, rfl, hp, rfl⟩ := mkF_inv hh
  exact h x n hp
theorem p_szWorkshop {x_s : Int} {x_t : Int} {x_p : List T2} {x_o : List (List T2)} {x_c : List Int} {x_u : Int} {x_m : Int} {x_f : Int} {x_y : Int} {x_d : Int} {n : Int} {nr_ : Nat} {kk_ : V → Prop} (hp : (⟨x_s, x_t, x_p, x_o, x_c, x_u, x_m, x_f, x_y, x_d⟩ : Shop).p.length ≤ 9223372036854775807 ∧ (⟨x_s, x_t, x_p, x_o, x_c, x_u, x_m, x_f, x_y, x_d⟩ : Shop).o.length ≤ 9223372036854775807 ∧ (∀ y ∈ (⟨x_s, x_t, x_p, x_o, x_c, x_u, x_m, x_f, x_y, x_d⟩ : Shop).o, y.length ≤ 9223372036854775807) ∧ (⟨x_s, x_t, x_p, x_o, x_c, x_u, x_m, x_f, x_y, x_d⟩ : Shop).c.length ≤ 9223372036854775807 ∧ 0 ≤ n ∧ n ≤ 1048576) : P1 (.call F_szWorkshop 0 nr_) [.int .i64 x_s, .int .i64 x_t, vL I2 v2 x_p, vL IL2 vLL2 x_o, vL I1 v1 x_c, .int .i64 x_u, .int .i64 x_m, .int .i64 x_f, .int .i64 x_y, .int .i64 x_d, .int .i64 n] kk_ ↔ kk_ (.int .i64 (if ((⟨x_s, x_t, x_p, x_o, x_c, x_u, x_m, x_f, x_y, x_d⟩ : Shop).p.length : Int) + tot2 (⟨x_s, x_t, x_p, x_o, x_c, x_u, x_m, x_f, x_y, x_d⟩ : Shop).o + (⟨x_s, x_t, x_p, x_o, x_c, x_u, x_m, x_f, x_y, x_d⟩ : Shop).c.length ≤ n then n - (⟨x_s, x_t, x_p, x_o, x_c, x_u, x_m, x_f, x_y, x_d⟩ : Shop).p.length - tot2 (⟨x_s, x_t, x_p, x_o, x_c, x_u, x_m, x_f, x_y, x_d⟩ : Shop).o - (⟨x_s, x_t, x_p, x_o, x_c, x_u, x_m, x_f, x_y, x_d⟩ : Shop).c.length else -1)) :=
  P1_callF (by unfold F_szWorkshop; exact mkF_eq F_szWorkshop_inj ((⟨x_s, x_t, x_p, x_o, x_c, x_u, x_m, x_f, x_y, x_d⟩ : Shop), n) hp)

def E_toWorkshop (x : Shop) : List V := [.int .i64 x.s, .int .i64 x.t, vL I2 v2 x.p, vL IL2 vLL2 x.o, vL I1 v1 x.c, .int .i64 x.u, .int .i64 x.m, .int .i64 x.f, .int .i64 x.y, .int .i64 x.d]
noncomputable def F_toWorkshop : List V → Option (List V) := mkF E_toWorkshop (fun x => x.p.length ≤ 1048576 ∧ fitLL x.o ∧ x.c.length ≤ 1048576) (fun x => [.int .i64 x.s, .int .i64 x.t, vL I2 v2 x.p, vL IL2 vLL2 x.o, vL I1 v1 x.c, .int .i64 x.u, .int .i64 x.m, .int .i64 x.f, .int .i64 x.y, .int .i64 x.d])
theorem F_toWorkshop_inj : ∀ x y, E_toWorkshop x = E_toWorkshop y → x = y := by
  rintro ⟨xs, xt, xp, xo, xc, xu, xm, xf, xy, xd⟩ ⟨xs', xt', xp', xo', xc', xu', xm', xf', xy', xd'⟩ h
  simpa [E_toWorkshop] using h
theorem F_toWorkshop_elim {P : List V → List V → Prop} (h : ∀ (x : Shop), (x.p.length ≤ 1048576 ∧ fitLL x.o ∧ x.c.length ≤ 1048576) → P [.int .i64 x.s, .int .i64 x.t, vL I2 v2 x.p, vL IL2 vLL2 x.o, vL I1 v1 x.c, .int .i64 x.u, .int .i64 x.m, .int .i64 x.f, .int .i64 x.y, .int .i64 x.d] [.int .i64 x.s, .int .i64 x.t, vL I2 v2 x.p, vL IL2 vLL2 x.o, vL I1 v1 x.c, .int .i64 x.u, .int .i64 x.m, .int .i64 x.f, .int .i64 x.y, .int .i64 x.d]) : ∀ ds outs, F_toWorkshop ds = some outs → P ds outs := by
  intro ds outs hh
  obtain ⟨x, rfl, hp, rfl⟩ := mkF_inv hh
  exact h x hp
theorem p_toWorkshop {x_s : Int} {x_t : Int} {x_p : List T2} {x_o : List (List T2)} {x_c : List Int} {x_u : Int} {x_m : Int} {x_f : Int} {x_y : Int} {x_d : Int} {nr_ : Nat} {kk_ : V → V → V → V → V → V → V → V → V → V → Prop} (hp : (⟨x_s, x_t, x_p, x_o, x_c, x_u, x_m, x_f, x_y, x_d⟩ : Shop).p.length ≤ 1048576 ∧ fitLL (⟨x_s, x_t, x_p, x_o, x_c, x_u, x_m, x_f, x_y, x_d⟩ : Shop).o ∧ (⟨x_s, x_t, x_p, x_o, x_c, x_u, x_m, x_f, x_y, x_d⟩ : Shop).c.length ≤ 1048576) : P10 (.call F_toWorkshop 0 nr_) [.int .i64 x_s, .int .i64 x_t, vL I2 v2 x_p, vL IL2 vLL2 x_o, vL I1 v1 x_c, .int .i64 x_u, .int .i64 x_m, .int .i64 x_f, .int .i64 x_y, .int .i64 x_d] kk_ ↔ kk_ (.int .i64 ((⟨x_s, x_t, x_p, x_o, x_c, x_u, x_m, x_f, x_y, x_d⟩ : Shop)).s) (.int .i64 ((⟨x_s, x_t, x_p, x_o, x_c, x_u, x_m, x_f, x_y, x_d⟩ : Shop)).t) (vL I2 v2 ((⟨x_s, x_t, x_p, x_o, x_c, x_u, x_m, x_f, x_y, x_d⟩ : Shop)).p) (vL IL2 vLL2 ((⟨x_s, x_t, x_p, x_o, x_c, x_u, x_m, x_f, x_y, x_d⟩ : Shop)).o) (vL I1 v1 ((⟨x_s, x_t, x_p, x_o, x_c, x_u, x_m, x_f, x_y, x_d⟩ : Shop)).c) (.int .i64 ((⟨x_s, x_t, x_p, x_o, x_c, x_u, x_m, x_f, x_y, x_d⟩ : Shop)).u) (.int .i64 ((⟨x_s, x_t, x_p, x_o, x_c, x_u, x_m, x_f, x_y, x_d⟩ : Shop)).m) (.int .i64 ((⟨x_s, x_t, x_p, x_o, x_c, x_u, x_m, x_f, x_y, x_d⟩ : Shop)).f) (.int .i64 ((⟨x_s, x_t, x_p, x_o, x_c, x_u, x_m, x_f, x_y, x_d⟩ : Shop)).y) (.int .i64 ((⟨x_s, x_t, x_p, x_o, x_c, x_u, x_m, x_f, x_y, x_d⟩ : Shop)).d) :=
  P10_callF (by unfold F_toWorkshop; exact mkF_eq F_toWorkshop_inj ((⟨x_s, x_t, x_p, x_o, x_c, x_u, x_m, x_f, x_y, x_d⟩ : Shop)) hp)

def E_eqWorkshop : Shop × Shop → List V := fun (x, y) => [.int .i64 x.s, .int .i64 x.t, vL I2 v2 x.p, vL IL2 vLL2 x.o, vL I1 v1 x.c, .int .i64 x.u, .int .i64 x.m, .int .i64 x.f, .int .i64 x.y, .int .i64 x.d, .int .i64 y.s, .int .i64 y.t, vL I2 v2 y.p, vL IL2 vLL2 y.o, vL I1 v1 y.c, .int .i64 y.u, .int .i64 y.m, .int .i64 y.f, .int .i64 y.y, .int .i64 y.d]
noncomputable def F_eqWorkshop : List V → Option (List V) := mkF E_eqWorkshop (fun (x, y) => x.p.length ≤ 1048576 ∧ fitLL x.o ∧ x.c.length ≤ 1048576 ∧ y.p.length ≤ 1048576 ∧ fitLL y.o ∧ y.c.length ≤ 1048576) (fun (x, y) => [.bool (decide (x = y))])
theorem F_eqWorkshop_inj : ∀ x y, E_eqWorkshop x = E_eqWorkshop y → x = y := by
  rintro ⟨⟨xs, xt, xp, xo, xc, xu, xm, xf, xy, xd⟩, ⟨ys, yt, yp, yo, yc, yu, ym, yf, yy, yd⟩⟩ ⟨⟨xs', xt', xp', xo', xc', xu', xm', xf', xy', xd'⟩, ⟨ys', yt', yp', yo', yc', yu', ym', yf', yy', yd'⟩⟩ h
  simpa [E_eqWorkshop, and_assoc] using h
theorem F_eqWorkshop_elim {P : List V → List V → Prop} (h : ∀ (x : Shop) (y : Shop), (x.p.length ≤ 1048576 ∧ fitLL x.o ∧ x.c.length ≤ 1048576 ∧ y.p.length ≤ 1048576 ∧ fitLL y.o ∧ y.c.length ≤ 1048576) → P [.int .i64 x.s, .int .i64 x.t, vL I2 v2 x.p, vL IL2 vLL2 x.o, vL I1 v1 x.c, .int .i64 x.u, .int .i64 x.m, .int .i64 x.f, .int .i64 x.y, .int .i64 x.d, .int .i64 y.s, .int .i64 y.t, vL I2 v2 y.p, vL IL2 vLL2 y.o, vL I1 v1 y.c, .int .i64 y.u, .int .i64 y.m, .int .i64 y.f, .int .i64 y.y, .int .i64 y.d] [.bool (decide (x = y))]) : ∀ ds outs, F_eqWorkshop ds = some outs → P ds outs := by
  intro ds outs hh
  obtain ⟨⟨x, y⟩, rfl, hp, rfl⟩ := mkF_inv hh
  exact h x y hp
theorem p_eqWorkshop {x_s : Int} {x_t : Int} {x_p : List T2} {x_o : List (List T2)} {x_c : List Int} {x_u : Int} {x_m : Int} {x_f : Int} {x_y : Int} {x_d : Int} {y_s : Int} {y_t : Int} {y_p : List T2} {y_o : List (List T2)} {y_c : List Int} {y_u : Int} {y_m : Int} {y_f : Int} {y_y : Int} {y_d : Int} {nr_ : Nat} {kk_ : V → Prop} (hp : (⟨x_s, x_t, x_p, x_o, x_c, x_u, x_m, x_f, x_y, x_d⟩ : Shop).p.length ≤ 1048576 ∧ fitLL (⟨x_s, x_t, x_p, x_o, x_c, x_u, x_m, x_f, x_y, x_d⟩ : Shop).o ∧ (⟨x_s, x_t, x_p, x_o, x_c, x_u, x_m, x_f, x_y, x_d⟩ : Shop).c.length ≤ 1048576 ∧ (⟨y_s, y_t, y_p, y_o, y_c, y_u, y_m, y_f, y_y, y_d⟩ : Shop).p.length ≤ 1048576 ∧ fitLL (⟨y_s, y_t, y_p, y_o, y_c, y_u, y_m, y_f, y_y, y_d⟩ : Shop).o ∧ (⟨y_s, y_t, y_p, y_o, y_c, y_u, y_m, y_f, y_y, y_d⟩ : Shop).c.length ≤ 1048576) : P1 (.call F_eqWorkshop 0 nr_) [.int .i64 x_s, .int .i64 x_t, vL I2 v2 x_p, vL IL2 vLL2 x_o, vL I1 v1 x_c, .int .i64 x_u, .int .i64 x_m, .int .i64 x_f, .int .i64 x_y, .int .i64 x_d, .int .i64 y_s, .int .i64 y_t, vL I2 v2 y_p, vL IL2 vLL2 y_o, vL I1 v1 y_c, .int .i64 y_u, .int .i64 y_m, .int .i64 y_f, .int .i64 y_y, .int .i64 y_d] kk_ ↔ kk_ (.bool (decide ((⟨x_s, x_t, x_p, x_o, x_c, x_u, x_m, x_f, x_y, x_d⟩ : Shop) = (⟨y_s, y_t, y_p, y_o, y_c, y_u, y_m, y_f, y_y, y_d⟩ : Shop)))) :=
  P1_callF (by unfold F_eqWorkshop; exact mkF_eq F_eqWorkshop_inj ((⟨x_s, x_t, x_p, x_o, x_c, x_u, x_m, x_f, x_y, x_d⟩ : Shop), (⟨y_s, y_t, y_p, y_o, y_c, y_u, y_m, y_f, y_y, y_d⟩ : Shop)) hp)

def E_markWorkshop : Shop × Int → List V := fun (x, k) => [.int .i64 x.s, .int .i64 x.t, vL I2 v2 x.p, vL IL2 vLL2 x.o, vL I1 v1 x.c, .int .i64 x.u, .int .i64 x.m, .int .i64 x.f, .int .i64 x.y, .int .i64 x.d, .int .i64 k]
noncomputable def F_markWorkshop : List V → Option (List V) := mkF E_markWorkshop (fun (x, k) => x.p.length ≤ 1048576 ∧ fitLL x.o ∧ x.c.length ≤ 1048576 ∧ 0 ≤ k ∧ k + 2 * x.p.length + 2 * sum2 x.o ≤ 1099511627776) (fun (x, k) => [.int .i64 (k + 2 * x.p.length + 2 * sum2 x.o + x.c.length), vL I2 v2 (markL2 x.p.length k), vL IL2 vLL2 (markLL2 x.o (k + 2 * x.p.length)), vL I1 v1 (markL1 x.c.length (k + 2 * x.p.length + 2 * sum2 x.o))])
theorem F_markWorkshop_inj : ∀ x y, E_markWorkshop x = E_markWorkshop y → x = y := by
  rintro ⟨⟨xs, xt, xp, xo, xc, xu, xm, xf, xy, xd⟩, k⟩ ⟨⟨xs', xt', xp', xo', xc', xu', xm', xf', xy', xd'⟩, k'⟩ h
  simpa [E_markWorkshop, and_assoc] using h
theorem F_markWorkshop_elim {P : List V → List V → Prop} (h : ∀ (x : Shop) (k : Int), (x.p.length ≤ 1048576 ∧ fitLL x.o ∧ x.c.length ≤ 1048576 ∧ 0 ≤ k ∧ k + 2 * x.p.length + 2 * sum2 x.o ≤ 1099511627776) → P [.int .i64 x.s, .int .i64 x.t, vL I2 v2 x.p, vL IL2 vLL2 x.o, vL I1 v1 x.c, .int .i64 x.u, .int .i64 x.m, .int .i64 x.f, .int .i64 x.y, .int .i64 x.d, .int .i64 k] [.int .i64 (k + 2 * x.p.length + 2 * sum2 x.o + x.c.length), vL I2 v2 (markL2 x.p.length k), vL IL2 vLL2 (markLL2 x.o (k + 2 * x.p.length)), vL I1 v1 (markL1 x.c.length (k + 2 * x.p.length + 2 * sum2 x.o))]) : ∀ ds outs, F_markWorkshop ds = some outs → P ds outs := by
  intro ds outs hh
  obtain ⟨⟨x, k⟩, rfl, hp, rfl⟩ := mkF_inv hh
  exact h x k hp
theorem p_markWorkshop {x_s : Int} {x_t : Int} {x_p : List T2} {x_o : List (List T2)} {x_c : List Int} {x_u : Int} {x_m : Int} {x_f : Int} {x_y : Int} {x_d : Int} {k : Int} {kk_ : V → V → V → V → Prop} (hp : (⟨x_s, x_t, x_p, x_o, x_c, x_u, x_m, x_f, x_y, x_d⟩ : Shop).p.length ≤ 1048576 ∧ fitLL (⟨x_s, x_t, x_p, x_o, x_c, x_u, x_m, x_f, x_y, x_d⟩ : Shop).o ∧ (⟨x_s, x_t, x_p, x_o, x_c, x_u, x_m, x_f, x_y, x_d⟩ : Shop).c.length ≤ 1048576 ∧ 0 ≤ k ∧ k + 2 * (⟨x_s, x_t, x_p, x_o, x_c, x_u, x_m, x_f, x_y, x_d⟩ : Shop).p.length + 2 * sum2 (⟨x_s, x_t, x_p, x_o, x_c, x_u, x_m, x_f, x_y, x_d⟩ : Shop).o ≤ 1099511627776) : P4 (.callN F_markWorkshop 3 1) [.int .i64 x_s, .int .i64 x_t, vL I2 v2 x_p, vL IL2 vLL2 x_o, vL I1 v1 x_c, .int .i64 x_u, .int .i64 x_m, .int .i64 x_f, .int .i64 x_y, .int .i64 x_d, .int .i64 k, vL I2 v2 x_p, vL IL2 vLL2 x_o, vL I1 v1 x_c] kk_ ↔ kk_ (.int .i64 (k + 2 * (⟨x_s, x_t, x_p, x_o, x_c, x_u, x_m, x_f, x_y, x_d⟩ : Shop).p.length + 2 * sum2 (⟨x_s, x_t, x_p, x_o, x_c, x_u, x_m, x_f, x_y, x_d⟩ : Shop).o + (⟨x_s, x_t, x_p, x_o, x_c, x_u, x_m, x_f, x_y, x_d⟩ : Shop).c.length)) (vL I2 v2 (markL2 (⟨x_s, x_t, x_p, x_o, x_c, x_u, x_m, x_f, x_y, x_d⟩ : Shop).p.length k)) (vL IL2 vLL2 (markLL2 (⟨x_s, x_t, x_p, x_o, x_c, x_u, x_m, x_f, x_y, x_d⟩ : Shop).o (k + 2 * (⟨x_s, x_t, x_p, x_o, x_c, x_u, x_m, x_f, x_y, x_d⟩ : Shop).p.length))) (vL I1 v1 (markL1 (⟨x_s, x_t, x_p, x_o, x_c, x_u, x_m, x_f, x_y, x_d⟩ : Shop).c.length (k + 2 * (⟨x_s, x_t, x_p, x_o, x_c, x_u, x_m, x_f, x_y, x_d⟩ : Shop).p.length + 2 * sum2 (⟨x_s, x_t, x_p, x_o, x_c, x_u, x_m, x_f, x_y, x_d⟩ : Shop).o))) :=
  P4_of (callNIo_run (as := [.int .i64 x_s, .int .i64 x_t, vL I2 v2 x_p, vL IL2 vLL2 x_o, vL I1 v1 x_c, .int .i64 x_u, .int .i64 x_m, .int .i64 x_f, .int .i64 x_y, .int .i64 x_d, .int .i64 k]) (rs := [vL I2 v2 x_p, vL IL2 vLL2 x_o, vL I1 v1 x_c]) (n := 3) (nr := 1) rfl (by unfold F_markWorkshop; exact mkF_eq F_markWorkshop_inj ((⟨x_s, x_t, x_p, x_o, x_c, x_u, x_m, x_f, x_y, x_d⟩ : Shop), k) hp) (by simp [ksAll, vL, AK.eqs_refl]))

def opened (s : Int) (c : List Int) (m : Int) : Shop := ⟨(newBench s c.length).s, (newBench s c.length).t, [], [], c, 0, 10, 100, m, 0⟩
def openShop (s : Int) (c : List Int) (m : Int) : Shop := if shopOk (opened s c m) then opened s c m else ⟨0, 0, [], [], [], 0, 0, 0, 0, 0⟩
def E_OpenWorkshop : Int × List Int × Int → List V := fun (s, l, m) => [.int .i64 s, vL I1 v1 l, .int .i64 m]
noncomputable def F_OpenWorkshop : List V → Option (List V) := mkF E_OpenWorkshop (fun (_, l, _) => l.length ≤ 1048576) (fun (s, l, m) => [.int .i64 (openShop s l m).s, .int .i64 (openShop s l m).t, vL I2 v2 (openShop s l m).p, vL IL2 vLL2 (openShop s l m).o, vL I1 v1 (openShop s l m).c, .int .i64 (openShop s l m).u, .int .i64 (openShop s l m).m, .int .i64 (openShop s l m).f, .int .i64 (openShop s l m).y, .int .i64 (openShop s l m).d, .bool (shopOk (opened s l m))])
theorem F_OpenWorkshop_inj : ∀ x y, E_OpenWorkshop x = E_OpenWorkshop y → x = y := by
  rintro ⟨s, l, m⟩ ⟨s', l', m'⟩ h
  simpa [E_OpenWorkshop] using h
theorem F_OpenWorkshop_elim {P : List V → List V → Prop} (h : ∀ (s : Int) (l : List Int) (m : Int), (l.length ≤ 1048576) → P [.int .i64 s, vL I1 v1 l, .int .i64 m] [.int .i64 (openShop s l m).s, .int .i64 (openShop s l m).t, vL I2 v2 (openShop s l m).p, vL IL2 vLL2 (openShop s l m).o, vL I1 v1 (openShop s l m).c, .int .i64 (openShop s l m).u, .int .i64 (openShop s l m).m, .int .i64 (openShop s l m).f, .int .i64 (openShop s l m).y, .int .i64 (openShop s l m).d, .bool (shopOk (opened s l m))]) : ∀ ds outs, F_OpenWorkshop ds = some outs → P ds outs := by
  intro ds outs hh
  obtain ⟨⟨s, l, m⟩, rfl, hp, rfl⟩ := mkF_inv hh
  exact h s l m hp
theorem p_OpenWorkshop {s : Int} {l : List Int} {m : Int} {nr_ : Nat} {kk_ : V → V → V → V → V → V → V → V → V → V → V → Prop} (hp : l.length ≤ 1048576) : P11 (.call F_OpenWorkshop 0 nr_) [.int .i64 s, vL I1 v1 l, .int .i64 m] kk_ ↔ kk_ (.int .i64 (openShop s l m).s) (.int .i64 (openShop s l m).t) (vL I2 v2 (openShop s l m).p) (vL IL2 vLL2 (openShop s l m).o) (vL I1 v1 (openShop s l m).c) (.int .i64 (openShop s l m).u) (.int .i64 (openShop s l m).m) (.int .i64 (openShop s l m).f) (.int .i64 (openShop s l m).y) (.int .i64 (openShop s l m).d) (.bool (shopOk (opened s l m))) :=
  P11_callF (by unfold F_OpenWorkshop; exact mkF_eq F_OpenWorkshop_inj (s, l, m) hp)

def E_SampleWorkshop (_ : Unit) : List V := []
noncomputable def F_SampleWorkshop : List V → Option (List V) := mkF E_SampleWorkshop (fun _ => True) (fun _ => [.int .i64 (openShop 16 [12, 12, 16, 19] 40).s, .int .i64 (openShop 16 [12, 12, 16, 19] 40).t, vL I2 v2 (openShop 16 [12, 12, 16, 19] 40).p, vL IL2 vLL2 (openShop 16 [12, 12, 16, 19] 40).o, vL I1 v1 (openShop 16 [12, 12, 16, 19] 40).c, .int .i64 (openShop 16 [12, 12, 16, 19] 40).u, .int .i64 (openShop 16 [12, 12, 16, 19] 40).m, .int .i64 (openShop 16 [12, 12, 16, 19] 40).f, .int .i64 (openShop 16 [12, 12, 16, 19] 40).y, .int .i64 (openShop 16 [12, 12, 16, 19] 40).d])
theorem F_SampleWorkshop_inj : ∀ x y, E_SampleWorkshop x = E_SampleWorkshop y → x = y := fun _ _ _ => rfl
theorem F_SampleWorkshop_elim {P : List V → List V → Prop} (h : ∀ _u : Unit, P [] [.int .i64 (openShop 16 [12, 12, 16, 19] 40).s, .int .i64 (openShop 16 [12, 12, 16, 19] 40).t, vL I2 v2 (openShop 16 [12, 12, 16, 19] 40).p, vL IL2 vLL2 (openShop 16 [12, 12, 16, 19] 40).o, vL I1 v1 (openShop 16 [12, 12, 16, 19] 40).c, .int .i64 (openShop 16 [12, 12, 16, 19] 40).u, .int .i64 (openShop 16 [12, 12, 16, 19] 40).m, .int .i64 (openShop 16 [12, 12, 16, 19] 40).f, .int .i64 (openShop 16 [12, 12, 16, 19] 40).y, .int .i64 (openShop 16 [12, 12, 16, 19] 40).d]) : ∀ ds outs, F_SampleWorkshop ds = some outs → P ds outs := by
  intro ds outs hh
  obtain ⟨x, rfl, -, rfl⟩ := mkF_inv hh
  exact h ()
@[simp] theorem p_SampleWorkshop  {nr_ : Nat} {kk_ : V → V → V → V → V → V → V → V → V → V → Prop} : P10 (.call F_SampleWorkshop 0 nr_) [] kk_ ↔ kk_ (.int .i64 (openShop 16 [12, 12, 16, 19] 40).s) (.int .i64 (openShop 16 [12, 12, 16, 19] 40).t) (vL I2 v2 (openShop 16 [12, 12, 16, 19] 40).p) (vL IL2 vLL2 (openShop 16 [12, 12, 16, 19] 40).o) (vL I1 v1 (openShop 16 [12, 12, 16, 19] 40).c) (.int .i64 (openShop 16 [12, 12, 16, 19] 40).u) (.int .i64 (openShop 16 [12, 12, 16, 19] 40).m) (.int .i64 (openShop 16 [12, 12, 16, 19] 40).f) (.int .i64 (openShop 16 [12, 12, 16, 19] 40).y) (.int .i64 (openShop 16 [12, 12, 16, 19] 40).d) :=
  P10_callF (by unfold F_SampleWorkshop; exact mkF_eq F_SampleWorkshop_inj () trivial)


end Go.Mw

/- Functions of the program, as small pure programs (printed by a program of ours). -/
namespace Go.Mw
noncomputable section
def laws_szPinSS_b0 : L := .seq (.seq (.seq (.rg [⟨[], .len, [.v 0], 1⟩, ⟨[], .bin .lss, [.v 2, .v 3], 1⟩]) (.ite (.v 4) (.skip) (.seq (.tup [.v 1]) (.exit 0)))) (.seq (.block 1 (.seq (.seq (.rg [⟨[], .idx [.sl [.sc, .sc]], [.v 0, .v 2], 1⟩, ⟨[], .call F_szPinS 0 1, [.v 5, .v 1], 1⟩]) (.seq (.rg [⟨[], .bin .lss, [.v 6, .k (.int .i64 0)], 1⟩]) (.ite (.v 7) (.seq (.rg []) (.ret [.k (.int .i64 (-1))])) (.skip)))) (.tup [.v 0, .v 6, .v 2]))) (.rg [⟨[], .bin .add, [.v 2, .k (.int .i64 1)], 1⟩]))) (.tup [.v 0, .v 1, .v 3])
theorem laws_szPinSS_b0_sh (Q : QT) (x0 x1 x2 : V) : shL laws_szPinSS_b0 Q [x0, x1, x2] = (
  P1 (.len) [x0] fun v0 =>
  P1 (.bin .lss) [x2, v0] fun v1 =>
  ifB v1 (
    P1 (.idx [.sl [.sc, .sc]]) [x0, x2] fun v2 =>
    P1 (.call F_szPinS 0 1) [v2, x1] fun v3 =>
    P1 (.bin .lss) [v3, .int .i64 0] fun v4 =>
    ifB v4 (
      Q .ret [.int .i64 (-1)]) (
      P1 (.bin .add) [x2, .int .i64 1] fun v5 =>
      Q .normal [x0, v3, v5])) (
    Q (.exit 0) [x1])) := by kernel_rfl

def laws_szPinSS_r1 : L := .seq (.rg []) (.ret [.v 0])
theorem laws_szPinSS_r1_sh (Q : QT) (x0 : V) : shL laws_szPinSS_r1 Q [x0] = (
  Q .ret [x0]) := by kernel_rfl

def laws_szPinSS_L : L := .seq (.rg []) (.seq (.rg [⟨[], .len, [.v 0], 1⟩, ⟨[], .bin .sub, [.v 1, .v 2], 1⟩]) (.seq (.seq (.rg [⟨[], .bin .lss, [.v 3, .k (.int .i64 0)], 1⟩]) (.ite (.v 4) (.seq (.rg []) (.ret [.k (.int .i64 (-1))])) (.skip))) (.seq (.seq (.rg []) (.block 0 (.seq (.tup [.v 0, .v 3, .k (.int .i64 0)]) (.loop (laws_szPinSS_b0))))) (laws_szPinSS_r1))))
theorem laws_szPinSS_L_sh (Q : QT) (x0 x1 : V) : shL laws_szPinSS_L Q [x0, x1] = (
  P1 (.len) [x0] fun v0 =>
  P1 (.bin .sub) [x1, v0] fun v1 =>
  P1 (.bin .lss) [v1, .int .i64 0] fun v2 =>
  ifB v2 (
    Q .ret [.int .i64 (-1)]) (
    shL (.loop laws_szPinSS_b0) (qB 0 (qS (shL laws_szPinSS_r1 Q) Q)) [x0, v1, .int .i64 0])) := by kernel_rfl
def laws_szPinSS_S : Sig := ⟨[.val false [.sl [.sl [.sc, .sc]]], .val false [.sc]], [(false, [.sc])], F_szPinSS⟩
def laws_szPinSS_hs : List NF := [⟨[(1, .sc false [.sc])], [], [], 64⟩, ⟨[(0, .sc false [.ro [.sl [.sc, .sc]]]), (1, .sc false [.sc]), (5, .sc false [.sc])], [], [], 64⟩, ⟨[(0, .sc false [.ro [.sl [.sc, .sc]]]), (1, .sc false [.sc]), (5, .sc false [.sc])], [], [], 64⟩]

def laws_szBench_L : L := .seq (.rg []) (.seq (.rg [⟨[], .call F_szCylinder 0 1, [.v 0, .v 1, .v 2, .v 4], 1⟩]) (.seq (.seq (.rg [⟨[], .bin .lss, [.v 5, .k (.int .i64 0)], 1⟩]) (.ite (.v 6) (.seq (.rg []) (.ret [.k (.int .i64 (-1))])) (.skip))) (.seq (.rg [⟨[], .call F_szPinSS 0 1, [.v 3, .v 5], 1⟩]) (.seq (.seq (.rg [⟨[], .bin .lss, [.v 7, .k (.int .i64 0)], 1⟩]) (.ite (.v 8) (.seq (.rg []) (.ret [.k (.int .i64 (-1))])) (.skip))) (.seq (.rg []) (.ret [.v 7]))))))
theorem laws_szBench_L_sh (Q : QT) (x0 x1 x2 x3 x4 : V) : shL laws_szBench_L Q [x0, x1, x2, x3, x4] = (
  P1 (.call F_szCylinder 0 1) [x0, x1, x2, x4] fun v0 =>
  P1 (.bin .lss) [v0, .int .i64 0] fun v1 =>
  ifB v1 (
    Q .ret [.int .i64 (-1)]) (
    P1 (.call F_szPinSS 0 1) [x3, v0] fun v2 =>
    P1 (.bin .lss) [v2, .int .i64 0] fun v3 =>
    ifB v3 (
      Q .ret [.int .i64 (-1)]) (
      Q .ret [v2]))) := by kernel_rfl
def laws_szBench_S : Sig := ⟨[.val true [.sc, .sc, .sl [.sc, .sc], .sl [.sl [.sc, .sc]]], .val false [.sc]], [(false, [.sc])], F_szBench⟩
def laws_szBench_hs : List NF := []

def laws_toPinSS_b0 : L := .seq (.seq (.seq (.rg [⟨[], .len, [.v 0], 1⟩, ⟨[], .bin .lss, [.v 1, .v 3], 1⟩]) (.ite (.v 4) (.skip) (.seq (.tup [.v 2]) (.exit 0)))) (.seq (.block 1 (.seq (.rg [⟨[], .idx [.sl [.sc, .sc]], [.v 0, .v 1], 1⟩, ⟨[], .call F_toPinS 0 1, [.v 5], 1⟩, ⟨[], .idx [.sl [.sc, .sc]], [.v 2, .v 1], 1⟩, ⟨[], .set [.sl [.sc, .sc]] 0, [.v 2, .v 1, .v 6], 1⟩]) (.tup [.v 0, .v 1, .v 8]))) (.rg [⟨[], .bin .add, [.v 1, .k (.int .i64 1)], 1⟩]))) (.tup [.v 0, .v 3, .v 2])
theorem laws_toPinSS_b0_sh (Q : QT) (x0 x1 x2 : V) : shL laws_toPinSS_b0 Q [x0, x1, x2] = (
  P1 (.len) [x0] fun v0 =>
  P1 (.bin .lss) [x1, v0] fun v1 =>
  ifB v1 (
    P1 (.idx [.sl [.sc, .sc]]) [x0, x1] fun v2 =>
    P1 (.call F_toPinS 0 1) [v2] fun v3 =>
    P1 (.idx [.sl [.sc, .sc]]) [x2, x1] fun _ =>
    P1 (.set [.sl [.sc, .sc]] 0) [x2, x1, v3] fun v5 =>
    P1 (.bin .add) [x1, .int .i64 1] fun v6 =>
    Q .normal [x0, v6, v5]) (
    Q (.exit 0) [x2])) := by kernel_rfl

def laws_toPinSS_r1 : L := .seq (.rg []) (.ret [.v 0])
theorem laws_toPinSS_r1_sh (Q : QT) (x0 : V) : shL laws_toPinSS_r1 Q [x0] = (
  Q .ret [x0]) := by kernel_rfl

def laws_toPinSS_L : L := .seq (.rg []) (.seq (.rg [⟨[], .len, [.v 0], 1⟩, ⟨[], .mk [.sl [.sc, .sc]] (.list [.sc, .sc] []) 24, [.v 1, .v 1], 1⟩]) (.seq (.seq (.rg []) (.block 0 (.seq (.tup [.v 0, .k (.int .i64 0), .v 2]) (.loop (laws_toPinSS_b0))))) (laws_toPinSS_r1)))
theorem laws_toPinSS_L_sh (Q : QT) (x0 : V) : shL laws_toPinSS_L Q [x0] = (
  P1 (.len) [x0] fun v0 =>
  P1 (.mk [.sl [.sc, .sc]] (.list [.sc, .sc] []) 24) [v0, v0] fun v1 =>
  shL (.loop laws_toPinSS_b0) (qB 0 (qS (shL laws_toPinSS_r1 Q) Q)) [x0, .int .i64 0, v1]) := by kernel_rfl
def laws_toPinSS_S : Sig := ⟨[.val false [.sl [.sl [.sc, .sc]]]], [(false, [.sl [.sl [.sc, .sc]]])], F_toPinSS⟩
def laws_toPinSS_hs : List NF := [⟨[(3, .sc false [.own 64])], [(64, true, [.sl [.sc, .sc]])], [], 65⟩, ⟨[(0, .sc false [.ro [.sl [.sc, .sc]]]), (3, .sc false [.own 64]), (4, .sc false [.sc])], [(64, true, [.sl [.sc, .sc]])], [], 65⟩, ⟨[(0, .sc false [.ro [.sl [.sc, .sc]]]), (3, .sc false [.own 64]), (4, .sc false [.sc])], [(64, true, [.sl [.sc, .sc]])], [], 65⟩]

def laws_toBench_L : L := .seq (.rg []) (.seq (.rg []) (.seq (.rg [⟨[], .call F_toCylinder 0 3, [.v 0, .v 1, .v 2], 3⟩]) (.seq (.rg [⟨[], .call F_toPinSS 0 1, [.v 3], 1⟩]) (.seq (.rg []) (.ret [.v 4, .v 5, .v 6, .v 7])))))
theorem laws_toBench_L_sh (Q : QT) (x0 x1 x2 x3 : V) : shL laws_toBench_L Q [x0, x1, x2, x3] = (
  P3 (.call F_toCylinder 0 3) [x0, x1, x2] fun v0 v1 v2 =>
  P1 (.call F_toPinSS 0 1) [x3] fun v3 =>
  Q .ret [v0, v1, v2, v3]) := by kernel_rfl
def laws_toBench_S : Sig := ⟨[.val true [.sc, .sc, .sl [.sc, .sc], .sl [.sl [.sc, .sc]]]], [(true, [.sc, .sc, .sl [.sc, .sc], .sl [.sl [.sc, .sc]]])], F_toBench⟩
def laws_toBench_hs : List NF := []

def spec_BenchOk_b0 : L := .seq (.seq (.seq (.rg [⟨[], .len, [.v 4], 1⟩, ⟨[], .bin .lss, [.v 0, .v 5], 1⟩]) (.ite (.v 6) (.skip) (.seq (.tup [.v 1, .v 2, .v 3, .v 4]) (.exit 0)))) (.seq (.block 1 (.seq (.seq (.rg [⟨[], .idx [.sl [.sc, .sc]], [.v 4, .v 0], 1⟩, ⟨[], .call F_CylinderOk 0 1, [.v 1, .v 2, .v 7], 1⟩, ⟨[], .un .not, [.v 8], 1⟩]) (.ite (.v 9) (.seq (.rg []) (.ret [.k (.bool false)])) (.skip))) (.tup [.v 0, .v 1, .v 2, .v 3, .v 4]))) (.rg [⟨[], .bin .add, [.v 0, .k (.int .i64 1)], 1⟩]))) (.tup [.v 5, .v 1, .v 2, .v 3, .v 4])
theorem spec_BenchOk_b0_sh (Q : QT) (x0 x1 x2 x3 x4 : V) : shL spec_BenchOk_b0 Q [x0, x1, x2, x3, x4] = (
  P1 (.len) [x4] fun v0 =>
  P1 (.bin .lss) [x0, v0] fun v1 =>
  ifB v1 (
    P1 (.idx [.sl [.sc, .sc]]) [x4, x0] fun v2 =>
    P1 (.call F_CylinderOk 0 1) [x1, x2, v2] fun v3 =>
    P1 (.un .not) [v3] fun v4 =>
    ifB v4 (
      Q .ret [.bool false]) (
      P1 (.bin .add) [x0, .int .i64 1] fun v5 =>
      Q .normal [v5, x1, x2, x3, x4])) (
    Q (.exit 0) [x1, x2, x3, x4])) := by kernel_rfl

def spec_BenchOk_r1 : L := .seq (.rg [⟨[], .call F_CylinderOk 0 1, [.v 0, .v 1, .v 2], 1⟩, ⟨[(.v 4, true)], .len, [.v 3], 1⟩, ⟨[(.v 4, true)], .bin .leq, [.v 5, .k (.int .i64 30)], 1⟩, ⟨[], .pick, [.v 4, .v 6, .k (.bool false)], 1⟩]) (.ret [.v 7])
theorem spec_BenchOk_r1_sh (Q : QT) (x0 x1 x2 x3 : V) : shL spec_BenchOk_r1 Q [x0, x1, x2, x3] = (
  P1 (.call F_CylinderOk 0 1) [x0, x1, x2] fun v0 =>
  ifB v0 (
    P1 (.len) [x3] fun v1 =>
    P1 (.bin .leq) [v1, .int .i64 30] fun v2 =>
    Q .ret [v2]) (
    Q .ret [.bool false])) := by kernel_rfl

def spec_BenchOk_L : L := .seq (.rg []) (.seq (.seq (.rg []) (.block 0 (.seq (.tup [.k (.int .i64 0), .v 0, .v 1, .v 2, .v 3]) (.loop (spec_BenchOk_b0))))) (spec_BenchOk_r1))
theorem spec_BenchOk_L_sh (Q : QT) (x0 x1 x2 x3 : V) : shL spec_BenchOk_L Q [x0, x1, x2, x3] = (
  shL (.loop spec_BenchOk_b0) (qB 0 (qS (shL spec_BenchOk_r1 Q) Q)) [.int .i64 0, x0, x1, x2, x3]) := by kernel_rfl
def spec_BenchOk_S : Sig := ⟨[.val true [.sc, .sc, .sl [.sc, .sc], .sl [.sl [.sc, .sc]]]], [(false, [.sc])], F_BenchOk⟩
def spec_BenchOk_hs : List NF := [⟨[(1, .ptr 64 0)], [], [(64, [.sc, .sc, .ro [.sc, .sc], .ro [.sl [.sc, .sc]]])], 65⟩, ⟨[(1, .ptr 64 0), (3, .sc false [.sc])], [], [(64, [.sc, .sc, .ro [.sc, .sc], .ro [.sl [.sc, .sc]]])], 65⟩, ⟨[(1, .ptr 64 0), (3, .sc false [.sc])], [], [(64, [.sc, .sc, .ro [.sc, .sc], .ro [.sl [.sc, .sc]]])], 65⟩]

def impl_BenchOk_b0 : L := .seq (.seq (.rg [⟨[], .bin .lss, [.v 2, .v 1], 1⟩]) (.seq (.ite (.v 7) (.skip) (.seq (.tup []) (.exit 0))) (.seq (.block 1 (.seq (.seq (.rg [⟨[], .idx [.sl [.sc, .sc]], [.v 0, .v 2], 1⟩]) (.seq (.rg [⟨[], .call F_CylinderOk 0 1, [.v 3, .v 4, .v 8], 1⟩, ⟨[], .un .not, [.v 9], 1⟩]) (.ite (.v 10) (.seq (.rg []) (.ret [.k (.bool false)])) (.skip)))) (.tup [.v 0, .v 1, .v 2, .v 3, .v 4, .v 5, .v 6]))) (.rg [⟨[], .bin .add, [.v 2, .k (.int .i64 1)], 1⟩])))) (.tup [.v 0, .v 1, .v 7, .v 3, .v 4, .v 5, .v 6])
theorem impl_BenchOk_b0_sh (Q : QT) (x0 x1 x2 x3 x4 x5 x6 : V) : shL impl_BenchOk_b0 Q [x0, x1, x2, x3, x4, x5, x6] = (
  P1 (.bin .lss) [x2, x1] fun v0 =>
  ifB v0 (
    P1 (.idx [.sl [.sc, .sc]]) [x0, x2] fun v1 =>
    P1 (.call F_CylinderOk 0 1) [x3, x4, v1] fun v2 =>
    P1 (.un .not) [v2] fun v3 =>
    ifB v3 (
      Q .ret [.bool false]) (
      P1 (.bin .add) [x2, .int .i64 1] fun v4 =>
      Q .normal [x0, x1, v4, x3, x4, x5, x6])) (
    Q (.exit 0) [])) := by kernel_rfl

def impl_BenchOk_r1 : L := .seq (.rg []) (.ret [.k (.bool true)])
theorem impl_BenchOk_r1_sh (Q : QT) : shL impl_BenchOk_r1 Q [] = (
  Q .ret [.bool true]) := by kernel_rfl

def impl_BenchOk_L : L := .seq (.rg []) (.seq (.seq (.rg [⟨[], .call F_CylinderOk 0 1, [.v 0, .v 1, .v 2], 1⟩, ⟨[], .un .not, [.v 4], 1⟩, ⟨[(.v 5, false)], .len, [.v 3], 1⟩, ⟨[(.v 5, false)], .bin .gtr, [.v 6, .k (.int .i64 30)], 1⟩, ⟨[], .pick, [.v 5, .k (.bool true), .v 7], 1⟩]) (.ite (.v 8) (.seq (.rg []) (.ret [.k (.bool false)])) (.skip))) (.seq (.seq (.rg [⟨[], .len, [.v 3], 1⟩]) (.block 0 (.seq (.tup [.v 3, .v 9, .k (.int .i64 0), .v 0, .v 1, .v 2, .v 3]) (.loop (impl_BenchOk_b0))))) (impl_BenchOk_r1)))
theorem impl_BenchOk_L_sh (Q : QT) (x0 x1 x2 x3 : V) : shL impl_BenchOk_L Q [x0, x1, x2, x3] = (
  P1 (.call F_CylinderOk 0 1) [x0, x1, x2] fun v0 =>
  P1 (.un .not) [v0] fun v1 =>
  ifB v1 (
    Q .ret [.bool false]) (
    P1 (.len) [x3] fun v2 =>
    P1 (.bin .gtr) [v2, .int .i64 30] fun v3 =>
    ifB v3 (
      Q .ret [.bool false]) (
      P1 (.len) [x3] fun v4 =>
      shL (.loop impl_BenchOk_b0) (qB 0 (qS (shL impl_BenchOk_r1 Q) Q)) [x3, v4, .int .i64 0, x0, x1, x2, x3]))) := by kernel_rfl
def impl_BenchOk_S : Sig := ⟨[.val true [.sc, .sc, .sl [.sc, .sc], .sl [.sl [.sc, .sc]]]], [(false, [.sc])], F_BenchOk⟩
def impl_BenchOk_hs : List NF := [⟨[], [], [], 64⟩, ⟨[(1, .ptr 64 0), (16, .sc false [.ro [.sl [.sc, .sc]]]), (17, .sc false [.sc]), (18, .sc false [.sc])], [], [(64, [.sc, .sc, .ro [.sc, .sc], .ro [.sl [.sc, .sc]]])], 65⟩, ⟨[(1, .ptr 64 0), (16, .sc false [.ro [.sl [.sc, .sc]]]), (17, .sc false [.sc]), (18, .sc false [.sc])], [], [(64, [.sc, .sc, .ro [.sc, .sc], .ro [.sl [.sc, .sc]]])], 65⟩]

def laws_eqPinSS_b0 : L := .seq (.seq (.seq (.rg [⟨[], .len, [.v 0], 1⟩, ⟨[], .bin .lss, [.v 2, .v 3], 1⟩]) (.ite (.v 4) (.skip) (.seq (.tup []) (.exit 0)))) (.seq (.block 1 (.seq (.seq (.rg [⟨[], .idx [.sl [.sc, .sc]], [.v 0, .v 2], 1⟩, ⟨[], .idx [.sl [.sc, .sc]], [.v 1, .v 2], 1⟩, ⟨[], .call F_eqPinS 0 1, [.v 5, .v 6], 1⟩, ⟨[], .un .not, [.v 7], 1⟩]) (.ite (.v 8) (.seq (.rg []) (.ret [.k (.bool false)])) (.skip))) (.tup [.v 0, .v 1, .v 2]))) (.rg [⟨[], .bin .add, [.v 2, .k (.int .i64 1)], 1⟩]))) (.tup [.v 0, .v 1, .v 3])
theorem laws_eqPinSS_b0_sh (Q : QT) (x0 x1 x2 : V) : shL laws_eqPinSS_b0 Q [x0, x1, x2] = (
  P1 (.len) [x0] fun v0 =>
  P1 (.bin .lss) [x2, v0] fun v1 =>
  ifB v1 (
    P1 (.idx [.sl [.sc, .sc]]) [x0, x2] fun v2 =>
    P1 (.idx [.sl [.sc, .sc]]) [x1, x2] fun v3 =>
    P1 (.call F_eqPinS 0 1) [v2, v3] fun v4 =>
    P1 (.un .not) [v4] fun v5 =>
    ifB v5 (
      Q .ret [.bool false]) (
      P1 (.bin .add) [x2, .int .i64 1] fun v6 =>
      Q .normal [x0, x1, v6])) (
    Q (.exit 0) [])) := by kernel_rfl

def laws_eqPinSS_r1 : L := .seq (.rg []) (.ret [.k (.bool true)])
theorem laws_eqPinSS_r1_sh (Q : QT) : shL laws_eqPinSS_r1 Q [] = (
  Q .ret [.bool true]) := by kernel_rfl

def laws_eqPinSS_L : L := .seq (.rg []) (.seq (.seq (.rg [⟨[], .len, [.v 0], 1⟩, ⟨[], .len, [.v 1], 1⟩, ⟨[], .bin .neq, [.v 2, .v 3], 1⟩]) (.ite (.v 4) (.seq (.rg []) (.ret [.k (.bool false)])) (.skip))) (.seq (.seq (.rg []) (.block 0 (.seq (.tup [.v 0, .v 1, .k (.int .i64 0)]) (.loop (laws_eqPinSS_b0))))) (laws_eqPinSS_r1)))
theorem laws_eqPinSS_L_sh (Q : QT) (x0 x1 : V) : shL laws_eqPinSS_L Q [x0, x1] = (
  P1 (.len) [x0] fun v0 =>
  P1 (.len) [x1] fun v1 =>
  P1 (.bin .neq) [v0, v1] fun v2 =>
  ifB v2 (
    Q .ret [.bool false]) (
    shL (.loop laws_eqPinSS_b0) (qB 0 (qS (shL laws_eqPinSS_r1 Q) Q)) [x0, x1, .int .i64 0])) := by kernel_rfl
def laws_eqPinSS_S : Sig := ⟨[.val false [.sl [.sl [.sc, .sc]]], .val false [.sl [.sl [.sc, .sc]]]], [(false, [.sc])], F_eqPinSS⟩
def laws_eqPinSS_hs : List NF := [⟨[], [], [], 64⟩, ⟨[(0, .sc false [.ro [.sl [.sc, .sc]]]), (1, .sc false [.ro [.sl [.sc, .sc]]]), (5, .sc false [.sc])], [], [], 64⟩, ⟨[(0, .sc false [.ro [.sl [.sc, .sc]]]), (1, .sc false [.ro [.sl [.sc, .sc]]]), (5, .sc false [.sc])], [], [], 64⟩]

def laws_eqBench_L : L := .seq (.rg []) (.seq (.seq (.rg [⟨[], .call F_eqCylinder 0 1, [.v 0, .v 1, .v 2, .v 4, .v 5, .v 6], 1⟩, ⟨[], .un .not, [.v 8], 1⟩]) (.ite (.v 9) (.seq (.rg []) (.ret [.k (.bool false)])) (.skip))) (.seq (.seq (.rg [⟨[], .call F_eqPinSS 0 1, [.v 3, .v 7], 1⟩, ⟨[], .un .not, [.v 10], 1⟩]) (.ite (.v 11) (.seq (.rg []) (.ret [.k (.bool false)])) (.skip))) (.seq (.rg []) (.ret [.k (.bool true)]))))
theorem laws_eqBench_L_sh (Q : QT) (x0 x1 x2 x3 x4 x5 x6 x7 : V) : shL laws_eqBench_L Q [x0, x1, x2, x3, x4, x5, x6, x7] = (
  P1 (.call F_eqCylinder 0 1) [x0, x1, x2, x4, x5, x6] fun v0 =>
  P1 (.un .not) [v0] fun v1 =>
  ifB v1 (
    Q .ret [.bool false]) (
    P1 (.call F_eqPinSS 0 1) [x3, x7] fun v2 =>
    P1 (.un .not) [v2] fun v3 =>
    ifB v3 (
      Q .ret [.bool false]) (
      Q .ret [.bool true]))) := by kernel_rfl
def laws_eqBench_S : Sig := ⟨[.val true [.sc, .sc, .sl [.sc, .sc], .sl [.sl [.sc, .sc]]], .val true [.sc, .sc, .sl [.sc, .sc], .sl [.sl [.sc, .sc]]]], [(false, [.sc])], F_eqBench⟩
def laws_eqBench_hs : List NF := []

def spec_NewBench_L : L := .seq (.rg []) (.seq (.rg []) (.seq (.seq (.rg [⟨[], .call F_BenchOk 0 1, [.v 0, .v 1, .k (.list [.sc, .sc] []), .k (.list [.sl [.sc, .sc]] [])], 1⟩, ⟨[], .un .not, [.v 2], 1⟩]) (.ite (.v 3) (.seq (.rg []) (.ret [.k (.int .i64 0), .k (.int .i64 0), .k (.list [.sc, .sc] []), .k (.list [.sl [.sc, .sc]] []), .k (.bool false)])) (.skip))) (.seq (.rg []) (.ret [.v 0, .v 1, .k (.list [.sc, .sc] []), .k (.list [.sl [.sc, .sc]] []), .k (.bool true)]))))
theorem spec_NewBench_L_sh (Q : QT) (x0 x1 : V) : shL spec_NewBench_L Q [x0, x1] = (
  P1 (.call F_BenchOk 0 1) [x0, x1, .list [.sc, .sc] [], .list [.sl [.sc, .sc]] []] fun v0 =>
  P1 (.un .not) [v0] fun v1 =>
  ifB v1 (
    Q .ret [.int .i64 0, .int .i64 0, .list [.sc, .sc] [], .list [.sl [.sc, .sc]] [], .bool false]) (
    Q .ret [x0, x1, .list [.sc, .sc] [], .list [.sl [.sc, .sc]] [], .bool true])) := by kernel_rfl
def spec_NewBench_S : Sig := ⟨[.val false [.sc], .val false [.sc]], [(true, [.sc, .sc, .sl [.sc, .sc], .sl [.sl [.sc, .sc]]]), (false, [.sc])], F_NewBench⟩
def spec_NewBench_hs : List NF := []

def laws_markPinSS_b0 : L := .seq (.seq (.seq (.rg [⟨[], .len, [.v 2], 1⟩, ⟨[], .bin .lss, [.v 1, .v 3], 1⟩]) (.ite (.v 4) (.skip) (.seq (.tup [.v 0, .v 2]) (.exit 0)))) (.seq (.block 1 (.seq (.rg [⟨[], .idx [.sl [.sc, .sc]], [.v 2, .v 1], 1⟩, ⟨[], .callIn F_markPinS 1 [.sl [.sc, .sc]] 0, [.v 5, .v 0, .v 5, .v 2, .v 1], 2⟩]) (.tup [.v 6, .v 1, .v 7]))) (.rg [⟨[], .bin .add, [.v 1, .k (.int .i64 1)], 1⟩]))) (.tup [.v 0, .v 3, .v 2])
theorem laws_markPinSS_b0_sh (Q : QT) (x0 x1 x2 : V) : shL laws_markPinSS_b0 Q [x0, x1, x2] = (
  P1 (.len) [x2] fun v0 =>
  P1 (.bin .lss) [x1, v0] fun v1 =>
  ifB v1 (
    P1 (.idx [.sl [.sc, .sc]]) [x2, x1] fun v2 =>
    P2 (.callIn F_markPinS 1 [.sl [.sc, .sc]] 0) [v2, x0, v2, x2, x1] fun v3 v4 =>
    P1 (.bin .add) [x1, .int .i64 1] fun v5 =>
    Q .normal [v3, v5, v4]) (
    Q (.exit 0) [x0, x2])) := by kernel_rfl

def laws_markPinSS_r1 : L := .seq (.rg []) (.ret [.v 0, .v 1])
theorem laws_markPinSS_r1_sh (Q : QT) (x0 x1 : V) : shL laws_markPinSS_r1 Q [x0, x1] = (
  Q .ret [x0, x1]) := by kernel_rfl

def laws_markPinSS_L : L := .seq (.rg []) (.seq (.seq (.rg []) (.block 0 (.seq (.tup [.v 1, .k (.int .i64 0), .v 0]) (.loop (laws_markPinSS_b0))))) (laws_markPinSS_r1))
theorem laws_markPinSS_L_sh (Q : QT) (x0 x1 : V) : shL laws_markPinSS_L Q [x0, x1] = (
  shL (.loop laws_markPinSS_b0) (qB 0 (qS (shL laws_markPinSS_r1 Q) Q)) [x1, .int .i64 0, x0]) := by kernel_rfl
def laws_markPinSS_S : Sig := ⟨[.io false [.sl [.sl [.sc, .sc]]], .val false [.sc]], [(false, [.sc])], F_markPinSS⟩
def laws_markPinSS_hs : List NF := [⟨[(1, .sc false [.sc])], [(0, false, [.sl [.sc, .sc]])], [], 64⟩, ⟨[(0, .sc false [.own 0]), (1, .sc false [.sc]), (5, .sc false [.sc])], [(0, false, [.sl [.sc, .sc]])], [], 64⟩, ⟨[(0, .sc false [.own 0]), (1, .sc false [.sc]), (5, .sc false [.sc])], [(0, false, [.sl [.sc, .sc]])], [], 64⟩]

def laws_markBench_L : L := .seq (.rg []) (.seq (.rg [⟨[], .call F_markCylinder 1 1, [.v 0, .v 1, .v 2, .v 4, .v 2], 2⟩]) (.seq (.rg [⟨[], .callN F_markPinSS 1 1, [.v 3, .v 5, .v 3], 2⟩]) (.seq (.rg []) (.ret [.v 7, .v 6, .v 8]))))
theorem laws_markBench_L_sh (Q : QT) (x0 x1 x2 x3 x4 : V) : shL laws_markBench_L Q [x0, x1, x2, x3, x4] = (
  P2 (.call F_markCylinder 1 1) [x0, x1, x2, x4, x2] fun v0 v1 =>
  P2 (.callN F_markPinSS 1 1) [x3, v0, x3] fun v2 v3 =>
  Q .ret [v2, v1, v3]) := by kernel_rfl
def laws_markBench_S : Sig := ⟨[.io true [.sc, .sc, .sl [.sc, .sc], .sl [.sl [.sc, .sc]]], .val false [.sc]], [(false, [.sc])], F_markBench⟩
def laws_markBench_hs : List NF := []

def spec_l06Copy_L : L := .seq (.rg []) (.seq (.rg [⟨[], .lst [.sc, .sc] true 0, [], 1⟩, ⟨[], .app [.sc, .sc] 16, [.v 3, .v 2], 1⟩]) (.ret [.v 0, .v 1, .v 4]))
theorem spec_l06Copy_L_sh (Q : QT) (x0 x1 x2 : V) : shL spec_l06Copy_L Q [x0, x1, x2] = (
  P1 (.lst [.sc, .sc] true 0) [] fun v0 =>
  P1 (.app [.sc, .sc] 16) [v0, x2] fun v1 =>
  Q .ret [x0, x1, v1]) := by kernel_rfl
def spec_l06Copy_S : Sig := ⟨[.val true [.sc, .sc, .sl [.sc, .sc]]], [(true, [.sc, .sc, .sl [.sc, .sc]])], F_l06Copy⟩
def spec_l06Copy_hs : List NF := []

def spec_l37Copy_b0 : L := .seq (.seq (.seq (.rg [⟨[], .len, [.v 6], 1⟩, ⟨[], .bin .lss, [.v 0, .v 11], 1⟩]) (.ite (.v 12) (.skip) (.seq (.tup [.v 1, .v 2, .v 7, .v 8, .v 9, .v 10]) (.exit 0)))) (.seq (.block 1 (.seq (.rg [⟨[], .lst [.sc, .sc] true 0, [], 1⟩, ⟨[], .idx [.sl [.sc, .sc]], [.v 6, .v 0], 1⟩, ⟨[], .app [.sc, .sc] 16, [.v 13, .v 14], 1⟩, ⟨[], .lst [.sl [.sc, .sc]] false 1, [.v 15], 1⟩, ⟨[], .app [.sl [.sc, .sc]] 24, [.v 2, .v 16], 1⟩]) (.tup [.v 0, .v 1, .v 17, .v 3, .v 4, .v 5, .v 6, .v 7, .v 8, .v 9, .v 10]))) (.rg [⟨[], .bin .add, [.v 0, .k (.int .i64 1)], 1⟩]))) (.tup [.v 11, .v 1, .v 2, .v 3, .v 4, .v 5, .v 6, .v 7, .v 8, .v 9, .v 10])
theorem spec_l37Copy_b0_sh (Q : QT) (x0 x1 x2 x3 x4 x5 x6 x7 x8 x9 x10 : V) : shL spec_l37Copy_b0 Q [x0, x1, x2, x3, x4, x5, x6, x7, x8, x9, x10] = (
  P1 (.len) [x6] fun v0 =>
  P1 (.bin .lss) [x0, v0] fun v1 =>
  ifB v1 (
    P1 (.lst [.sc, .sc] true 0) [] fun v2 =>
    P1 (.idx [.sl [.sc, .sc]]) [x6, x0] fun v3 =>
    P1 (.app [.sc, .sc] 16) [v2, v3] fun v4 =>
    P1 (.lst [.sl [.sc, .sc]] false 1) [v4] fun v5 =>
    P1 (.app [.sl [.sc, .sc]] 24) [x2, v5] fun v6 =>
    P1 (.bin .add) [x0, .int .i64 1] fun v7 =>
    Q .normal [v7, x1, v6, x3, x4, x5, x6, x7, x8, x9, x10]) (
    Q (.exit 0) [x1, x2, x7, x8, x9, x10])) := by kernel_rfl

def spec_l37Copy_r1 : L := .seq (.rg []) (.ret [.v 4, .v 5, .v 0, .v 1])
theorem spec_l37Copy_r1_sh (Q : QT) (x0 x1 x2 x3 x4 x5 : V) : shL spec_l37Copy_r1 Q [x0, x1, x2, x3, x4, x5] = (
  Q .ret [x4, x5, x0, x1]) := by kernel_rfl

def spec_l37Copy_L : L := .seq (.rg []) (.seq (.rg [⟨[], .call F_l06Copy 0 3, [.v 0, .v 1, .v 2], 3⟩]) (.seq (.seq (.rg []) (.block 0 (.seq (.tup [.k (.int .i64 0), .v 6, .k (.list [.sl [.sc, .sc]] []), .v 0, .v 1, .v 2, .v 3, .k (.int .i64 0), .k (.int .i64 0), .v 4, .v 5]) (.loop (spec_l37Copy_b0))))) (spec_l37Copy_r1)))
theorem spec_l37Copy_L_sh (Q : QT) (x0 x1 x2 x3 : V) : shL spec_l37Copy_L Q [x0, x1, x2, x3] = (
  P3 (.call F_l06Copy 0 3) [x0, x1, x2] fun v0 v1 v2 =>
  shL (.loop spec_l37Copy_b0) (qB 0 (qS (shL spec_l37Copy_r1 Q) Q)) [.int .i64 0, v2, .list [.sl [.sc, .sc]] [], x0, x1, x2, x3, .int .i64 0, .int .i64 0, v0, v1]) := by kernel_rfl
def spec_l37Copy_S : Sig := ⟨[.val true [.sc, .sc, .sl [.sc, .sc], .sl [.sl [.sc, .sc]]]], [(true, [.sc, .sc, .sl [.sc, .sc], .sl [.sl [.sc, .sc]]])], F_l37Copy⟩
def spec_l37Copy_hs : List NF := [⟨[(2, .ptr 64 0), (3, .ptr 65 0)], [(66, true, []), (67, true, [.sl [.sc, .sc]])], [(64, [.sc, .sc, .nil, .nil]), (65, [.sc, .sc, .own 66, .own 67])], 68⟩, ⟨[(1, .ptr 64 0), (2, .ptr 65 0), (3, .ptr 66 0), (4, .sc false [.sc])], [(67, true, []), (68, true, [.sl [.sc, .sc]])], [(64, [.sc, .sc, .ro [.sc, .sc], .ro [.sl [.sc, .sc]]]), (65, [.sc, .sc, .nil, .nil]), (66, [.sc, .sc, .own 67, .own 68])], 69⟩, ⟨[(1, .ptr 64 0), (2, .ptr 65 0), (3, .ptr 66 0), (4, .sc false [.sc])], [(67, true, []), (68, true, [.sl [.sc, .sc]])], [(64, [.sc, .sc, .ro [.sc, .sc], .ro [.sl [.sc, .sc]]]), (65, [.sc, .sc, .nil, .nil]), (66, [.sc, .sc, .own 67, .own 68])], 69⟩]

def laws_szIntS_L : L := .seq (.rg []) (.seq (.rg [⟨[], .len, [.v 0], 1⟩, ⟨[], .bin .sub, [.v 1, .v 2], 1⟩]) (.seq (.seq (.rg [⟨[], .bin .lss, [.v 3, .k (.int .i64 0)], 1⟩]) (.ite (.v 4) (.seq (.rg []) (.ret [.k (.int .i64 (-1))])) (.skip))) (.seq (.rg []) (.ret [.v 3]))))
theorem laws_szIntS_L_sh (Q : QT) (x0 x1 : V) : shL laws_szIntS_L Q [x0, x1] = (
  P1 (.len) [x0] fun v0 =>
  P1 (.bin .sub) [x1, v0] fun v1 =>
  P1 (.bin .lss) [v1, .int .i64 0] fun v2 =>
  ifB v2 (
    Q .ret [.int .i64 (-1)]) (
    Q .ret [v1])) := by kernel_rfl
def laws_szIntS_S : Sig := ⟨[.val false [.sl [.sc]], .val false [.sc]], [(false, [.sc])], F_szIntS⟩
def laws_szIntS_hs : List NF := []

def laws_szWorkshop_L : L := .seq (.rg []) (.seq (.rg [⟨[], .call F_szBench 0 1, [.v 0, .v 1, .v 2, .v 3, .v 10], 1⟩]) (.seq (.seq (.rg [⟨[], .bin .lss, [.v 11, .k (.int .i64 0)], 1⟩]) (.ite (.v 12) (.seq (.rg []) (.ret [.k (.int .i64 (-1))])) (.skip))) (.seq (.rg [⟨[], .call F_szIntS 0 1, [.v 4, .v 11], 1⟩]) (.seq (.seq (.rg [⟨[], .bin .lss, [.v 13, .k (.int .i64 0)], 1⟩]) (.ite (.v 14) (.seq (.rg []) (.ret [.k (.int .i64 (-1))])) (.skip))) (.seq (.rg []) (.ret [.v 13]))))))
theorem laws_szWorkshop_L_sh (Q : QT) (x0 x1 x2 x3 x4 x5 x6 x7 x8 x9 x10 : V) : shL laws_szWorkshop_L Q [x0, x1, x2, x3, x4, x5, x6, x7, x8, x9, x10] = (
  P1 (.call F_szBench 0 1) [x0, x1, x2, x3, x10] fun v0 =>
  P1 (.bin .lss) [v0, .int .i64 0] fun v1 =>
  ifB v1 (
    Q .ret [.int .i64 (-1)]) (
    P1 (.call F_szIntS 0 1) [x4, v0] fun v2 =>
    P1 (.bin .lss) [v2, .int .i64 0] fun v3 =>
    ifB v3 (
      Q .ret [.int .i64 (-1)]) (
      Q .ret [v2]))) := by kernel_rfl
def laws_szWorkshop_S : Sig := ⟨[.val true [.sc, .sc, .sl [.sc, .sc], .sl [.sl [.sc, .sc]], .sl [.sc], .sc, .sc, .sc, .sc, .sc], .val false [.sc]], [(false, [.sc])], F_szWorkshop⟩
def laws_szWorkshop_hs : List NF := []

def laws_toSpring_L : L := .seq (.rg []) (.seq (.rg []) (.seq (.rg []) (.seq (.rg []) (.seq (.rg []) (.seq (.rg []) (.ret [.v 0, .v 1, .v 2]))))))
theorem laws_toSpring_L_sh (Q : QT) (x0 x1 x2 : V) : shL laws_toSpring_L Q [x0, x1, x2] = (
  Q .ret [x0, x1, x2]) := by kernel_rfl
def laws_toSpring_S : Sig := ⟨[.val true [.sc, .sc, .sc]], [(true, [.sc, .sc, .sc])], F_toSpring⟩
def laws_toSpring_hs : List NF := []

def laws_toWorkshop_L : L := .seq (.rg []) (.seq (.rg []) (.seq (.rg [⟨[], .call F_toBench 0 4, [.v 0, .v 1, .v 2, .v 3], 4⟩]) (.seq (.rg [⟨[], .call F_toIntS 0 1, [.v 4], 1⟩]) (.seq (.rg [⟨[], .call F_toSpring 0 3, [.v 5, .v 6, .v 7], 3⟩]) (.seq (.rg []) (.seq (.rg []) (.seq (.rg []) (.ret [.v 10, .v 11, .v 12, .v 13, .v 14, .v 15, .v 16, .v 17, .v 8, .v 9]))))))))
theorem laws_toWorkshop_L_sh (Q : QT) (x0 x1 x2 x3 x4 x5 x6 x7 x8 x9 : V) : shL laws_toWorkshop_L Q [x0, x1, x2, x3, x4, x5, x6, x7, x8, x9] = (
  P4 (.call F_toBench 0 4) [x0, x1, x2, x3] fun v0 v1 v2 v3 =>
  P1 (.call F_toIntS 0 1) [x4] fun v4 =>
  P3 (.call F_toSpring 0 3) [x5, x6, x7] fun v5 v6 v7 =>
  Q .ret [v0, v1, v2, v3, v4, v5, v6, v7, x8, x9]) := by kernel_rfl
def laws_toWorkshop_S : Sig := ⟨[.val true [.sc, .sc, .sl [.sc, .sc], .sl [.sl [.sc, .sc]], .sl [.sc], .sc, .sc, .sc, .sc, .sc]], [(true, [.sc, .sc, .sl [.sc, .sc], .sl [.sl [.sc, .sc]], .sl [.sc], .sc, .sc, .sc, .sc, .sc])], F_toWorkshop⟩
def laws_toWorkshop_hs : List NF := []

def spec_CombOk_b0 : L := .seq (.seq (.seq (.rg [⟨[], .len, [.v 0], 1⟩, ⟨[], .bin .lss, [.v 1, .v 2], 1⟩]) (.ite (.v 3) (.skip) (.seq (.tup [.v 0]) (.exit 0)))) (.seq (.block 1 (.seq (.seq (.rg [⟨[], .idx [.sc], [.v 0, .v 1], 1⟩, ⟨[], .call F_l01In 0 1, [.v 4, .k (.int .i64 0), .k (.int .i64 60)], 1⟩, ⟨[], .un .not, [.v 5], 1⟩, ⟨[(.v 6, false)], .bin .gtr, [.v 1, .k (.int .i64 0)], 1⟩, ⟨[(.v 6, false), (.v 7, true)], .idx [.sc], [.v 0, .v 1], 1⟩, ⟨[(.v 6, false), (.v 7, true)], .bin .sub, [.v 1, .k (.int .i64 1)], 1⟩, ⟨[(.v 6, false), (.v 7, true)], .idx [.sc], [.v 0, .v 9], 1⟩, ⟨[(.v 6, false), (.v 7, true)], .bin .lss, [.v 8, .v 10], 1⟩, ⟨[(.v 6, false)], .pick, [.v 7, .v 11, .k (.bool false)], 1⟩, ⟨[], .pick, [.v 6, .k (.bool true), .v 12], 1⟩]) (.ite (.v 13) (.seq (.rg []) (.ret [.k (.bool false)])) (.skip))) (.tup [.v 0, .v 1]))) (.rg [⟨[], .bin .add, [.v 1, .k (.int .i64 1)], 1⟩]))) (.tup [.v 0, .v 2])
theorem spec_CombOk_b0_sh (Q : QT) (x0 x1 : V) : shL spec_CombOk_b0 Q [x0, x1] = (
  P1 (.len) [x0] fun v0 =>
  P1 (.bin .lss) [x1, v0] fun v1 =>
  ifB v1 (
    P1 (.idx [.sc]) [x0, x1] fun v2 =>
    P1 (.call F_l01In 0 1) [v2, .int .i64 0, .int .i64 60] fun v3 =>
    P1 (.un .not) [v3] fun v4 =>
    ifB v4 (
      Q .ret [.bool false]) (
      P1 (.bin .gtr) [x1, .int .i64 0] fun v5 =>
      ifB v5 (
        P1 (.idx [.sc]) [x0, x1] fun v6 =>
        P1 (.bin .sub) [x1, .int .i64 1] fun v7 =>
        P1 (.idx [.sc]) [x0, v7] fun v8 =>
        P1 (.bin .lss) [v6, v8] fun v9 =>
        ifB v9 (
          Q .ret [.bool false]) (
          P1 (.bin .add) [x1, .int .i64 1] fun v10 =>
          Q .normal [x0, v10])) (
        P1 (.bin .add) [x1, .int .i64 1] fun v11 =>
        Q .normal [x0, v11]))) (
    Q (.exit 0) [x0])) := by kernel_rfl

def spec_CombOk_r1 : L := .seq (.rg [⟨[], .len, [.v 0], 1⟩, ⟨[], .call F_l01In 0 1, [.v 1, .k (.int .i64 1), .k (.int .i64 24)], 1⟩]) (.ret [.v 2])
theorem spec_CombOk_r1_sh (Q : QT) (x0 : V) : shL spec_CombOk_r1 Q [x0] = (
  P1 (.len) [x0] fun v0 =>
  P1 (.call F_l01In 0 1) [v0, .int .i64 1, .int .i64 24] fun v1 =>
  Q .ret [v1]) := by kernel_rfl

def spec_CombOk_L : L := .seq (.rg []) (.seq (.seq (.rg []) (.block 0 (.seq (.tup [.v 0, .k (.int .i64 0)]) (.loop (spec_CombOk_b0))))) (spec_CombOk_r1))
theorem spec_CombOk_L_sh (Q : QT) (x0 : V) : shL spec_CombOk_L Q [x0] = (
  shL (.loop spec_CombOk_b0) (qB 0 (qS (shL spec_CombOk_r1 Q) Q)) [x0, .int .i64 0]) := by kernel_rfl
def spec_CombOk_S : Sig := ⟨[.val false [.sl [.sc]]], [(false, [.sc])], F_CombOk⟩
def spec_CombOk_hs : List NF := [⟨[(0, .sc false [.ro [.sc]])], [], [], 64⟩, ⟨[(0, .sc false [.ro [.sc]]), (3, .sc false [.sc])], [], [], 64⟩, ⟨[(0, .sc false [.ro [.sc]]), (3, .sc false [.sc])], [], [], 64⟩]

def spec_SpringOk_L : L := .seq (.rg []) (.seq (.rg [⟨[], .call F_l01In 0 1, [.v 1, .k (.int .i64 1), .k (.int .i64 50)], 1⟩, ⟨[(.v 3, true)], .call F_l01In 0 1, [.v 0, .k (.int .i64 0), .v 1], 1⟩, ⟨[], .pick, [.v 3, .v 4, .k (.bool false)], 1⟩, ⟨[(.v 5, true)], .call F_l01In 0 1, [.v 2, .k (.int .i64 1), .k (.int .i64 10000)], 1⟩, ⟨[], .pick, [.v 5, .v 6, .k (.bool false)], 1⟩]) (.ret [.v 7]))
theorem spec_SpringOk_L_sh (Q : QT) (x0 x1 x2 : V) : shL spec_SpringOk_L Q [x0, x1, x2] = (
  P1 (.call F_l01In 0 1) [x1, .int .i64 1, .int .i64 50] fun v0 =>
  ifB v0 (
    P1 (.call F_l01In 0 1) [x0, .int .i64 0, x1] fun v1 =>
    ifB v1 (
      P1 (.call F_l01In 0 1) [x2, .int .i64 1, .int .i64 10000] fun v2 =>
      Q .ret [v2]) (
      Q .ret [.bool false])) (
    Q .ret [.bool false])) := by kernel_rfl
def spec_SpringOk_S : Sig := ⟨[.val true [.sc, .sc, .sc]], [(false, [.sc])], F_SpringOk⟩
def spec_SpringOk_hs : List NF := []

def spec_WorkshopOk_L : L := .seq (.rg []) (.seq (.rg [⟨[], .call F_BenchOk 0 1, [.v 0, .v 1, .v 2, .v 3], 1⟩, ⟨[(.v 10, true)], .call F_CombOk 0 1, [.v 4], 1⟩, ⟨[], .pick, [.v 10, .v 11, .k (.bool false)], 1⟩, ⟨[(.v 12, true)], .call F_SpringOk 0 1, [.v 5, .v 6, .v 7], 1⟩, ⟨[], .pick, [.v 12, .v 13, .k (.bool false)], 1⟩, ⟨[(.v 14, true)], .len, [.v 4], 1⟩, ⟨[(.v 14, true)], .bin .eql, [.v 1, .v 15], 1⟩, ⟨[], .pick, [.v 14, .v 16, .k (.bool false)], 1⟩, ⟨[(.v 17, true)], .call F_l01In 0 1, [.v 8, .k (.int .i64 0), .k (.int .i64 1000000)], 1⟩, ⟨[], .pick, [.v 17, .v 18, .k (.bool false)], 1⟩, ⟨[(.v 19, true)], .call F_l01In 0 1, [.v 9, .k (.int .i64 0), .k (.int .i64 1000000)], 1⟩, ⟨[], .pick, [.v 19, .v 20, .k (.bool false)], 1⟩]) (.ret [.v 21]))
theorem spec_WorkshopOk_L_sh (Q : QT) (x0 x1 x2 x3 x4 x5 x6 x7 x8 x9 : V) : shL spec_WorkshopOk_L Q [x0, x1, x2, x3, x4, x5, x6, x7, x8, x9] = (
  P1 (.call F_BenchOk 0 1) [x0, x1, x2, x3] fun v0 =>
  ifB v0 (
    P1 (.call F_CombOk 0 1) [x4] fun v1 =>
    ifB v1 (
      P1 (.call F_SpringOk 0 1) [x5, x6, x7] fun v2 =>
      ifB v2 (
        P1 (.len) [x4] fun v3 =>
        P1 (.bin .eql) [x1, v3] fun v4 =>
        ifB v4 (
          P1 (.call F_l01In 0 1) [x8, .int .i64 0, .int .i64 1000000] fun v5 =>
          ifB v5 (
            P1 (.call F_l01In 0 1) [x9, .int .i64 0, .int .i64 1000000] fun v6 =>
            Q .ret [v6]) (
            Q .ret [.bool false])) (
          Q .ret [.bool false])) (
        Q .ret [.bool false])) (
      Q .ret [.bool false])) (
    Q .ret [.bool false])) := by kernel_rfl
def spec_WorkshopOk_S : Sig := ⟨[.val true [.sc, .sc, .sl [.sc, .sc], .sl [.sl [.sc, .sc]], .sl [.sc], .sc, .sc, .sc, .sc, .sc]], [(false, [.sc])], F_WorkshopOk⟩
def spec_WorkshopOk_hs : List NF := []

def impl_CombOk_b0 : L := .seq (.seq (.rg [⟨[], .bin .lss, [.v 3, .v 2], 1⟩]) (.seq (.ite (.v 4) (.skip) (.seq (.tup []) (.exit 0))) (.seq (.block 1 (.seq (.seq (.rg [⟨[], .idx [.sc], [.v 1, .v 3], 1⟩]) (.seq (.rg [⟨[], .call F_within 0 1, [.v 5, .k (.int .i64 0), .k (.int .i64 60)], 1⟩, ⟨[], .un .not, [.v 6], 1⟩, ⟨[(.v 7, false)], .bin .gtr, [.v 3, .k (.int .i64 0)], 1⟩, ⟨[(.v 7, false), (.v 8, true)], .bin .sub, [.v 3, .k (.int .i64 1)], 1⟩, ⟨[(.v 7, false), (.v 8, true)], .idx [.sc], [.v 0, .v 9], 1⟩, ⟨[(.v 7, false), (.v 8, true)], .bin .gtr, [.v 10, .v 5], 1⟩, ⟨[(.v 7, false)], .pick, [.v 8, .v 11, .k (.bool false)], 1⟩, ⟨[], .pick, [.v 7, .k (.bool true), .v 12], 1⟩]) (.ite (.v 13) (.seq (.rg []) (.ret [.k (.bool false)])) (.skip)))) (.tup [.v 0, .v 1, .v 2, .v 3]))) (.rg [⟨[], .bin .add, [.v 3, .k (.int .i64 1)], 1⟩])))) (.tup [.v 0, .v 1, .v 2, .v 4])
theorem impl_CombOk_b0_sh (Q : QT) (x0 x1 x2 x3 : V) : shL impl_CombOk_b0 Q [x0, x1, x2, x3] = (
  P1 (.bin .lss) [x3, x2] fun v0 =>
  ifB v0 (
    P1 (.idx [.sc]) [x1, x3] fun v1 =>
    P1 (.call F_within 0 1) [v1, .int .i64 0, .int .i64 60] fun v2 =>
    P1 (.un .not) [v2] fun v3 =>
    ifB v3 (
      Q .ret [.bool false]) (
      P1 (.bin .gtr) [x3, .int .i64 0] fun v4 =>
      ifB v4 (
        P1 (.bin .sub) [x3, .int .i64 1] fun v5 =>
        P1 (.idx [.sc]) [x0, v5] fun v6 =>
        P1 (.bin .gtr) [v6, v1] fun v7 =>
        ifB v7 (
          Q .ret [.bool false]) (
          P1 (.bin .add) [x3, .int .i64 1] fun v8 =>
          Q .normal [x0, x1, x2, v8])) (
        P1 (.bin .add) [x3, .int .i64 1] fun v9 =>
        Q .normal [x0, x1, x2, v9]))) (
    Q (.exit 0) [])) := by kernel_rfl

def impl_CombOk_r1 : L := .seq (.rg []) (.ret [.k (.bool true)])
theorem impl_CombOk_r1_sh (Q : QT) : shL impl_CombOk_r1 Q [] = (
  Q .ret [.bool true]) := by kernel_rfl

def impl_CombOk_L : L := .seq (.rg []) (.seq (.seq (.rg [⟨[], .len, [.v 0], 1⟩, ⟨[], .bin .lss, [.v 1, .k (.int .i64 1)], 1⟩, ⟨[(.v 2, false)], .len, [.v 0], 1⟩, ⟨[(.v 2, false)], .bin .gtr, [.v 3, .k (.int .i64 24)], 1⟩, ⟨[], .pick, [.v 2, .k (.bool true), .v 4], 1⟩]) (.ite (.v 5) (.seq (.rg []) (.ret [.k (.bool false)])) (.skip))) (.seq (.seq (.rg [⟨[], .len, [.v 0], 1⟩]) (.block 0 (.seq (.tup [.v 0, .v 0, .v 6, .k (.int .i64 0)]) (.loop (impl_CombOk_b0))))) (impl_CombOk_r1)))
theorem impl_CombOk_L_sh (Q : QT) (x0 : V) : shL impl_CombOk_L Q [x0] = (
  P1 (.len) [x0] fun v0 =>
  P1 (.bin .lss) [v0, .int .i64 1] fun v1 =>
  ifB v1 (
    Q .ret [.bool false]) (
    P1 (.len) [x0] fun v2 =>
    P1 (.bin .gtr) [v2, .int .i64 24] fun v3 =>
    ifB v3 (
      Q .ret [.bool false]) (
      P1 (.len) [x0] fun v4 =>
      shL (.loop impl_CombOk_b0) (qB 0 (qS (shL impl_CombOk_r1 Q) Q)) [x0, x0, v4, .int .i64 0]))) := by kernel_rfl
def impl_CombOk_S : Sig := ⟨[.val false [.sl [.sc]]], [(false, [.sc])], F_CombOk⟩
def impl_CombOk_hs : List NF := [⟨[], [], [], 64⟩, ⟨[(0, .sc false [.ro [.sc]]), (13, .sc false [.ro [.sc]]), (14, .sc false [.sc]), (15, .sc false [.sc])], [], [], 64⟩, ⟨[(0, .sc false [.ro [.sc]]), (13, .sc false [.ro [.sc]]), (14, .sc false [.sc]), (15, .sc false [.sc])], [], [], 64⟩]

def impl_SpringOk_L : L := .seq (.rg []) (.seq (.rg [⟨[], .call F_within 0 1, [.v 1, .k (.int .i64 1), .k (.int .i64 50)], 1⟩, ⟨[(.v 3, true)], .call F_within 0 1, [.v 0, .k (.int .i64 0), .v 1], 1⟩, ⟨[], .pick, [.v 3, .v 4, .k (.bool false)], 1⟩, ⟨[(.v 5, true)], .call F_within 0 1, [.v 2, .k (.int .i64 1), .k (.int .i64 10000)], 1⟩, ⟨[], .pick, [.v 5, .v 6, .k (.bool false)], 1⟩]) (.ret [.v 7]))
theorem impl_SpringOk_L_sh (Q : QT) (x0 x1 x2 : V) : shL impl_SpringOk_L Q [x0, x1, x2] = (
  P1 (.call F_within 0 1) [x1, .int .i64 1, .int .i64 50] fun v0 =>
  ifB v0 (
    P1 (.call F_within 0 1) [x0, .int .i64 0, x1] fun v1 =>
    ifB v1 (
      P1 (.call F_within 0 1) [x2, .int .i64 1, .int .i64 10000] fun v2 =>
      Q .ret [v2]) (
      Q .ret [.bool false])) (
    Q .ret [.bool false])) := by kernel_rfl
def impl_SpringOk_S : Sig := ⟨[.val true [.sc, .sc, .sc]], [(false, [.sc])], F_SpringOk⟩
def impl_SpringOk_hs : List NF := []

def impl_WorkshopOk_r0 : L := .seq (.rg [⟨[], .call F_within 0 1, [.v 8, .k (.int .i64 0), .k (.int .i64 1000000)], 1⟩, ⟨[(.v 21, true)], .call F_within 0 1, [.v 9, .k (.int .i64 0), .k (.int .i64 1000000)], 1⟩, ⟨[], .pick, [.v 21, .v 22, .k (.bool false)], 1⟩]) (.ret [.v 23])
theorem impl_WorkshopOk_r0_sh (Q : QT) (x0 x1 x2 x3 x4 x5 x6 x7 x8 x9 x10 x11 x12 x13 x14 x15 x16 x17 x18 x19 x20 : V) : shL impl_WorkshopOk_r0 Q [x0, x1, x2, x3, x4, x5, x6, x7, x8, x9, x10, x11, x12, x13, x14, x15, x16, x17, x18, x19, x20] = (
  P1 (.call F_within 0 1) [x8, .int .i64 0, .int .i64 1000000] fun v0 =>
  ifB v0 (
    P1 (.call F_within 0 1) [x9, .int .i64 0, .int .i64 1000000] fun v1 =>
    Q .ret [v1]) (
    Q .ret [.bool false])) := by kernel_rfl

def impl_WorkshopOk_L : L := .seq (.rg []) (.seq (.seq (.rg [⟨[], .call F_BenchOk 0 1, [.v 0, .v 1, .v 2, .v 3], 1⟩, ⟨[], .un .not, [.v 10], 1⟩, ⟨[(.v 11, false)], .call F_CombOk 0 1, [.v 4], 1⟩, ⟨[(.v 11, false)], .un .not, [.v 12], 1⟩, ⟨[], .pick, [.v 11, .k (.bool true), .v 13], 1⟩, ⟨[(.v 14, false)], .call F_SpringOk 0 1, [.v 5, .v 6, .v 7], 1⟩, ⟨[(.v 14, false)], .un .not, [.v 15], 1⟩, ⟨[], .pick, [.v 14, .k (.bool true), .v 16], 1⟩, ⟨[(.v 17, false)], .len, [.v 4], 1⟩, ⟨[(.v 17, false)], .bin .neq, [.v 1, .v 18], 1⟩, ⟨[], .pick, [.v 17, .k (.bool true), .v 19], 1⟩]) (.ite (.v 20) (.seq (.rg []) (.ret [.k (.bool false)])) (.skip))) (impl_WorkshopOk_r0))
theorem impl_WorkshopOk_L_sh (Q : QT) (x0 x1 x2 x3 x4 x5 x6 x7 x8 x9 : V) : shL impl_WorkshopOk_L Q [x0, x1, x2, x3, x4, x5, x6, x7, x8, x9] = (
  P1 (.call F_BenchOk 0 1) [x0, x1, x2, x3] fun v0 =>
  P1 (.un .not) [v0] fun v1 =>
  ifB v1 (
    Q .ret [.bool false]) (
    P1 (.call F_CombOk 0 1) [x4] fun v2 =>
    P1 (.un .not) [v2] fun v3 =>
    ifB v3 (
      Q .ret [.bool false]) (
      P1 (.call F_SpringOk 0 1) [x5, x6, x7] fun v4 =>
      P1 (.un .not) [v4] fun v5 =>
      ifB v5 (
        Q .ret [.bool false]) (
        P1 (.len) [x4] fun v6 =>
        P1 (.bin .neq) [x1, v6] fun v7 =>
        ifB v7 (
          Q .ret [.bool false]) (
          shL impl_WorkshopOk_r0 Q [x0, x1, x2, x3, x4, x5, x6, x7, x8, x9, v0, .bool false, v2, v3, .bool false, v4, v5, .bool false, v6, v7, .bool false]))))) := by kernel_rfl
def impl_WorkshopOk_S : Sig := ⟨[.val true [.sc, .sc, .sl [.sc, .sc], .sl [.sl [.sc, .sc]], .sl [.sc], .sc, .sc, .sc, .sc, .sc]], [(false, [.sc])], F_WorkshopOk⟩
def impl_WorkshopOk_hs : List NF := []

def laws_eqSpring_L : L := .seq (.rg []) (.seq (.seq (.rg [⟨[], .bin .neq, [.v 0, .v 3], 1⟩]) (.ite (.v 6) (.seq (.rg []) (.ret [.k (.bool false)])) (.skip))) (.seq (.seq (.rg [⟨[], .bin .neq, [.v 1, .v 4], 1⟩]) (.ite (.v 7) (.seq (.rg []) (.ret [.k (.bool false)])) (.skip))) (.seq (.seq (.rg [⟨[], .bin .neq, [.v 2, .v 5], 1⟩]) (.ite (.v 8) (.seq (.rg []) (.ret [.k (.bool false)])) (.skip))) (.seq (.rg []) (.ret [.k (.bool true)])))))
theorem laws_eqSpring_L_sh (Q : QT) (x0 x1 x2 x3 x4 x5 : V) : shL laws_eqSpring_L Q [x0, x1, x2, x3, x4, x5] = (
  P1 (.bin .neq) [x0, x3] fun v0 =>
  ifB v0 (
    Q .ret [.bool false]) (
    P1 (.bin .neq) [x1, x4] fun v1 =>
    ifB v1 (
      Q .ret [.bool false]) (
      P1 (.bin .neq) [x2, x5] fun v2 =>
      ifB v2 (
        Q .ret [.bool false]) (
        Q .ret [.bool true])))) := by kernel_rfl
def laws_eqSpring_S : Sig := ⟨[.val true [.sc, .sc, .sc], .val true [.sc, .sc, .sc]], [(false, [.sc])], F_eqSpring⟩
def laws_eqSpring_hs : List NF := []

def laws_eqWorkshop_L : L := .seq (.rg []) (.seq (.seq (.rg [⟨[], .call F_eqBench 0 1, [.v 0, .v 1, .v 2, .v 3, .v 10, .v 11, .v 12, .v 13], 1⟩, ⟨[], .un .not, [.v 20], 1⟩]) (.ite (.v 21) (.seq (.rg []) (.ret [.k (.bool false)])) (.skip))) (.seq (.seq (.rg [⟨[], .call F_eqIntS 0 1, [.v 4, .v 14], 1⟩, ⟨[], .un .not, [.v 22], 1⟩]) (.ite (.v 23) (.seq (.rg []) (.ret [.k (.bool false)])) (.skip))) (.seq (.seq (.rg [⟨[], .call F_eqSpring 0 1, [.v 5, .v 6, .v 7, .v 15, .v 16, .v 17], 1⟩, ⟨[], .un .not, [.v 24], 1⟩]) (.ite (.v 25) (.seq (.rg []) (.ret [.k (.bool false)])) (.skip))) (.seq (.seq (.rg [⟨[], .bin .neq, [.v 8, .v 18], 1⟩]) (.ite (.v 26) (.seq (.rg []) (.ret [.k (.bool false)])) (.skip))) (.seq (.seq (.rg [⟨[], .bin .neq, [.v 9, .v 19], 1⟩]) (.ite (.v 27) (.seq (.rg []) (.ret [.k (.bool false)])) (.skip))) (.seq (.rg []) (.ret [.k (.bool true)])))))))
theorem laws_eqWorkshop_L_sh (Q : QT) (x0 x1 x2 x3 x4 x5 x6 x7 x8 x9 x10 x11 x12 x13 x14 x15 x16 x17 x18 x19 : V) : shL laws_eqWorkshop_L Q [x0, x1, x2, x3, x4, x5, x6, x7, x8, x9, x10, x11, x12, x13, x14, x15, x16, x17, x18, x19] = (
  P1 (.call F_eqBench 0 1) [x0, x1, x2, x3, x10, x11, x12, x13] fun v0 =>
  P1 (.un .not) [v0] fun v1 =>
  ifB v1 (
    Q .ret [.bool false]) (
    P1 (.call F_eqIntS 0 1) [x4, x14] fun v2 =>
    P1 (.un .not) [v2] fun v3 =>
    ifB v3 (
      Q .ret [.bool false]) (
      P1 (.call F_eqSpring 0 1) [x5, x6, x7, x15, x16, x17] fun v4 =>
      P1 (.un .not) [v4] fun v5 =>
      ifB v5 (
        Q .ret [.bool false]) (
        P1 (.bin .neq) [x8, x18] fun v6 =>
        ifB v6 (
          Q .ret [.bool false]) (
          P1 (.bin .neq) [x9, x19] fun v7 =>
          ifB v7 (
            Q .ret [.bool false]) (
            Q .ret [.bool true])))))) := by kernel_rfl
def laws_eqWorkshop_S : Sig := ⟨[.val true [.sc, .sc, .sl [.sc, .sc], .sl [.sl [.sc, .sc]], .sl [.sc], .sc, .sc, .sc, .sc, .sc], .val true [.sc, .sc, .sl [.sc, .sc], .sl [.sl [.sc, .sc]], .sl [.sc], .sc, .sc, .sc, .sc, .sc]], [(false, [.sc])], F_eqWorkshop⟩
def laws_eqWorkshop_hs : List NF := []

def spec_PullPin_L : L := .seq (.rg []) (.seq (.rg [⟨[], .call F_l06Copy 0 3, [.v 0, .v 1, .v 2], 3⟩]) (.seq (.seq (.rg [⟨[], .call F_CylinderOk 0 1, [.v 0, .v 1, .v 2], 1⟩, ⟨[], .un .not, [.v 7], 1⟩, ⟨[(.v 8, false)], .len, [.v 2], 1⟩, ⟨[(.v 8, false)], .bin .sub, [.v 9, .k (.int .i64 1)], 1⟩, ⟨[(.v 8, false)], .call F_l01In 0 1, [.v 3, .k (.int .i64 0), .v 10], 1⟩, ⟨[(.v 8, false)], .un .not, [.v 11], 1⟩, ⟨[], .pick, [.v 8, .k (.bool true), .v 12], 1⟩]) (.ite (.v 13) (.seq (.rg []) (.ret [.v 4, .v 5, .v 6, .k (.bool false)])) (.skip))) (.seq (.rg [⟨[], .lst [.sc, .sc] true 0, [], 1⟩, ⟨[], .lsub [.sc, .sc], [.v 2, .k (.int .i64 0), .v 3], 1⟩, ⟨[], .app [.sc, .sc] 16, [.v 14, .v 15], 1⟩, ⟨[], .bin .add, [.v 3, .k (.int .i64 1)], 1⟩, ⟨[], .lsub [.sc, .sc], [.v 2, .v 17], 1⟩, ⟨[], .app [.sc, .sc] 16, [.v 16, .v 18], 1⟩]) (.seq (.rg []) (.ret [.v 4, .v 5, .v 19, .k (.bool true)])))))
theorem spec_PullPin_L_sh (Q : QT) (x0 x1 x2 x3 : V) : shL spec_PullPin_L Q [x0, x1, x2, x3] = (
  P3 (.call F_l06Copy 0 3) [x0, x1, x2] fun v0 v1 v2 =>
  P1 (.call F_CylinderOk 0 1) [x0, x1, x2] fun v3 =>
  P1 (.un .not) [v3] fun v4 =>
  ifB v4 (
    Q .ret [v0, v1, v2, .bool false]) (
    P1 (.len) [x2] fun v5 =>
    P1 (.bin .sub) [v5, .int .i64 1] fun v6 =>
    P1 (.call F_l01In 0 1) [x3, .int .i64 0, v6] fun v7 =>
    P1 (.un .not) [v7] fun v8 =>
    ifB v8 (
      Q .ret [v0, v1, v2, .bool false]) (
      P1 (.lst [.sc, .sc] true 0) [] fun v9 =>
      P1 (.lsub [.sc, .sc]) [x2, .int .i64 0, x3] fun v10 =>
      P1 (.app [.sc, .sc] 16) [v9, v10] fun v11 =>
      P1 (.bin .add) [x3, .int .i64 1] fun v12 =>
      P1 (.lsub [.sc, .sc]) [x2, v12] fun v13 =>
      P1 (.app [.sc, .sc] 16) [v11, v13] fun v14 =>
      Q .ret [v0, v1, v14, .bool true]))) := by kernel_rfl
def spec_PullPin_S : Sig := ⟨[.val true [.sc, .sc, .sl [.sc, .sc]], .val false [.sc]], [(true, [.sc, .sc, .sl [.sc, .sc]]), (false, [.sc])], F_PullPin⟩
def spec_PullPin_hs : List NF := []

def spec_OpenWorkshop_L : L := .seq (.rg []) (.seq (.rg [⟨[], .len, [.v 1], 1⟩, ⟨[], .call F_NewBench 0 5, [.v 0, .v 3], 5⟩]) (.seq (.rg [⟨[], .lst [.sc] false 0, [], 1⟩, ⟨[], .app [.sc] 8, [.v 9, .v 1], 1⟩]) (.seq (.seq (.rg [⟨[], .un .not, [.v 8], 1⟩, ⟨[(.v 11, false)], .call F_WorkshopOk 0 1, [.v 4, .v 5, .v 6, .v 7, .v 10, .k (.int .i64 0), .k (.int .i64 10), .k (.int .i64 100), .v 2, .k (.int .i64 0)], 1⟩, ⟨[(.v 11, false)], .un .not, [.v 12], 1⟩, ⟨[], .pick, [.v 11, .k (.bool true), .v 13], 1⟩]) (.ite (.v 14) (.seq (.rg []) (.ret [.k (.int .i64 0), .k (.int .i64 0), .k (.list [.sc, .sc] []), .k (.list [.sl [.sc, .sc]] []), .k (.list [.sc] []), .k (.int .i64 0), .k (.int .i64 0), .k (.int .i64 0), .k (.int .i64 0), .k (.int .i64 0), .k (.bool false)])) (.skip))) (.seq (.rg []) (.ret [.v 4, .v 5, .v 6, .v 7, .v 10, .k (.int .i64 0), .k (.int .i64 10), .k (.int .i64 100), .v 2, .k (.int .i64 0), .k (.bool true)])))))
theorem spec_OpenWorkshop_L_sh (Q : QT) (x0 x1 x2 : V) : shL spec_OpenWorkshop_L Q [x0, x1, x2] = (
  P1 (.len) [x1] fun v0 =>
  P5 (.call F_NewBench 0 5) [x0, v0] fun v1 v2 v3 v4 v5 =>
  P1 (.lst [.sc] false 0) [] fun v6 =>
  P1 (.app [.sc] 8) [v6, x1] fun v7 =>
  P1 (.un .not) [v5] fun v8 =>
  ifB v8 (
    Q .ret [.int .i64 0, .int .i64 0, .list [.sc, .sc] [], .list [.sl [.sc, .sc]] [], .list [.sc] [], .int .i64 0, .int .i64 0, .int .i64 0, .int .i64 0, .int .i64 0, .bool false]) (
    P1 (.call F_WorkshopOk 0 1) [v1, v2, v3, v4, v7, .int .i64 0, .int .i64 10, .int .i64 100, x2, .int .i64 0] fun v9 =>
    P1 (.un .not) [v9] fun v10 =>
    ifB v10 (
      Q .ret [.int .i64 0, .int .i64 0, .list [.sc, .sc] [], .list [.sl [.sc, .sc]] [], .list [.sc] [], .int .i64 0, .int .i64 0, .int .i64 0, .int .i64 0, .int .i64 0, .bool false]) (
      Q .ret [v1, v2, v3, v4, v7, .int .i64 0, .int .i64 10, .int .i64 100, x2, .int .i64 0, .bool true]))) := by kernel_rfl
def spec_OpenWorkshop_S : Sig := ⟨[.val false [.sc], .val false [.sl [.sc]], .val false [.sc]], [(true, [.sc, .sc, .sl [.sc, .sc], .sl [.sl [.sc, .sc]], .sl [.sc], .sc, .sc, .sc, .sc, .sc]), (false, [.sc])], F_OpenWorkshop⟩
def spec_OpenWorkshop_hs : List NF := []

def laws_markWorkshop_L : L := .seq (.rg []) (.seq (.rg [⟨[], .callN F_markBench 2 1, [.v 0, .v 1, .v 2, .v 3, .v 10, .v 2, .v 3], 3⟩]) (.seq (.rg [⟨[], .call F_markIntS 1 1, [.v 4, .v 11, .v 4], 2⟩]) (.seq (.rg []) (.ret [.v 14, .v 12, .v 13, .v 15]))))
theorem laws_markWorkshop_L_sh (Q : QT) (x0 x1 x2 x3 x4 x5 x6 x7 x8 x9 x10 : V) : shL laws_markWorkshop_L Q [x0, x1, x2, x3, x4, x5, x6, x7, x8, x9, x10] = (
  P3 (.callN F_markBench 2 1) [x0, x1, x2, x3, x10, x2, x3] fun v0 v1 v2 =>
  P2 (.call F_markIntS 1 1) [x4, v0, x4] fun v3 v4 =>
  Q .ret [v3, v1, v2, v4]) := by kernel_rfl
def laws_markWorkshop_S : Sig := ⟨[.io true [.sc, .sc, .sl [.sc, .sc], .sl [.sl [.sc, .sc]], .sl [.sc], .sc, .sc, .sc, .sc, .sc], .val false [.sc]], [(false, [.sc])], F_markWorkshop⟩
def laws_markWorkshop_hs : List NF := []

def spec_SampleWorkshop_L : L := .seq (.rg []) (.seq (.rg [⟨[], .lst [.sc] false 4, [.k (.int .i64 12), .k (.int .i64 12), .k (.int .i64 16), .k (.int .i64 19)], 1⟩, ⟨[], .call F_OpenWorkshop 0 11, [.k (.int .i64 16), .v 0, .k (.int .i64 40)], 11⟩]) (.seq (.rg []) (.ret [.v 1, .v 2, .v 3, .v 4, .v 5, .v 6, .v 7, .v 8, .v 9, .v 10])))
theorem spec_SampleWorkshop_L_sh (Q : QT) : shL spec_SampleWorkshop_L Q [] = (
  P1 (.lst [.sc] false 4) [.int .i64 12, .int .i64 12, .int .i64 16, .int .i64 19] fun v0 =>
  P11 (.call F_OpenWorkshop 0 11) [.int .i64 16, v0, .int .i64 40] fun v1 v2 v3 v4 v5 v6 v7 v8 v9 v10 _ =>
  Q .ret [v1, v2, v3, v4, v5, v6, v7, v8, v9, v10]) := by kernel_rfl
def spec_SampleWorkshop_S : Sig := ⟨[], [(true, [.sc, .sc, .sl [.sc, .sc], .sl [.sl [.sc, .sc]], .sl [.sc], .sc, .sc, .sc, .sc, .sc])], F_SampleWorkshop⟩
def spec_SampleWorkshop_hs : List NF := []

end
end Go.Mw

/- Benches: memory. -/
namespace Go.Mw
theorem laws_szIntS_ok : ∀ ds outs, F_szIntS ds = some outs → shL laws_szIntS_L (qRet outs) ds := F_szIntS_elim fun l n hp => by
  rw [laws_szIntS_L_sh]
  simp (disch := omega) [wrap_id]
  grind

theorem sum2_succ {l : List (List T2)} {k : Nat} (h : k < l.length) : sum2 (l.take (k + 1)) = sum2 (l.take k) + l[k].length := by
  unfold sum2
  rw [take_succ_get h, List.map_append, List.sum_append_nat, List.map_cons, List.map_nil, List.sum_cons, List.sum_nil, Nat.add_zero]
theorem sum2_take (l : List (List T2)) (k : Nat) : sum2 (l.take k) ≤ sum2 l := by
  have : sum2 l = sum2 (l.take k) + sum2 (l.drop k) := by
    conv => lhs; rw [← List.take_append_drop k l]
    unfold sum2
    rw [List.map_append, List.sum_append_nat]
  omega
theorem tot2_eq (l : List (List T2)) : tot2 l = l.length + sum2 l := rfl
theorem fit_of_tot {l : List (List T2)} (h : tot2 l ≤ 1048576) : fitLL l := by
  refine ⟨by rw [tot2_eq] at h; omega, fun x hx => ?_⟩
  obtain ⟨k, hk, rfl⟩ := List.getElem_of_mem hx
  have h1 := sum2_succ hk
  have h2 := sum2_take l (k + 1)
  rw [tot2_eq] at h; omega
theorem laws_szPinSS_ok : ∀ ds outs, F_szPinSS ds = some outs → shL laws_szPinSS_L (qRet outs) ds := F_szPinSS_elim fun l n hp => by
  rw [laws_szPinSS_L_sh]
  have hsub : IntKind.i64.wrap (n - l.length) = n - l.length := by rw [wrap_id] <;> omega
  simp [hsub]
  refine ⟨fun h => ?_, fun h => ?_⟩
  · intro h2; rw [tot2_eq] at h2; omega
  refine loop_upto l.length (fun k => [vL IL2 vLL2 l, .int .i64 (n - l.length - sum2 (l.take k)), .int .i64 k]) (by intro i j _ _ h; simp at h; omega) (fun k => (sum2 (l.take k) : Int) ≤ n - l.length) (by simp [sum2]) (by simp [sum2]; omega) ?_
  intro k hk hP
  rw [laws_szPinSS_b0_sh]
  simp
  refine ⟨fun h3 => ?_, fun h3 => ?_⟩
  · have hx := hp.2.1 l[k] (by simp)
    have h4 := sum2_succ h3
    have h5 := sum2_take l (k + 1)
    simp only [List.getElem?_eq_getElem h3, Option.some.injEq, exists_eq_left']
    rw [p_szPinS ⟨hx, by omega, by omega⟩]
    by_cases h6 : (l[k].length : Int) ≤ n - l.length - sum2 (l.take k)
    · have h7 : IntKind.i64.wrap ((k : Int) + 1) = k + 1 := wrap_id (by omega) (by omega)
      simp [h6, h7, h3]
      omega
    · simp [h6]
      rw [tot2_eq]; omega
  · obtain rfl : k = l.length := by omega
    rw [List.take_length] at hP ⊢
    simp [laws_szPinSS_r1_sh]
    rw [tot2_eq]; push_cast
    rw [if_pos (by omega)]; omega
theorem laws_toPinSS_ok : ∀ ds outs, F_toPinSS ds = some outs → shL laws_toPinSS_L (qRet outs) ds := F_toPinSS_elim fun l hp => by
  rw [laws_toPinSS_L_sh]
  have hl := hp.1
  simp
  refine ⟨by omega, ?_⟩
  refine loop_upto l.length (fun k => [vL IL2 vLL2 l, .int .i64 k, vL IL2 vLL2 (l.take k ++ List.replicate (l.length - k) [])]) (by intro i j _ _ h; simp at h; omega) (fun _ => True) (by simp) trivial ?_
  intro k hk _
  rw [laws_toPinSS_b0_sh]
  simp
  refine ⟨fun h => ?_, fun h => ?_⟩
  · have hx := hp.2 l[k] (by simp)
    have hg : (l.take k ++ List.replicate (l.length - k) ([] : List T2))[k]? = some [] := fill_get h (by omega)
    simp (disch := omega) [h, fill_set h, wrap_id, p_toPinS hx, hg]
  · obtain rfl : k = l.length := by omega
    simp [laws_toPinSS_r1_sh]
theorem laws_eqPinSS_ok : ∀ ds outs, F_eqPinSS ds = some outs → shL laws_eqPinSS_L (qRet outs) ds := F_eqPinSS_elim fun l m hp => by
  rw [laws_eqPinSS_L_sh]
  have hl := hp.1.1
  simp
  refine ⟨fun h => ?_, fun hl => ?_⟩
  · rintro rfl; omega
  refine loop_upto l.length (fun k => [vL IL2 vLL2 l, vL IL2 vLL2 m, .int .i64 k]) (by intro i j _ _ h; simp at h; omega) (fun k => l.take k = m.take k) (by simp) (by simp) ?_
  intro k hk hP
  rw [laws_eqPinSS_b0_sh]
  simp
  refine ⟨fun h => ?_, fun h => ?_⟩
  · have h2 : k < m.length := by omega
    have hx := hp.1.2 l[k] (by simp)
    have hy := hp.2.2 m[k] (by simp)
    simp (disch := omega) [h, wrap_id, p_eqPinS ⟨hx, hy⟩]
    refine ⟨fun hne he => ?_, fun h3 => ?_⟩
    · subst he; exact hne rfl
    · rw [take_succ_get h, take_succ_get h2, hP, h3]
  · obtain rfl : k = l.length := by omega
    rw [List.take_length, List.take_of_length_le (by omega)] at hP
    simp [laws_eqPinSS_r1_sh, hP]
end Go.Mw

/- Benches: memory that is marked. -/
namespace Go.Mw
theorem callIn_run {F : List V → Option (List V)} {l l' : List T2} {L : List (List T2)} {k r : V} {κ : IntKind} {i : Nat} (hF : F [vL I2 v2 l, k] = some [r, vL I2 v2 l']) (h : i < L.length) :
    Prim.run (.callIn F 1 [.sl [.sc, .sc]] 0) [vL I2 v2 l, k, vL I2 v2 l, vL IL2 vLL2 L, .int κ i] = some [r, vL IL2 vLL2 (L.set i l')] := by
  simp only [vL] at hF ⊢
  simp only [Prim.run, List.length_cons, List.length_nil, List.take, List.drop, hF]
  simp [ksAll, AK.eqs_refl, aksOk, akOk, h, vLL2, vL, V.put, List.map_set, IL2]
theorem P2_inL2 {F : List V → Option (List V)} {l l' : List T2} {L : List (List T2)} {k r : V} {κ : IntKind} {i : Nat} {kk : V → V → Prop} (hF : F [vL I2 v2 l, k] = some [r, vL I2 v2 l']) (h : i < L.length) :
    P2 (.callIn F 1 [.sl [.sc, .sc]] 0) [vL I2 v2 l, k, vL I2 v2 l, vL IL2 vLL2 L, .int κ i] kk ↔ kk r (vL IL2 vLL2 (L.set i l')) :=
  P2_of (callIn_run hF h)

theorem markLL2_len : ∀ (l : List (List T2)) (k : Int), (markLL2 l k).length = l.length
  | [], _ => rfl
  | _ :: r, k => by simp [markLL2, markLL2_len r]
theorem markLL2_get : ∀ (l : List (List T2)) (k : Int) (i : Nat) (h : i < l.length), (markLL2 l k)[i]'(by rw [markLL2_len]; exact h) = markL2 l[i].length (k + 2 * sum2 (l.take i))
  | x :: r, k, 0, _ => by simp [markLL2, sum2]
  | x :: r, k, i + 1, h => by
    have := markLL2_get r (k + 2 * x.length) i (by simpa using h)
    simp only [markLL2, List.getElem_cons_succ, this, List.take_succ_cons]
    congr 1
    simp only [sum2, List.map_cons, List.sum_cons]; push_cast; omega
theorem laws_markPinSS_ok : ∀ ds outs, F_markPinSS ds = some outs → shL laws_markPinSS_L (qRet outs) ds := F_markPinSS_elim fun l k hp => by
  rw [laws_markPinSS_L_sh]
  refine loop_upto l.length (fun i => [.int .i64 (k + 2 * sum2 (l.take i)), .int .i64 i, vL IL2 vLL2 ((markLL2 l k).take i ++ l.drop i)]) (by intro i j _ _ h; simp at h; omega) (fun _ => True) (by simp [sum2]) trivial ?_
  intro i hi _
  have hl := hp.1.1
  have hml : (markLL2 l k).length = l.length := markLL2_len l k
  have hlen : ((markLL2 l k).take i ++ l.drop i).length = l.length := by simp [hml]; omega
  rw [laws_markPinSS_b0_sh]
  simp only [P1_len, P1_lss, ifB_bool, hlen, decide_eq_true_eq, decide_eq_false_iff_not]
  refine ⟨fun h => ?_, fun h => ?_⟩
  · replace h : i < l.length := by omega
    have hx := hp.1.2 l[i] (by simp)
    have h4 := sum2_succ h
    have h5 := sum2_take l (i + 1)
    have hg : ((markLL2 l k).take i ++ l.drop i)[i]? = some l[i] := mark_get hml h
    have hs := mark_set hml h
    rw [markLL2_get l k i h] at hs
    simp only [P1_idxL2, Int.toNat_natCast, hg, Option.some.injEq, exists_eq_left']
    rw [P2_inL2 (l' := markL2 l[i].length (k + 2 * sum2 (l.take i))) (r := .int .i64 (k + 2 * sum2 (l.take i) + 2 * l[i].length)) (by unfold F_markPinS; exact mkF_eq F_markPinS_inj (l[i], _) ⟨by omega, by omega, by omega⟩) (by omega)]
    simp (disch := omega) [hs, wrap_id, h4, h]
    omega
  · obtain rfl : i = l.length := by omega
    have e1 : List.take l.length (markLL2 l k) = markLL2 l k := List.take_of_length_le (by omega)
    simp [laws_markPinSS_r1_sh, e1]
end Go.Mw

/- Benches: memory; what is a fine bench. -/
namespace Go.Mw
theorem laws_szBench_ok : ∀ ds outs, F_szBench ds = some outs → shL laws_szBench_L (qRet outs) ds := F_szBench_elim fun x n hp => by
  rw [laws_szBench_L_sh, p_szCylinder (x_p := x.p) ⟨hp.1, by omega, by omega⟩]
  by_cases h : (x.p.length : Int) ≤ n
  · have h2 : ¬ n - (x.p.length : Int) < 0 := by omega
    simp only [if_pos h, P1_lss, ifB_bool, decide_eq_true_eq, decide_eq_false_iff_not]
    refine ⟨fun h3 => absurd h3 h2, fun _ => ?_⟩
    rw [p_szPinSS ⟨hp.2.1, hp.2.2.1, by omega, by omega⟩]
    by_cases h3 : (tot2 x.o : Int) ≤ n - x.p.length
    · rw [if_pos h3]
      simp
      omega
    · rw [if_neg h3]
      simp
      omega
  · rw [if_neg h]
    simp
    omega
theorem laws_toBench_ok : ∀ ds outs, F_toBench ds = some outs → shL laws_toBench_L (qRet outs) ds := F_toBench_elim fun x hp => by
  rw [laws_toBench_L_sh]
  simp [p_toCylinder, p_toPinSS, hp]
theorem laws_eqBench_ok : ∀ ds outs, F_eqBench ds = some outs → shL laws_eqBench_L (qRet outs) ds := F_eqBench_elim fun x y hp => by
  rw [laws_eqBench_L_sh]
  simp [p_eqCylinder, p_eqPinSS, hp]
  grind
theorem laws_markBench_ok : ∀ ds outs, F_markBench ds = some outs → shL laws_markBench_L (qRet outs) ds := F_markBench_elim fun x k hp => by
  rw [laws_markBench_L_sh]
  rw [p_markCylinder (x_p := x.p) ⟨by show x.p.length ≤ 4194304; omega, by omega, by omega⟩, p_markPinSS ⟨hp.2.1, by show 0 ≤ k + 2 * (x.p.length : Int); omega, by show k + 2 * (x.p.length : Int) + 2 * (sum2 x.o : Int) ≤ _; omega⟩]
  simp
theorem benchOk_iff (b : Bench) : benchOk b = true ↔ cylOk ⟨b.s, b.t, b.p⟩ = true ∧ b.o.length ≤ 30 ∧ ∀ p ∈ b.o, cylOk ⟨b.s, b.t, p⟩ = true := by
  simp [benchOk]
theorem spec_BenchOk_ok : ∀ ds outs, F_BenchOk ds = some outs → shL spec_BenchOk_L (qRet outs) ds := F_BenchOk_elim fun b hp => by
  rw [spec_BenchOk_L_sh]
  have hl := hp.2.1
  refine loop_upto b.o.length (fun k => [.int .i64 k, .int .i64 b.s, .int .i64 b.t, vL I2 v2 b.p, vL IL2 vLL2 b.o]) (by intro i j _ _ h; simp at h; omega) (fun k => ∀ p ∈ b.o.take k, cylOk ⟨b.s, b.t, p⟩ = true) (by simp) (by simp) ?_
  intro k hk hP
  rw [spec_BenchOk_b0_sh]
  simp
  refine ⟨fun h => ?_, fun h => ?_⟩
  · have hx := hp.2.2 b.o[k] (by simp)
    have hno : cylOk ⟨b.s, b.t, b.o[k]⟩ = false → benchOk b = false := by
      intro hf
      cases hc : benchOk b with
      | false => rfl
      | true => have := ((benchOk_iff b).1 hc).2.2 b.o[k] (by simp); simp [hf] at this
    simp (disch := omega) only [h, List.getElem?_eq_getElem, Option.some.injEq, exists_eq_left', wrap_id, all_take_succ h]
    rw [p_CylinderOk (x_p := b.o[k]) hx]
    cases h1 : cylOk ⟨b.s, b.t, b.o[k]⟩ <;> simp_all
  · obtain rfl : k = b.o.length := by omega
    rw [List.take_length] at hP
    rw [spec_BenchOk_r1_sh, p_CylinderOk (x_p := b.p) hp.1]
    cases h1 : cylOk ⟨b.s, b.t, b.p⟩ with
    | false => simp [benchOk, h1]
    | true =>
      have h2 : (b.o.all fun p => cylOk ⟨b.s, b.t, p⟩) = true := List.all_eq_true.2 hP
      simp [benchOk, h1, h2]
      omega
theorem impl_BenchOk_ok : ∀ ds outs, F_BenchOk ds = some outs → shL impl_BenchOk_L (qRet outs) ds := F_BenchOk_elim fun b hp => by
  rw [impl_BenchOk_L_sh]
  have hl := hp.2.1
  rw [p_CylinderOk (x_p := b.p) hp.1]
  cases h1 : cylOk ⟨b.s, b.t, b.p⟩ with
  | false => simp [benchOk, h1]
  | true =>
  simp
  refine ⟨fun h => by simp [benchOk]; intro _ h; omega, fun h9 => ?_⟩
  refine loop_upto b.o.length (fun k => [vL IL2 vLL2 b.o, .int .i64 b.o.length, .int .i64 k, .int .i64 b.s, .int .i64 b.t, vL I2 v2 b.p, vL IL2 vLL2 b.o]) (by intro i j _ _ h; simp at h; omega) (fun k => ∀ p ∈ b.o.take k, cylOk ⟨b.s, b.t, p⟩ = true) (by simp) (by simp) ?_
  intro k hk hP
  rw [impl_BenchOk_b0_sh]
  simp
  refine ⟨fun h => ?_, fun h => ?_⟩
  · have hx := hp.2.2 b.o[k] (by simp)
    have hno : cylOk ⟨b.s, b.t, b.o[k]⟩ = false → benchOk b = false := by
      intro hf
      cases hc : benchOk b with
      | false => rfl
      | true => have := ((benchOk_iff b).1 hc).2.2 b.o[k] (by simp); simp [hf] at this
    simp (disch := omega) only [h, List.getElem?_eq_getElem, Option.some.injEq, exists_eq_left', wrap_id, all_take_succ h]
    rw [p_CylinderOk (x_p := b.o[k]) hx]
    cases h1 : cylOk ⟨b.s, b.t, b.o[k]⟩ <;> simp_all
  · obtain rfl : k = b.o.length := by omega
    rw [List.take_length] at hP
    simp [impl_BenchOk_r1_sh]
    exact (benchOk_iff b).2 ⟨h1, by omega, hP⟩
end Go.Mw

/- Benches: laws, copies, changed pins. -/
namespace Go.Mw
theorem fit_nil : fitLL [] := ⟨by simp, by simp⟩
theorem spec_NewBench_ok : ∀ ds outs, F_NewBench ds = some outs → shL spec_NewBench_L (qRet outs) ds := F_NewBench_elim fun s t => by
  rw [spec_NewBench_L_sh]
  have hb := p_BenchOk (x_s := s) (x_t := t) (x_p := []) (x_o := []) (nr_ := 1) (kk_ := fun v0 => P1 (.un .not) [v0] fun v1 => ifB v1 (qRet [.int .i64 (newBench s t).s, .int .i64 (newBench s t).t, vL I2 v2 (newBench s t).p, vL IL2 vLL2 (newBench s t).o, .bool (benchOk ⟨s, t, [], []⟩)] .ret [.int .i64 0, .int .i64 0, .list [.sc, .sc] [], .list [.sl [.sc, .sc]] [], .bool false]) (qRet [.int .i64 (newBench s t).s, .int .i64 (newBench s t).t, vL I2 v2 (newBench s t).p, vL IL2 vLL2 (newBench s t).o, .bool (benchOk ⟨s, t, [], []⟩)] .ret [.int .i64 s, .int .i64 t, .list [.sc, .sc] [], .list [.sl [.sc, .sc]] [], .bool true])) ⟨by simp, fit_nil⟩
  refine hb.2 ?_
  cases h : benchOk ⟨s, t, [], []⟩ <;> simp [newBench, h] <;> rfl
theorem newBench_p (s t : Int) : (newBench s t).p = [] := by unfold newBench; split <;> rfl
theorem newBench_o (s t : Int) : (newBench s t).o = [] := by unfold newBench; split <;> rfl
theorem spec_l06Copy_ok : ∀ ds outs, F_l06Copy ds = some outs → shL spec_l06Copy_L (qRet outs) ds := F_l06Copy_elim fun x hp => by
  rw [spec_l06Copy_L_sh]
  simp; omega
end Go.Mw

/- Benches: changed pins, copies, new benches. -/
namespace Go.Mw
theorem benchOk_len {b : Bench} (h : benchOk b = true) : b.p.length ≤ 100 ∧ ∀ q ∈ b.o, q.length ≤ 100 := by
  have h := (benchOk_iff b).1 h
  exact ⟨(cylOk_bounds h.1).2.2, fun q hq => (cylOk_bounds (h.2.2 q hq)).2.2⟩
end Go.Mw

/- New benches; combs, springs, workshops. -/
namespace Go.Mw
@[simp] theorem P1_lstL2 {a : List T2} {k : V → Prop} : P1 (.lst [.sl [.sc, .sc]] false 1) [vL I2 v2 a] k ↔ k (vL IL2 vLL2 [a]) := P1_of (by simp [Prim.run, aksOk, akOk, chunk, V.pack, vL, vLL2, AK.eqs_refl, IL2]) k
theorem impl_SpringOk_ok : ∀ ds outs, F_SpringOk ds = some outs → shL impl_SpringOk_L (qRet outs) ds := F_SpringOk_elim fun x => by
  rw [impl_SpringOk_L_sh]; simp [springOk]; grind
theorem spec_SpringOk_ok : ∀ ds outs, F_SpringOk ds = some outs → shL spec_SpringOk_L (qRet outs) ds := F_SpringOk_elim fun x => by
  rw [spec_SpringOk_L_sh]; simp [springOk]; grind
theorem laws_toSpring_ok : ∀ ds outs, F_toSpring ds = some outs → shL laws_toSpring_L (qRet outs) ds := F_toSpring_elim fun x => by
  rw [laws_toSpring_L_sh]; simp
theorem laws_eqSpring_ok : ∀ ds outs, F_eqSpring ds = some outs → shL laws_eqSpring_L (qRet outs) ds := F_eqSpring_elim fun x y => by
  rw [laws_eqSpring_L_sh]
  cases x; cases y
  simp
  grind
end Go.Mw

/- Combs, workshops. -/
namespace Go.Mw
theorem upward_iff : ∀ l : List Int, upward l = true ↔ ∀ j (_ : j < l.length), 0 < j → l[j - 1] ≤ l[j]
  | [] => by simp [upward]
  | [a] => by simp [upward]
  | a :: b :: r => by
    simp only [upward, Bool.and_eq_true, upward_iff (b :: r), decide_eq_true_eq]
    constructor
    · rintro ⟨h1, h2⟩ j hj h0
      rcases j with _ | _ | j
      · omega
      · exact h1
      · exact h2 (j + 1) (by simp at hj ⊢; omega) (by omega)
    · intro h
      refine ⟨h 1 (by simp) (by omega), fun j hj h0 => ?_⟩
      have := h (j + 1) (by simp at hj ⊢; omega) (by omega)
      rcases j with _ | j
      · omega
      · exact this
def goodTooth (l : List Int) (j : Nat) (hj : j < l.length) : Prop := within l[j] 0 60 = true ∧ (0 < j → l[j - 1] ≤ l[j])
theorem combOk_iff (l : List Int) : combOk l = true ↔ within l.length 1 24 = true ∧ ∀ j (hj : j < l.length), goodTooth l j hj := by
  simp only [combOk, Bool.and_eq_true, upward_iff, List.all_eq_true, goodTooth]
  refine and_congr_right fun _ => ?_
  constructor
  · rintro ⟨h1, h2⟩ j hj
    exact ⟨h1 _ (List.getElem_mem hj), h2 j hj⟩
  · intro h
    refine ⟨fun p hp => ?_, fun j hj h0 => (h j hj).2 h0⟩
    obtain ⟨j, hj, rfl⟩ := List.getElem_of_mem hp
    exact (h j hj).1
theorem spec_CombOk_ok : ∀ ds outs, F_CombOk ds = some outs → shL spec_CombOk_L (qRet outs) ds := F_CombOk_elim fun l hp => by
  rw [spec_CombOk_L_sh]
  refine loop_upto l.length (fun k => [vL I1 v1 l, .int .i64 k]) (by intro i j _ _ h; simp at h; omega) (fun k => ∀ j (hj : j < l.length), j < k → goodTooth l j hj) (by simp) (by simp) ?_
  intro k hk hP
  rw [spec_CombOk_b0_sh]
  simp
  refine ⟨fun h => ?_, fun h => ?_⟩
  · have hbad : ¬ goodTooth l k h → combOk l = false := fun hn => by
      cases hcc : combOk l with
      | false => rfl
      | true => exact absurd (((combOk_iff l).1 hcc).2 k h) hn
    have hgood : goodTooth l k h → ∀ j (hj : j < l.length), j < k + 1 → goodTooth l j hj := fun hg j hj hjk => by
      by_cases hjk2 : j = k
      · subst hjk2; exact hg
      · exact hP j hj (by omega)
    have hw : IntKind.i64.wrap ((k : Int) + 1) = k + 1 := wrap_id (by omega) (by omega)
    have hw2 : IntKind.i64.wrap ((k : Int) - 1) = k - 1 := wrap_id (by omega) (by omega)
    have hk1 : ((k : Int) - 1).toNat = k - 1 := by omega
    have hk2 : k - 1 < l.length := by omega
    simp only [List.getElem?_eq_getElem h, Option.some.injEq, exists_eq_left', hw, hw2, hk1, List.getElem?_eq_getElem hk2]
    cases e1 : within l[k] 0 60 with
    | false => simp; exact hbad (by simp [goodTooth, e1])
    | true =>
    simp [h]
    refine ⟨fun hk0 => ⟨by omega, fun e3 => hbad (by simp [goodTooth, hk0]; intro _; omega), fun e3 => ?_⟩, fun hk0 => ?_⟩
    · exact hgood ⟨e1, fun _ => e3⟩
    · exact hgood ⟨e1, fun hh => by omega⟩
  · obtain rfl : k = l.length := by omega
    simp [spec_CombOk_r1_sh]
    have hall : ∀ j (hj : j < l.length), goodTooth l j hj := fun j hj => hP j hj hj
    cases hw : within l.length 1 24 with
    | false => cases hc : combOk l with
      | false => rfl
      | true => simp [((combOk_iff l).1 hc).1] at hw
    | true => exact ((combOk_iff l).2 ⟨hw, hall⟩).symm
theorem impl_CombOk_ok : ∀ ds outs, F_CombOk ds = some outs → shL impl_CombOk_L (qRet outs) ds := F_CombOk_elim fun l hp => by
  rw [impl_CombOk_L_sh]
  simp
  refine ⟨fun hh => ?_, fun h1 => ⟨fun hh => ?_, fun h24 => ?_⟩⟩
  · cases hc : combOk l with
    | false => rfl
    | true => have := ((combOk_iff l).1 hc).1; simp [within] at this; omega
  · cases hc : combOk l with
    | false => rfl
    | true => have := ((combOk_iff l).1 hc).1; simp [within] at this; omega
  refine loop_upto l.length (fun k => [vL I1 v1 l, vL I1 v1 l, .int .i64 l.length, .int .i64 k]) (by intro i j _ _ h; simp at h; omega) (fun k => ∀ j (hj : j < l.length), j < k → goodTooth l j hj) (by simp) (by simp) ?_
  intro k hk hP
  rw [impl_CombOk_b0_sh]
  simp
  refine ⟨fun h => ?_, fun h => ?_⟩
  · have hbad : ¬ goodTooth l k h → combOk l = false := fun hn => by
      cases hcc : combOk l with
      | false => rfl
      | true => exact absurd (((combOk_iff l).1 hcc).2 k h) hn
    have hgood : goodTooth l k h → ∀ j (hj : j < l.length), j < k + 1 → goodTooth l j hj := fun hg j hj hjk => by
      by_cases hjk2 : j = k
      · subst hjk2; exact hg
      · exact hP j hj (by omega)
    have hw : IntKind.i64.wrap ((k : Int) + 1) = k + 1 := wrap_id (by omega) (by omega)
    have hw2 : IntKind.i64.wrap ((k : Int) - 1) = k - 1 := wrap_id (by omega) (by omega)
    have hk1 : ((k : Int) - 1).toNat = k - 1 := by omega
    have hk2 : k - 1 < l.length := by omega
    simp only [List.getElem?_eq_getElem h, Option.some.injEq, exists_eq_left', hw, hw2, hk1, List.getElem?_eq_getElem hk2]
    cases e1 : within l[k] 0 60 with
    | false => simp; exact hbad (by simp [goodTooth, e1])
    | true =>
    simp [h]
    refine ⟨fun hk0 => ⟨by omega, fun e3 => hbad (by simp [goodTooth, hk0]; intro _; omega), fun e3 => ?_⟩, fun hk0 => ?_⟩
    · exact hgood ⟨e1, fun _ => e3⟩
    · exact hgood ⟨e1, fun hh => by omega⟩
  · obtain rfl : k = l.length := by omega
    simp [impl_CombOk_r1_sh]
    exact (combOk_iff l).2 ⟨by simp [within]; omega, fun j hj => hP j hj hj⟩
theorem laws_szWorkshop_ok : ∀ ds outs, F_szWorkshop ds = some outs → shL laws_szWorkshop_L (qRet outs) ds := F_szWorkshop_elim fun x n hp => by
  rw [laws_szWorkshop_L_sh]
  rw [p_szBench (x_p := x.p) (x_o := x.o) ⟨hp.1, hp.2.1, hp.2.2.1, by omega, by omega⟩]
  by_cases h : (x.p.length : Int) + tot2 x.o ≤ n
  · have h2 : ¬ n - (x.p.length : Int) - tot2 x.o < 0 := by omega
    rw [if_pos h]
    simp only [P1_lss, ifB_bool, decide_eq_true_eq, decide_eq_false_iff_not]
    refine ⟨fun h3 => absurd h3 h2, fun _ => ?_⟩
    rw [p_szIntS ⟨hp.2.2.2.1, by omega, by omega⟩]
    by_cases h3 : (x.c.length : Int) ≤ n - x.p.length - tot2 x.o
    · rw [if_pos h3]; simp; omega
    · rw [if_neg h3]; simp; omega
  · rw [if_neg h]; simp; omega
theorem laws_toWorkshop_ok : ∀ ds outs, F_toWorkshop ds = some outs → shL laws_toWorkshop_L (qRet outs) ds := F_toWorkshop_elim fun x hp => by
  rw [laws_toWorkshop_L_sh]
  simp [p_toBench, p_toIntS, hp]
end Go.Mw

/- Workshops. -/
namespace Go.Mw
theorem spec_WorkshopOk_ok : ∀ ds outs, F_WorkshopOk ds = some outs → shL spec_WorkshopOk_L (qRet outs) ds := F_WorkshopOk_elim fun x hp => by
  rw [spec_WorkshopOk_L_sh, p_BenchOk (x_p := x.p) (x_o := x.o) ⟨hp.1, hp.2.1⟩]
  simp only [shopOk, Shop.bench]
  cases h1 : benchOk ⟨x.s, x.t, x.p, x.o⟩ with
  | false => simp
  | true =>
  simp [p_CombOk hp.2.2]
  cases h2 : combOk x.c <;> cases h3 : springOk ⟨x.u, x.m, x.f⟩ <;> cases h5 : within x.y 0 1000000 <;> simp_all
theorem impl_WorkshopOk_ok : ∀ ds outs, F_WorkshopOk ds = some outs → shL impl_WorkshopOk_L (qRet outs) ds := F_WorkshopOk_elim fun x hp => by
  rw [impl_WorkshopOk_L_sh, p_BenchOk (x_p := x.p) (x_o := x.o) ⟨hp.1, hp.2.1⟩]
  simp only [shopOk, Shop.bench]
  cases h1 : benchOk ⟨x.s, x.t, x.p, x.o⟩ with
  | false => simp
  | true =>
  simp [p_CombOk hp.2.2, impl_WorkshopOk_r0_sh]
  cases h2 : combOk x.c <;> cases h3 : springOk ⟨x.u, x.m, x.f⟩ <;> cases h5 : within x.y 0 1000000 <;> simp_all
theorem laws_eqWorkshop_ok : ∀ ds outs, F_eqWorkshop ds = some outs → shL laws_eqWorkshop_L (qRet outs) ds := F_eqWorkshop_elim fun x y hp => by
  rw [laws_eqWorkshop_L_sh, p_eqBench (x_p := x.p) (x_o := x.o) (y_p := y.p) (y_o := y.o) ⟨hp.1, hp.2.1, hp.2.2.2.1, hp.2.2.2.2.1⟩]
  have h2 : x.c.length ≤ 1048576 ∧ y.c.length ≤ 1048576 := ⟨hp.2.2.1, hp.2.2.2.2.2⟩
  have hxy : x = y ↔ (x.s = y.s ∧ x.t = y.t ∧ x.p = y.p ∧ x.o = y.o) ∧ x.c = y.c ∧ (⟨x.u, x.m, x.f⟩ : T3) = ⟨y.u, y.m, y.f⟩ ∧ x.y = y.y ∧ x.d = y.d := by
    cases x; cases y; simp; grind
  have key : decide (x = y) = decide ((x.s = y.s ∧ x.t = y.t ∧ x.p = y.p ∧ x.o = y.o) ∧ x.c = y.c ∧ (⟨x.u, x.m, x.f⟩ : T3) = ⟨y.u, y.m, y.f⟩ ∧ x.y = y.y ∧ x.d = y.d) := by
    by_cases h : x = y <;> simp [h]
    simpa [hxy] using h
  simp only [p_eqIntS h2, p_eqSpring, P1_not, P1_neq, ifB_bool, key]
  by_cases hA : x.s = y.s ∧ x.t = y.t ∧ x.p = y.p ∧ x.o = y.o <;> by_cases hc : x.c = y.c <;> by_cases hs : (⟨x.u, x.m, x.f⟩ : T3) = ⟨y.u, y.m, y.f⟩ <;> by_cases hy : x.y = y.y <;> by_cases hd : x.d = y.d <;> simp only [hA, hc, hs, hy, hd] <;> simp [hy, hd]
end Go.Mw

/- Workshops: memory, opening. -/
namespace Go.Mw
theorem laws_markWorkshop_ok : ∀ ds outs, F_markWorkshop ds = some outs → shL laws_markWorkshop_L (qRet outs) ds := F_markWorkshop_elim fun x k hp => by
  rw [laws_markWorkshop_L_sh]
  rw [p_markBench (x_p := x.p) (x_o := x.o) ⟨hp.1, hp.2.1, hp.2.2.2.1, hp.2.2.2.2⟩]
  rw [p_markIntS ⟨by omega, by show 0 ≤ k + 2 * (x.p.length : Int) + 2 * (sum2 x.o : Int); omega, by show k + 2 * (x.p.length : Int) + 2 * (sum2 x.o : Int) ≤ _; omega⟩]
  simp
theorem newBench_ok (s t : Int) (h : benchOk ⟨s, t, [], []⟩ = false) : newBench s t = ⟨0, 0, [], []⟩ := by simp [newBench, h]
theorem opened_no {s : Int} {c : List Int} {m : Int} (h : benchOk ⟨s, c.length, [], []⟩ = false) : shopOk (opened s c m) = false := by
  have : benchOk (opened s c m).bench = false := by
    simp only [opened, Shop.bench, newBench_ok _ _ h]
    simp [benchOk, cylOk, within]
  simp [shopOk, this]
theorem spec_OpenWorkshop_ok : ∀ ds outs, F_OpenWorkshop ds = some outs → shL spec_OpenWorkshop_L (qRet outs) ds := F_OpenWorkshop_elim fun s l m hp => by
  rw [spec_OpenWorkshop_L_sh]
  have h1 := newBench_p s l.length
  have h2 := newBench_o s l.length
  have h3 : (newBench s l.length).p.length ≤ 1048576 := by rw [h1]; simp
  have h4 : fitLL (newBench s l.length).o := by rw [h2]; exact fit_nil
  have e : opened s l m = ⟨(newBench s l.length).s, (newBench s l.length).t, (newBench s l.length).p, (newBench s l.length).o, l, 0, 10, 100, m, 0⟩ := by rw [h1, h2]; rfl
  simp only [P1_len, p_NewBench, P1_lst0, P1_appI_0, P1_not, ifB_bool]
  refine ⟨by omega, fun hb => ?_, fun hb => ?_⟩
  · have hno := opened_no (m := m) (by simpa using hb)
    simp [openShop, hno]; rfl
  rw [p_WorkshopOk ⟨h3, h4, hp⟩, ← e]
  cases h : shopOk (opened s l m) with
  | false => simp [openShop, h]; rfl
  | true => simp [openShop, h]; simp [e]
@[simp] theorem P1_lst14 {a b c d : Int} {k : V → Prop} : P1 (.lst [.sc] false 4) [.int .i64 a, .int .i64 b, .int .i64 c, .int .i64 d] k ↔ k (vL I1 v1 [a, b, c, d]) := P1_of (by simp [Prim.run, aksOk, akOk, chunk, V.pack, vL, v1]) k
theorem spec_SampleWorkshop_ok : ∀ ds outs, F_SampleWorkshop ds = some outs → shL spec_SampleWorkshop_L (qRet outs) ds := F_SampleWorkshop_elim fun _ => by
  rw [spec_SampleWorkshop_L_sh]
  rw [P1_lst14, p_OpenWorkshop (by simp)]
  simp
end Go.Mw

/- The sample workshop: the law. -/
namespace Go.Mw
noncomputable section
end
end Go.Mw

/- What functions compute, in plain terms: the bench's steps. -/
namespace Go.Mw
def Bench.cyl (b : Bench) : Cyl := ⟨b.s, b.t, b.p⟩
def stepped (b : Bench) (c : Cyl) : Bench := ⟨c.s, c.t, c.p, b.o ++ [b.p]⟩
def stepOk (b : Bench) (c : Cyl) : Bool := benchOk b && benchOk (stepped b c)
def stepTo (b : Bench) (c : Cyl) (done : Bool) : Bench := if done && stepOk b c then stepped b c else b
def E_l37Step : Bench × Cyl → List V := fun (x, y) => [.int .i64 x.s, .int .i64 x.t, vL I2 v2 x.p, vL IL2 vLL2 x.o, .int .i64 y.s, .int .i64 y.t, vL I2 v2 y.p]
noncomputable def F_l37Step : List V → Option (List V) := mkF E_l37Step (fun (x, y) => x.p.length ≤ 1048576 ∧ fitLL x.o ∧ y.p.length ≤ 1048576) (fun (x, y) => [.int .i64 (stepTo x y true).s, .int .i64 (stepTo x y true).t, vL I2 v2 (stepTo x y true).p, vL IL2 vLL2 (stepTo x y true).o, .bool (stepOk x y)])
theorem F_l37Step_inj : ∀ x y, E_l37Step x = E_l37Step y → x = y := by
  rintro ⟨⟨xs, xt, xp, xo⟩, ⟨ys, yt, yp⟩⟩ ⟨⟨xs', xt', xp', xo'⟩, ⟨ys', yt', yp'⟩⟩ h
  simpa [E_l37Step, and_assoc] using h
theorem F_l37Step_elim {P : List V → List V → Prop} (h : ∀ (x : Bench) (y : Cyl), (x.p.length ≤ 1048576 ∧ fitLL x.o ∧ y.p.length ≤ 1048576) → P [.int .i64 x.s, .int .i64 x.t, vL I2 v2 x.p, vL IL2 vLL2 x.o, .int .i64 y.s, .int .i64 y.t, vL I2 v2 y.p] [.int .i64 (stepTo x y true).s, .int .i64 (stepTo x y true).t, vL I2 v2 (stepTo x y true).p, vL IL2 vLL2 (stepTo x y true).o, .bool (stepOk x y)]) : ∀ ds outs, F_l37Step ds = some outs → P ds outs := by
  intro ds outs hh
  obtain ⟨⟨x, y⟩, rfl, hp, rfl⟩ := mkF_inv hh
  exact h x y hp
theorem p_l37Step {x_s : Int} {x_t : Int} {x_p : List T2} {x_o : List (List T2)} {y_s : Int} {y_t : Int} {y_p : List T2} {nr_ : Nat} {kk_ : V → V → V → V → V → Prop} (hp : (⟨x_s, x_t, x_p, x_o⟩ : Bench).p.length ≤ 1048576 ∧ fitLL (⟨x_s, x_t, x_p, x_o⟩ : Bench).o ∧ (⟨y_s, y_t, y_p⟩ : Cyl).p.length ≤ 1048576) : P5 (.call F_l37Step 0 nr_) [.int .i64 x_s, .int .i64 x_t, vL I2 v2 x_p, vL IL2 vLL2 x_o, .int .i64 y_s, .int .i64 y_t, vL I2 v2 y_p] kk_ ↔ kk_ (.int .i64 (stepTo (⟨x_s, x_t, x_p, x_o⟩ : Bench) (⟨y_s, y_t, y_p⟩ : Cyl) true).s) (.int .i64 (stepTo (⟨x_s, x_t, x_p, x_o⟩ : Bench) (⟨y_s, y_t, y_p⟩ : Cyl) true).t) (vL I2 v2 (stepTo (⟨x_s, x_t, x_p, x_o⟩ : Bench) (⟨y_s, y_t, y_p⟩ : Cyl) true).p) (vL IL2 vLL2 (stepTo (⟨x_s, x_t, x_p, x_o⟩ : Bench) (⟨y_s, y_t, y_p⟩ : Cyl) true).o) (.bool (stepOk (⟨x_s, x_t, x_p, x_o⟩ : Bench) (⟨y_s, y_t, y_p⟩ : Cyl))) :=
  P5_callF (by unfold F_l37Step; exact mkF_eq F_l37Step_inj ((⟨x_s, x_t, x_p, x_o⟩ : Bench), (⟨y_s, y_t, y_p⟩ : Cyl)) hp)

def pullOk (c : Cyl) (k : Int) : Bool := cylOk c && (decide (0 ≤ k) && decide (k < c.p.length))
def pulled (b : Bench) (k : Int) : Cyl := ⟨b.s, b.t, pullPin b.cyl k⟩
def takePin (b : Bench) (k : Int) : Bench := stepTo b (pulled b k) (pullOk b.cyl k)
def E_TakePin : Bench × Int → List V := fun (x, k) => [.int .i64 x.s, .int .i64 x.t, vL I2 v2 x.p, vL IL2 vLL2 x.o, .int .i64 k]
noncomputable def F_TakePin : List V → Option (List V) := mkF E_TakePin (fun (x, _) => x.p.length ≤ 1048576 ∧ fitLL x.o) (fun (x, k) => [.int .i64 (takePin x k).s, .int .i64 (takePin x k).t, vL I2 v2 (takePin x k).p, vL IL2 vLL2 (takePin x k).o, .bool (pullOk x.cyl k && stepOk x (pulled x k))])
theorem F_TakePin_inj : ∀ x y, E_TakePin x = E_TakePin y → x = y := by
  rintro ⟨⟨xs, xt, xp, xo⟩, k⟩ ⟨⟨xs', xt', xp', xo'⟩, k'⟩ h
  simpa [E_TakePin, and_assoc] using h
theorem F_TakePin_elim {P : List V → List V → Prop} (h : ∀ (x : Bench) (k : Int), (x.p.length ≤ 1048576 ∧ fitLL x.o) → P [.int .i64 x.s, .int .i64 x.t, vL I2 v2 x.p, vL IL2 vLL2 x.o, .int .i64 k] [.int .i64 (takePin x k).s, .int .i64 (takePin x k).t, vL I2 v2 (takePin x k).p, vL IL2 vLL2 (takePin x k).o, .bool (pullOk x.cyl k && stepOk x (pulled x k))]) : ∀ ds outs, F_TakePin ds = some outs → P ds outs := by
  intro ds outs hh
  obtain ⟨⟨x, k⟩, rfl, hp, rfl⟩ := mkF_inv hh
  exact h x k hp
theorem p_TakePin {x_s : Int} {x_t : Int} {x_p : List T2} {x_o : List (List T2)} {k : Int} {nr_ : Nat} {kk_ : V → V → V → V → V → Prop} (hp : (⟨x_s, x_t, x_p, x_o⟩ : Bench).p.length ≤ 1048576 ∧ fitLL (⟨x_s, x_t, x_p, x_o⟩ : Bench).o) : P5 (.call F_TakePin 0 nr_) [.int .i64 x_s, .int .i64 x_t, vL I2 v2 x_p, vL IL2 vLL2 x_o, .int .i64 k] kk_ ↔ kk_ (.int .i64 (takePin (⟨x_s, x_t, x_p, x_o⟩ : Bench) k).s) (.int .i64 (takePin (⟨x_s, x_t, x_p, x_o⟩ : Bench) k).t) (vL I2 v2 (takePin (⟨x_s, x_t, x_p, x_o⟩ : Bench) k).p) (vL IL2 vLL2 (takePin (⟨x_s, x_t, x_p, x_o⟩ : Bench) k).o) (.bool (pullOk (⟨x_s, x_t, x_p, x_o⟩ : Bench).cyl k && stepOk (⟨x_s, x_t, x_p, x_o⟩ : Bench) (pulled (⟨x_s, x_t, x_p, x_o⟩ : Bench) k))) :=
  P5_callF (by unfold F_TakePin; exact mkF_eq F_TakePin_inj ((⟨x_s, x_t, x_p, x_o⟩ : Bench), k) hp)


end Go.Mw

/- Functions of the program, as small pure programs (printed by a program of ours). -/
namespace Go.Mw
noncomputable section
def spec_l37Step_L : L := .seq (.rg []) (.seq (.rg [⟨[], .call F_l37Copy 0 4, [.v 0, .v 1, .v 2, .v 3], 4⟩]) (.seq (.rg [⟨[], .lst [.sc, .sc] true 0, [], 1⟩, ⟨[], .app [.sc, .sc] 16, [.v 11, .v 2], 1⟩, ⟨[], .lst [.sl [.sc, .sc]] false 1, [.v 12], 1⟩, ⟨[], .app [.sl [.sc, .sc]] 24, [.v 10, .v 13], 1⟩]) (.seq (.rg []) (.seq (.seq (.rg [⟨[], .call F_BenchOk 0 1, [.v 0, .v 1, .v 2, .v 3], 1⟩, ⟨[], .un .not, [.v 15], 1⟩, ⟨[(.v 16, false)], .call F_BenchOk 0 1, [.v 4, .v 5, .v 6, .v 14], 1⟩, ⟨[(.v 16, false)], .un .not, [.v 17], 1⟩, ⟨[], .pick, [.v 16, .k (.bool true), .v 18], 1⟩]) (.ite (.v 19) (.seq (.rg [⟨[], .call F_l37Copy 0 4, [.v 0, .v 1, .v 2, .v 3], 4⟩]) (.ret [.v 20, .v 21, .v 22, .v 23, .k (.bool false)])) (.skip))) (.seq (.rg []) (.ret [.v 4, .v 5, .v 6, .v 14, .k (.bool true)]))))))
theorem spec_l37Step_L_sh (Q : QT) (x0 x1 x2 x3 x4 x5 x6 : V) : shL spec_l37Step_L Q [x0, x1, x2, x3, x4, x5, x6] = (
  P4 (.call F_l37Copy 0 4) [x0, x1, x2, x3] fun _ _ _ v3 =>
  P1 (.lst [.sc, .sc] true 0) [] fun v4 =>
  P1 (.app [.sc, .sc] 16) [v4, x2] fun v5 =>
  P1 (.lst [.sl [.sc, .sc]] false 1) [v5] fun v6 =>
  P1 (.app [.sl [.sc, .sc]] 24) [v3, v6] fun v7 =>
  P1 (.call F_BenchOk 0 1) [x0, x1, x2, x3] fun v8 =>
  P1 (.un .not) [v8] fun v9 =>
  ifB v9 (
    P4 (.call F_l37Copy 0 4) [x0, x1, x2, x3] fun v10 v11 v12 v13 =>
    Q .ret [v10, v11, v12, v13, .bool false]) (
    P1 (.call F_BenchOk 0 1) [x4, x5, x6, v7] fun v14 =>
    P1 (.un .not) [v14] fun v15 =>
    ifB v15 (
      P4 (.call F_l37Copy 0 4) [x0, x1, x2, x3] fun v16 v17 v18 v19 =>
      Q .ret [v16, v17, v18, v19, .bool false]) (
      Q .ret [x4, x5, x6, v7, .bool true]))) := by kernel_rfl
def spec_l37Step_S : Sig := ⟨[.val true [.sc, .sc, .sl [.sc, .sc], .sl [.sl [.sc, .sc]]], .tk true [.sc, .sc, .sl [.sc, .sc]]], [(true, [.sc, .sc, .sl [.sc, .sc], .sl [.sl [.sc, .sc]]]), (false, [.sc])], F_l37Step⟩
def spec_l37Step_hs : List NF := []

def spec_TakePin_L : L := .seq (.rg []) (.seq (.rg [⟨[], .call F_PullPin 0 4, [.v 0, .v 1, .v 2, .v 4], 4⟩]) (.seq (.seq (.rg [⟨[], .un .not, [.v 8], 1⟩]) (.ite (.v 9) (.seq (.rg [⟨[], .call F_l37Copy 0 4, [.v 0, .v 1, .v 2, .v 3], 4⟩]) (.ret [.v 10, .v 11, .v 12, .v 13, .k (.bool false)])) (.skip))) (.seq (.rg [⟨[], .call F_l37Step 0 5, [.v 0, .v 1, .v 2, .v 3, .v 5, .v 6, .v 7], 5⟩]) (.seq (.rg []) (.ret [.v 10, .v 11, .v 12, .v 13, .v 14])))))
theorem spec_TakePin_L_sh (Q : QT) (x0 x1 x2 x3 x4 : V) : shL spec_TakePin_L Q [x0, x1, x2, x3, x4] = (
  P4 (.call F_PullPin 0 4) [x0, x1, x2, x4] fun v0 v1 v2 v3 =>
  P1 (.un .not) [v3] fun v4 =>
  ifB v4 (
    P4 (.call F_l37Copy 0 4) [x0, x1, x2, x3] fun v5 v6 v7 v8 =>
    Q .ret [v5, v6, v7, v8, .bool false]) (
    P5 (.call F_l37Step 0 5) [x0, x1, x2, x3, v0, v1, v2] fun v9 v10 v11 v12 v13 =>
    Q .ret [v9, v10, v11, v12, v13])) := by kernel_rfl
def spec_TakePin_S : Sig := ⟨[.val true [.sc, .sc, .sl [.sc, .sc], .sl [.sl [.sc, .sc]]], .val false [.sc]], [(true, [.sc, .sc, .sl [.sc, .sc], .sl [.sl [.sc, .sc]]]), (false, [.sc])], F_TakePin⟩
def spec_TakePin_hs : List NF := []

end
end Go.Mw

/- Taking back; a step of the bench; pulling a pin. -/
namespace Go.Mw
/-- A bench whose memory is within bounds. -/
def bSmall (b : Bench) : Prop := b.p.length ≤ 1048576 ∧ fitLL b.o ∧ 1 + 2 * (b.p.length : Int) + 2 * sum2 b.o ≤ 1099511627776
theorem sum2_le {l : List (List T2)} {n m : Nat} (h1 : l.length ≤ n) (h2 : ∀ x ∈ l, x.length ≤ m) : sum2 l ≤ n * m := by
  induction l generalizing n with
  | nil => simp [sum2]
  | cons x l ih =>
    obtain ⟨n, rfl⟩ : ∃ k, n = k + 1 := ⟨n - 1, by simp at h1; omega⟩
    have h3 := ih (n := n) (by simpa using h1) (fun y hy => h2 y (by simp [hy]))
    have h4 := h2 x (by simp)
    simp only [sum2, List.map_cons, List.sum_cons, Nat.add_mul] at h3 ⊢
    omega
theorem bSmall_of_tot {b : Bench} (h : (b.p.length : Int) + tot2 b.o ≤ 1048576) : bSmall b := by
  have := tot2_eq b.o
  refine ⟨by omega, fit_of_tot (by omega), by omega⟩
theorem bSmall_of_ok {b : Bench} (h : benchOk b = true) : bSmall b := by
  have h1 := benchOk_len h
  have h2 := ((benchOk_iff b).1 h).2.1
  have h3 := sum2_le h2 h1.2
  exact ⟨by omega, ⟨by omega, fun x hx => by have := h1.2 x hx; omega⟩, by omega⟩
theorem P1_appLL2_1 {l : List (List T2)} {a : List T2} {b : Nat} {k : V → Prop} : P1 (.app [.sl [.sc, .sc]] b) [vL IL2 vLL2 l, vL IL2 vLL2 [a]] k ↔ ((l.length + 1) * b ≤ 140737488355328 ∧ l.length + 1 ≤ 140737488355328) ∧ k (vL IL2 vLL2 (l ++ [a])) := P1_appL2_
theorem step_fit {b : Bench} {c : Cyl} (h : benchOk b = true) (hc : c.p.length ≤ 1048576) : (stepped b c).p.length ≤ 1048576 ∧ fitLL (stepped b c).o := by
  have h1 := bSmall_of_ok h
  have h2 := ((benchOk_iff b).1 h).2.1
  refine ⟨hc, by simp [stepped]; omega, fun x hx => ?_⟩
  simp only [stepped, List.mem_append, List.mem_singleton] at hx
  rcases hx with hx | rfl
  · exact h1.2.1.2 x hx
  · exact h1.1
theorem spec_l37Step_ok : ∀ ds outs, F_l37Step ds = some outs → shL spec_l37Step_L (qRet outs) ds := F_l37Step_elim fun b c hp => by
  have hb := And.intro hp.1 hp.2.1
  have hl := hp.2.1.1
  rw [spec_l37Step_L_sh, p_l37Copy (x_p := b.p) (x_o := b.o) hb]
  simp only [P1_lst0, P1_app2_0, P1_lstL2, P1_appLL2_1, p_l37Copy (x_p := b.p) (x_o := b.o) hb, p_BenchOk (x_p := b.p) (x_o := b.o) hb]
  refine ⟨by omega, by omega, ?_⟩
  cases h : benchOk b with
  | false => simp [stepTo, stepOk, h]
  | true =>
    have hs := step_fit h hp.2.2
    have e := p_BenchOk (x_s := c.s) (x_t := c.t) (x_p := c.p) (x_o := b.o ++ [b.p]) (nr_ := 1) (kk_ := fun v => v = v) hs
    simp only [P1_not, ifB_bool, Bool.not_true, Bool.false_eq_true, false_implies, true_and, true_implies]
    rw [p_BenchOk (x_s := c.s) (x_t := c.t) (x_p := c.p) (x_o := b.o ++ [b.p]) hs]
    cases h2 : benchOk (stepped b c) with
    | false =>
      have h3 : benchOk ⟨c.s, c.t, c.p, b.o ++ [b.p]⟩ = false := h2
      simp [stepTo, stepOk, h, h2, h3]
    | true =>
      have h3 : benchOk ⟨c.s, c.t, c.p, b.o ++ [b.p]⟩ = true := h2
      simp [stepTo, stepOk, h, h2, h3, stepped]
theorem pullPin_len (c : Cyl) (k : Int) : (pullPin c k).length ≤ c.p.length := by
  unfold pullPin
  split
  · simp; omega
  · exact Nat.le_refl _
theorem spec_TakePin_ok : ∀ ds outs, F_TakePin ds = some outs → shL spec_TakePin_L (qRet outs) ds := F_TakePin_elim fun b k hp => by
  have hl : (pullPin b.cyl k).length ≤ 1048576 := Nat.le_trans (pullPin_len b.cyl k) hp.1
  rw [spec_TakePin_L_sh, p_PullPin (x_p := b.p) hp.1]
  simp only [p_l37Copy (x_p := b.p) (x_o := b.o) hp]
  cases h : pullOk b.cyl k with
  | false =>
    have h' : (cylOk ⟨b.s, b.t, b.p⟩ && (decide (0 ≤ k) && decide (k < b.p.length))) = false := h
    simp [takePin, stepTo, h, h']
  | true =>
    have h' : (cylOk ⟨b.s, b.t, b.p⟩ && (decide (0 ≤ k) && decide (k < b.p.length))) = true := h
    simp only [h', P1_not, ifB_bool, Bool.not_true, Bool.false_eq_true, false_implies, true_and, true_implies]
    rw [p_l37Step (x_p := b.p) (x_o := b.o) (y_p := pullPin ⟨b.s, b.t, b.p⟩ k) ⟨hp.1, hp.2, hl⟩]
    simp only [takePin, h, Bool.true_and]
    exact ⟨rfl, rfl⟩
end Go.Mw

/- Copies of a bench (spec); pulling a pin. -/
namespace Go.Mw
theorem spec_l37Copy_ok : ∀ ds outs, F_l37Copy ds = some outs → shL spec_l37Copy_L (qRet outs) ds := F_l37Copy_elim fun b hp => by
  rw [spec_l37Copy_L_sh]
  have hl := hp.2.1
  rw [p_l06Copy (x_p := b.p) (by show b.p.length ≤ _; omega)]
  simp
  refine loop_upto b.o.length (fun k => [.int .i64 k, vL I2 v2 b.p, vL IL2 vLL2 (b.o.take k), .int .i64 b.s, .int .i64 b.t, vL I2 v2 b.p, vL IL2 vLL2 b.o, .int .i64 0, .int .i64 0, .int .i64 b.s, .int .i64 b.t]) (by intro i j _ _ h; simp at h; omega) (fun _ => True) (by simp; rfl) trivial ?_
  intro k hk _
  rw [spec_l37Copy_b0_sh]
  simp
  refine ⟨fun h => ?_, fun h => ?_⟩
  · have hx := hp.2.2 b.o[k] (by simp)
    have hw : IntKind.i64.wrap ((k : Int) + 1) = k + 1 := wrap_id (by omega) (by omega)
    simp only [List.getElem?_eq_getElem h, Option.some.injEq, exists_eq_left']
    simp [h, hw]
    omega
  · obtain rfl : k = b.o.length := by omega
    simp [spec_l37Copy_r1_sh]

theorem spec_PullPin_ok : ∀ ds outs, F_PullPin ds = some outs → shL spec_PullPin_L (qRet outs) ds := F_PullPin_elim fun x k hp => by
  rw [spec_PullPin_L_sh, p_l06Copy (x_p := x.p) (by show x.p.length ≤ _; omega), p_CylinderOk (x_p := x.p) hp]
  have hw : IntKind.i64.wrap ((x.p.length : Int) - 1) = x.p.length - 1 := wrap_id (by omega) (by omega)
  have hc : cylOk ⟨x.s, x.t, x.p⟩ = cylOk x := rfl
  simp only [hc]
  by_cases h : cylOk x = true
  · by_cases h2 : 0 ≤ k ∧ k < x.p.length
    · have hw2 : IntKind.i64.wrap (k + 1) = k + 1 := wrap_id (by omega) (by omega)
      have h3 : (k + 1).toNat = k.toNat + 1 := by omega
      simp [h, hw, within, pullPin, h2.1, h2.2, hw2, h3]
      grind
    · simp [h, hw, within, pullPin]
      grind
  · simp only [Bool.not_eq_true] at h
    simp [h, pullPin]

end Go.Mw

/- What functions compute, in plain terms: the workshop's steps. -/
namespace Go.Mw
@[simp] theorem P1_lstLL1 {x : List Int} {k : V → Prop} : P1 (.lst [.sl [.sc]] false 1) [vL I1 v1 x] k ↔ k (vL IL1 vLL1 [x]) := P1_of (by simp [Prim.run, aksOk, akOk, chunk, V.pack, vL, vLL1, IL1, I1, AK.eqs_refl]) k
@[simp] theorem P1_lstI2 {a b : Int} {k : V → Prop} : P1 (.lst [.sc] false 2) [.int .i64 a, .int .i64 b] k ↔ k (vL I1 v1 [a, b]) := P1_of (by simp [Prim.run, aksOk, akOk, chunk, V.pack, vL, v1]) k
@[simp] theorem P1_appLL1 {l m : List (List Int)} {b : Nat} {k : V → Prop} : P1 (.app [.sl [.sc]] b) [vL IL1 vLL1 l, vL IL1 vLL1 m] k ↔ ((l.length + m.length) * b ≤ 140737488355328 ∧ l.length + m.length ≤ 140737488355328) ∧ k (vL IL1 vLL1 (l ++ m)) := P1_app
@[simp] theorem P1_appLL1_0 {m : List (List Int)} {b : Nat} {k : V → Prop} : P1 (.app [.sl [.sc]] b) [.list [.sl [.sc]] [], vL IL1 vLL1 m] k ↔ (m.length * b ≤ 140737488355328 ∧ m.length ≤ 140737488355328) ∧ k (vL IL1 vLL1 m) := P1_app0

def Shop.spring (w : Shop) : T3 := ⟨w.u, w.m, w.f⟩
def gap (a b n : Int) : Int := if within n 1 1000 && (within a 0 (n - 1) && within b 0 (n - 1)) then min (max (a - b) (b - a)) (n - max (a - b) (b - a)) else -1
def closeAt (c : Cyl) (r : Int) (i j : Nat) : Bool := match c.p[i]?, c.p[j]? with | some x, some y => decide (x.a = y.a ∧ gap x.b y.b c.s < r) | _, _ => false
/-- The pairs of the i-th pin with those from the (i+1)-th on, below the k-th. -/
def closeRow (c : Cyl) (r : Int) (i : Nat) : Nat → List (List Int)
  | 0 => []
  | k + 1 => closeRow c r i k ++ (if i < k ∧ closeAt c r i k then [[(i : Int), (k : Int)]] else [])
def closeTo (c : Cyl) (r : Int) : Nat → List (List Int)
  | 0 => []
  | k + 1 => closeTo c r k ++ closeRow c r k c.p.length
def tooClose (c : Cyl) (r : Int) : List (List Int) := if cylOk c && within r 1 96 then closeTo c r c.p.length else []
def played (w : Shop) : Shop := ⟨w.s, w.t, w.p, w.o, w.c, w.u - 1, w.m, w.f, w.y, w.d + w.p.length⟩
end Go.Mw

/- Functions of the program, as small pure programs (printed by a program of ours). -/
namespace Go.Mw
noncomputable section
end
end Go.Mw

/- Crank, RemovePin, the gap. -/
namespace Go.Mw
theorem shopOk_iff (w : Shop) : shopOk w = true ↔ benchOk w.bench = true ∧ combOk w.c = true ∧ springOk w.spring = true ∧ w.t = w.c.length ∧ within w.y 0 1000000 = true ∧ within w.d 0 1000000 = true := by
  simp [shopOk, Shop.spring]
theorem combOk_len {l : List Int} (h : combOk l = true) : l.length ≤ 24 := by
  simp [combOk, within] at h; omega
/-- A workshop whose memory is within bounds. -/
def sFit (w : Shop) : Prop := w.p.length ≤ 1048576 ∧ fitLL w.o ∧ w.c.length ≤ 1048576
def sSmall (w : Shop) : Prop := sFit w ∧ 1 + 2 * (w.p.length : Int) + 2 * sum2 w.o ≤ 1099511627776
theorem sSmall_of_tot {w : Shop} (h : (w.p.length : Int) + tot2 w.o + w.c.length ≤ 1048576) : sSmall w := by
  have h0 : 0 ≤ tot2 w.o := by rw [tot2_eq]; omega
  have := bSmall_of_tot (b := w.bench) (by simp only [Shop.bench]; omega)
  exact ⟨⟨this.1, this.2.1, by omega⟩, this.2.2⟩
theorem sSmall_of_ok {w : Shop} (h : shopOk w = true) : sSmall w := by
  have h := (shopOk_iff w).1 h
  have h1 := bSmall_of_ok h.1
  have h2 := combOk_len h.2.1
  exact ⟨⟨h1.1, h1.2.1, by omega⟩, h1.2.2⟩

end Go.Mw

/- RemovePin; the law. -/
namespace Go.Mw
end Go.Mw

/- The gap; pins that stand too close. -/
namespace Go.Mw
end Go.Mw

/- What functions compute, in plain terms: draws; stops and sums. -/
namespace Go.Mw
/-- A bitwise operation of the machine. -/
def land (a b : Int) : Int := IntKind.i64.wrap (BitVec.ofInt IntKind.i64.bits a &&& BitVec.ofInt IntKind.i64.bits b).toNat
def lxor (a b : Int) : Int := IntKind.i64.wrap (BitVec.ofInt IntKind.i64.bits a ^^^ BitVec.ofInt IntKind.i64.bits b).toNat
@[simp] theorem P1_and {a b : Int} {k : V → Prop} : P1 (.bin .and) [.int .i64 a, .int .i64 b] k ↔ k (.int .i64 (land a b)) := P1_of (by simp [Prim.run, binV, binI, land]) k
@[simp] theorem P1_xor {a b : Int} {k : V → Prop} : P1 (.bin .xor) [.int .i64 a, .int .i64 b] k ↔ k (.int .i64 (lxor a b)) := P1_of (by simp [Prim.run, binV, binI, lxor]) k
theorem P1_shr {a b : Int} {κ' : IntKind} {k : V → Prop} (hb : 0 ≤ b) : P1 (.bin .shr) [.int .i64 a, .int κ' b] k ↔ k (.int .i64 (a.fdiv (2 ^ (min b.toNat IntKind.i64.bits)))) := P1_of (by simp [Prim.run, binV]; omega) k
/-- A cursor: its bytes, the place, the hash. -/
structure Cur where
  b : List UInt8
  i : Int
  h : Int
def E_big (l : List UInt8) : List V := [vL I1 vY l]
noncomputable def F_big : List V → Option (List V) := mkF E_big (fun l => l.length ≤ 9223372036854775807) (fun l => [.bool (decide (1048576 < l.length))])
theorem F_big_inj : ∀ x y, E_big x = E_big y → x = y := by
  rintro l l' h
  simpa [E_big] using h
theorem F_big_elim {P : List V → List V → Prop} (h : ∀ (l : List UInt8), (l.length ≤ 9223372036854775807) → P [vL I1 vY l] [.bool (decide (1048576 < l.length))]) : ∀ ds outs, F_big ds = some outs → P ds outs := by
  intro ds outs hh
  obtain ⟨l, rfl, hp, rfl⟩ := mkF_inv hh
  exact h l hp
theorem p_big {l : List UInt8} {nr_ : Nat} {kk_ : V → Prop} (hp : l.length ≤ 9223372036854775807) : P1 (.call F_big 0 nr_) [vL I1 vY l] kk_ ↔ kk_ (.bool (decide (1048576 < l.length))) :=
  P1_callF (by unfold F_big; exact mkF_eq F_big_inj (l) hp)

def seedTo (l : List UInt8) : Nat → Int
  | 0 => 33091 + l.length
  | k + 1 => land (IntKind.i64.wrap (IntKind.i64.wrap (IntKind.i64.wrap (seedTo l k * 131) + (match l[k]? with | some x => (x.toNat : Int) | none => 0)) + 7)) 1073741823
def seedOf (l : List UInt8) : Int := seedTo l (min l.length 4000)
def E_l01New (l : List UInt8) : List V := [vL I1 vY l]
noncomputable def F_l01New : List V → Option (List V) := mkF E_l01New (fun l => l.length ≤ 1048576) (fun l => [vL I1 vY l, .int .i64 0, .int .i64 (seedOf l)])
theorem F_l01New_inj : ∀ x y, E_l01New x = E_l01New y → x = y := by
  rintro l l' h
  simpa [E_l01New] using h
theorem F_l01New_elim {P : List V → List V → Prop} (h : ∀ (l : List UInt8), (l.length ≤ 1048576) → P [vL I1 vY l] [vL I1 vY l, .int .i64 0, .int .i64 (seedOf l)]) : ∀ ds outs, F_l01New ds = some outs → P ds outs := by
  intro ds outs hh
  obtain ⟨l, rfl, hp, rfl⟩ := mkF_inv hh
  exact h l hp
theorem p_l01New {l : List UInt8} {nr_ : Nat} {kk_ : V → V → V → Prop} (hp : l.length ≤ 1048576) : P3 (.call F_l01New 0 nr_) [vL I1 vY l] kk_ ↔ kk_ (vL I1 vY l) (.int .i64 0) (.int .i64 (seedOf l)) :=
  P3_callF (by unfold F_l01New; exact mkF_eq F_l01New_inj (l) hp)

def hNext (h : Int) : Int := IntKind.i64.wrap (IntKind.i64.wrap (h * 6364136223846793005) + 1442695040888963407)
def hByte (h : Int) : Int := land (lxor (h.fdiv (2 ^ 33)) (h.fdiv (2 ^ 45))) 255
def cByte (x : Cur) : Int := match x.b[x.i.toNat]? with | some y => land (IntKind.i64.wrap (hByte (hNext x.h) + y.toNat)) 255 | none => hByte (hNext x.h)
def cStep (x : Cur) : Cur := ⟨x.b, if x.i < x.b.length then x.i + 1 else x.i, hNext x.h⟩
def E_l01Byte (x : Cur) : List V := [vL I1 vY x.b, .int .i64 x.i, .int .i64 x.h]
noncomputable def F_l01Byte : List V → Option (List V) := mkF E_l01Byte (fun x => 0 ≤ x.i ∧ x.b.length ≤ 1048576) (fun x => [.int .i64 (cByte x), .int .i64 ((cStep x).i), .int .i64 ((cStep x).h)])
theorem F_l01Byte_inj : ∀ x y, E_l01Byte x = E_l01Byte y → x = y := by
  rintro ⟨xb, xi, xh⟩ ⟨xb', xi', xh'⟩ h
  simpa [E_l01Byte] using h
theorem F_l01Byte_elim {P : List V → List V → Prop} (h : ∀ (x : Cur), (0 ≤ x.i ∧ x.b.length ≤ 1048576) → P [vL I1 vY x.b, .int .i64 x.i, .int .i64 x.h] [.int .i64 (cByte x), .int .i64 ((cStep x).i), .int .i64 ((cStep x).h)]) : ∀ ds outs, F_l01Byte ds = some outs → P ds outs := by
  intro ds outs hh
  obtain ⟨x, rfl, hp, rfl⟩ := mkF_inv hh
  exact h x hp
theorem p_l01Byte {x_b : List UInt8} {x_i : Int} {x_h : Int} {nr_ : Nat} {kk_ : V → V → V → Prop} (hp : 0 ≤ (⟨x_b, x_i, x_h⟩ : Cur).i ∧ (⟨x_b, x_i, x_h⟩ : Cur).b.length ≤ 1048576) : P3 (.call F_l01Byte 0 nr_) [vL I1 vY x_b, .int .i64 x_i, .int .i64 x_h] kk_ ↔ kk_ (.int .i64 (cByte (⟨x_b, x_i, x_h⟩ : Cur))) (.int .i64 ((cStep (⟨x_b, x_i, x_h⟩ : Cur)).i)) (.int .i64 ((cStep (⟨x_b, x_i, x_h⟩ : Cur)).h)) :=
  P3_callF (by unfold F_l01Byte; exact mkF_eq F_l01Byte_inj ((⟨x_b, x_i, x_h⟩ : Cur)) hp)

def cBelow (x : Cur) (n : Int) : Int := if n ≤ 0 then 0 else if n ≤ 256 then (cByte x).tmod n else
  (cByte x * 16777216 + cByte (cStep x) * 65536 + cByte (cStep (cStep x)) * 256 + cByte (cStep (cStep (cStep x)))).tmod n
def cAfter (x : Cur) (n : Int) : Cur := if n ≤ 0 then x else if n ≤ 256 then cStep x else cStep (cStep (cStep (cStep x)))
def E_l01Below : Cur × Int → List V := fun (x, n) => [vL I1 vY x.b, .int .i64 x.i, .int .i64 x.h, .int .i64 n]
noncomputable def F_l01Below : List V → Option (List V) := mkF E_l01Below (fun (x, _) => 0 ≤ x.i ∧ x.b.length ≤ 1048576) (fun (x, n) => [.int .i64 (cBelow x n), .int .i64 ((cAfter x n).i), .int .i64 ((cAfter x n).h)])
theorem F_l01Below_inj : ∀ x y, E_l01Below x = E_l01Below y → x = y := by
  rintro ⟨⟨xb, xi, xh⟩, n⟩ ⟨⟨xb', xi', xh'⟩, n'⟩ h
  simpa [E_l01Below, and_assoc] using h
theorem F_l01Below_elim {P : List V → List V → Prop} (h : ∀ (x : Cur) (n : Int), (0 ≤ x.i ∧ x.b.length ≤ 1048576) → P [vL I1 vY x.b, .int .i64 x.i, .int .i64 x.h, .int .i64 n] [.int .i64 (cBelow x n), .int .i64 ((cAfter x n).i), .int .i64 ((cAfter x n).h)]) : ∀ ds outs, F_l01Below ds = some outs → P ds outs := by
  intro ds outs hh
  obtain ⟨⟨x, n⟩, rfl, hp, rfl⟩ := mkF_inv hh
  exact h x n hp
theorem p_l01Below {x_b : List UInt8} {x_i : Int} {x_h : Int} {n : Int} {nr_ : Nat} {kk_ : V → V → V → Prop} (hp : 0 ≤ (⟨x_b, x_i, x_h⟩ : Cur).i ∧ (⟨x_b, x_i, x_h⟩ : Cur).b.length ≤ 1048576) : P3 (.call F_l01Below 0 nr_) [vL I1 vY x_b, .int .i64 x_i, .int .i64 x_h, .int .i64 n] kk_ ↔ kk_ (.int .i64 (cBelow (⟨x_b, x_i, x_h⟩ : Cur) n)) (.int .i64 ((cAfter (⟨x_b, x_i, x_h⟩ : Cur) n).i)) (.int .i64 ((cAfter (⟨x_b, x_i, x_h⟩ : Cur) n).h)) :=
  P3_callF (by unfold F_l01Below; exact mkF_eq F_l01Below_inj ((⟨x_b, x_i, x_h⟩ : Cur), n) hp)


def putPin : List T2 → T2 → List T2
  | [], p => [p]
  | a :: r, p => if pinLess a p then a :: putPin r p else if a = p then a :: r else p :: a :: r
def putNew : List T2 → T2 → Bool
  | [], _ => true
  | a :: r, p => if pinLess a p then putNew r p else decide (a ≠ p)
def E_l06Put : List T2 × T2 → List V := fun (l, y) => [vL I2 v2 l, .int .i64 y.a, .int .i64 y.b]
noncomputable def F_l06Put : List V → Option (List V) := mkF E_l06Put (fun (l, _) => l.length ≤ 1048576) (fun (l, y) => [vL I2 v2 (putPin l y), .bool (putNew l y)])
theorem F_l06Put_inj : ∀ x y, E_l06Put x = E_l06Put y → x = y := by
  rintro ⟨l, ⟨ya, yb⟩⟩ ⟨l', ⟨ya', yb'⟩⟩ h
  simpa [E_l06Put, and_assoc] using h
theorem F_l06Put_elim {P : List V → List V → Prop} (h : ∀ (l : List T2) (y : T2), (l.length ≤ 1048576) → P [vL I2 v2 l, .int .i64 y.a, .int .i64 y.b] [vL I2 v2 (putPin l y), .bool (putNew l y)]) : ∀ ds outs, F_l06Put ds = some outs → P ds outs := by
  intro ds outs hh
  obtain ⟨⟨l, y⟩, rfl, hp, rfl⟩ := mkF_inv hh
  exact h l y hp
theorem p_l06Put {l : List T2} {y_a : Int} {y_b : Int} {nr_ : Nat} {kk_ : V → V → Prop} (hp : l.length ≤ 1048576) : P2 (.call F_l06Put 0 nr_) [vL I2 v2 l, .int .i64 y_a, .int .i64 y_b] kk_ ↔ kk_ (vL I2 v2 (putPin l (⟨y_a, y_b⟩ : T2))) (.bool (putNew l (⟨y_a, y_b⟩ : T2))) :=
  P2_callF (by unfold F_l06Put; exact mkF_eq F_l06Put_inj (l, (⟨y_a, y_b⟩ : T2)) hp)

def cylTo (s t : Int) (x : Cur) : Nat → List T2 × Cur
  | 0 => ([], x)
  | k + 1 => (putPin (cylTo s t x k).1 ⟨cBelow (cylTo s t x k).2 t, cBelow (cAfter (cylTo s t x k).2 t) s⟩, cAfter (cAfter (cylTo s t x k).2 t) s)
def cylS (x : Cur) : Int := 4 + cBelow x 21
def cylT (x : Cur) : Int := 1 + cBelow (cAfter x 21) 8
def cylX (x : Cur) : Cur := cAfter (cAfter (cAfter x 21) 8) 10
def cylN (x : Cur) : Int := cBelow (cAfter (cAfter x 21) 8) 10
def cylOf (x : Cur) : Cyl := ⟨cylS x, cylT x, (cylTo (cylS x) (cylT x) (cylX x) (cylN x).toNat).1⟩
def cylEnd (x : Cur) : Cur := (cylTo (cylS x) (cylT x) (cylX x) (cylN x).toNat).2
def E_l06Cylinder (x : Cur) : List V := [vL I1 vY x.b, .int .i64 x.i, .int .i64 x.h]
noncomputable def F_l06Cylinder : List V → Option (List V) := mkF E_l06Cylinder (fun x => 0 ≤ x.i ∧ x.b.length ≤ 1048576) (fun x => [.int .i64 (cylOf x).s, .int .i64 (cylOf x).t, vL I2 v2 (cylOf x).p, .int .i64 ((cylEnd x).i), .int .i64 ((cylEnd x).h)])
theorem F_l06Cylinder_inj : ∀ x y, E_l06Cylinder x = E_l06Cylinder y → x = y := by
  rintro ⟨xb, xi, xh⟩ ⟨xb', xi', xh'⟩ h
  simpa [E_l06Cylinder] using h
theorem F_l06Cylinder_elim {P : List V → List V → Prop} (h : ∀ (x : Cur), (0 ≤ x.i ∧ x.b.length ≤ 1048576) → P [vL I1 vY x.b, .int .i64 x.i, .int .i64 x.h] [.int .i64 (cylOf x).s, .int .i64 (cylOf x).t, vL I2 v2 (cylOf x).p, .int .i64 ((cylEnd x).i), .int .i64 ((cylEnd x).h)]) : ∀ ds outs, F_l06Cylinder ds = some outs → P ds outs := by
  intro ds outs hh
  obtain ⟨x, rfl, hp, rfl⟩ := mkF_inv hh
  exact h x hp
theorem p_l06Cylinder {x_b : List UInt8} {x_i : Int} {x_h : Int} {nr_ : Nat} {kk_ : V → V → V → V → V → Prop} (hp : 0 ≤ (⟨x_b, x_i, x_h⟩ : Cur).i ∧ (⟨x_b, x_i, x_h⟩ : Cur).b.length ≤ 1048576) : P5 (.call F_l06Cylinder 0 nr_) [vL I1 vY x_b, .int .i64 x_i, .int .i64 x_h] kk_ ↔ kk_ (.int .i64 (cylOf (⟨x_b, x_i, x_h⟩ : Cur)).s) (.int .i64 (cylOf (⟨x_b, x_i, x_h⟩ : Cur)).t) (vL I2 v2 (cylOf (⟨x_b, x_i, x_h⟩ : Cur)).p) (.int .i64 ((cylEnd (⟨x_b, x_i, x_h⟩ : Cur)).i)) (.int .i64 ((cylEnd (⟨x_b, x_i, x_h⟩ : Cur)).h)) :=
  P5_callF (by unfold F_l06Cylinder; exact mkF_eq F_l06Cylinder_inj ((⟨x_b, x_i, x_h⟩ : Cur)) hp)

def E_l01PickInt : Cur × List Int → List V := fun (x, l) => [vL I1 vY x.b, .int .i64 x.i, .int .i64 x.h, vL I1 v1 l]
noncomputable def F_l01PickInt : List V → Option (List V) := mkF E_l01PickInt (fun (x, l) => 0 ≤ x.i ∧ x.b.length ≤ 1048576 ∧ 1 ≤ l.length ∧ l.length ≤ 1048576) (fun (x, l) => [.int .i64 ((l[(cBelow x l.length).toNat]?.getD 0)), .int .i64 ((cAfter x l.length).i), .int .i64 ((cAfter x l.length).h)])
theorem F_l01PickInt_inj : ∀ x y, E_l01PickInt x = E_l01PickInt y → x = y := by
  rintro ⟨⟨xb, xi, xh⟩, l⟩ ⟨⟨xb', xi', xh'⟩, l'⟩ h
  simpa [E_l01PickInt, and_assoc] using h
theorem F_l01PickInt_elim {P : List V → List V → Prop} (h : ∀ (x : Cur) (l : List Int), (0 ≤ x.i ∧ x.b.length ≤ 1048576 ∧ 1 ≤ l.length ∧ l.length ≤ 1048576) → P [vL I1 vY x.b, .int .i64 x.i, .int .i64 x.h, vL I1 v1 l] [.int .i64 ((l[(cBelow x l.length).toNat]?.getD 0)), .int .i64 ((cAfter x l.length).i), .int .i64 ((cAfter x l.length).h)]) : ∀ ds outs, F_l01PickInt ds = some outs → P ds outs := by
  intro ds outs hh
  obtain ⟨⟨x, l⟩, rfl, hp, rfl⟩ := mkF_inv hh
  exact h x l hp
theorem p_l01PickInt {x_b : List UInt8} {x_i : Int} {x_h : Int} {l : List Int} {nr_ : Nat} {kk_ : V → V → V → Prop} (hp : 0 ≤ (⟨x_b, x_i, x_h⟩ : Cur).i ∧ (⟨x_b, x_i, x_h⟩ : Cur).b.length ≤ 1048576 ∧ 1 ≤ l.length ∧ l.length ≤ 1048576) : P3 (.call F_l01PickInt 0 nr_) [vL I1 vY x_b, .int .i64 x_i, .int .i64 x_h, vL I1 v1 l] kk_ ↔ kk_ (.int .i64 ((l[(cBelow (⟨x_b, x_i, x_h⟩ : Cur) l.length).toNat]?.getD 0))) (.int .i64 ((cAfter (⟨x_b, x_i, x_h⟩ : Cur) l.length).i)) (.int .i64 ((cAfter (⟨x_b, x_i, x_h⟩ : Cur) l.length).h)) :=
  P3_callF (by unfold F_l01PickInt; exact mkF_eq F_l01PickInt_inj ((⟨x_b, x_i, x_h⟩ : Cur), l) hp)

def cur0 (l : List UInt8) : Cur := ⟨l, 0, seedOf l⟩
end Go.Mw

