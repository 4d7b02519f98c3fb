/- What functions of the program compute, as small pure programs, shown against plain Lean functions: no condition. -/
import Derived.KernelRfl
import Derived.Test.YtobecpmneaninaaFwH
namespace Go.Mw
def zt (l : List Nat) : L := .tup (l.map .v)
def zb (o : BinOp) (a b : Nat) : In := ⟨[], .bin o, [.v a, .v b], 1⟩
def zk (o : BinOp) (a : Nat) (c : Int) : In := ⟨[], .bin o, [.v a, .k (.int .i64 c)], 1⟩
def zi (a b : Nat) : In := ⟨[], .idx [.sc], [.v a, .v b], 1⟩
def zj (a b : Nat) : In := ⟨[], .idx [.sc, .sc], [.v a, .v b], 2⟩
def zl (a : Nat) : In := ⟨[], .len, [.v a], 1⟩
def zn (a : Nat) : In := ⟨[], .un .not, [.v a], 1⟩
def zc (F : List V → Option (List V)) (n : Nat) (l : List Nat) : In := ⟨[], .call F 0 n, l.map .v, n⟩
def zs : SVS := .sc false [.sc]
def zo (r : Nat) : SVS := .sc false [.own r]
def zr : SVS := .sc false [.ro [.sc]]
def zq : SVS := .sc false [.ro [.sc, .sc]]
end Go.Mw
namespace Go.Mw
def within (n low high : Int) : Bool := decide (low ≤ n) && decide (n ≤ high)
def E_within : Int × Int × Int → List V := fun (a, b, c) => [.int .i64 a, .int .i64 b, .int .i64 c]
noncomputable def F_within : List V → Option (List V) := mkF E_within (fun (_, _, _) => True) (fun (a, b, c) => [.bool (within a b c)])
theorem F_within_inj : ∀ x y, E_within x = E_within y → x = y := by
  rintro ⟨a, b, c⟩ ⟨a', b', c'⟩ h
  simpa [E_within] using h
theorem F_within_elim {P : List V → List V → Prop} (h : ∀ (a : Int) (b : Int) (c : Int), P [.int .i64 a, .int .i64 b, .int .i64 c] [.bool (within a b c)]) : ∀ ds outs, F_within ds = some outs → P ds outs := by
  intro ds outs hh
  obtain ⟨⟨a, b, c⟩, rfl, -, rfl⟩ := mkF_inv hh
  exact h a b c
@[simp] theorem p_within {a : Int} {b : Int} {c : Int} {nr_ : Nat} {kk_ : V → Prop} : P1 (.call F_within 0 nr_) [.int .i64 a, .int .i64 b, .int .i64 c] kk_ ↔ kk_ (.bool (within a b c)) :=
  P1_callF (by unfold F_within; exact mkF_eq F_within_inj (a, b, c) trivial)

def pieceOk (p : T2) : Bool := within p.a 1 600 && within p.b 0 9
def piecesOk (l : List T2) : Bool := decide (l.length ≤ 9) && l.all pieceOk
def E_PiecesOk (l : List T2) : List V := [vL I2 v2 l]
noncomputable def F_PiecesOk : List V → Option (List V) := mkF E_PiecesOk (fun l => l.length ≤ 1048576) (fun l => [.bool (piecesOk l)])
theorem F_PiecesOk_inj : ∀ x y, E_PiecesOk x = E_PiecesOk y → x = y := by
  rintro l l' h
  simpa [E_PiecesOk] using h
theorem F_PiecesOk_elim {P : List V → List V → Prop} (h : ∀ (l : List T2), (l.length ≤ 1048576) → P [vL I2 v2 l] [.bool (piecesOk l)]) : ∀ ds outs, F_PiecesOk ds = some outs → P ds outs := by
  intro ds outs hh
  obtain ⟨l, rfl, hp, rfl⟩ := mkF_inv hh
  exact h l hp
theorem p_PiecesOk {l : List T2} {nr_ : Nat} {kk_ : V → Prop} (hp : l.length ≤ 1048576) : P1 (.call F_PiecesOk 0 nr_) [vL I2 v2 l] kk_ ↔ kk_ (.bool (piecesOk l)) :=
  P1_callF (by unfold F_PiecesOk; exact mkF_eq F_PiecesOk_inj (l) hp)

end Go.Mw

namespace Go.Mw
noncomputable section
def impl_within_L : L := .seq (.rg []) (.seq (.rg [zb .geq 0 1, ⟨[(.v 3, true)], .bin .leq, [.v 0, .v 2], 1⟩, ⟨[], .pick, [.v 3, .v 4, .k (.bool false)], 1⟩]) (.ret [.v 5]))
theorem impl_within_L_sh (Q : QT) (x0 x1 x2 : V) : shL impl_within_L Q [x0, x1, x2] = (
  P1 (.bin .geq) [x0, x1] fun v0 =>
  ifB v0 (
    P1 (.bin .leq) [x0, x2] fun v1 =>
    Q .ret [v1]) (
    Q .ret [.bool false])) := by kernel_rfl
def impl_within_S : Sig := ⟨[.val false [.sc], .val false [.sc], .val false [.sc]], [(false, [.sc])], F_within⟩
def impl_within_hs : List NF := []

def impl_PiecesOk_b0 : L := .seq (.seq (.rg [zb .lss 2 1]) (.seq (.ite (.v 3) (.skip) (.seq (.tup []) (.exit 0))) (.seq (.block 1 (.seq (.seq (.rg [zj 0 2]) (.seq (.rg [⟨[], .call F_within 0 1, [.v 4, .k (.int .i64 1), .k (.int .i64 600)], 1⟩, zn 6, ⟨[(.v 7, false)], .call F_within 0 1, [.v 5, .k (.int .i64 0), .k (.int .i64 9)], 1⟩, ⟨[(.v 7, false)], .un .not, [.v 8], 1⟩, ⟨[], .pick, [.v 7, .k (.bool true), .v 9], 1⟩]) (.ite (.v 10) (.seq (.rg []) (.ret [.k (.bool false)])) (.skip)))) (zt [0, 1, 2]))) (.rg [zk .add 2 1])))) (zt [0, 1, 3])
theorem impl_PiecesOk_b0_sh (Q : QT) (x0 x1 x2 : V) : shL impl_PiecesOk_b0 Q [x0, x1, x2] = (
  P1 (.bin .lss) [x2, x1] fun v0 =>
  ifB v0 (
    P2 (.idx [.sc, .sc]) [x0, x2] fun v1 v2 =>
    P1 (.call F_within 0 1) [v1, .int .i64 1, .int .i64 600] fun v3 =>
    P1 (.un .not) [v3] fun v4 =>
    ifB v4 (
      Q .ret [.bool false]) (
      P1 (.call F_within 0 1) [v2, .int .i64 0, .int .i64 9] fun v5 =>
      P1 (.un .not) [v5] fun v6 =>
      ifB v6 (
        Q .ret [.bool false]) (
        P1 (.bin .add) [x2, .int .i64 1] fun v7 =>
        Q .normal [x0, x1, v7]))) (
    Q (.exit 0) [])) := by kernel_rfl

def impl_PiecesOk_r1 : L := .seq (.rg []) (.ret [.k (.bool true)])
theorem impl_PiecesOk_r1_sh (Q : QT) : shL impl_PiecesOk_r1 Q [] = (
  Q .ret [.bool true]) := by kernel_rfl

def impl_PiecesOk_L : L := .seq (.rg []) (.seq (.seq (.rg [zl 0, zk .gtr 1 9]) (.ite (.v 2) (.seq (.rg []) (.ret [.k (.bool false)])) (.skip))) (.seq (.seq (.rg [zl 0]) (.block 0 (.seq (.tup [.v 0, .v 3, .k (.int .i64 0)]) (.loop (impl_PiecesOk_b0))))) (impl_PiecesOk_r1)))
theorem impl_PiecesOk_L_sh (Q : QT) (x0 : V) : shL impl_PiecesOk_L Q [x0] = (
  P1 (.len) [x0] fun v0 =>
  P1 (.bin .gtr) [v0, .int .i64 9] fun v1 =>
  ifB v1 (
    Q .ret [.bool false]) (
    P1 (.len) [x0] fun v2 =>
    shL (.loop impl_PiecesOk_b0) (qB 0 (qS (shL impl_PiecesOk_r1 Q) Q)) [x0, v2, .int .i64 0])) := by kernel_rfl
def impl_PiecesOk_S : Sig := ⟨[.val false [.sl [.sc, .sc]]], [(false, [.sc])], F_PiecesOk⟩
def impl_PiecesOk_hs : List NF := [⟨[], [], [], 64⟩, ⟨[(8, zq), (9, zs), (10, zs)], [], [], 64⟩, ⟨[(8, zq), (9, zs), (10, zs)], [], [], 64⟩]

end
end Go.Mw

namespace Go.Mw
theorem impl_within_ok : ∀ ds outs, F_within ds = some outs → shL impl_within_L (qRet outs) ds := F_within_elim fun a b c => by
  rw [impl_within_L_sh]; simp [within]; grind
theorem impl_PiecesOk_ok : ∀ ds outs, F_PiecesOk ds = some outs → shL impl_PiecesOk_L (qRet outs) ds := F_PiecesOk_elim fun l hp => by
  rw [impl_PiecesOk_L_sh]
  simp
  refine ⟨fun h => by simp [piecesOk]; intro h; omega, fun h9 => ?_⟩
  refine loop_upto l.length (fun k => [vL I2 v2 l, .int .i64 l.length, .int .i64 k]) (by intro i j _ _ h; simp at h; omega) (fun k => ∀ x ∈ l.take k, pieceOk x = true) (by simp) (by simp) ?_
  intro k hk hP
  rw [impl_PiecesOk_b0_sh]
  simp
  refine ⟨fun h => ?_, fun h => ?_⟩
  · have hno : pieceOk l[k] = false → piecesOk l = false := by
      intro hf
      simp only [piecesOk, Bool.and_eq_false_iff, List.all_eq_false]
      exact .inr ⟨l[k], by simp, by simp [hf]⟩
    simp (disch := omega) only [h, List.getElem?_eq_getElem, Option.some.injEq, exists_eq_left', wrap_id, all_take_succ h]
    cases h1 : within l[k].a 1 600 <;> cases h2 : within l[k].b 0 9 <;> simp_all [pieceOk]
  · obtain rfl : k = l.length := by omega
    simp [impl_PiecesOk_r1_sh, piecesOk]
    simp at hP
    exact ⟨by omega, hP⟩
end Go.Mw

namespace Go.Mw
structure Cyl where
  s : Int
  t : Int
  p : List T2
structure Stt where
  a : Int
  n : Bool
  p : Int
  deriving DecidableEq
structure Bench where
  s : Int
  t : Int
  p : List T2
  o : List (List T2)
structure Shop where
  s : Int
  t : Int
  p : List T2
  o : List (List T2)
  c : List Int
  u : Int
  m : Int
  f : Int
  y : Int
  d : Int
  deriving DecidableEq
@[simp] theorem Cyl.eta (x : Cyl) : Cyl.mk x.s x.t x.p = x := rfl
@[simp] theorem Stt.eta (x : Stt) : Stt.mk x.a x.n x.p = x := rfl
@[simp] theorem P1_eqa22 {a b c d : Int} {k : V → Prop} : P1 (.eqa false [.i, .i]) [.int .i64 a, .int .i64 b, .int .i64 c, .int .i64 d] k ↔ k (.bool (decide (a = c ∧ b = d))) := P1_of (by simp only [Prim.run, eqVs, eqV1, List.length_cons, List.length_nil, List.take, List.drop, if_true]; cases h1 : a == c <;> cases h2 : b == d <;> simp_all) k
@[simp] theorem P1_nea22 {a b c d : Int} {k : V → Prop} : P1 (.eqa true [.i, .i]) [.int .i64 a, .int .i64 b, .int .i64 c, .int .i64 d] k ↔ k (.bool (!decide (a = c ∧ b = d))) := P1_of (by simp only [Prim.run, eqVs, eqV1, List.length_cons, List.length_nil, List.take, List.drop, if_true]; cases h1 : a == c <;> cases h2 : b == d <;> simp_all) k
@[simp] theorem P1_eqaX {a c e g : Int} {b f : Bool} {k : V → Prop} : P1 (.eqa false [.i, .b, .i]) [.int .i64 a, .bool b, .int .i64 c, .int .i64 e, .bool f, .int .i64 g] k ↔ k (.bool (decide (a = e ∧ b = f ∧ c = g))) := P1_of (by simp only [Prim.run, eqVs, eqV1, List.length_cons, List.length_nil, List.take, List.drop, if_true]; cases h1 : a == e <;> cases h2 : b == f <;> cases h3 : c == g <;> simp_all) k
theorem P1_lsub2 {α : Type} {ks : List AK} {f : α → V} {l : List α} {κ κ' : IntKind} {i j : Int} {k : V → Prop} : P1 (.lsub ks) [vL ks f l, .int κ i, .int κ' j] k ↔ (0 ≤ i ∧ i ≤ j ∧ j ≤ l.length) ∧ k (vL ks f ((l.take j.toNat).drop i.toNat)) :=
  P1_opt (by simp only [Prim.run, vL, AK.eqs_refl, if_true, subB, List.length_map]; split <;> simp_all [List.map_drop, List.map_take]) k
theorem P1_lsub1 {α : Type} {ks : List AK} {f : α → V} {l : List α} {κ : IntKind} {i : Int} {k : V → Prop} : P1 (.lsub ks) [vL ks f l, .int κ i] k ↔ (0 ≤ i ∧ i ≤ l.length) ∧ k (vL ks f (l.drop i.toNat)) :=
  P1_opt (by simp only [Prim.run, vL, AK.eqs_refl, if_true, subB, List.length_map]; split <;> simp_all [List.map_drop, List.take_of_length_le]) k
@[simp] theorem P1_lsubI_2 {l : List Int} {κ κ' : IntKind} {i j : Int} {k : V → Prop} : P1 (.lsub [.sc]) [vL I1 v1 l, .int κ i, .int κ' j] k ↔ (0 ≤ i ∧ i ≤ j ∧ j ≤ l.length) ∧ k (vL I1 v1 ((l.take j.toNat).drop i.toNat)) := P1_lsub2
@[simp] theorem P1_lsubI_1 {l : List Int} {κ : IntKind} {i : Int} {k : V → Prop} : P1 (.lsub [.sc]) [vL I1 v1 l, .int κ i] k ↔ (0 ≤ i ∧ i ≤ l.length) ∧ k (vL I1 v1 (l.drop i.toNat)) := P1_lsub1
@[simp] theorem P1_appI_ {l m : List Int} {b : Nat} {k : V → Prop} : P1 (.app [.sc] b) [vL I1 v1 l, vL I1 v1 m] k ↔ ((l.length + m.length) * b ≤ 140737488355328 ∧ l.length + m.length ≤ 140737488355328) ∧ k (vL I1 v1 (l ++ m)) := P1_app
@[simp] theorem P1_appI_0 {m : List Int} {b : Nat} {k : V → Prop} : P1 (.app [.sc] b) [.list [.sc] [], vL I1 v1 m] k ↔ (m.length * b ≤ 140737488355328 ∧ m.length ≤ 140737488355328) ∧ k (vL I1 v1 m) := P1_app0
@[simp] theorem P1_appI_1 {l : List Int} {b : Nat} {k : V → Prop} : P1 (.app [.sc] b) [vL I1 v1 l, .list [.sc] []] k ↔ (l.length * b ≤ 140737488355328 ∧ l.length ≤ 140737488355328) ∧ k (vL I1 v1 l) := P1_app1
@[simp] theorem P1_lsubY_2 {l : List UInt8} {κ κ' : IntKind} {i j : Int} {k : V → Prop} : P1 (.lsub [.sc]) [vL I1 vY l, .int κ i, .int κ' j] k ↔ (0 ≤ i ∧ i ≤ j ∧ j ≤ l.length) ∧ k (vL I1 vY ((l.take j.toNat).drop i.toNat)) := P1_lsub2
@[simp] theorem P1_lsubY_1 {l : List UInt8} {κ : IntKind} {i : Int} {k : V → Prop} : P1 (.lsub [.sc]) [vL I1 vY l, .int κ i] k ↔ (0 ≤ i ∧ i ≤ l.length) ∧ k (vL I1 vY (l.drop i.toNat)) := P1_lsub1
@[simp] theorem P1_appY_ {l m : List UInt8} {b : Nat} {k : V → Prop} : P1 (.app [.sc] b) [vL I1 vY l, vL I1 vY m] k ↔ ((l.length + m.length) * b ≤ 140737488355328 ∧ l.length + m.length ≤ 140737488355328) ∧ k (vL I1 vY (l ++ m)) := P1_app
@[simp] theorem P1_appY_0 {m : List UInt8} {b : Nat} {k : V → Prop} : P1 (.app [.sc] b) [.list [.sc] [], vL I1 vY m] k ↔ (m.length * b ≤ 140737488355328 ∧ m.length ≤ 140737488355328) ∧ k (vL I1 vY m) := P1_app0
@[simp] theorem P1_appY_1 {l : List UInt8} {b : Nat} {k : V → Prop} : P1 (.app [.sc] b) [vL I1 vY l, .list [.sc] []] k ↔ (l.length * b ≤ 140737488355328 ∧ l.length ≤ 140737488355328) ∧ k (vL I1 vY l) := P1_app1
@[simp] theorem P1_lsubS_2 {l : List (List UInt8)} {κ κ' : IntKind} {i j : Int} {k : V → Prop} : P1 (.lsub [.sc]) [vL I1 vS l, .int κ i, .int κ' j] k ↔ (0 ≤ i ∧ i ≤ j ∧ j ≤ l.length) ∧ k (vL I1 vS ((l.take j.toNat).drop i.toNat)) := P1_lsub2
@[simp] theorem P1_lsubS_1 {l : List (List UInt8)} {κ : IntKind} {i : Int} {k : V → Prop} : P1 (.lsub [.sc]) [vL I1 vS l, .int κ i] k ↔ (0 ≤ i ∧ i ≤ l.length) ∧ k (vL I1 vS (l.drop i.toNat)) := P1_lsub1
@[simp] theorem P1_appS_ {l m : List (List UInt8)} {b : Nat} {k : V → Prop} : P1 (.app [.sc] b) [vL I1 vS l, vL I1 vS m] k ↔ ((l.length + m.length) * b ≤ 140737488355328 ∧ l.length + m.length ≤ 140737488355328) ∧ k (vL I1 vS (l ++ m)) := P1_app
@[simp] theorem P1_appS_0 {m : List (List UInt8)} {b : Nat} {k : V → Prop} : P1 (.app [.sc] b) [.list [.sc] [], vL I1 vS m] k ↔ (m.length * b ≤ 140737488355328 ∧ m.length ≤ 140737488355328) ∧ k (vL I1 vS m) := P1_app0
@[simp] theorem P1_appS_1 {l : List (List UInt8)} {b : Nat} {k : V → Prop} : P1 (.app [.sc] b) [vL I1 vS l, .list [.sc] []] k ↔ (l.length * b ≤ 140737488355328 ∧ l.length ≤ 140737488355328) ∧ k (vL I1 vS l) := P1_app1
@[simp] theorem P1_lsub2_2 {l : List T2} {κ κ' : IntKind} {i j : Int} {k : V → Prop} : P1 (.lsub [.sc, .sc]) [vL I2 v2 l, .int κ i, .int κ' j] k ↔ (0 ≤ i ∧ i ≤ j ∧ j ≤ l.length) ∧ k (vL I2 v2 ((l.take j.toNat).drop i.toNat)) := P1_lsub2
@[simp] theorem P1_lsub2_1 {l : List T2} {κ : IntKind} {i : Int} {k : V → Prop} : P1 (.lsub [.sc, .sc]) [vL I2 v2 l, .int κ i] k ↔ (0 ≤ i ∧ i ≤ l.length) ∧ k (vL I2 v2 (l.drop i.toNat)) := P1_lsub1
@[simp] theorem P1_app2_ {l m : List T2} {b : Nat} {k : V → Prop} : P1 (.app [.sc, .sc] b) [vL I2 v2 l, vL I2 v2 m] k ↔ ((l.length + m.length) * b ≤ 140737488355328 ∧ l.length + m.length ≤ 140737488355328) ∧ k (vL I2 v2 (l ++ m)) := P1_app
@[simp] theorem P1_app2_0 {m : List T2} {b : Nat} {k : V → Prop} : P1 (.app [.sc, .sc] b) [.list [.sc, .sc] [], vL I2 v2 m] k ↔ (m.length * b ≤ 140737488355328 ∧ m.length ≤ 140737488355328) ∧ k (vL I2 v2 m) := P1_app0
@[simp] theorem P1_app2_1 {l : List T2} {b : Nat} {k : V → Prop} : P1 (.app [.sc, .sc] b) [vL I2 v2 l, .list [.sc, .sc] []] k ↔ (l.length * b ≤ 140737488355328 ∧ l.length ≤ 140737488355328) ∧ k (vL I2 v2 l) := P1_app1
@[simp] theorem P1_lsub3_2 {l : List T3} {κ κ' : IntKind} {i j : Int} {k : V → Prop} : P1 (.lsub [.sc, .sc, .sc]) [vL I3 v3 l, .int κ i, .int κ' j] k ↔ (0 ≤ i ∧ i ≤ j ∧ j ≤ l.length) ∧ k (vL I3 v3 ((l.take j.toNat).drop i.toNat)) := P1_lsub2
@[simp] theorem P1_lsub3_1 {l : List T3} {κ : IntKind} {i : Int} {k : V → Prop} : P1 (.lsub [.sc, .sc, .sc]) [vL I3 v3 l, .int κ i] k ↔ (0 ≤ i ∧ i ≤ l.length) ∧ k (vL I3 v3 (l.drop i.toNat)) := P1_lsub1
@[simp] theorem P1_app3_ {l m : List T3} {b : Nat} {k : V → Prop} : P1 (.app [.sc, .sc, .sc] b) [vL I3 v3 l, vL I3 v3 m] k ↔ ((l.length + m.length) * b ≤ 140737488355328 ∧ l.length + m.length ≤ 140737488355328) ∧ k (vL I3 v3 (l ++ m)) := P1_app
@[simp] theorem P1_app3_0 {m : List T3} {b : Nat} {k : V → Prop} : P1 (.app [.sc, .sc, .sc] b) [.list [.sc, .sc, .sc] [], vL I3 v3 m] k ↔ (m.length * b ≤ 140737488355328 ∧ m.length ≤ 140737488355328) ∧ k (vL I3 v3 m) := P1_app0
@[simp] theorem P1_app3_1 {l : List T3} {b : Nat} {k : V → Prop} : P1 (.app [.sc, .sc, .sc] b) [vL I3 v3 l, .list [.sc, .sc, .sc] []] k ↔ (l.length * b ≤ 140737488355328 ∧ l.length ≤ 140737488355328) ∧ k (vL I3 v3 l) := P1_app1
@[simp] theorem P1_lsubL2_2 {l : List (List T2)} {κ κ' : IntKind} {i j : Int} {k : V → Prop} : P1 (.lsub [.sl [.sc, .sc]]) [vL IL2 vLL2 l, .int κ i, .int κ' j] k ↔ (0 ≤ i ∧ i ≤ j ∧ j ≤ l.length) ∧ k (vL IL2 vLL2 ((l.take j.toNat).drop i.toNat)) := P1_lsub2
@[simp] theorem P1_lsubL2_1 {l : List (List T2)} {κ : IntKind} {i : Int} {k : V → Prop} : P1 (.lsub [.sl [.sc, .sc]]) [vL IL2 vLL2 l, .int κ i] k ↔ (0 ≤ i ∧ i ≤ l.length) ∧ k (vL IL2 vLL2 (l.drop i.toNat)) := P1_lsub1
@[simp] theorem P1_appL2_ {l m : List (List T2)} {b : Nat} {k : V → Prop} : P1 (.app [.sl [.sc, .sc]] b) [vL IL2 vLL2 l, vL IL2 vLL2 m] k ↔ ((l.length + m.length) * b ≤ 140737488355328 ∧ l.length + m.length ≤ 140737488355328) ∧ k (vL IL2 vLL2 (l ++ m)) := P1_app
@[simp] theorem P1_appL2_0 {m : List (List T2)} {b : Nat} {k : V → Prop} : P1 (.app [.sl [.sc, .sc]] b) [.list [.sl [.sc, .sc]] [], vL IL2 vLL2 m] k ↔ (m.length * b ≤ 140737488355328 ∧ m.length ≤ 140737488355328) ∧ k (vL IL2 vLL2 m) := P1_app0
@[simp] theorem P1_appL2_1 {l : List (List T2)} {b : Nat} {k : V → Prop} : P1 (.app [.sl [.sc, .sc]] b) [vL IL2 vLL2 l, .list [.sl [.sc, .sc]] []] k ↔ (l.length * b ≤ 140737488355328 ∧ l.length ≤ 140737488355328) ∧ k (vL IL2 vLL2 l) := P1_app1
end Go.Mw

namespace Go.Mw
def showSum (pause : Int) : List T2 → Nat → Int
  | _, 0 => 0
  | l, k + 1 => showSum pause l k + (match l[k]? with | some x => x.a | none => 0) + (if 0 < k then pause else 0)
def showTime (l : List T2) (pause : Int) : Int := if piecesOk l && within pause 0 600 then showSum pause l l.length else -1
def E_ShowTime : List T2 × Int → List V := fun (l, p) => [vL I2 v2 l, .int .i64 p]
noncomputable def F_ShowTime : List V → Option (List V) := mkF E_ShowTime (fun (l, _) => l.length ≤ 1048576) (fun (l, p) => [.int .i64 (showTime l p)])
theorem F_ShowTime_inj : ∀ x y, E_ShowTime x = E_ShowTime y → x = y := by
  rintro ⟨l, p⟩ ⟨l', p'⟩ h
  simpa [E_ShowTime] using h
theorem F_ShowTime_elim {P : List V → List V → Prop} (h : ∀ (l : List T2) (p : Int), (l.length ≤ 1048576) → P [vL I2 v2 l, .int .i64 p] [.int .i64 (showTime l p)]) : ∀ ds outs, F_ShowTime ds = some outs → P ds outs := by
  intro ds outs hh
  obtain ⟨⟨l, p⟩, rfl, hp, rfl⟩ := mkF_inv hh
  exact h l p hp
theorem p_ShowTime {l : List T2} {p : Int} {nr_ : Nat} {kk_ : V → Prop} (hp : l.length ≤ 1048576) : P1 (.call F_ShowTime 0 nr_) [vL I2 v2 l, .int .i64 p] kk_ ↔ kk_ (.int .i64 (showTime l p)) :=
  P1_callF (by unfold F_ShowTime; exact mkF_eq F_ShowTime_inj (l, p) hp)


def mag (n : Int) : Int := if n < 0 then -n else n
def E_magnitude (n : Int) : List V := [.int .i64 n]
noncomputable def F_magnitude : List V → Option (List V) := mkF E_magnitude (fun n => -9223372036854775807 ≤ n ∧ n ≤ 9223372036854775807) (fun n => [.int .i64 (mag n)])
theorem F_magnitude_inj : ∀ x y, E_magnitude x = E_magnitude y → x = y := by
  rintro n n' h
  simpa [E_magnitude] using h
theorem F_magnitude_elim {P : List V → List V → Prop} (h : ∀ (n : Int), (-9223372036854775807 ≤ n ∧ n ≤ 9223372036854775807) → P [.int .i64 n] [.int .i64 (mag n)]) : ∀ ds outs, F_magnitude ds = some outs → P ds outs := by
  intro ds outs hh
  obtain ⟨n, rfl, hp, rfl⟩ := mkF_inv hh
  exact h n hp
theorem p_magnitude {n : Int} {nr_ : Nat} {kk_ : V → Prop} (hp : -9223372036854775807 ≤ n ∧ n ≤ 9223372036854775807) : P1 (.call F_magnitude 0 nr_) [.int .i64 n] kk_ ↔ kk_ (.int .i64 (mag n)) :=
  P1_callF (by unfold F_magnitude; exact mkF_eq F_magnitude_inj (n) hp)

def isPerm (o : List Int) (n : Int) : Bool := decide ((o.length : Int) = n ∧ (∀ x ∈ o, 0 ≤ x ∧ x < n) ∧ o.Nodup)
def E_isPermutation : List Int × Int → List V := fun (o, n) => [vL I1 v1 o, .int .i64 n]
noncomputable def F_isPermutation : List V → Option (List V) := mkF E_isPermutation (fun (o, n) => o.length ≤ 1048576 ∧ n ≤ 1048576) (fun (o, n) => [.bool (isPerm o n)])
theorem F_isPermutation_inj : ∀ x y, E_isPermutation x = E_isPermutation y → x = y := by
  rintro ⟨o, n⟩ ⟨o', n'⟩ h
  simpa [E_isPermutation] using h
theorem F_isPermutation_elim {P : List V → List V → Prop} (h : ∀ (o : List Int) (n : Int), (o.length ≤ 1048576 ∧ n ≤ 1048576) → P [vL I1 v1 o, .int .i64 n] [.bool (isPerm o n)]) : ∀ ds outs, F_isPermutation ds = some outs → P ds outs := by
  intro ds outs hh
  obtain ⟨⟨o, n⟩, rfl, hp, rfl⟩ := mkF_inv hh
  exact h o n hp
theorem p_isPermutation {o : List Int} {n : Int} {nr_ : Nat} {kk_ : V → Prop} (hp : o.length ≤ 1048576 ∧ n ≤ 1048576) : P1 (.call F_isPermutation 0 nr_) [vL I1 v1 o, .int .i64 n] kk_ ↔ kk_ (.bool (isPerm o n)) :=
  P1_callF (by unfold F_isPermutation; exact mkF_eq F_isPermutation_inj (o, n) hp)

def moodOf (l : List T2) (i : Int) : Int := match l[i.toNat]? with | some x => x.b | none => 0
def stepsTo (l : List T2) (o : List Int) : Nat → Int
  | 0 => 0
  | k + 1 => stepsTo l o k + (if 0 < k then mag (moodOf l (o[k]?.getD 0) - moodOf l (o[k - 1]?.getD 0)) else 0)
def moodSteps (l : List T2) (o : List Int) : Int := if piecesOk l && isPerm o l.length then stepsTo l o o.length else -1
def E_MoodSteps : List T2 × List Int → List V := fun (l, o) => [vL I2 v2 l, vL I1 v1 o]
noncomputable def F_MoodSteps : List V → Option (List V) := mkF E_MoodSteps (fun (l, o) => l.length ≤ 1048576 ∧ o.length ≤ 1048576) (fun (l, o) => [.int .i64 (moodSteps l o)])
theorem F_MoodSteps_inj : ∀ x y, E_MoodSteps x = E_MoodSteps y → x = y := by
  rintro ⟨l, o⟩ ⟨l', o'⟩ h
  simpa [E_MoodSteps] using h
theorem F_MoodSteps_elim {P : List V → List V → Prop} (h : ∀ (l : List T2) (o : List Int), (l.length ≤ 1048576 ∧ o.length ≤ 1048576) → P [vL I2 v2 l, vL I1 v1 o] [.int .i64 (moodSteps l o)]) : ∀ ds outs, F_MoodSteps ds = some outs → P ds outs := by
  intro ds outs hh
  obtain ⟨⟨l, o⟩, rfl, hp, rfl⟩ := mkF_inv hh
  exact h l o hp
theorem p_MoodSteps {l : List T2} {o : List Int} {nr_ : Nat} {kk_ : V → Prop} (hp : l.length ≤ 1048576 ∧ o.length ≤ 1048576) : P1 (.call F_MoodSteps 0 nr_) [vL I2 v2 l, vL I1 v1 o] kk_ ↔ kk_ (.int .i64 (moodSteps l o)) :=
  P1_callF (by unfold F_MoodSteps; exact mkF_eq F_MoodSteps_inj (l, o) hp)


def pinLess (p q : T2) : Bool := decide (p.b < q.b ∨ p.b = q.b ∧ p.a < q.a)
def rising : List T2 → Bool
  | [] => true
  | [_] => true
  | a :: b :: r => pinLess a b && rising (b :: r)
def pinIn (s t : Int) (p : T2) : Bool := within p.a 0 (t - 1) && within p.b 0 (s - 1)
def cylOk (c : Cyl) : Bool := within c.s 4 96 && within c.t 1 100 && decide (c.p.length ≤ 100) && (c.p.all (pinIn c.s c.t) && rising c.p)
def sttOk (c : Cyl) (x : Stt) : Bool := cylOk c && (within x.a 0 (c.s - 1) && within x.p 0 100000)
def pinsAt (c : Cyl) (a : Int) : List Int := if cylOk c && within a (-1000000) 1000000 then (c.p.filter fun p => p.b == a % c.s).map (·.a) else []
def stepsLeft (c : Cyl) (x : Stt) : Int := if sttOk c x then (if x.n then c.s - x.a else 0) else -1
def nextStt (c : Cyl) (x : Stt) : Stt := ⟨(x.a + 1) % c.s, decide ((x.a + 1) % c.s ≠ 0), x.p + (pinsAt c x.a).length⟩
def canStep (c : Cyl) (x : Stt) : Bool := sttOk c x && x.n && sttOk c (nextStt c x)
def itS (c : Cyl) (x : Stt) : Nat → Stt
  | 0 => x
  | k + 1 => nextStt c (itS c x k)
def itL (c : Cyl) (x : Stt) : Nat → List Int
  | 0 => []
  | k + 1 => itL c x k ++ pinsAt c (itS c x k).a
def runN (c : Cyl) (x : Stt) : Nat := (c.s - x.a).toNat
def runOk (c : Cyl) (x : Stt) : Bool := sttOk c x && (x.n && (List.range (runN c x)).all fun k => canStep c (itS c x k))
def runBox (c : Cyl) (x : Stt) : Stt × List Int := if runOk c x then (itS c x (runN c x), itL c x (runN c x)) else (x, [])
end Go.Mw

namespace Go.Mw
noncomputable section
def impl_ShowTime_b0 : L := .seq (.seq (.rg [zb .lss 4 3]) (.seq (.ite (.v 5) (.skip) (.seq (zt [1]) (.exit 0))) (.seq (.block 1 (.seq (.seq (.rg [zj 2 4]) (.seq (.rg [zb .add 1 6]) (.seq (.rg [zk .gtr 4 0]) (.ite (.v 9) (.seq (.rg [zb .add 8 0]) (zt [0, 10, 2, 3, 4])) (.seq (.skip) (zt [0, 8, 2, 3, 4])))))) (zt [0, 1, 2, 3, 4]))) (.rg [zk .add 4 1])))) (zt [0, 1, 2, 3, 5])
theorem impl_ShowTime_b0_sh (Q : QT) (x0 x1 x2 x3 x4 : V) : shL impl_ShowTime_b0 Q [x0, x1, x2, x3, x4] = (
  P1 (.bin .lss) [x4, x3] fun v0 =>
  ifB v0 (
    P2 (.idx [.sc, .sc]) [x2, x4] fun v1 _ =>
    P1 (.bin .add) [x1, v1] fun v3 =>
    P1 (.bin .gtr) [x4, .int .i64 0] fun v4 =>
    ifB v4 (
      P1 (.bin .add) [v3, x0] fun v5 =>
      P1 (.bin .add) [x4, .int .i64 1] fun v6 =>
      Q .normal [x0, v5, x2, x3, v6]) (
      P1 (.bin .add) [x4, .int .i64 1] fun v7 =>
      Q .normal [x0, v3, x2, x3, v7])) (
    Q (.exit 0) [x1])) := by kernel_rfl

def impl_ShowTime_r1 : L := .seq (.rg []) (.ret [.v 0])
theorem impl_ShowTime_r1_sh (Q : QT) (x0 : V) : shL impl_ShowTime_r1 Q [x0] = (
  Q .ret [x0]) := by kernel_rfl

def impl_ShowTime_L : L := .seq (.rg []) (.seq (.seq (.rg [zc F_PiecesOk 1 [0], zn 2, ⟨[(.v 3, false)], .call F_within 0 1, [.v 1, .k (.int .i64 0), .k (.int .i64 600)], 1⟩, ⟨[(.v 3, false)], .un .not, [.v 4], 1⟩, ⟨[], .pick, [.v 3, .k (.bool true), .v 5], 1⟩]) (.ite (.v 6) (.seq (.rg []) (.ret [.k (.int .i64 (-1))])) (.skip))) (.seq (.rg []) (.seq (.seq (.rg [zl 0]) (.block 0 (.seq (.tup [.v 1, .k (.int .i64 0), .v 0, .v 7, .k (.int .i64 0)]) (.loop (impl_ShowTime_b0))))) (impl_ShowTime_r1))))
theorem impl_ShowTime_L_sh (Q : QT) (x0 x1 : V) : shL impl_ShowTime_L Q [x0, x1] = (
  P1 (.call F_PiecesOk 0 1) [x0] fun v0 =>
  P1 (.un .not) [v0] fun v1 =>
  ifB v1 (
    Q .ret [.int .i64 (-1)]) (
    P1 (.call F_within 0 1) [x1, .int .i64 0, .int .i64 600] fun v2 =>
    P1 (.un .not) [v2] fun v3 =>
    ifB v3 (
      Q .ret [.int .i64 (-1)]) (
      P1 (.len) [x0] fun v4 =>
      shL (.loop impl_ShowTime_b0) (qB 0 (qS (shL impl_ShowTime_r1 Q) Q)) [x1, .int .i64 0, x0, v4, .int .i64 0]))) := by kernel_rfl
def impl_ShowTime_S : Sig := ⟨[.val false [.sl [.sc, .sc]], .val false [.sc]], [(false, [.sc])], F_ShowTime⟩
def impl_ShowTime_hs : List NF := [⟨[(5, zs)], [], [], 64⟩, ⟨[(1, zs), (5, zs), (16, zq), (17, zs), (18, zs)], [], [], 64⟩, ⟨[(1, zs), (5, zs), (16, zq), (17, zs), (18, zs)], [], [], 64⟩, ⟨[(1, zs), (5, zs), (16, zq), (17, zs), (18, zs)], [], [], 64⟩]

def impl_isPermutation_b0 : L := .seq (.seq (.rg [zb .lss 3 2]) (.seq (.ite (.v 5) (.skip) (.seq (.tup []) (.exit 0))) (.seq (.block 1 (.seq (.seq (.rg [zi 1 3]) (.seq (.seq (.rg [zk .lss 6 0, ⟨[(.v 7, false)], .bin .geq, [.v 6, .v 0], 1⟩, ⟨[], .pick, [.v 7, .k (.bool true), .v 8], 1⟩, ⟨[(.v 9, false)], .idx [.sc], [.v 4, .v 6], 1⟩, ⟨[], .pick, [.v 9, .k (.bool true), .v 10], 1⟩]) (.ite (.v 11) (.seq (.rg []) (.ret [.k (.bool false)])) (.skip))) (.rg [zi 4 6, ⟨[], .set [.sc] 0, [.v 4, .v 6, .k (.bool true)], 1⟩]))) (zt [0, 1, 2, 3, 13]))) (.rg [zk .add 3 1])))) (zt [0, 1, 2, 5, 4])
theorem impl_isPermutation_b0_sh (Q : QT) (x0 x1 x2 x3 x4 : V) : shL impl_isPermutation_b0 Q [x0, x1, x2, x3, x4] = (
  P1 (.bin .lss) [x3, x2] fun v0 =>
  ifB v0 (
    P1 (.idx [.sc]) [x1, x3] fun v1 =>
    P1 (.bin .lss) [v1, .int .i64 0] fun v2 =>
    ifB v2 (
      Q .ret [.bool false]) (
      P1 (.bin .geq) [v1, x0] fun v3 =>
      ifB v3 (
        Q .ret [.bool false]) (
        P1 (.idx [.sc]) [x4, v1] fun v4 =>
        ifB v4 (
          Q .ret [.bool false]) (
          P1 (.idx [.sc]) [x4, v1] fun _ =>
          P1 (.set [.sc] 0) [x4, v1, .bool true] fun v6 =>
          P1 (.bin .add) [x3, .int .i64 1] fun v7 =>
          Q .normal [x0, x1, x2, v7, v6])))) (
    Q (.exit 0) [])) := by kernel_rfl

def impl_isPermutation_r1 : L := .seq (.rg []) (.ret [.k (.bool true)])
theorem impl_isPermutation_r1_sh (Q : QT) : shL impl_isPermutation_r1 Q [] = (
  Q .ret [.bool true]) := by kernel_rfl

def impl_isPermutation_L : L := .seq (.rg []) (.seq (.seq (.rg [zl 0, zb .neq 2 1]) (.ite (.v 3) (.seq (.rg []) (.ret [.k (.bool false)])) (.skip))) (.seq (.rg [⟨[], .mk [.sc] (.bool false) 1, [.v 1, .v 1], 1⟩]) (.seq (.seq (.rg [zl 0]) (.block 0 (.seq (.tup [.v 1, .v 0, .v 5, .k (.int .i64 0), .v 4]) (.loop (impl_isPermutation_b0))))) (impl_isPermutation_r1))))
theorem impl_isPermutation_L_sh (Q : QT) (x0 x1 : V) : shL impl_isPermutation_L Q [x0, x1] = (
  P1 (.len) [x0] fun v0 =>
  P1 (.bin .neq) [v0, x1] fun v1 =>
  ifB v1 (
    Q .ret [.bool false]) (
    P1 (.mk [.sc] (.bool false) 1) [x1, x1] fun v2 =>
    P1 (.len) [x0] fun v3 =>
    shL (.loop impl_isPermutation_b0) (qB 0 (qS (shL impl_isPermutation_r1 Q) Q)) [x1, x0, v3, .int .i64 0, v2])) := by kernel_rfl
def impl_isPermutation_S : Sig := ⟨[.val false [.sl [.sc]], .val false [.sc]], [(false, [.sc])], F_isPermutation⟩
def impl_isPermutation_hs : List NF := [⟨[], [], [], 64⟩, ⟨[(1, zs), (5, zo 64), (14, zr), (15, zs), (16, zs)], [(64, true, [.sc])], [], 65⟩, ⟨[(1, zs), (5, zo 64), (14, zr), (15, zs), (16, zs)], [(64, true, [.sc])], [], 65⟩]

def impl_magnitude_L : L := .seq (.rg []) (.seq (.seq (.rg [zk .lss 0 0]) (.ite (.v 1) (.seq (.rg [⟨[], .un .neg, [.v 0], 1⟩]) (.ret [.v 2])) (.skip))) (.seq (.rg []) (.ret [.v 0])))
theorem impl_magnitude_L_sh (Q : QT) (x0 : V) : shL impl_magnitude_L Q [x0] = (
  P1 (.bin .lss) [x0, .int .i64 0] fun v0 =>
  ifB v0 (
    P1 (.un .neg) [x0] fun v1 =>
    Q .ret [v1]) (
    Q .ret [x0])) := by kernel_rfl
def impl_magnitude_S : Sig := ⟨[.val false [.sc]], [(false, [.sc])], F_magnitude⟩
def impl_magnitude_hs : List NF := []

def impl_MoodSteps_b0 : L := .seq (.seq (.seq (.rg [zl 1, zb .lss 3 4]) (.ite (.v 5) (.skip) (.seq (zt [2]) (.exit 0)))) (.seq (.block 1 (.seq (.rg [zi 1 3, zj 0 6, zk .sub 3 1, zi 1 9, zj 0 10, zb .sub 8 12, zc F_magnitude 1 [13], zb .add 2 14]) (zt [0, 1, 15, 3]))) (.rg [zk .add 3 1]))) (zt [0, 1, 2, 4])
theorem impl_MoodSteps_b0_sh (Q : QT) (x0 x1 x2 x3 : V) : shL impl_MoodSteps_b0 Q [x0, x1, x2, x3] = (
  P1 (.len) [x1] fun v0 =>
  P1 (.bin .lss) [x3, v0] fun v1 =>
  ifB v1 (
    P1 (.idx [.sc]) [x1, x3] fun v2 =>
    P2 (.idx [.sc, .sc]) [x0, v2] fun _ v4 =>
    P1 (.bin .sub) [x3, .int .i64 1] fun v5 =>
    P1 (.idx [.sc]) [x1, v5] fun v6 =>
    P2 (.idx [.sc, .sc]) [x0, v6] fun _ v8 =>
    P1 (.bin .sub) [v4, v8] fun v9 =>
    P1 (.call F_magnitude 0 1) [v9] fun v10 =>
    P1 (.bin .add) [x2, v10] fun v11 =>
    P1 (.bin .add) [x3, .int .i64 1] fun v12 =>
    Q .normal [x0, x1, v11, v12]) (
    Q (.exit 0) [x2])) := by kernel_rfl

def impl_MoodSteps_r1 : L := .seq (.rg []) (.ret [.v 0])
theorem impl_MoodSteps_r1_sh (Q : QT) (x0 : V) : shL impl_MoodSteps_r1 Q [x0] = (
  Q .ret [x0]) := by kernel_rfl

def impl_MoodSteps_L : L := .seq (.rg []) (.seq (.seq (.rg [zc F_PiecesOk 1 [0], zn 2, ⟨[(.v 3, false)], .len, [.v 0], 1⟩, ⟨[(.v 3, false)], .call F_isPermutation 0 1, [.v 1, .v 4], 1⟩, ⟨[(.v 3, false)], .un .not, [.v 5], 1⟩, ⟨[], .pick, [.v 3, .k (.bool true), .v 6], 1⟩]) (.ite (.v 7) (.seq (.rg []) (.ret [.k (.int .i64 (-1))])) (.skip))) (.seq (.rg []) (.seq (.seq (.rg []) (.block 0 (.seq (.tup [.v 0, .v 1, .k (.int .i64 0), .k (.int .i64 1)]) (.loop (impl_MoodSteps_b0))))) (impl_MoodSteps_r1))))
theorem impl_MoodSteps_L_sh (Q : QT) (x0 x1 : V) : shL impl_MoodSteps_L Q [x0, x1] = (
  P1 (.call F_PiecesOk 0 1) [x0] fun v0 =>
  P1 (.un .not) [v0] fun v1 =>
  ifB v1 (
    Q .ret [.int .i64 (-1)]) (
    P1 (.len) [x0] fun v2 =>
    P1 (.call F_isPermutation 0 1) [x1, v2] fun v3 =>
    P1 (.un .not) [v3] fun v4 =>
    ifB v4 (
      Q .ret [.int .i64 (-1)]) (
      shL (.loop impl_MoodSteps_b0) (qB 0 (qS (shL impl_MoodSteps_r1 Q) Q)) [x0, x1, .int .i64 0, .int .i64 1]))) := by kernel_rfl
def impl_MoodSteps_S : Sig := ⟨[.val false [.sl [.sc, .sc]], .val false [.sl [.sc]]], [(false, [.sc])], F_MoodSteps⟩
def impl_MoodSteps_hs : List NF := [⟨[(5, zs)], [], [], 64⟩, ⟨[(0, zq), (1, zr), (5, zs), (6, zs)], [], [], 64⟩, ⟨[(0, zq), (1, zr), (5, zs), (6, zs)], [], [], 64⟩]

end
end Go.Mw

namespace Go.Mw
end Go.Mw

namespace Go.Mw
theorem pieceOk_iff (x : T2) : pieceOk x = true ↔ (1 ≤ x.a ∧ x.a ≤ 600) ∧ (0 ≤ x.b ∧ x.b ≤ 9) := by
  simp [pieceOk, within]
theorem piecesOk_len {l : List T2} (h : piecesOk l = true) : l.length ≤ 12 := by
  simp [piecesOk] at h; omega
theorem piecesOk_get {l : List T2} (h : piecesOk l = true) {k : Nat} (hk : k < l.length) : (1 ≤ l[k].a ∧ l[k].a ≤ 600) ∧ (0 ≤ l[k].b ∧ l[k].b ≤ 9) := by
  simp [piecesOk] at h
  exact (pieceOk_iff _).1 (h.2 _ (by simp))
theorem showSum_le {l : List T2} (h : piecesOk l = true) {p : Int} (h0 : 0 ≤ p) (h1 : p ≤ 600) : ∀ k : Nat, k ≤ l.length → 0 ≤ showSum p l k ∧ showSum p l k ≤ 1200 * k
  | 0, _ => by simp [showSum]
  | k + 1, hk => by
    have ih := showSum_le h h0 h1 k (by omega)
    have hg := piecesOk_get h (k := k) (by omega)
    simp only [showSum, List.getElem?_eq_getElem (show k < l.length by omega)]
    split <;> push_cast <;> omega

theorem impl_ShowTime_ok : ∀ ds outs, F_ShowTime ds = some outs → shL impl_ShowTime_L (qRet outs) ds := F_ShowTime_elim fun l p hp => by
  rw [impl_ShowTime_L_sh]
  cases h : piecesOk l with
  | false => simp [p_PiecesOk hp, h, showTime]
  | true =>
    cases h2 : within p 0 600 with
    | false => simp [p_PiecesOk hp, h, h2, showTime]
    | true =>
      have hw : 0 ≤ p ∧ p ≤ 600 := by simpa [within] using h2
      have hlen := piecesOk_len h
      simp [p_PiecesOk hp, h, h2, showTime]
      refine loop_upto l.length (fun k => [.int .i64 p, .int .i64 (showSum p l k), vL I2 v2 l, .int .i64 l.length, .int .i64 k]) (by intro i j _ _ h; simp at h; omega) (fun _ => True) (by simp [showSum]) trivial ?_
      intro k hk _
      have hb := showSum_le h hw.1 hw.2 k hk
      rw [impl_ShowTime_b0_sh]
      simp
      refine ⟨fun h3 => ?_, fun h3 => ?_⟩
      · have hg := piecesOk_get h h3
        have e : showSum p l (k + 1) = showSum p l k + l[k].a + (if 0 < k then p else 0) := by simp [showSum, h3]
        rw [e]
        simp (disch := omega) [h3, wrap_id]
        by_cases h4 : 0 < k
        · simp [h4]; omega
        · simp [h4]
      · obtain rfl : k = l.length := by omega
        simp [impl_ShowTime_r1_sh]
end Go.Mw

namespace Go.Mw
theorem rising_iff : ∀ l : List T2, rising l = true ↔ ∀ j (_ : j < l.length), 0 < j → pinLess l[j - 1] l[j] = true
  | [] => by simp [rising]
  | [a] => by simp [rising]
  | a :: b :: r => by
    simp only [rising, Bool.and_eq_true, rising_iff (b :: r)]
    constructor
    · rintro ⟨h1, h2⟩ j hj h0
      rcases j with _ | _ | j
      · omega
      · exact h1
      · exact h2 (j + 1) (by simp at hj ⊢; omega) (by omega)
    · intro h
      refine ⟨h 1 (by simp) (by omega), fun j hj h0 => ?_⟩
      have := h (j + 1) (by simp at hj ⊢; omega) (by omega)
      rcases j with _ | j
      · omega
      · exact this

def goodPin (x : Cyl) (j : Nat) (hj : j < x.p.length) : Prop := pinIn x.s x.t x.p[j] = true ∧ (0 < j → pinLess x.p[j - 1] x.p[j] = true)
theorem cylOk_iff (x : Cyl) : cylOk x = true ↔ within x.s 4 96 = true ∧ within x.t 1 100 = true ∧ x.p.length ≤ 100 ∧ ∀ j (hj : j < x.p.length), goodPin x j hj := by
  simp only [cylOk, Bool.and_eq_true, decide_eq_true_eq, rising_iff, List.all_eq_true, goodPin, and_assoc]
  refine and_congr_right fun _ => and_congr_right fun _ => and_congr_right fun _ => ?_
  constructor
  · rintro ⟨h1, h2⟩ j hj
    exact ⟨h1 _ (List.getElem_mem hj), h2 j hj⟩
  · intro h
    refine ⟨fun p hp => ?_, fun j hj h0 => (h j hj).2 h0⟩
    obtain ⟨j, hj, rfl⟩ := List.getElem_of_mem hp
    exact (h j hj).1

end Go.Mw

namespace Go.Mw
theorem cylOk_bounds {x : Cyl} (h : cylOk x = true) : (4 ≤ x.s ∧ x.s ≤ 96) ∧ (1 ≤ x.t ∧ x.t ≤ 100) ∧ x.p.length ≤ 100 := by
  have h := (cylOk_iff x).1 h
  exact ⟨by simpa [within] using h.1, by simpa [within] using h.2.1, h.2.2.1⟩
end Go.Mw

namespace Go.Mw
theorem sttOk_iff (x : Cyl) (y : Stt) : sttOk x y = true ↔ cylOk x = true ∧ (0 ≤ y.a ∧ y.a ≤ x.s - 1) ∧ (0 ≤ y.p ∧ y.p ≤ 100000) := by
  simp [sttOk, within]
end Go.Mw

namespace Go.Mw
theorem canStep_iff (x : Cyl) (y : Stt) : canStep x y = true ↔ sttOk x y = true ∧ y.n = true ∧ sttOk x (nextStt x y) = true := by
  simp [canStep, and_assoc]
theorem itS_on {x : Cyl} {y : Stt} (h : sttOk x y = true) (hn : y.n = true) : ∀ k, k < runN x y → (itS x y k).a = y.a + k ∧ (itS x y k).n = true
  | 0, _ => by simp [itS, hn]
  | k + 1, hk => by
    have ih := itS_on h hn k (by omega)
    have hs := (sttOk_iff x y).1 h
    unfold runN at hk
    have e : (y.a + k + 1) % x.s = y.a + k + 1 := Int.emod_eq_of_lt (by omega) (by omega)
    simp only [itS, nextStt, ih.1, e]
    simp; omega
theorem itS_off {x : Cyl} {y : Stt} (h : sttOk x y = true) (hn : y.n = true) : (itS x y (runN x y)).a = 0 ∧ (itS x y (runN x y)).n = false := by
  have hs := (sttOk_iff x y).1 h
  obtain ⟨k, hk⟩ : ∃ k, runN x y = k + 1 := ⟨runN x y - 1, by unfold runN; omega⟩
  have ih := itS_on h hn k (by omega)
  rw [hk]
  have e : (y.a + k + 1) % x.s = 0 := by
    rw [show y.a + k + 1 = x.s by unfold runN at hk; omega, Int.emod_self]
  simp only [itS, nextStt, ih.1, e]
  simp
end Go.Mw

namespace Go.Mw
end Go.Mw

namespace Go.Mw
end Go.Mw

namespace Go.Mw
end Go.Mw

namespace Go.Mw
theorem impl_magnitude_ok : ∀ ds outs, F_magnitude ds = some outs → shL impl_magnitude_L (qRet outs) ds := F_magnitude_elim fun n hp => by
  rw [impl_magnitude_L_sh]
  by_cases h : n < 0
  · simp (disch := omega) [mag, h, wrap_id]
  · simp [mag, h]

def seenOf (l : List Int) (n : Nat) : List Bool := (List.range n).map fun j : Nat => decide ((j : Int) ∈ l)
@[simp] theorem seenOf_len {l : List Int} {n : Nat} : (seenOf l n).length = n := by simp [seenOf]
theorem seenOf_nil (n : Nat) : seenOf [] n = List.replicate n false := by
  apply List.ext_getElem <;> simp [seenOf]
theorem seenOf_get {l : List Int} {n : Nat} {v : Int} (h0 : 0 ≤ v) (h1 : v < n) : (seenOf l n)[v.toNat]? = some (decide (v ∈ l)) := by
  have h2 : v.toNat < n := by omega
  have h3 : ((v.toNat : Nat) : Int) = v := by omega
  simp [seenOf, h2, h3]
theorem seenOf_set {l : List Int} {n : Nat} {v : Int} (h0 : 0 ≤ v) (_h1 : v < n) : (seenOf l n).set v.toNat true = seenOf (l ++ [v]) n := by
  apply List.ext_getElem
  · simp
  · intro j hj hj2
    simp only [List.getElem_set, seenOf, List.getElem_map, List.getElem_range, List.mem_append, List.mem_singleton]
    split
    · rename_i h; simp; right; omega
    · rename_i h
      have : ¬ ((j : Int) = v) := by omega
      simp [this]
def permTo (o : List Int) (n : Int) (k : Nat) : Prop := (∀ x ∈ o.take k, 0 ≤ x ∧ x < n) ∧ (o.take k).Nodup
theorem permTo_succ {o : List Int} {n : Int} {k : Nat} (h : k < o.length) : permTo o n (k + 1) ↔ permTo o n k ∧ (0 ≤ o[k] ∧ o[k] < n) ∧ o[k] ∉ o.take k := by
  unfold permTo
  rw [all_take_succ h]
  rw [take_succ_get h, List.nodup_append]
  simp
  constructor
  · rintro ⟨⟨h1, h2⟩, h3, h4⟩
    exact ⟨⟨h1, h3⟩, h2, fun hm => h4 _ hm rfl⟩
  · rintro ⟨⟨h1, h3⟩, h2, h4⟩
    exact ⟨⟨h1, h2⟩, h3, fun a ha he => h4 (he ▸ ha)⟩
theorem permTo_mono {o : List Int} {n : Int} {k : Nat} (h : permTo o n o.length) (_hk : k ≤ o.length) : permTo o n k := by
  obtain ⟨h1, h2⟩ := h
  rw [List.take_length] at h1 h2
  exact ⟨fun x hx => h1 x (List.mem_of_mem_take hx), h2.sublist (List.take_sublist _ _)⟩
theorem isPerm_iff {o : List Int} {n : Int} : isPerm o n = true ↔ (o.length : Int) = n ∧ permTo o n o.length := by
  simp [isPerm, permTo]
theorem isPerm_no {o : List Int} {n : Int} {k : Nat} (h : k < o.length) (hn : ¬ ((0 ≤ o[k] ∧ o[k] < n) ∧ o[k] ∉ o.take k)) : isPerm o n = false := by
  cases hc : isPerm o n with
  | false => rfl
  | true => exact absurd ((permTo_succ h).1 (permTo_mono (isPerm_iff.1 hc).2 h)).2 hn

theorem impl_isPermutation_ok : ∀ ds outs, F_isPermutation ds = some outs → shL impl_isPermutation_L (qRet outs) ds := F_isPermutation_elim fun o n hp => by
  rw [impl_isPermutation_L_sh]
  by_cases hn : (o.length : Int) = n
  · subst hn
    simp
    refine ⟨by omega, ?_⟩
    refine loop_upto o.length (fun k => [.int .i64 o.length, vL I1 v1 o, .int .i64 o.length, .int .i64 k, vL I1 vB (seenOf (o.take k) o.length)]) (by intro i j _ _ h; simp at h; omega) (fun k => permTo o o.length k) (by simp [seenOf_nil]) (by simp [permTo]) ?_
    intro k hk hP
    rw [impl_isPermutation_b0_sh]
    simp
    refine ⟨fun h => ?_, fun h => ?_⟩
    · have hno := isPerm_no (o := o) (n := o.length) h
      have hkw : IntKind.i64.wrap ((k : Int) + 1) = k + 1 := wrap_id (by omega) (by omega)
      simp only [h, List.getElem?_eq_getElem, Option.some.injEq, exists_eq_left', hkw, true_and]
      refine ⟨fun h1 => hno (by omega), fun h1 => ⟨fun h2 => hno (by omega), fun h2 => ?_⟩⟩
      rw [seenOf_get (l := o.take k) h1 h2, seenOf_set h1 h2, ← take_succ_get h]
      by_cases h3 : o[k] ∈ o.take k
      · simp [h3, hno, h1]
      · simp [h3]
        exact ⟨h1, (permTo_succ h).2 ⟨hP, ⟨h1, h2⟩, h3⟩⟩
    · obtain rfl : k = o.length := by omega
      simp [impl_isPermutation_r1_sh]
      exact isPerm_iff.2 ⟨rfl, hP⟩
  · have : isPerm o n = false := by
      cases hc : isPerm o n with
      | false => rfl
      | true => exact absurd (isPerm_iff.1 hc).1 hn
    simp [hn, this]
theorem mood_get {l : List T2} {o : List Int} {k : Nat} (h : k < o.length) (h0 : 0 ≤ o[k]) (h1 : o[k] < l.length) : moodOf l (o[k]?.getD 0) = (l[o[k].toNat]'(by omega)).b := by
  have h2 : o[k].toNat < l.length := by omega
  simp [moodOf, h, h2]
theorem mood_b {l : List T2} (h : piecesOk l = true) (i : Int) : 0 ≤ moodOf l i ∧ moodOf l i ≤ 9 := by
  unfold moodOf
  split
  · rename_i x hx
    obtain ⟨h1, h2⟩ := List.getElem?_eq_some_iff.1 hx
    have := piecesOk_get h h1
    rw [h2] at this
    exact this.2
  · omega
theorem stepsTo_b {l : List T2} {o : List Int} (h : piecesOk l = true) : ∀ k : Nat, 0 ≤ stepsTo l o k ∧ stepsTo l o k ≤ 9 * k
  | 0 => by simp [stepsTo]
  | k + 1 => by
    have ih := stepsTo_b (o := o) h k
    have h1 := mood_b h (o[k]?.getD 0)
    have h2 := mood_b h (o[k - 1]?.getD 0)
    simp only [stepsTo, mag]
    split <;> (try split) <;> (push_cast; omega)
theorem impl_MoodSteps_ok : ∀ ds outs, F_MoodSteps ds = some outs → shL impl_MoodSteps_L (qRet outs) ds := F_MoodSteps_elim fun l o hp => by
  rw [impl_MoodSteps_L_sh]
  cases hd : piecesOk l with
  | false => simp [p_PiecesOk hp.1, hd, moodSteps]
  | true =>
  cases hd2 : isPerm o l.length with
  | false =>
    have hpre : o.length ≤ 1048576 ∧ (l.length : Int) ≤ 1048576 := by omega
    simp [p_PiecesOk hp.1, hd, hd2, moodSteps, p_isPermutation hpre]
  | true =>
  have hlen := piecesOk_len hd
  obtain ⟨hol, hpm⟩ := isPerm_iff.1 hd2
  have hol : o.length = l.length := by omega
  have hpre : o.length ≤ 1048576 ∧ (l.length : Int) ≤ 1048576 := by omega
  simp [p_PiecesOk hp.1, hd, hd2, moodSteps, p_isPermutation hpre]
  refine loop_upto (o.length - 1) (fun k => [vL I2 v2 l, vL I1 v1 o, .int .i64 (stepsTo l o (k + 1)), .int .i64 (k + 1)]) (by intro i j _ _ h; simp at h; omega) (fun _ => True) (by simp [stepsTo]) trivial ?_
  intro k hk _
  have hb := stepsTo_b (o := o) hd (k + 1)
  rw [impl_MoodSteps_b0_sh]
  simp
  refine ⟨fun h => ?_, fun h => ?_⟩
  · have h1 : k + 1 < o.length := by omega
    have e1 : ((k : Int) + 1).toNat = k + 1 := by omega
    have e2 : IntKind.i64.wrap (k : Int) = k := by rw [wrap_id] <;> omega
    have e3 : IntKind.i64.wrap ((k : Int) + 1 + 1) = (k : Int) + 1 + 1 := by rw [wrap_id] <;> omega
    have g1 := ((permTo_succ h1).1 (permTo_mono hpm h1)).2.1
    have g2 := ((permTo_succ (show k < o.length by omega)).1 (permTo_mono hpm (show k + 1 ≤ o.length by omega))).2.1
    have m1 := mood_get (l := l) h1 g1.1 (by omega)
    have m2 := mood_get (l := l) (show k < o.length by omega) g2.1 (by omega)
    have b1 := mood_b hd (o[k + 1]?.getD 0)
    have b2 := mood_b hd (o[k]?.getD 0)
    have l1 : o[k + 1].toNat < l.length := by omega
    have l2 : o[k].toNat < l.length := by omega
    have h0 : k < o.length := by omega
    have e : stepsTo l o (k + 1 + 1) = stepsTo l o (k + 1) + mag (moodOf l (o[k + 1]?.getD 0) - moodOf l (o[k]?.getD 0)) := by
      rw [stepsTo]; simp
    have e5 : IntKind.i64.wrap (moodOf l (o[k + 1]?.getD 0) - moodOf l (o[k]?.getD 0)) = moodOf l (o[k + 1]?.getD 0) - moodOf l (o[k]?.getD 0) := wrap_id (by omega) (by omega)
    have e6 : IntKind.i64.wrap (stepsTo l o (k + 1) + mag (moodOf l (o[k + 1]?.getD 0) - moodOf l (o[k]?.getD 0))) = stepsTo l o (k + 1 + 1) := by
      rw [e]
      refine wrap_id ?_ ?_ <;> (simp only [mag]; split <;> omega)
    simp only [List.getElem?_eq_getElem h1, Option.some.injEq, exists_eq_left', List.getElem?_eq_getElem l1, e2, Int.toNat_natCast, List.getElem?_eq_getElem h0, List.getElem?_eq_getElem l2]
    rw [← m1, ← m2, e5, p_magnitude (by omega)]
    simp [e6, e3]
    omega
  · obtain rfl : k = o.length - 1 := by omega
    simp [impl_MoodSteps_r1_sh]
    rcases Nat.eq_zero_or_pos o.length with h0 | h0
    · simp [h0, stepsTo]
    · rw [Nat.sub_add_cancel h0]
end Go.Mw

namespace Go.Mw
def Shop.bench (w : Shop) : Bench := ⟨w.s, w.t, w.p, w.o⟩
end Go.Mw

namespace Go.Mw
noncomputable section
end
end Go.Mw

namespace Go.Mw
end Go.Mw

namespace Go.Mw
end Go.Mw

namespace Go.Mw
end Go.Mw

namespace Go.Mw
end Go.Mw

namespace Go.Mw
end Go.Mw

namespace Go.Mw
@[simp] theorem P1_lstL2 {a : List T2} {k : V → Prop} : P1 (.lst [.sl [.sc, .sc]] false 1) [vL I2 v2 a] k ↔ k (vL IL2 vLL2 [a]) := P1_of (by simp [Prim.run, aksOk, akOk, chunk, V.pack, vL, vLL2, AK.eqs_refl, IL2]) k
end Go.Mw

namespace Go.Mw
end Go.Mw

namespace Go.Mw
end Go.Mw

namespace Go.Mw
@[simp] theorem P1_lst14 {a b c d : Int} {k : V → Prop} : P1 (.lst [.sc] false 4) [.int .i64 a, .int .i64 b, .int .i64 c, .int .i64 d] k ↔ k (vL I1 v1 [a, b, c, d]) := P1_of (by simp [Prim.run, aksOk, akOk, chunk, V.pack, vL, v1]) k
end Go.Mw

namespace Go.Mw
noncomputable section
end
end Go.Mw

namespace Go.Mw
end Go.Mw

namespace Go.Mw
noncomputable section
end
end Go.Mw

namespace Go.Mw
end Go.Mw

namespace Go.Mw
end Go.Mw

namespace Go.Mw
def land (a b : Int) : Int := IntKind.i64.wrap (BitVec.ofInt IntKind.i64.bits a &&& BitVec.ofInt IntKind.i64.bits b).toNat
def lxor (a b : Int) : Int := IntKind.i64.wrap (BitVec.ofInt IntKind.i64.bits a ^^^ BitVec.ofInt IntKind.i64.bits b).toNat
@[simp] theorem P1_and {a b : Int} {k : V → Prop} : P1 (.bin .and) [.int .i64 a, .int .i64 b] k ↔ k (.int .i64 (land a b)) := P1_of (by simp [Prim.run, binV, binI, land]) k
@[simp] theorem P1_xor {a b : Int} {k : V → Prop} : P1 (.bin .xor) [.int .i64 a, .int .i64 b] k ↔ k (.int .i64 (lxor a b)) := P1_of (by simp [Prim.run, binV, binI, lxor]) k
theorem P1_shr {a b : Int} {κ' : IntKind} {k : V → Prop} (hb : 0 ≤ b) : P1 (.bin .shr) [.int .i64 a, .int κ' b] k ↔ k (.int .i64 (a.fdiv (2 ^ (min b.toNat IntKind.i64.bits)))) := P1_of (by simp [Prim.run, binV]; omega) k
structure Cur where
  b : List UInt8
  i : Int
  h : Int
def E_big (l : List UInt8) : List V := [vL I1 vY l]
noncomputable def F_big : List V → Option (List V) := mkF E_big (fun l => l.length ≤ 9223372036854775807) (fun l => [.bool (decide (1048576 < l.length))])
theorem F_big_inj : ∀ x y, E_big x = E_big y → x = y := by
  rintro l l' h
  simpa [E_big] using h
theorem F_big_elim {P : List V → List V → Prop} (h : ∀ (l : List UInt8), (l.length ≤ 9223372036854775807) → P [vL I1 vY l] [.bool (decide (1048576 < l.length))]) : ∀ ds outs, F_big ds = some outs → P ds outs := by
  intro ds outs hh
  obtain ⟨l, rfl, hp, rfl⟩ := mkF_inv hh
  exact h l hp
theorem p_big {l : List UInt8} {nr_ : Nat} {kk_ : V → Prop} (hp : l.length ≤ 9223372036854775807) : P1 (.call F_big 0 nr_) [vL I1 vY l] kk_ ↔ kk_ (.bool (decide (1048576 < l.length))) :=
  P1_callF (by unfold F_big; exact mkF_eq F_big_inj (l) hp)

def seedTo (l : List UInt8) : Nat → Int
  | 0 => 33091 + l.length
  | k + 1 => land (IntKind.i64.wrap (IntKind.i64.wrap (IntKind.i64.wrap (seedTo l k * 131) + (match l[k]? with | some x => (x.toNat : Int) | none => 0)) + 7)) 1073741823
def seedOf (l : List UInt8) : Int := seedTo l (min l.length 4000)
def E_l01New (l : List UInt8) : List V := [vL I1 vY l]
noncomputable def F_l01New : List V → Option (List V) := mkF E_l01New (fun l => l.length ≤ 1048576) (fun l => [vL I1 vY l, .int .i64 0, .int .i64 (seedOf l)])
theorem F_l01New_inj : ∀ x y, E_l01New x = E_l01New y → x = y := by
  rintro l l' h
  simpa [E_l01New] using h
theorem F_l01New_elim {P : List V → List V → Prop} (h : ∀ (l : List UInt8), (l.length ≤ 1048576) → P [vL I1 vY l] [vL I1 vY l, .int .i64 0, .int .i64 (seedOf l)]) : ∀ ds outs, F_l01New ds = some outs → P ds outs := by
  intro ds outs hh
  obtain ⟨l, rfl, hp, rfl⟩ := mkF_inv hh
  exact h l hp
theorem p_l01New {l : List UInt8} {nr_ : Nat} {kk_ : V → V → V → Prop} (hp : l.length ≤ 1048576) : P3 (.call F_l01New 0 nr_) [vL I1 vY l] kk_ ↔ kk_ (vL I1 vY l) (.int .i64 0) (.int .i64 (seedOf l)) :=
  P3_callF (by unfold F_l01New; exact mkF_eq F_l01New_inj (l) hp)

def hNext (h : Int) : Int := IntKind.i64.wrap (IntKind.i64.wrap (h * 6364136223846793005) + 1442695040888963407)
def hByte (h : Int) : Int := land (lxor (h.fdiv (2 ^ 33)) (h.fdiv (2 ^ 45))) 255
def cByte (x : Cur) : Int := match x.b[x.i.toNat]? with | some y => land (IntKind.i64.wrap (hByte (hNext x.h) + y.toNat)) 255 | none => hByte (hNext x.h)
def cStep (x : Cur) : Cur := ⟨x.b, if x.i < x.b.length then x.i + 1 else x.i, hNext x.h⟩
def E_l01Byte (x : Cur) : List V := [vL I1 vY x.b, .int .i64 x.i, .int .i64 x.h]
noncomputable def F_l01Byte : List V → Option (List V) := mkF E_l01Byte (fun x => 0 ≤ x.i ∧ x.b.length ≤ 1048576) (fun x => [.int .i64 (cByte x), .int .i64 ((cStep x).i), .int .i64 ((cStep x).h)])
theorem F_l01Byte_inj : ∀ x y, E_l01Byte x = E_l01Byte y → x = y := by
  rintro ⟨xb, xi, xh⟩ ⟨xb', xi', xh'⟩ h
  simpa [E_l01Byte] using h
theorem F_l01Byte_elim {P : List V → List V → Prop} (h : ∀ (x : Cur), (0 ≤ x.i ∧ x.b.length ≤ 1048576) → P [vL I1 vY x.b, .int .i64 x.i, .int .i64 x.h] [.int .i64 (cByte x), .int .i64 ((cStep x).i), .int .i64 ((cStep x).h)]) : ∀ ds outs, F_l01Byte ds = some outs → P ds outs := by
  intro ds outs hh
  obtain ⟨x, rfl, hp, rfl⟩ := mkF_inv hh
  exact h x hp
theorem p_l01Byte {x_b : List UInt8} {x_i : Int} {x_h : Int} {nr_ : Nat} {kk_ : V → V → V → Prop} (hp : 0 ≤ (⟨x_b, x_i, x_h⟩ : Cur).i ∧ (⟨x_b, x_i, x_h⟩ : Cur).b.length ≤ 1048576) : P3 (.call F_l01Byte 0 nr_) [vL I1 vY x_b, .int .i64 x_i, .int .i64 x_h] kk_ ↔ kk_ (.int .i64 (cByte (⟨x_b, x_i, x_h⟩ : Cur))) (.int .i64 ((cStep (⟨x_b, x_i, x_h⟩ : Cur)).i)) (.int .i64 ((cStep (⟨x_b, x_i, x_h⟩ : Cur)).h)) :=
  P3_callF (by unfold F_l01Byte; exact mkF_eq F_l01Byte_inj ((⟨x_b, x_i, x_h⟩ : Cur)) hp)

def cBelow (x : Cur) (n : Int) : Int := if n ≤ 0 then 0 else if n ≤ 256 then (cByte x).tmod n else
  (cByte x * 16777216 + cByte (cStep x) * 65536 + cByte (cStep (cStep x)) * 256 + cByte (cStep (cStep (cStep x)))).tmod n
def cAfter (x : Cur) (n : Int) : Cur := if n ≤ 0 then x else if n ≤ 256 then cStep x else cStep (cStep (cStep (cStep x)))
def E_l01Below : Cur × Int → List V := fun (x, n) => [vL I1 vY x.b, .int .i64 x.i, .int .i64 x.h, .int .i64 n]
noncomputable def F_l01Below : List V → Option (List V) := mkF E_l01Below (fun (x, _) => 0 ≤ x.i ∧ x.b.length ≤ 1048576) (fun (x, n) => [.int .i64 (cBelow x n), .int .i64 ((cAfter x n).i), .int .i64 ((cAfter x n).h)])
theorem F_l01Below_inj : ∀ x y, E_l01Below x = E_l01Below y → x = y := by
  rintro ⟨⟨xb, xi, xh⟩, n⟩ ⟨⟨xb', xi', xh'⟩, n'⟩ h
  simpa [E_l01Below, and_assoc] using h
theorem F_l01Below_elim {P : List V → List V → Prop} (h : ∀ (x : Cur) (n : Int), (0 ≤ x.i ∧ x.b.length ≤ 1048576) → P [vL I1 vY x.b, .int .i64 x.i, .int .i64 x.h, .int .i64 n] [.int .i64 (cBelow x n), .int .i64 ((cAfter x n).i), .int .i64 ((cAfter x n).h)]) : ∀ ds outs, F_l01Below ds = some outs → P ds outs := by
  intro ds outs hh
  obtain ⟨⟨x, n⟩, rfl, hp, rfl⟩ := mkF_inv hh
  exact h x n hp
theorem p_l01Below {x_b : List UInt8} {x_i : Int} {x_h : Int} {n : Int} {nr_ : Nat} {kk_ : V → V → V → Prop} (hp : 0 ≤ (⟨x_b, x_i, x_h⟩ : Cur).i ∧ (⟨x_b, x_i, x_h⟩ : Cur).b.length ≤ 1048576) : P3 (.call F_l01Below 0 nr_) [vL I1 vY x_b, .int .i64 x_i, .int .i64 x_h, .int .i64 n] kk_ ↔ kk_ (.int .i64 (cBelow (⟨x_b, x_i, x_h⟩ : Cur) n)) (.int .i64 ((cAfter (⟨x_b, x_i, x_h⟩ : Cur) n).i)) (.int .i64 ((cAfter (⟨x_b, x_i, x_h⟩ : Cur) n).h)) :=
  P3_callF (by unfold F_l01Below; exact mkF_eq F_l01Below_inj ((⟨x_b, x_i, x_h⟩ : Cur), n) hp)


def cylX (x : Cur) : Cur := cAfter (cAfter (cAfter x 21) 8) 10
def cur0 (l : List UInt8) : Cur := ⟨l, 0, seedOf l⟩
end Go.Mw

namespace Go.Mw
noncomputable section
def laws_big_L : L := .seq (.rg []) (.seq (.rg [zl 0, zk .gtr 1 1048576]) (.ret [.v 2]))
theorem laws_big_L_sh (Q : QT) (x0 : V) : shL laws_big_L Q [x0] = (
  P1 (.len) [x0] fun v0 =>
  P1 (.bin .gtr) [v0, .int .i64 1048576] fun v1 =>
  Q .ret [v1]) := by kernel_rfl
def laws_big_S : Sig := ⟨[.val false [.sl [.sc]]], [(false, [.sc])], F_big⟩
def laws_big_hs : List NF := []

def spec_l01New_b0 : L := .seq (.seq (.seq (.rg [zl 0, zb .lss 2 3, ⟨[(.v 4, true)], .bin .lss, [.v 2, .k (.int .i64 4000)], 1⟩, ⟨[], .pick, [.v 4, .v 5, .k (.bool false)], 1⟩]) (.ite (.v 6) (.skip) (.seq (zt [0, 1]) (.exit 0)))) (.seq (.block 1 (.seq (.rg [zk .mul 1 131, zi 0 2, ⟨[], .conv .i64, [.v 8], 1⟩, zb .add 7 9, zk .add 10 7, zk .and 11 1073741823]) (zt [0, 12, 2]))) (.rg [zk .add 2 1]))) (zt [0, 1, 3])
theorem spec_l01New_b0_sh (Q : QT) (x0 x1 x2 : V) : shL spec_l01New_b0 Q [x0, x1, x2] = (
  P1 (.len) [x0] fun v0 =>
  P1 (.bin .lss) [x2, v0] fun v1 =>
  ifB v1 (
    P1 (.bin .lss) [x2, .int .i64 4000] fun v2 =>
    ifB v2 (
      P1 (.bin .mul) [x1, .int .i64 131] fun v3 =>
      P1 (.idx [.sc]) [x0, x2] fun v4 =>
      P1 (.conv .i64) [v4] fun v5 =>
      P1 (.bin .add) [v3, v5] fun v6 =>
      P1 (.bin .add) [v6, .int .i64 7] fun v7 =>
      P1 (.bin .and) [v7, .int .i64 1073741823] fun v8 =>
      P1 (.bin .add) [x2, .int .i64 1] fun v9 =>
      Q .normal [x0, v8, v9]) (
      Q (.exit 0) [x0, x1])) (
    Q (.exit 0) [x0, x1])) := by kernel_rfl

def spec_l01New_r1 : L := .seq (.rg []) (.ret [.v 0, .k (.int .i64 0), .v 1])
theorem spec_l01New_r1_sh (Q : QT) (x0 x1 : V) : shL spec_l01New_r1 Q [x0, x1] = (
  Q .ret [x0, .int .i64 0, x1]) := by kernel_rfl

def spec_l01New_L : L := .seq (.rg []) (.seq (.rg [zl 0, ⟨[], .bin .add, [.k (.int .i64 33091), .v 1], 1⟩]) (.seq (.seq (.rg []) (.block 0 (.seq (.tup [.v 0, .v 2, .k (.int .i64 0)]) (.loop (spec_l01New_b0))))) (spec_l01New_r1)))
theorem spec_l01New_L_sh (Q : QT) (x0 : V) : shL spec_l01New_L Q [x0] = (
  P1 (.len) [x0] fun v0 =>
  P1 (.bin .add) [.int .i64 33091, v0] fun v1 =>
  shL (.loop spec_l01New_b0) (qB 0 (qS (shL spec_l01New_r1 Q) Q)) [x0, v1, .int .i64 0]) := by kernel_rfl
def spec_l01New_S : Sig := ⟨[.new [.sl [.sc], .sc, .sc], .val false [.sl [.sc]]], [], F_l01New⟩
def spec_l01New_hs : List NF := [⟨[(0, zr), (3, zs)], [], [], 64⟩, ⟨[(0, zr), (3, zs), (4, zs)], [], [], 64⟩, ⟨[(0, zr), (3, zs), (4, zs)], [], [], 64⟩]

def spec_l01Byte_L : L := .seq (.rg []) (.seq (.rg [zk .mul 2 6364136223846793005, zk .add 3 1442695040888963407]) (.seq (.rg [⟨[], .bin .shr, [.v 4, .k (.int .u64 33)], 1⟩, ⟨[], .bin .shr, [.v 4, .k (.int .u64 45)], 1⟩, zb .xor 5 6, zk .and 7 255]) (.seq (.seq (.rg [zl 0, zb .lss 1 9]) (.ite (.v 10) (.seq (.seq (.rg [zi 0 1, ⟨[], .conv .i64, [.v 11], 1⟩, zb .add 8 12, zk .and 13 255]) (.rg [zk .add 1 1])) (zt [14, 0, 15, 4])) (.seq (.skip) (zt [8, 0, 1, 4])))) (.seq (.rg []) (.ret [.v 0, .v 2, .v 3])))))
theorem spec_l01Byte_L_sh (Q : QT) (x0 x1 x2 : V) : shL spec_l01Byte_L Q [x0, x1, x2] = (
  P1 (.bin .mul) [x2, .int .i64 6364136223846793005] fun v0 =>
  P1 (.bin .add) [v0, .int .i64 1442695040888963407] fun v1 =>
  P1 (.bin .shr) [v1, .int .u64 33] fun v2 =>
  P1 (.bin .shr) [v1, .int .u64 45] fun v3 =>
  P1 (.bin .xor) [v2, v3] fun v4 =>
  P1 (.bin .and) [v4, .int .i64 255] fun v5 =>
  P1 (.len) [x0] fun v6 =>
  P1 (.bin .lss) [x1, v6] fun v7 =>
  ifB v7 (
    P1 (.idx [.sc]) [x0, x1] fun v8 =>
    P1 (.conv .i64) [v8] fun v9 =>
    P1 (.bin .add) [v5, v9] fun v10 =>
    P1 (.bin .and) [v10, .int .i64 255] fun v11 =>
    P1 (.bin .add) [x1, .int .i64 1] fun v12 =>
    Q .ret [v11, v12, v1]) (
    Q .ret [v5, x1, v1])) := by kernel_rfl
def spec_l01Byte_S : Sig := ⟨[.ptr 0 [.sl [.sc], .sc, .sc]], [(false, [.sc])], F_l01Byte⟩
def spec_l01Byte_hs : List NF := [⟨[(3, zs)], [], [(0, [.ro [.sc], .sc, .sc])], 64⟩]

def spec_l01Below_L : L := .seq (.rg []) (.seq (.seq (.rg [zk .leq 3 0]) (.ite (.v 4) (.seq (.rg []) (.ret [.k (.int .i64 0), .v 1, .v 2])) (.skip))) (.seq (.seq (.rg [zk .leq 3 256]) (.ite (.v 5) (.seq (.rg [⟨[], .call F_l01Byte 0 1, [.v 0, .v 1, .v 2], 3⟩, zb .rem 6 3]) (.ret [.v 9, .v 7, .v 8])) (.skip))) (.seq (.rg [⟨[], .call F_l01Byte 0 1, [.v 0, .v 1, .v 2], 3⟩]) (.seq (.rg [⟨[], .call F_l01Byte 0 1, [.v 0, .v 7, .v 8], 3⟩]) (.seq (.rg [⟨[], .call F_l01Byte 0 1, [.v 0, .v 10, .v 11], 3⟩]) (.seq (.rg [⟨[], .call F_l01Byte 0 1, [.v 0, .v 13, .v 14], 3⟩]) (.seq (.rg [zk .mul 6 16777216, zk .mul 9 65536, zb .add 18 19, zk .mul 12 256, zb .add 20 21, zb .add 22 15, zb .rem 23 3]) (.ret [.v 24, .v 16, .v 17]))))))))
theorem spec_l01Below_L_sh (Q : QT) (x0 x1 x2 x3 : V) : shL spec_l01Below_L Q [x0, x1, x2, x3] = (
  P1 (.bin .leq) [x3, .int .i64 0] fun v0 =>
  ifB v0 (
    Q .ret [.int .i64 0, x1, x2]) (
    P1 (.bin .leq) [x3, .int .i64 256] fun v1 =>
    ifB v1 (
      P3 (.call F_l01Byte 0 1) [x0, x1, x2] fun v2 v3 v4 =>
      P1 (.bin .rem) [v2, x3] fun v5 =>
      Q .ret [v5, v3, v4]) (
      P3 (.call F_l01Byte 0 1) [x0, x1, x2] fun v6 v7 v8 =>
      P3 (.call F_l01Byte 0 1) [x0, v7, v8] fun v9 v10 v11 =>
      P3 (.call F_l01Byte 0 1) [x0, v10, v11] fun v12 v13 v14 =>
      P3 (.call F_l01Byte 0 1) [x0, v13, v14] fun v15 v16 v17 =>
      P1 (.bin .mul) [v6, .int .i64 16777216] fun v18 =>
      P1 (.bin .mul) [v9, .int .i64 65536] fun v19 =>
      P1 (.bin .add) [v18, v19] fun v20 =>
      P1 (.bin .mul) [v12, .int .i64 256] fun v21 =>
      P1 (.bin .add) [v20, v21] fun v22 =>
      P1 (.bin .add) [v22, v15] fun v23 =>
      P1 (.bin .rem) [v23, x3] fun v24 =>
      Q .ret [v24, v16, v17]))) := by kernel_rfl
def spec_l01Below_S : Sig := ⟨[.ptr 0 [.sl [.sc], .sc, .sc], .val false [.sc]], [(false, [.sc])], F_l01Below⟩
def spec_l01Below_hs : List NF := []

end
end Go.Mw

namespace Go.Mw
theorem land_range (a : Int) (m : Nat) (hm : m < 4611686018427387904) : 0 ≤ land a m ∧ land a m ≤ m := by
  have h : (BitVec.ofInt IntKind.i64.bits a &&& BitVec.ofInt IntKind.i64.bits (m : Int)).toNat ≤ m := by
    rw [BitVec.toNat_and]
    refine Nat.le_trans Nat.and_le_right ?_
    simp [IntKind.bits]
    omega
  unfold land
  rw [wrap_id (by omega) (by omega)]
  omega
theorem land255 (a : Int) : 0 ≤ land a 255 ∧ land a 255 ≤ 255 := land_range a 255 (by omega)
theorem hByte_range (h : Int) : 0 ≤ hByte h ∧ hByte h ≤ 255 := land255 _
theorem cByte_range (x : Cur) : 0 ≤ cByte x ∧ cByte x ≤ 255 := by
  unfold cByte
  split
  · exact land255 _
  · exact hByte_range _
@[simp] theorem cStep_b (x : Cur) : (cStep x).b = x.b := rfl
theorem cStep_i {x : Cur} (h : 0 ≤ x.i) : 0 ≤ (cStep x).i := by unfold cStep; dsimp only; split <;> omega
@[simp] theorem cAfter_b (x : Cur) (n : Int) : (cAfter x n).b = x.b := by unfold cAfter; split <;> (try split) <;> simp
theorem cAfter_i {x : Cur} {n : Int} (h : 0 ≤ x.i) : 0 ≤ (cAfter x n).i := by
  unfold cAfter
  split
  · exact h
  · split
    · exact cStep_i h
    · exact cStep_i (cStep_i (cStep_i (cStep_i h)))
theorem tmod_range {a n : Int} (ha : 0 ≤ a) (hn : 0 < n) : 0 ≤ a.tmod n ∧ a.tmod n < n := ⟨Int.tmod_nonneg _ ha, Int.tmod_lt_of_pos _ hn⟩
theorem cBelow_range (x : Cur) {n : Int} (hn : 0 < n) : 0 ≤ cBelow x n ∧ cBelow x n < n := by
  unfold cBelow
  rw [if_neg (by omega)]
  have h1 := cByte_range x
  have h2 := cByte_range (cStep x)
  have h3 := cByte_range (cStep (cStep x))
  have h4 := cByte_range (cStep (cStep (cStep x)))
  split
  · exact tmod_range (by omega) hn
  · exact tmod_range (by omega) hn

theorem laws_big_ok : ∀ ds outs, F_big ds = some outs → shL laws_big_L (qRet outs) ds := F_big_elim fun l hp => by
  rw [laws_big_L_sh]; simp; omega
theorem spec_l01New_ok : ∀ ds outs, F_l01New ds = some outs → shL spec_l01New_L (qRet outs) ds := F_l01New_elim fun l hp => by
  rw [spec_l01New_L_sh]
  have hw : IntKind.i64.wrap (33091 + (l.length : Int)) = 33091 + l.length := wrap_id (by omega) (by omega)
  simp only [P1_len, P1_add, hw]
  refine loop_upto (min l.length 4000) (fun k => [vL I1 vY l, .int .i64 (seedTo l k), .int .i64 k]) (by intro i j _ _ h; simp at h; omega) (fun _ => True) (by simp [seedTo]) trivial ?_
  intro k hk _
  rw [spec_l01New_b0_sh]
  simp
  refine ⟨fun h => ⟨fun h2 => ?_, fun h2 => ?_⟩, fun h => ?_⟩
  · have hw2 : IntKind.i64.wrap ((k : Int) + 1) = k + 1 := wrap_id (by omega) (by omega)
    have hw3 : IntKind.i64.wrap (l[k].toNat : Int) = l[k].toNat := by have := l[k].toNat_lt; exact wrap_id (by omega) (by omega)
    simp [h, hw2, hw3, seedTo]
    omega
  · obtain rfl : k = min l.length 4000 := by omega
    simp [spec_l01New_r1_sh, seedOf]
  · obtain rfl : k = min l.length 4000 := by omega
    simp [spec_l01New_r1_sh, seedOf]
theorem spec_l01Byte_ok : ∀ ds outs, F_l01Byte ds = some outs → shL spec_l01Byte_L (qRet outs) ds := F_l01Byte_elim fun x hp => by
  rw [spec_l01Byte_L_sh]
  have e33 : min (33 : Int).toNat IntKind.i64.bits = 33 := by decide
  have e45 : min (45 : Int).toNat IntKind.i64.bits = 45 := by decide
  simp only [P1_mul, P1_add, P1_shr (show (0 : Int) ≤ 33 by omega), P1_shr (show (0 : Int) ≤ 45 by omega), e33, e45, P1_xor, P1_and, P1_len, P1_lss, ifB_bool, decide_eq_true_eq, decide_eq_false_iff_not]
  have eh : IntKind.i64.wrap (IntKind.i64.wrap (x.h * 6364136223846793005) + 1442695040888963407) = hNext x.h := rfl
  have eb : land (lxor ((hNext x.h).fdiv (2 ^ 33)) ((hNext x.h).fdiv (2 ^ 45))) 255 = hByte (hNext x.h) := rfl
  simp only [eh, eb]
  refine ⟨fun h => ?_, fun h => ?_⟩
  · have hi : x.i.toNat < x.b.length := by omega
    have hw2 : IntKind.i64.wrap (x.i + 1) = x.i + 1 := wrap_id (by omega) (by omega)
    have hw3 : IntKind.i64.wrap (x.b[x.i.toNat].toNat : Int) = x.b[x.i.toNat].toNat := by have := x.b[x.i.toNat].toNat_lt; exact wrap_id (by omega) (by omega)
    simp [hp.1, hi, h, hw2, hw3, cByte, cStep]
  · have hi : x.b[x.i.toNat]? = none := by rw [List.getElem?_eq_none_iff]; omega
    simp [hi, h, cByte, cStep]
theorem q_byte {b : List UInt8} (c : Cur) {n : Nat} {k : V → V → V → Prop} (hb : c.b = b) (h : 0 ≤ c.i) (hl : b.length ≤ 1048576) : P3 (.call F_l01Byte 0 n) [vL I1 vY b, .int .i64 c.i, .int .i64 c.h] k ↔ k (.int .i64 (cByte c)) (.int .i64 (cStep c).i) (.int .i64 (cStep c).h) := by
  subst hb; exact p_l01Byte ⟨h, hl⟩
theorem spec_l01Below_ok : ∀ ds outs, F_l01Below ds = some outs → shL spec_l01Below_L (qRet outs) ds := F_l01Below_elim fun x n hp => by
  rw [spec_l01Below_L_sh]
  have hb := hp.2
  have i0 := hp.1
  have i1 := cStep_i i0
  have i2 := cStep_i i1
  have i3 := cStep_i i2
  have h1 := cByte_range x
  have h2 := cByte_range (cStep x)
  have h3 := cByte_range (cStep (cStep x))
  have h4 := cByte_range (cStep (cStep (cStep x)))
  by_cases hn : n ≤ 0
  · simp [hn, cBelow, cAfter]
  · by_cases hn2 : n ≤ 256
    · simp [hn, hn2, cBelow, cAfter, q_byte x, i0, hb]; omega
    · have w1 : IntKind.i64.wrap (cByte x * 16777216) = cByte x * 16777216 := wrap_id (by omega) (by omega)
      have w2 : IntKind.i64.wrap (cByte (cStep x) * 65536) = cByte (cStep x) * 65536 := wrap_id (by omega) (by omega)
      have w3 : IntKind.i64.wrap (cByte x * 16777216 + cByte (cStep x) * 65536) = cByte x * 16777216 + cByte (cStep x) * 65536 := wrap_id (by omega) (by omega)
      have w4 : IntKind.i64.wrap (cByte (cStep (cStep x)) * 256) = cByte (cStep (cStep x)) * 256 := wrap_id (by omega) (by omega)
      have w5 : IntKind.i64.wrap (cByte x * 16777216 + cByte (cStep x) * 65536 + cByte (cStep (cStep x)) * 256) = cByte x * 16777216 + cByte (cStep x) * 65536 + cByte (cStep (cStep x)) * 256 := wrap_id (by omega) (by omega)
      have w6 : IntKind.i64.wrap (cByte x * 16777216 + cByte (cStep x) * 65536 + cByte (cStep (cStep x)) * 256 + cByte (cStep (cStep (cStep x)))) = cByte x * 16777216 + cByte (cStep x) * 65536 + cByte (cStep (cStep x)) * 256 + cByte (cStep (cStep (cStep x))) := wrap_id (by omega) (by omega)
      simp only [P1_leq, ifB_bool, decide_eq_true_eq, decide_eq_false_iff_not]
      refine ⟨fun h => absurd h hn, fun _ => ⟨fun h => absurd h hn2, fun _ => ?_⟩⟩
      rw [q_byte (b := x.b) x rfl i0 hb, q_byte (b := x.b) (cStep x) rfl i1 hb, q_byte (b := x.b) (cStep (cStep x)) rfl i2 hb, q_byte (b := x.b) (cStep (cStep (cStep x))) rfl i3 hb]
      simp [hn, hn2, cBelow, cAfter, w1, w2, w3, w4, w5, w6]; omega
theorem q_below {b : List UInt8} (c : Cur) {n : Int} {m : Nat} {k : V → V → V → Prop} (hb : c.b = b) (h : 0 ≤ c.i) (hl : b.length ≤ 1048576) : P3 (.call F_l01Below 0 m) [vL I1 vY b, .int .i64 c.i, .int .i64 c.h, .int .i64 n] k ↔ k (.int .i64 (cBelow c n)) (.int .i64 (cAfter c n).i) (.int .i64 (cAfter c n).h) := by
  subst hb; exact p_l01Below ⟨h, hl⟩

end Go.Mw

namespace Go.Mw
@[simp] theorem P1_lstI3 {a b c : Int} {k : V → Prop} : P1 (.lst [.sc] false 3) [.int .i64 a, .int .i64 b, .int .i64 c] k ↔ k (vL I1 v1 [a, b, c]) := P1_of (by simp [Prim.run, aksOk, akOk, chunk, V.pack, vL, v1]) k

@[simp] theorem cylX_b (x : Cur) : (cylX x).b = x.b := by simp [cylX]
end Go.Mw

namespace Go.Mw
@[simp] theorem P1_neaX {a c e g : Int} {b f : Bool} {k : V → Prop} : P1 (.eqa true [.i, .b, .i]) [.int .i64 a, .bool b, .int .i64 c, .int .i64 e, .bool f, .int .i64 g] k ↔ k (.bool (!decide (a = e ∧ b = f ∧ c = g))) := P1_of (by simp only [Prim.run, eqVs, eqV1, List.length_cons, List.length_nil, List.take, List.drop, if_true]; cases b <;> cases f <;> simp <;> grind) k
theorem pinsAt_le (c : Cyl) (a : Int) : (pinsAt c a).length ≤ c.p.length := by
  unfold pinsAt
  split
  · simpa using List.length_filter_le _ _
  · simp
theorem it_p (c : Cyl) (x : Stt) : ∀ k, (itS c x k).p = x.p + (itL c x k).length ∧ (itL c x k).length ≤ k * c.p.length
  | 0 => by simp [itS, itL]
  | k + 1 => by
    obtain ⟨h1, h2⟩ := it_p c x k
    have h3 := pinsAt_le c (itS c x k).a
    simp only [itS, itL, nextStt, List.length_append, h1, Nat.add_mul]
    omega
structure Small (c : Cyl) (x : Stt) : Prop where
  ok : sttOk c x = true
  len : c.p.length ≤ 9
  p : x.p ≤ 77
theorem Small.it {c : Cyl} {x : Stt} (h : Small c x) (hn : x.n = true) {k : Nat} (hk : k ≤ runN c x) : sttOk c (itS c x k) = true := by
  have h0 := (sttOk_iff c x).1 h.ok
  have hb := cylOk_bounds h0.1
  have h1 := it_p c x k
  have h77 := h.p
  have h2 : k * c.p.length ≤ 96 * 9 := Nat.mul_le_mul (by simp only [runN] at hk; omega) h.len
  rw [sttOk_iff]
  refine ⟨h0.1, ?_, by omega⟩
  by_cases e : k < runN c x
  · have := (itS_on h.ok hn k e).1
    simp only [runN] at e
    omega
  · obtain rfl : k = runN c x := by omega
    have := (itS_off h.ok hn).1
    omega
theorem Small.can {c : Cyl} {x : Stt} (h : Small c x) (hn : x.n = true) {k : Nat} (hk : k < runN c x) : canStep c (itS c x k) = true := by
  rw [canStep_iff]
  exact ⟨h.it hn (by omega), (itS_on h.ok hn k hk).2, h.it hn (k := k + 1) hk⟩
def runM (c : Cyl) (x : Stt) : Nat := if x.n then runN c x else 0
theorem Small.steps {c : Cyl} {x : Stt} (h : Small c x) : stepsLeft c x = runM c x := by
  have h0 := (sttOk_iff c x).1 h.ok
  unfold stepsLeft runM
  rw [if_pos h.ok]
  cases x.n
  · simp
  · simp only [if_true, runN]; omega
theorem Small.run {c : Cyl} {x : Stt} (h : Small c x) : runBox c x = (itS c x (runM c x), itL c x (runM c x)) := by
  unfold runBox runM
  cases hn : x.n with
  | false =>
    have : runOk c x = false := by simp [runOk, hn]
    simp [this, itS, itL]
  | true =>
    have : runOk c x = true := by
      simp only [runOk, h.ok, hn, Bool.true_and, List.all_eq_true, List.mem_range]
      intro k hk; exact h.can hn hk
    simp [this]
end Go.Mw

namespace Go.Mw
theorem Small.start {c : Cyl} {x : Stt} (h : Small c x) : Small c ⟨0, true, 0⟩ := by
  have h0 := (sttOk_iff c x).1 h.ok
  have hb := cylOk_bounds h0.1
  exact ⟨(sttOk_iff c _).2 ⟨h0.1, by dsimp only; omega, by dsimp only; omega⟩, h.len, by dsimp only; omega⟩
end Go.Mw

namespace Go.Mw
def atB (l : List UInt8) (n : Int) : Int := match l[((n * 5 + 1) % l.length).toNat]? with | some x => x.toNat | none => 0
def E_at : List UInt8 × Int → List V := fun (l, n) => [vL I1 vY l, .int .i64 n]
noncomputable def F_at : List V → Option (List V) := mkF E_at (fun (l, n) => l.length ≤ 1048576 ∧ 0 ≤ n ∧ n ≤ 1000000) (fun (l, n) => [.int .i64 (atB l n)])
theorem F_at_inj : ∀ x y, E_at x = E_at y → x = y := by
  rintro ⟨l, n⟩ ⟨l', n'⟩ h
  simpa [E_at] using h
theorem F_at_elim {P : List V → List V → Prop} (h : ∀ (l : List UInt8) (n : Int), (l.length ≤ 1048576 ∧ 0 ≤ n ∧ n ≤ 1000000) → P [vL I1 vY l, .int .i64 n] [.int .i64 (atB l n)]) : ∀ ds outs, F_at ds = some outs → P ds outs := by
  intro ds outs hh
  obtain ⟨⟨l, n⟩, rfl, hp, rfl⟩ := mkF_inv hh
  exact h l n hp
theorem p_at {l : List UInt8} {n : Int} {nr_ : Nat} {kk_ : V → Prop} (hp : l.length ≤ 1048576 ∧ 0 ≤ n ∧ n ≤ 1000000) : P1 (.call F_at 0 nr_) [vL I1 vY l, .int .i64 n] kk_ ↔ kk_ (.int .i64 (atB l n)) :=
  P1_callF (by unfold F_at; exact mkF_eq F_at_inj (l, n) hp)

def E_has : List Int × Int → List V := fun (l, n) => [vL I1 v1 l, .int .i64 n]
noncomputable def F_has : List V → Option (List V) := mkF E_has (fun (l, _) => l.length ≤ 1048576) (fun (l, n) => [.bool (decide (n ∈ l))])
theorem F_has_inj : ∀ x y, E_has x = E_has y → x = y := by
  rintro ⟨l, n⟩ ⟨l', n'⟩ h
  simpa [E_has] using h
theorem F_has_elim {P : List V → List V → Prop} (h : ∀ (l : List Int) (n : Int), (l.length ≤ 1048576) → P [vL I1 v1 l, .int .i64 n] [.bool (decide (n ∈ l))]) : ∀ ds outs, F_has ds = some outs → P ds outs := by
  intro ds outs hh
  obtain ⟨⟨l, n⟩, rfl, hp, rfl⟩ := mkF_inv hh
  exact h l n hp
theorem p_has {l : List Int} {n : Int} {nr_ : Nat} {kk_ : V → Prop} (hp : l.length ≤ 1048576) : P1 (.call F_has 0 nr_) [vL I1 v1 l, .int .i64 n] kk_ ↔ kk_ (.bool (decide (n ∈ l))) :=
  P1_callF (by unfold F_has; exact mkF_eq F_has_inj (l, n) hp)

end Go.Mw

namespace Go.Mw
noncomputable section
def laws_at_L : L := .seq (.rg []) (.seq (.seq (.rg [zl 0, zk .eql 2 0]) (.ite (.v 3) (.seq (.rg []) (.ret [.k (.int .i64 0)])) (.skip))) (.seq (.rg [zk .mul 1 5, zk .add 4 1, zl 0, zb .rem 5 6, zi 0 7, ⟨[], .conv .i64, [.v 8], 1⟩]) (.ret [.v 9])))
theorem laws_at_L_sh (Q : QT) (x0 x1 : V) : shL laws_at_L Q [x0, x1] = (
  P1 (.len) [x0] fun v0 =>
  P1 (.bin .eql) [v0, .int .i64 0] fun v1 =>
  ifB v1 (
    Q .ret [.int .i64 0]) (
    P1 (.bin .mul) [x1, .int .i64 5] fun v2 =>
    P1 (.bin .add) [v2, .int .i64 1] fun v3 =>
    P1 (.len) [x0] fun v4 =>
    P1 (.bin .rem) [v3, v4] fun v5 =>
    P1 (.idx [.sc]) [x0, v5] fun v6 =>
    P1 (.conv .i64) [v6] fun v7 =>
    Q .ret [v7])) := by kernel_rfl
def laws_at_S : Sig := ⟨[.val false [.sl [.sc]], .val false [.sc]], [(false, [.sc])], F_at⟩
def laws_at_hs : List NF := []

def laws_has_b0 : L := .seq (.seq (.seq (.rg [zl 0, zb .lss 2 3]) (.ite (.v 4) (.skip) (.seq (.tup []) (.exit 0)))) (.seq (.block 1 (.seq (.seq (.rg [zi 0 2, zb .eql 5 1]) (.ite (.v 6) (.seq (.rg []) (.ret [.k (.bool true)])) (.skip))) (zt [0, 1, 2]))) (.rg [zk .add 2 1]))) (zt [0, 1, 3])
theorem laws_has_b0_sh (Q : QT) (x0 x1 x2 : V) : shL laws_has_b0 Q [x0, x1, x2] = (
  P1 (.len) [x0] fun v0 =>
  P1 (.bin .lss) [x2, v0] fun v1 =>
  ifB v1 (
    P1 (.idx [.sc]) [x0, x2] fun v2 =>
    P1 (.bin .eql) [v2, x1] fun v3 =>
    ifB v3 (
      Q .ret [.bool true]) (
      P1 (.bin .add) [x2, .int .i64 1] fun v4 =>
      Q .normal [x0, x1, v4])) (
    Q (.exit 0) [])) := by kernel_rfl

def laws_has_r1 : L := .seq (.rg []) (.ret [.k (.bool false)])
theorem laws_has_r1_sh (Q : QT) : shL laws_has_r1 Q [] = (
  Q .ret [.bool false]) := by kernel_rfl

def laws_has_L : L := .seq (.rg []) (.seq (.seq (.rg []) (.block 0 (.seq (.tup [.v 0, .v 1, .k (.int .i64 0)]) (.loop (laws_has_b0))))) (laws_has_r1))
theorem laws_has_L_sh (Q : QT) (x0 x1 : V) : shL laws_has_L Q [x0, x1] = (
  shL (.loop laws_has_b0) (qB 0 (qS (shL laws_has_r1 Q) Q)) [x0, x1, .int .i64 0]) := by kernel_rfl
def laws_has_S : Sig := ⟨[.val false [.sl [.sc]], .val false [.sc]], [(false, [.sc])], F_has⟩
def laws_has_hs : List NF := [⟨[], [], [], 64⟩, ⟨[(0, zr), (1, zs), (5, zs)], [], [], 64⟩, ⟨[(0, zr), (1, zs), (5, zs)], [], [], 64⟩]

end
end Go.Mw

namespace Go.Mw
theorem laws_at_ok : ∀ ds outs, F_at ds = some outs → shL laws_at_L (qRet outs) ds := F_at_elim fun l n hp => by
  obtain ⟨h1, h2, h3⟩ := hp
  rw [laws_at_L_sh]
  have w1 : IntKind.i64.wrap (n * 5) = n * 5 := wrap_id (by omega) (by omega)
  have w2 : IntKind.i64.wrap (n * 5 + 1) = n * 5 + 1 := wrap_id (by omega) (by omega)
  by_cases h : l = []
  · subst h; simp [atB]
  · have hl : 0 < l.length := List.length_pos_iff.2 h
    have e : (n * 5 + 1).tmod l.length = (n * 5 + 1) % l.length := Int.tmod_eq_emod_of_nonneg (by omega)
    have r1 := Int.emod_nonneg (n * 5 + 1) (show (l.length : Int) ≠ 0 by omega)
    have r2 := Int.emod_lt_of_pos (n * 5 + 1) (show (0 : Int) < l.length by omega)
    have r3 : ((n * 5 + 1) % l.length).toNat < l.length := by omega
    have hw3 : IntKind.i64.wrap (l[((n * 5 + 1) % l.length).toNat].toNat : Int) = l[((n * 5 + 1) % l.length).toNat].toNat := by have := l[((n * 5 + 1) % l.length).toNat].toNat_lt; exact wrap_id (by omega) (by omega)
    have h0 : ¬ ((l.length : Int) = 0) := by omega
    simp [w1, w2, h, e, r1, r3, hw3, atB]
theorem atB_range (l : List UInt8) (n : Int) : 0 ≤ atB l n ∧ atB l n ≤ 255 := by
  unfold atB
  split
  · rename_i x _; have := x.toNat_lt; omega
  · omega
theorem laws_has_ok : ∀ ds outs, F_has ds = some outs → shL laws_has_L (qRet outs) ds := F_has_elim fun l n hp => by
  rw [laws_has_L_sh]
  refine loop_upto l.length (fun k => [vL I1 v1 l, .int .i64 n, .int .i64 k]) (by intro i j _ _ h; simp at h; omega) (fun k => n ∉ l.take k) (by simp) (by simp) ?_
  intro k hk hP
  rw [laws_has_b0_sh]
  simp
  refine ⟨fun h => ?_, fun h => ?_⟩
  · have hw : IntKind.i64.wrap ((k : Int) + 1) = k + 1 := wrap_id (by omega) (by omega)
    simp [h, hw]
    refine ⟨fun e => by rw [← e]; exact List.getElem_mem h, fun e => ?_⟩
    rw [take_succ_get h]
    simp only [List.mem_append, List.mem_singleton, not_or]
    exact ⟨hP, fun h => e h.symm⟩
  · obtain rfl : k = l.length := by omega
    rw [List.take_length] at hP
    simp [laws_has_r1_sh, hP]
end Go.Mw

namespace Go.Mw
def landn (a b : Int) : Int := IntKind.i64.wrap (BitVec.ofInt IntKind.i64.bits a &&& ~~~(BitVec.ofInt IntKind.i64.bits b)).toNat
@[simp] theorem P1_andNot {a b : Int} {k : V → Prop} : P1 (.bin .andNot) [.int .i64 a, .int .i64 b] k ↔ k (.int .i64 (landn a b)) := P1_of (by simp [Prim.run, binV, binI, landn]) k
theorem P1_shl {a b : Int} {κ' : IntKind} {k : V → Prop} (hb : 0 ≤ b) : P1 (.bin .shl) [.int .i64 a, .int κ' b] k ↔ k (.int .i64 (IntKind.i64.wrap (a * 2 ^ (min b.toNat IntKind.i64.bits)))) := P1_of (by simp [Prim.run, binV]; omega) k
def mem (s n : Nat) : List Nat := (List.range n).filter (s.testBit ·)
def ints (l : List Nat) : List Int := l.map fun x : Nat => (x : Int)
def E_membersOf : Int × Int → List V := fun (s, n) => [.int .i64 s, .int .i64 n]
noncomputable def F_membersOf : List V → Option (List V) := mkF E_membersOf (fun (s, n) => 0 ≤ s ∧ s < 512 ∧ 0 ≤ n ∧ n ≤ 9) (fun (s, n) => [vL I1 v1 (ints (mem s.toNat n.toNat))])
theorem F_membersOf_inj : ∀ x y, E_membersOf x = E_membersOf y → x = y := by
  rintro ⟨s, n⟩ ⟨s', n'⟩ h
  simpa [E_membersOf] using h
theorem F_membersOf_elim {P : List V → List V → Prop} (h : ∀ (s : Int) (n : Int), (0 ≤ s ∧ s < 512 ∧ 0 ≤ n ∧ n ≤ 9) → P [.int .i64 s, .int .i64 n] [vL I1 v1 (ints (mem s.toNat n.toNat))]) : ∀ ds outs, F_membersOf ds = some outs → P ds outs := by
  intro ds outs hh
  obtain ⟨⟨s, n⟩, rfl, hp, rfl⟩ := mkF_inv hh
  exact h s n hp
theorem p_membersOf {s : Int} {n : Int} {nr_ : Nat} {kk_ : V → Prop} (hp : 0 ≤ s ∧ s < 512 ∧ 0 ≤ n ∧ n ≤ 9) : P1 (.call F_membersOf 0 nr_) [.int .i64 s, .int .i64 n] kk_ ↔ kk_ (vL I1 v1 (ints (mem s.toNat n.toNat))) :=
  P1_callF (by unfold F_membersOf; exact mkF_eq F_membersOf_inj (s, n) hp)

def lgap (l : List T2) (j k : Nat) : Int := mag (moodOf l j - moodOf l k)
def lvOver (l : List T2) (T : Nat → Int) (k : Nat) (a : Int) (js : List Nat) : Int := js.foldl (fun a j => max a (T j + lgap l j k)) a
def lvT (l : List T2) (n : Nat) : Nat → Nat → Nat → Int
  | 0 => fun _ _ => 0
  | s + 1 => fun t k => if t = s then lvOver l (lvT l n s (s - 2 ^ k)) k 0 (mem (s - 2 ^ k) n) else lvT l n s t k
def lv (l : List T2) (n s k : Nat) : Int := lvT l n (s + 1) s k
def lvMost (l : List T2) (n s : Nat) (b : Int) (ks : List Nat) : Int := ks.foldl (fun a k => max a (lv l n s k)) b
def lvBest (l : List T2) (n : Nat) : Nat → Int
  | 0 => 0
  | s + 1 => lvMost l n s (lvBest l n s) (mem s n)
def lively (l : List T2) : Int := if piecesOk l then lvBest l l.length (2 ^ l.length) else -1
def E_LivelyShow (l : List T2) : List V := [vL I2 v2 l]
noncomputable def F_LivelyShow : List V → Option (List V) := mkF E_LivelyShow (fun l => l.length ≤ 1048576) (fun l => [.int .i64 (lively l)])
theorem F_LivelyShow_inj : ∀ x y, E_LivelyShow x = E_LivelyShow y → x = y := by
  rintro l l' h
  simpa [E_LivelyShow] using h
theorem F_LivelyShow_elim {P : List V → List V → Prop} (h : ∀ (l : List T2), (l.length ≤ 1048576) → P [vL I2 v2 l] [.int .i64 (lively l)]) : ∀ ds outs, F_LivelyShow ds = some outs → P ds outs := by
  intro ds outs hh
  obtain ⟨l, rfl, hp, rfl⟩ := mkF_inv hh
  exact h l hp
theorem p_LivelyShow {l : List T2} {nr_ : Nat} {kk_ : V → Prop} (hp : l.length ≤ 1048576) : P1 (.call F_LivelyShow 0 nr_) [vL I2 v2 l] kk_ ↔ kk_ (.int .i64 (lively l)) :=
  P1_callF (by unfold F_LivelyShow; exact mkF_eq F_LivelyShow_inj (l) hp)

end Go.Mw

namespace Go.Mw
noncomputable section
def impl_membersOf_b0 : L := .seq (.seq (.seq (.rg [zb .lss 2 1]) (.ite (.v 4) (.skip) (.seq (zt [3]) (.exit 0)))) (.seq (.block 1 (.seq (.seq (.rg [zb .shr 0 2, zk .and 5 1, zk .eql 6 1]) (.ite (.v 7) (.seq (.rg [⟨[], .lst [.sc] false 1, [.v 2], 1⟩, ⟨[], .app [.sc] 8, [.v 3, .v 8], 1⟩]) (zt [0, 1, 2, 9])) (.seq (.skip) (zt [0, 1, 2, 3])))) (zt [0, 1, 2, 3]))) (.rg [zk .add 2 1]))) (zt [0, 1, 4, 3])
theorem impl_membersOf_b0_sh (Q : QT) (x0 x1 x2 x3 : V) : shL impl_membersOf_b0 Q [x0, x1, x2, x3] = (
  P1 (.bin .lss) [x2, x1] fun v0 =>
  ifB v0 (
    P1 (.bin .shr) [x0, x2] fun v1 =>
    P1 (.bin .and) [v1, .int .i64 1] fun v2 =>
    P1 (.bin .eql) [v2, .int .i64 1] fun v3 =>
    ifB v3 (
      P1 (.lst [.sc] false 1) [x2] fun v4 =>
      P1 (.app [.sc] 8) [x3, v4] fun v5 =>
      P1 (.bin .add) [x2, .int .i64 1] fun v6 =>
      Q .normal [x0, x1, v6, v5]) (
      P1 (.bin .add) [x2, .int .i64 1] fun v7 =>
      Q .normal [x0, x1, v7, x3])) (
    Q (.exit 0) [x3])) := by kernel_rfl

def impl_membersOf_r1 : L := .seq (.rg []) (.ret [.v 0])
theorem impl_membersOf_r1_sh (Q : QT) (x0 : V) : shL impl_membersOf_r1 Q [x0] = (
  Q .ret [x0]) := by kernel_rfl

def impl_membersOf_L : L := .seq (.rg []) (.seq (.rg [⟨[], .lst [.sc] false 0, [], 1⟩]) (.seq (.seq (.rg []) (.block 0 (.seq (.tup [.v 0, .v 1, .k (.int .i64 0), .v 2]) (.loop (impl_membersOf_b0))))) (impl_membersOf_r1)))
theorem impl_membersOf_L_sh (Q : QT) (x0 x1 : V) : shL impl_membersOf_L Q [x0, x1] = (
  P1 (.lst [.sc] false 0) [] fun v0 =>
  shL (.loop impl_membersOf_b0) (qB 0 (qS (shL impl_membersOf_r1 Q) Q)) [x0, x1, .int .i64 0, v0]) := by kernel_rfl
def impl_membersOf_S : Sig := ⟨[.val false [.sc], .val false [.sc]], [(false, [.sl [.sc]])], F_membersOf⟩
def impl_membersOf_hs : List NF := [⟨[(5, zo 64)], [(64, true, [.sc])], [], 65⟩, ⟨[(0, zs), (1, zs), (5, zo 64), (6, zs)], [(64, true, [.sc])], [], 65⟩, ⟨[(0, zs), (1, zs), (5, zo 64), (6, zs)], [(64, true, [.sc])], [], 65⟩, ⟨[(0, zs), (1, zs), (5, zo 64), (6, zs)], [(64, true, [.sc])], [], 65⟩]

def impl_LivelyShow_b2 : L := .seq (.seq (.rg [zb .lss 11 10]) (.seq (.ite (.v 15) (.skip) (.seq (zt [0, 1, 2, 3, 4, 6, 7, 8, 9, 12, 13]) (.exit 4))) (.seq (.block 5 (.seq (.seq (.rg [zi 14 11]) (.seq (.rg [⟨[], .idx [.sl [.sc]], [.v 12, .v 5], 1⟩, zi 17 16, zj 0 16, zj 0 4, zb .sub 20 22, zc F_magnitude 1 [23], zb .add 18 24]) (.rg [⟨[], .idx [.sl [.sc]], [.v 12, .v 3], 1⟩, ⟨[], .idx [.sl [.sc]], [.v 12, .v 3], 1⟩, zi 27 4, ⟨[], .mx, [.v 28, .v 25], 1⟩, zi 26 4, ⟨[], .setIn [.sc] 0 [.sl [.sc]] 0, [.v 26, .v 4, .v 29, .v 26, .v 12, .v 3], 1⟩]))) (zt [0, 1, 2, 3, 4, 5, 6, 7, 8, 9, 10, 11, 31, 13, 14]))) (.rg [zk .add 11 1])))) (zt [0, 1, 2, 3, 4, 5, 6, 7, 8, 9, 10, 15, 12, 13, 14])
theorem impl_LivelyShow_b2_sh (Q : QT) (x0 x1 x2 x3 x4 x5 x6 x7 x8 x9 x10 x11 x12 x13 x14 : V) : shL impl_LivelyShow_b2 Q [x0, x1, x2, x3, x4, x5, x6, x7, x8, x9, x10, x11, x12, x13, x14] = (
  P1 (.bin .lss) [x11, x10] fun v0 =>
  ifB v0 (
    P1 (.idx [.sc]) [x14, x11] fun v1 =>
    P1 (.idx [.sl [.sc]]) [x12, x5] fun v2 =>
    P1 (.idx [.sc]) [v2, v1] fun v3 =>
    P2 (.idx [.sc, .sc]) [x0, v1] fun _ v5 =>
    P2 (.idx [.sc, .sc]) [x0, x4] fun _ v7 =>
    P1 (.bin .sub) [v5, v7] fun v8 =>
    P1 (.call F_magnitude 0 1) [v8] fun v9 =>
    P1 (.bin .add) [v3, v9] fun v10 =>
    P1 (.idx [.sl [.sc]]) [x12, x3] fun v11 =>
    P1 (.idx [.sl [.sc]]) [x12, x3] fun v12 =>
    P1 (.idx [.sc]) [v12, x4] fun v13 =>
    P1 (.mx) [v13, v10] fun v14 =>
    P1 (.idx [.sc]) [v11, x4] fun _ =>
    P1 (.setIn [.sc] 0 [.sl [.sc]] 0) [v11, x4, v14, v11, x12, x3] fun v16 =>
    P1 (.bin .add) [x11, .int .i64 1] fun v17 =>
    Q .normal [x0, x1, x2, x3, x4, x5, x6, x7, x8, x9, x10, v17, v16, x13, x14]) (
    Q (.exit 4) [x0, x1, x2, x3, x4, x6, x7, x8, x9, x12, x13])) := by kernel_rfl

def impl_LivelyShow_r3 : L := .rg [⟨[], .idx [.sl [.sc]], [.v 9, .v 3], 1⟩, zi 11 4, ⟨[], .mx, [.v 2, .v 12], 1⟩]
theorem impl_LivelyShow_r3_sh (Q : QT) (x0 x1 x2 x3 x4 x5 x6 x7 x8 x9 x10 : V) : shL impl_LivelyShow_r3 Q [x0, x1, x2, x3, x4, x5, x6, x7, x8, x9, x10] = (
  P1 (.idx [.sl [.sc]]) [x9, x3] fun v0 =>
  P1 (.idx [.sc]) [v0, x4] fun v1 =>
  P1 (.mx) [x2, v1] fun v2 =>
  Q .normal [x0, x1, x2, x3, x4, x5, x6, x7, x8, x9, x10, v0, v1, v2]) := by kernel_rfl

def impl_LivelyShow_r4 : L := zt [0, 1, 13, 3, 5, 6, 7, 8, 9, 10]
theorem impl_LivelyShow_r4_sh (Q : QT) (x0 x1 x2 x3 x4 x5 x6 x7 x8 x9 x10 x11 x12 x13 : V) : shL impl_LivelyShow_r4 Q [x0, x1, x2, x3, x4, x5, x6, x7, x8, x9, x10, x11, x12, x13] = (
  Q .normal [x0, x1, x13, x3, x5, x6, x7, x8, x9, x10]) := by kernel_rfl

def impl_LivelyShow_r5 : L := .rg [zk .add 7 1]
theorem impl_LivelyShow_r5_sh (Q : QT) (x0 x1 x2 x3 x4 x5 x6 x7 x8 x9 : V) : shL impl_LivelyShow_r5 Q [x0, x1, x2, x3, x4, x5, x6, x7, x8, x9] = (
  P1 (.bin .add) [x7, .int .i64 1] fun v0 =>
  Q .normal [x0, x1, x2, x3, x4, x5, x6, x7, x8, x9, v0]) := by kernel_rfl

def impl_LivelyShow_r6 : L := zt [0, 1, 2, 3, 4, 5, 6, 10, 8, 9]
theorem impl_LivelyShow_r6_sh (Q : QT) (x0 x1 x2 x3 x4 x5 x6 x7 x8 x9 x10 : V) : shL impl_LivelyShow_r6 Q [x0, x1, x2, x3, x4, x5, x6, x7, x8, x9, x10] = (
  Q .normal [x0, x1, x2, x3, x4, x5, x6, x10, x8, x9]) := by kernel_rfl

def impl_LivelyShow_b1 : L := .seq (.seq (.rg [zb .lss 7 6]) (.seq (.ite (.v 10) (.skip) (.seq (zt [0, 1, 2, 4, 5, 8]) (.exit 2))) (.seq (.block 3 (.seq (.seq (.rg [zi 9 7]) (.seq (.rg [⟨[], .bin .shl, [.k (.int .i64 1), .v 11], 1⟩, zb .andNot 3 12]) (.seq (.seq (.rg [zc F_membersOf 1 [13, 1], zl 14]) (.block 4 (.seq (.tup [.v 0, .v 1, .v 2, .v 3, .v 11, .v 13, .v 4, .v 5, .v 6, .v 7, .v 15, .k (.int .i64 0), .v 8, .v 9, .v 14]) (.loop (impl_LivelyShow_b2))))) (impl_LivelyShow_r3)))) (impl_LivelyShow_r4))) (impl_LivelyShow_r5)))) (impl_LivelyShow_r6)
theorem impl_LivelyShow_b1_sh (Q : QT) (x0 x1 x2 x3 x4 x5 x6 x7 x8 x9 : V) : shL impl_LivelyShow_b1 Q [x0, x1, x2, x3, x4, x5, x6, x7, x8, x9] = (
  P1 (.bin .lss) [x7, x6] fun v0 =>
  ifB v0 (
    P1 (.idx [.sc]) [x9, x7] fun v1 =>
    P1 (.bin .shl) [.int .i64 1, v1] fun v2 =>
    P1 (.bin .andNot) [x3, v2] fun v3 =>
    P1 (.call F_membersOf 0 1) [v3, x1] fun v4 =>
    P1 (.len) [v4] fun v5 =>
    shL (.loop impl_LivelyShow_b2) (qB 4 (qS (shL impl_LivelyShow_r3 (qS (shL impl_LivelyShow_r4 (qB 3 (qS (shL impl_LivelyShow_r5 (qS (shL impl_LivelyShow_r6 Q) Q)) (qS (shL impl_LivelyShow_r6 Q) Q)))) (qB 3 (qS (shL impl_LivelyShow_r5 (qS (shL impl_LivelyShow_r6 Q) Q)) (qS (shL impl_LivelyShow_r6 Q) Q))))) (qS (shL impl_LivelyShow_r4 (qB 3 (qS (shL impl_LivelyShow_r5 (qS (shL impl_LivelyShow_r6 Q) Q)) (qS (shL impl_LivelyShow_r6 Q) Q)))) (qB 3 (qS (shL impl_LivelyShow_r5 (qS (shL impl_LivelyShow_r6 Q) Q)) (qS (shL impl_LivelyShow_r6 Q) Q)))))) [x0, x1, x2, x3, v1, v3, x4, x5, x6, x7, v5, .int .i64 0, x8, x9, v4]) (
    Q (.exit 2) [x0, x1, x2, x4, x5, x8])) := by kernel_rfl

def impl_LivelyShow_r7 : L := zt [0, 1, 2, 3, 4, 5]
theorem impl_LivelyShow_r7_sh (Q : QT) (x0 x1 x2 x3 x4 x5 : V) : shL impl_LivelyShow_r7 Q [x0, x1, x2, x3, x4, x5] = (
  Q .normal [x0, x1, x2, x3, x4, x5]) := by kernel_rfl

def impl_LivelyShow_r8 : L := .rg [zk .add 4 1]
theorem impl_LivelyShow_r8_sh (Q : QT) (x0 x1 x2 x3 x4 x5 : V) : shL impl_LivelyShow_r8 Q [x0, x1, x2, x3, x4, x5] = (
  P1 (.bin .add) [x4, .int .i64 1] fun v0 =>
  Q .normal [x0, x1, x2, x3, x4, x5, v0]) := by kernel_rfl

def impl_LivelyShow_r9 : L := zt [0, 1, 2, 3, 6, 5]
theorem impl_LivelyShow_r9_sh (Q : QT) (x0 x1 x2 x3 x4 x5 x6 : V) : shL impl_LivelyShow_r9 Q [x0, x1, x2, x3, x4, x5, x6] = (
  Q .normal [x0, x1, x2, x3, x6, x5]) := by kernel_rfl

def impl_LivelyShow_b0 : L := .seq (.seq (.rg [zb .lss 4 3]) (.seq (.ite (.v 6) (.skip) (.seq (zt [2]) (.exit 0))) (.seq (.block 1 (.seq (.seq (.rg []) (.seq (.rg [⟨[], .mk [.sc] (.int .i64 0) 8, [.v 1, .v 1], 1⟩, ⟨[], .idx [.sl [.sc]], [.v 5, .v 4], 1⟩, ⟨[], .set [.sl [.sc]] 0, [.v 5, .v 4, .v 7], 1⟩]) (.seq (.rg [zc F_membersOf 1 [4, 1], zl 10]) (.block 2 (.seq (.tup [.v 0, .v 1, .v 2, .v 4, .v 3, .v 4, .v 11, .k (.int .i64 0), .v 9, .v 10]) (.loop (impl_LivelyShow_b1))))))) (impl_LivelyShow_r7))) (impl_LivelyShow_r8)))) (impl_LivelyShow_r9)
theorem impl_LivelyShow_b0_sh (Q : QT) (x0 x1 x2 x3 x4 x5 : V) : shL impl_LivelyShow_b0 Q [x0, x1, x2, x3, x4, x5] = (
  P1 (.bin .lss) [x4, x3] fun v0 =>
  ifB v0 (
    P1 (.mk [.sc] (.int .i64 0) 8) [x1, x1] fun v1 =>
    P1 (.idx [.sl [.sc]]) [x5, x4] fun _ =>
    P1 (.set [.sl [.sc]] 0) [x5, x4, v1] fun v3 =>
    P1 (.call F_membersOf 0 1) [x4, x1] fun v4 =>
    P1 (.len) [v4] fun v5 =>
    shL (.loop impl_LivelyShow_b1) (qB 2 (qS (shL impl_LivelyShow_r7 (qB 1 (qS (shL impl_LivelyShow_r8 (qS (shL impl_LivelyShow_r9 Q) Q)) (qS (shL impl_LivelyShow_r9 Q) Q)))) (qB 1 (qS (shL impl_LivelyShow_r8 (qS (shL impl_LivelyShow_r9 Q) Q)) (qS (shL impl_LivelyShow_r9 Q) Q))))) [x0, x1, x2, x4, x3, x4, v5, .int .i64 0, v3, v4]) (
    Q (.exit 0) [x2])) := by kernel_rfl

def impl_LivelyShow_r10 : L := .seq (.rg []) (.ret [.v 0])
theorem impl_LivelyShow_r10_sh (Q : QT) (x0 : V) : shL impl_LivelyShow_r10 Q [x0] = (
  Q .ret [x0]) := by kernel_rfl

def impl_LivelyShow_L : L := .seq (.rg []) (.seq (.seq (.rg [zc F_PiecesOk 1 [0], zn 1]) (.ite (.v 2) (.seq (.rg []) (.ret [.k (.int .i64 (-1))])) (.skip))) (.seq (.rg [zl 0]) (.seq (.rg []) (.seq (.rg [⟨[], .bin .shl, [.k (.int .i64 1), .v 3], 1⟩, ⟨[], .mk [.sl [.sc]] (.list [.sc] []) 24, [.v 4, .v 4], 1⟩]) (.seq (.seq (.rg [zl 5]) (.block 0 (.seq (.tup [.v 0, .v 3, .k (.int .i64 0), .v 6, .k (.int .i64 0), .v 5]) (.loop (impl_LivelyShow_b0))))) (impl_LivelyShow_r10))))))
theorem impl_LivelyShow_L_sh (Q : QT) (x0 : V) : shL impl_LivelyShow_L Q [x0] = (
  P1 (.call F_PiecesOk 0 1) [x0] fun v0 =>
  P1 (.un .not) [v0] fun v1 =>
  ifB v1 (
    Q .ret [.int .i64 (-1)]) (
    P1 (.len) [x0] fun v2 =>
    P1 (.bin .shl) [.int .i64 1, v2] fun v3 =>
    P1 (.mk [.sl [.sc]] (.list [.sc] []) 24) [v3, v3] fun v4 =>
    P1 (.len) [v4] fun v5 =>
    shL (.loop impl_LivelyShow_b0) (qB 0 (qS (shL impl_LivelyShow_r10 Q) Q)) [x0, v2, .int .i64 0, v5, .int .i64 0, v4])) := by kernel_rfl
def impl_LivelyShow_S : Sig := ⟨[.val false [.sl [.sc, .sc]]], [(false, [.sc])], F_LivelyShow⟩
def impl_LivelyShow_hs : List NF := [⟨[(4, zs)], [], [], 64⟩, ⟨[(0, zq), (3, zs), (4, zs), (5, zo 64), (22, zs), (23, zs)], [(64, true, [.sl [.sc]])], [], 65⟩, ⟨[(0, zq), (3, zs), (4, zs), (5, zo 64), (22, zs), (23, zs)], [(64, true, [.sl [.sc]])], [], 65⟩, ⟨[(0, zq), (3, zs), (4, zs), (5, zo 64), (22, zs), (23, zs)], [(64, true, [.sl [.sc]])], [], 65⟩, ⟨[(0, zq), (3, zs), (4, zs), (5, zo 64), (6, zs), (22, zs), (23, zs), (33, zo 65), (34, zs), (35, zs)], [(64, true, [.sl [.sc]]), (65, true, [.sc])], [], 66⟩, ⟨[(0, zq), (3, zs), (4, zs), (5, zo 64), (6, zs), (22, zs), (23, zs), (33, zo 65), (34, zs), (35, zs)], [(64, true, [.sl [.sc]]), (65, true, [.sc])], [], 66⟩, ⟨[(0, zq), (3, zs), (4, zs), (5, zo 64), (6, zs), (8, zs), (22, zs), (23, zs), (33, zo 65), (34, zs), (35, zs)], [(64, true, [.sl [.sc]]), (65, true, [.sc])], [], 66⟩, ⟨[(0, zq), (3, zs), (4, zs), (5, zo 64), (6, zs), (8, zs), (9, zs), (22, zs), (23, zs), (33, zo 65), (34, zs), (35, zs), (45, zo 66), (46, zs), (47, zs)], [(64, true, [.sl [.sc]]), (65, true, [.sc]), (66, true, [.sc])], [], 67⟩, ⟨[(0, zq), (3, zs), (4, zs), (5, zo 64), (6, zs), (8, zs), (9, zs), (22, zs), (23, zs), (33, zo 65), (34, zs), (35, zs), (45, zo 66), (46, zs), (47, zs)], [(64, true, [.sl [.sc]]), (65, true, [.sc]), (66, true, [.sc])], [], 67⟩]

end
end Go.Mw

namespace Go.Mw
theorem mag_nonneg (n : Int) : 0 ≤ mag n := by unfold mag; split <;> omega
theorem fdiv_pow (s k : Nat) (hk : k ≤ 64) : (s : Int).fdiv (2 ^ (min (k : Int).toNat IntKind.i64.bits)) = ((s / 2 ^ k : Nat) : Int) := by
  have e : min (k : Int).toNat IntKind.i64.bits = k := by simp [IntKind.bits]; omega
  rw [e, Int.fdiv_eq_ediv_of_nonneg _ (by have : (0 : Int) < 2 ^ k := Int.pow_pos (by omega)
                                          omega)]
  simp
theorem land_one {m : Nat} (_hm : m < 4611686018427387904) : land (m : Int) 1 = ((m % 2 : Nat) : Int) := by
  have h : (BitVec.ofInt IntKind.i64.bits (m : Int) &&& BitVec.ofInt IntKind.i64.bits 1).toNat = m % 2 := by
    rw [BitVec.toNat_and]
    simp [IntKind.bits]
  unfold land
  rw [h, wrap_id (by omega) (by omega)]
theorem bit_beq1 {b : Bool} : (((if b then 1 else 0 : Int)) == 1) = b := by cases b <;> rfl
theorem pow_le_of_bit {s k : Nat} (h : s.testBit k = true) : 2 ^ k ≤ s := Nat.ge_two_pow_of_testBit h
theorem pow_small {k : Nat} (hk : k ≤ 9) : 2 ^ k ≤ 512 := by
  have : 2 ^ k ≤ 2 ^ 9 := Nat.pow_le_pow_right (by omega) hk
  simpa using this
theorem shl_one {k : Nat} (hk : k ≤ 9) : IntKind.i64.wrap (1 * 2 ^ (min (k : Int).toNat IntKind.i64.bits)) = ((2 ^ k : Nat) : Int) := by
  have e : min (k : Int).toNat IntKind.i64.bits = k := by simp [IntKind.bits]; omega
  have h := pow_small hk
  rw [e, Int.one_mul]
  have e2 : (2 : Int) ^ k = ((2 ^ k : Nat) : Int) := by simp
  rw [e2]
  generalize 2 ^ k = p at *
  exact wrap_id (by omega) (by omega)
theorem P1_shr_nat {s k : Nat} {κ' : IntKind} {kk : V → Prop} (hk : k ≤ 64) : P1 (.bin .shr) [.int .i64 s, .int κ' k] kk ↔ kk (.int .i64 ((s / 2 ^ k : Nat) : Int)) := by
  rw [P1_shr (show (0 : Int) ≤ (k : Int) by omega), fdiv_pow s k hk]
theorem land_div {s k : Nat} (hs : s < 4611686018427387904) : land ((s / 2 ^ k : Nat) : Int) 1 = if s.testBit k then 1 else 0 := by
  rw [land_one (Nat.lt_of_le_of_lt (Nat.div_le_self _ _) hs), Nat.testBit_eq_decide_div_mod_eq]
  have : s / 2 ^ k % 2 = 0 ∨ s / 2 ^ k % 2 = 1 := by omega
  rcases this with h | h <;> simp [h]
theorem P1_shl_one {k : Nat} {κ' : IntKind} {kk : V → Prop} (hk : k ≤ 9) : P1 (.bin .shl) [.int .i64 1, .int κ' k] kk ↔ kk (.int .i64 ((2 ^ k : Nat) : Int)) := by
  rw [P1_shl (show (0 : Int) ≤ (k : Int) by omega), shl_one hk]
theorem landn_all : ∀ (s : Fin 512) (k : Fin 9), s.val.testBit k.val = true → landn (s.val : Int) ((2 ^ k.val : Nat) : Int) = ((s.val - 2 ^ k.val : Nat) : Int) := by decide +kernel
theorem landn_bit {s k : Nat} (hs : s < 512) (hk : k < 9) (h : s.testBit k = true) : landn (s : Int) ((2 ^ k : Nat) : Int) = ((s - 2 ^ k : Nat) : Int) := landn_all ⟨s, hs⟩ ⟨k, hk⟩ h

@[simp] theorem ints_len (l : List Nat) : (ints l).length = l.length := by simp [ints]
theorem ints_get {l : List Nat} {k : Nat} (h : k < l.length) : (ints l)[k]? = some (l[k] : Int) := by simp [ints, h]
theorem mem_mem {s n k : Nat} : k ∈ mem s n ↔ k < n ∧ s.testBit k = true := by simp [mem]
theorem mem_nodup (s n : Nat) : (mem s n).Nodup := List.nodup_range.sublist List.filter_sublist
theorem mem_succ (s n : Nat) : mem s (n + 1) = if s.testBit n then mem s n ++ [n] else mem s n := by
  unfold mem
  rw [List.range_succ, List.filter_append]
  cases h : s.testBit n <;> simp [h]
theorem mem_len (s n : Nat) : (mem s n).length ≤ n := by
  have := List.length_filter_le (s.testBit ·) (List.range n)
  simpa [mem] using this

theorem impl_membersOf_ok : ∀ ds outs, F_membersOf ds = some outs → shL impl_membersOf_L (qRet outs) ds := F_membersOf_elim fun s n hp => by
  obtain ⟨s, rfl⟩ := Int.eq_ofNat_of_zero_le hp.1
  obtain ⟨n, rfl⟩ := Int.eq_ofNat_of_zero_le hp.2.2.1
  rw [impl_membersOf_L_sh]
  simp only [P1_lst0]
  refine loop_upto n (fun k => [.int .i64 s, .int .i64 n, .int .i64 k, vL I1 v1 (ints (mem s k))]) (by intro i j _ _ h; simp at h; omega) (fun _ => True) (by simp [mem, ints]) trivial ?_
  intro k hk _
  rw [impl_membersOf_b0_sh]
  simp only [P1_lss, ifB_bool, decide_eq_true_eq, decide_eq_false_iff_not]
  refine ⟨fun h => ?_, fun h => ?_⟩
  · simp only [P1_shr_nat (show k ≤ 64 by omega), P1_and, land_div (show s < 4611686018427387904 by omega), P1_eql, bit_beq1, ifB_bool]
    have w2 : IntKind.i64.wrap ((k : Int) + 1) = (k : Int) + 1 := wrap_id (by omega) (by omega)
    have hl := mem_len s k
    refine ⟨fun hb => ?_, fun hb => ?_⟩
    · simp only [P1_lst1, P1_app, P1_add, w2, qS_normal, ints_len, List.length_singleton]
      refine ⟨⟨by omega, by omega⟩, by omega, ?_⟩
      simp [mem_succ, hb, ints]
    · simp only [P1_add, w2, qS_normal]
      refine ⟨by omega, ?_⟩
      simp [mem_succ, hb]
  · obtain rfl : k = n := by omega
    simp [impl_membersOf_r1_sh]

theorem lvT_lt (l : List T2) (n : Nat) : ∀ s t, t < s → lvT l n s t = lv l n t
  | 0, _, h => by omega
  | s + 1, t, h => by
    by_cases e : t = s
    · subst e; rfl
    · have ih := lvT_lt l n s t (by omega)
      funext k
      show (if t = s then _ else lvT l n s t k) = _
      rw [if_neg e, ih]
theorem lv_eq (l : List T2) (n : Nat) {s k : Nat} (h : s.testBit k = true) : lv l n s k = lvOver l (lv l n (s - 2 ^ k)) k 0 (mem (s - 2 ^ k) n) := by
  have hp := pow_le_of_bit h
  have h0 : 0 < 2 ^ k := Nat.two_pow_pos k
  show (if s = s then lvOver l (lvT l n s (s - 2 ^ k)) k 0 (mem (s - 2 ^ k) n) else _) = _
  rw [if_pos rfl, lvT_lt l n s (s - 2 ^ k) (by omega)]
theorem lvOver_append (l : List T2) (T : Nat → Int) (k : Nat) (a : Int) (xs ys : List Nat) : lvOver l T k a (xs ++ ys) = lvOver l T k (lvOver l T k a xs) ys := by simp [lvOver]
theorem lvOver_ge (l : List T2) (T : Nat → Int) (k : Nat) : ∀ (js : List Nat) (a : Int), a ≤ lvOver l T k a js
  | [], a => by simp [lvOver]
  | j :: js, a => by
    have := lvOver_ge l T k js (max a (T j + lgap l j k))
    simp only [lvOver, List.foldl_cons] at *
    omega
theorem lvOver_ge_mem (l : List T2) (T : Nat → Int) (k : Nat) : ∀ (js : List Nat) (a : Int) (j : Nat), j ∈ js → T j + lgap l j k ≤ lvOver l T k a js
  | i :: js, a, j, h => by
    rcases List.mem_cons.1 h with rfl | h
    · have := lvOver_ge l T k js (max a (T j + lgap l j k))
      simp only [lvOver, List.foldl_cons] at *
      omega
    · have := lvOver_ge_mem l T k js (max a (T i + lgap l i k)) j h
      simpa only [lvOver, List.foldl_cons] using this
theorem lvOver_le (l : List T2) (T : Nat → Int) (k : Nat) (B : Int) : ∀ (js : List Nat) (a : Int), a ≤ B → (∀ j ∈ js, T j + lgap l j k ≤ B) → lvOver l T k a js ≤ B
  | [], a, h, _ => by simpa [lvOver] using h
  | j :: js, a, h, hj => by
    have h1 := hj j (by simp)
    have := lvOver_le l T k B js (max a (T j + lgap l j k)) (by omega) (fun i hi => hj i (by simp [hi]))
    simpa only [lvOver, List.foldl_cons] using this
theorem lv_nonneg (l : List T2) (n : Nat) {s k : Nat} (h : s.testBit k = true) : 0 ≤ lv l n s k := by rw [lv_eq l n h]; exact lvOver_ge _ _ _ _ _
theorem lgap_le {l : List T2} (hok : piecesOk l = true) {j k : Nat} : lgap l j k ≤ 9 := by
  have hm : ∀ i : Nat, 0 ≤ moodOf l i ∧ moodOf l i ≤ 9 := by
    intro i
    unfold moodOf
    split
    · rename_i x hx
      simp only [piecesOk, Bool.and_eq_true, List.all_eq_true] at hok
      have := hok.2 x (List.mem_of_getElem? hx)
      simp only [pieceOk, within, Bool.and_eq_true, decide_eq_true_eq] at this
      omega
    · omega
  have h1 := hm j
  have h2 := hm k
  unfold lgap mag
  split <;> omega
theorem lgap_nonneg {l : List T2} {j k : Nat} : 0 ≤ lgap l j k := mag_nonneg _
theorem lv_le {l : List T2} (hok : piecesOk l = true) (n : Nat) : ∀ (s k : Nat), s.testBit k = true → lv l n s k ≤ 9 * s := by
  intro s
  induction s using Nat.strongRecOn with
  | ind s ih =>
    intro k h
    rw [lv_eq l n h]
    have hp := pow_le_of_bit h
    have h0 : 0 < 2 ^ k := Nat.two_pow_pos k
    refine lvOver_le _ _ _ _ _ _ (by omega) fun j hj => ?_
    have h1 := ih (s - 2 ^ k) (by omega) j (mem_mem.1 hj).2
    have h2 := lgap_le hok (j := j) (k := k)
    omega
theorem lvMost_append (l : List T2) (n s : Nat) (b : Int) (xs ys : List Nat) : lvMost l n s b (xs ++ ys) = lvMost l n s (lvMost l n s b xs) ys := by simp [lvMost]
end Go.Mw

namespace Go.Mw
theorem flat_inj {n t j s k : Nat} (hj : j < n) (hk : k < n) (h : t * n + j = s * n + k) : t = s ∧ j = k := by
  have h1 := congrArg (· / n) h
  have h2 := congrArg (· % n) h
  simp only [Nat.mul_comm _ n, Nat.mul_add_div (show 0 < n by omega), Nat.mul_add_mod, Nat.div_eq_of_lt hj, Nat.div_eq_of_lt hk, Nat.mod_eq_of_lt hj, Nat.mod_eq_of_lt hk] at h1 h2
  omega
def Tab (l : List T2) (n : Nat) (M : List Int) (s k : Nat) : Prop := ∀ t j, 1 ≤ t → j < n → (t < s ∨ t = s ∧ j < k) → M[t * n + j]? = some (if t.testBit j then lv l n t j else -1)
theorem Tab.set {l : List T2} {n : Nat} {M : List Int} {s k : Nat} (h : Tab l n M s k) (hk : k < n) (x : Int) : Tab l n (M.set (s * n + k) x) s k := by
  intro t j h1 h2 h3
  rw [List.getElem?_set_ne]
  · exact h t j h1 h2 h3
  · intro e
    obtain ⟨rfl, rfl⟩ := flat_inj hk h2 e
    omega
theorem Tab.succ {l : List T2} {n : Nat} {M : List Int} {s k : Nat} (h : Tab l n M s k) (h1 : M[s * n + k]? = some (if s.testBit k then lv l n s k else -1)) : Tab l n M s (k + 1) := by
  intro t j ht hj h2
  by_cases e : t = s ∧ j = k
  · obtain ⟨rfl, rfl⟩ := e; exact h1
  · exact h t j ht hj (by omega)
theorem moodOf_get {l : List T2} {j : Nat} (h : j < l.length) : moodOf l j = l[j].b := by simp [moodOf, h]
theorem lgap_get {l : List T2} {j k : Nat} (hj : j < l.length) (hk : k < l.length) : lgap l j k = mag (l[j].b - l[k].b) := by unfold lgap; rw [moodOf_get hj, moodOf_get hk]
theorem mood_range {l : List T2} (hok : piecesOk l = true) {j : Nat} (h : j < l.length) : 0 ≤ l[j].b ∧ l[j].b ≤ 9 := by
  simp only [piecesOk, Bool.and_eq_true, List.all_eq_true] at hok
  have := hok.2 l[j] (by simp)
  simp only [pieceOk, within, Bool.and_eq_true, decide_eq_true_eq] at this
  omega
theorem pieces_le {l : List T2} (hok : piecesOk l = true) : l.length ≤ 9 := by
  simp only [piecesOk, Bool.and_eq_true, decide_eq_true_eq] at hok; omega


structure LvS where
  b : Int
  s : Nat
  m : List Int
theorem LvS.inj {a a' : Int} {b b' : Nat} {c c' : List Int} (h1 : a = a') (h2 : (b : Int) = b') (h3 : c = c') : LvS.mk a b c = ⟨a', b', c'⟩ := by
  obtain rfl : b = b' := by omega
  rw [h1, h3]
structure LvM where
  s : Nat
  m : List Int
theorem LvM.inj {b b' : Nat} {c c' : List Int} (h2 : (b : Int) = b') (h3 : c = c') : LvM.mk b c = ⟨b', c'⟩ := by
  obtain rfl : b = b' := by omega
  rw [h3]
section
variable {l : List T2} {n : Nat} (hok : piecesOk l = true) (hn' : l.length = n)
include hok hn'
end
end Go.Mw

namespace Go.Mw
theorem P1_setInI {row : List Int} {L : List (List Int)} {a : Int} {i j : Nat} {κ κ' : IntKind} {kk : V → Prop} (h : i < row.length) (hj : j < L.length) :
    P1 (.setIn [.sc] 0 [.sl [.sc]] 0) [vL I1 v1 row, .int κ i, .int .i64 a, vL I1 v1 row, vL IL1 vLL1 L, .int κ' j] kk ↔ kk (vL IL1 vLL1 (L.set j (row.set i a))) := by
  refine P1_of ?_ kk
  simp [Prim.run, setV, vL, ksAll, AK.eqs_refl, aksOk, akOk, h, hj, vLL1, V.put, List.map_set, v1, IL1, I1]

def LvRow (l : List T2) (n t : Nat) (row : List Int) : Prop := row.length = n ∧ ∀ k, k < n → t.testBit k = true → row[k]? = some (lv l n t k)
def Rows (l : List T2) (n N : Nat) (S : List (List Int)) (s : Nat) : Prop := S.length = N ∧ ∀ t, t < s → ∃ row, S[t]? = some row ∧ LvRow l n t row
theorem Rows.set {l : List T2} {n N : Nat} {S : List (List Int)} {s : Nat} (h : Rows l n N S s) (r : List Int) : Rows l n N (S.set s r) s := by
  refine ⟨by simpa using h.1, fun t ht => ?_⟩
  rw [List.getElem?_set_ne (by omega)]
  exact h.2 t ht
structure LvR where
  b : Int
  s : Nat
  m : List (List Int)
theorem LvR.inj {a a' : Int} {b b' : Nat} {c c' : List (List Int)} (h1 : a = a') (h2 : (b : Int) = b') (h3 : c = c') : LvR.mk a b c = ⟨a', b', c'⟩ := by
  obtain rfl : b = b' := by omega
  rw [h1, h3]
structure LvN where
  s : Nat
  m : List (List Int)
theorem LvN.inj {b b' : Nat} {c c' : List (List Int)} (h2 : (b : Int) = b') (h3 : c = c') : LvN.mk b c = ⟨b', c'⟩ := by
  obtain rfl : b = b' := by omega
  rw [h3]

section
variable {l : List T2} {n : Nat} (hok : piecesOk l = true) (hn' : l.length = n)
include hok hn'
theorem impl_lv_b2 {N s k : Nat} (hN : 2 ^ n = N) (hs : s < N) (hk : k < n) (hb : s.testBit k = true) (most : Int) (iM : Nat) {Q : QT} {S : List (List Int)} (hS : Rows l n N S s) (r0 : List Int) (hr0 : r0.length = n)
    (h0 : S[s]? = some (r0.set k 0)) (hQ : ∀ S' : List (List Int), Rows l n N S' s → S'[s]? = some (r0.set k (lv l n s k)) →
      Q (.exit 4) [vL I2 v2 l, .int .i64 n, .int .i64 most, .int .i64 s, .int .i64 k, .int .i64 N, .int .i64 s, .int .i64 (mem s n).length, .int .i64 iM, vL IL1 vLL1 S', vL I1 v1 (ints (mem s n))]) :
    shL (.loop impl_LivelyShow_b2) Q [vL I2 v2 l, .int .i64 n, .int .i64 most, .int .i64 s, .int .i64 k, .int .i64 (s - 2 ^ k : Nat), .int .i64 N, .int .i64 s, .int .i64 (mem s n).length, .int .i64 iM, .int .i64 (mem (s - 2 ^ k) n).length, .int .i64 0, vL IL1 vLL1 S, vL I1 v1 (ints (mem s n)), vL I1 v1 (ints (mem (s - 2 ^ k) n))] := by
  have hn : n ≤ 9 := hn' ▸ pieces_le hok
  have hN2 : N ≤ 512 := hN ▸ pow_small hn
  have hpow := pow_le_of_bit hb
  have hp0 : 0 < 2 ^ k := Nat.two_pow_pos k
  have hkl : k < l.length := by omega
  have r1 := mood_range hok hkl
  have hBl := mem_len (s - 2 ^ k) n
  refine loop_st (σ := LvN) (fun x => [vL I2 v2 l, .int .i64 n, .int .i64 most, .int .i64 s, .int .i64 k, .int .i64 (s - 2 ^ k : Nat), .int .i64 N, .int .i64 s, .int .i64 (mem s n).length, .int .i64 iM, .int .i64 (mem (s - 2 ^ k) n).length, .int .i64 x.s, vL IL1 vLL1 x.m, vL I1 v1 (ints (mem s n)), vL I1 v1 (ints (mem (s - 2 ^ k) n))]) (by rintro ⟨b, c⟩ ⟨b', c'⟩ h; simp at h; exact LvN.inj (by omega) h.2)
    (fun x => x.s ≤ (mem (s - 2 ^ k) n).length ∧ Rows l n N x.m s ∧ x.m[s]? = some (r0.set k (lvOver l (lv l n (s - 2 ^ k)) k 0 ((mem (s - 2 ^ k) n).take x.s)))) (fun x => (mem (s - 2 ^ k) n).length - x.s) ⟨0, S⟩ rfl ⟨by simp, hS, by simpa [lvOver] using h0⟩ ?_
  rintro ⟨i, S⟩ ⟨hi, hS, h0⟩
  dsimp only at *
  rw [impl_LivelyShow_b2_sh]
  simp only [P1_lss, ifB_bool, decide_eq_true_eq, decide_eq_false_iff_not]
  refine ⟨fun h2 => ?_, fun h2 => ?_⟩
  · have hil : i < (mem (s - 2 ^ k) n).length := by omega
    have hj := mem_mem.1 (List.getElem_mem hil)
    generalize hje : (mem (s - 2 ^ k) n)[i] = j at hj
    have hjl : j < l.length := by omega
    have r2 := mood_range hok hjl
    obtain ⟨row, hr1, hr2, hr3⟩ := hS.2 (s - 2 ^ k) (by omega)
    have hr4 := hr3 j hj.1 hj.2
    have hv1 := lv_nonneg l n hj.2
    have hv2 := lv_le hok n _ _ hj.2
    have hg := lgap_le hok (j := j) (k := k)
    have hg0 : 0 ≤ lgap l j k := lgap_nonneg
    have w3 : IntKind.i64.wrap ((i : Int) + 1) = ((i + 1 : Nat) : Int) := by rw [wrap_id (by omega) (by omega)]; omega
    have w7 : IntKind.i64.wrap (l[j].b - l[k].b) = l[j].b - l[k].b := wrap_id (by omega) (by omega)
    have w9 : IntKind.i64.wrap (lv l n (s - 2 ^ k) j + lgap l j k) = lv l n (s - 2 ^ k) j + lgap l j k := wrap_id (by omega) (by omega)
    have hm : ∀ {kk : V → Prop} {nr : Nat}, P1 (.call F_magnitude 0 nr) [.int .i64 (l[j].b - l[k].b)] kk ↔ kk (.int .i64 (lgap l j k)) := by
      intro kk nr; rw [p_magnitude ⟨by omega, by omega⟩, lgap_get hjl hkl]
    have hg1 : (ints (mem (s - 2 ^ k) n))[i]? = some (j : Int) := by rw [ints_get hil, hje]
    have hsl : s < S.length := by rw [hS.1]; omega
    have hkr : k < r0.length := by omega
    simp only [P1_idxI, P1_idxL1, Int.toNat_natCast, hg1, Option.some.injEq, exists_eq_left', hr1, hr4, P2_idxI, List.getElem?_eq_getElem hkl, List.getElem?_eq_getElem hjl, P1_sub, w7, hm, P1_add, w9, w3, h0, List.getElem?_set_self hkr, P1_mx2]
    rw [P1_setInI (by simpa using hkr) hsl]
    simp only [qS_normal]
    refine ⟨by omega, by omega, by omega, by omega, by omega, by omega, by omega, by omega, by omega, ⟨i + 1, _⟩, rfl, ⟨by dsimp only; omega, hS.set _, ?_⟩, by dsimp only; omega⟩
    rw [List.getElem?_set_self hsl, List.set_set, take_succ_get hil, lvOver_append, hje]
    rfl
  · obtain rfl : i = (mem (s - 2 ^ k) n).length := by omega
    simp only [qS_exit]
    refine hQ S hS ?_
    rw [h0, List.take_length, lv_eq l n hb]

theorem impl_lv_b1 {N s : Nat} (hN : 2 ^ n = N) (hs : s < N) {Q : QT} {S : List (List Int)} (hS : Rows l n N S s) (h0 : S[s]? = some (List.replicate n 0))
    (hQ : ∀ S' : List (List Int), Rows l n N S' (s + 1) → Q (.exit 2) [vL I2 v2 l, .int .i64 n, .int .i64 (lvBest l n (s + 1)), .int .i64 N, .int .i64 s, vL IL1 vLL1 S']) :
    shL (.loop impl_LivelyShow_b1) Q [vL I2 v2 l, .int .i64 n, .int .i64 (lvBest l n s), .int .i64 s, .int .i64 N, .int .i64 s, .int .i64 (mem s n).length, .int .i64 0, vL IL1 vLL1 S, vL I1 v1 (ints (mem s n))] := by
  have hn : n ≤ 9 := hn' ▸ pieces_le hok
  have hN2 : N ≤ 512 := hN ▸ pow_small hn
  have hMl := mem_len s n
  refine loop_st (σ := LvR) (fun x => [vL I2 v2 l, .int .i64 n, .int .i64 x.b, .int .i64 s, .int .i64 N, .int .i64 s, .int .i64 (mem s n).length, .int .i64 x.s, vL IL1 vLL1 x.m, vL I1 v1 (ints (mem s n))]) (by rintro ⟨a, b, c⟩ ⟨a', b', c'⟩ h; simp at h; exact LvR.inj h.1 (by omega) h.2.2)
    (fun x => x.s ≤ (mem s n).length ∧ Rows l n N x.m s ∧ (∃ row, x.m[s]? = some row ∧ row.length = n ∧ (∀ k ∈ (mem s n).take x.s, row[k]? = some (lv l n s k)) ∧ (∀ k, k < n → k ∉ (mem s n).take x.s → row[k]? = some 0)) ∧ x.b = lvMost l n s (lvBest l n s) ((mem s n).take x.s)) (fun x => (mem s n).length - x.s) ⟨lvBest l n s, 0, S⟩ rfl ⟨by simp, hS, ⟨_, h0, by simp, by simp, fun k hk _ => by simp [hk]⟩, by simp [lvMost]⟩ ?_
  rintro ⟨best, i, S⟩ ⟨hi, hS, ⟨row, h1, h2, h3, h4⟩, e0⟩
  dsimp only at *
  subst e0
  rw [impl_LivelyShow_b1_sh]
  simp only [P1_lss, ifB_bool, decide_eq_true_eq, decide_eq_false_iff_not]
  refine ⟨fun h5 => ?_, fun h5 => ?_⟩
  · have hil : i < (mem s n).length := by omega
    have hk := mem_mem.1 (List.getElem_mem hil)
    have hkt : (mem s n)[i] ∉ (mem s n).take i := by
      intro hm
      obtain ⟨j, hj, e⟩ := List.mem_iff_getElem.1 hm
      rw [List.length_take] at hj
      rw [List.getElem_take] at e
      have := (List.getElem_inj (mem_nodup s n)).1 e
      omega
    have htk := take_succ_get hil
    have hg1 : (ints (mem s n))[i]? = some ((mem s n)[i] : Int) := ints_get hil
    generalize hke : (mem s n)[i] = k at hk hkt htk hg1
    have w3 : IntKind.i64.wrap ((i : Int) + 1) = ((i + 1 : Nat) : Int) := by rw [wrap_id (by omega) (by omega)]; omega
    have h0k := h4 k hk.1 hkt
    have erow : row.set k 0 = row := by
      obtain ⟨h, e⟩ := List.getElem?_eq_some_iff.1 h0k
      exact e ▸ List.set_getElem_self h
    have hpow := pow_le_of_bit hk.2
    have hp0 := Nat.two_pow_pos k
    simp only [P1_idxI, Int.toNat_natCast, hg1, Option.some.injEq, exists_eq_left', P1_shl_one (show k ≤ 9 by omega), P1_andNot, landn_bit (show s < 512 by omega) (show k < 9 by omega) hk.2]
    have hpm : ∀ {kk : V → Prop} {nr : Nat}, P1 (.call F_membersOf 0 nr) [.int .i64 (s - 2 ^ k : Nat), .int .i64 n] kk ↔ kk (vL I1 v1 (ints (mem (s - 2 ^ k) n))) := by
      intro kk nr; rw [p_membersOf ⟨by omega, by omega, by omega, by omega⟩]; simp
    simp only [hpm, P1_len, ints_len]
    refine ⟨by omega, impl_lv_b2 hok hn' hN hs hk.1 hk.2 _ i hS row h2 (by rw [h1, erow]) fun S' q1 q2 => ?_⟩
    simp only [qB_exit, if_true, qS_normal, impl_LivelyShow_r3_sh, impl_LivelyShow_r4_sh, impl_LivelyShow_r5_sh, impl_LivelyShow_r6_sh, qB_normal, P1_add, w3, P1_idxL1, P1_idxI, Int.toNat_natCast, q2, Option.some.injEq, exists_eq_left', List.getElem?_set_self (show k < row.length by omega), P1_mx2]
    refine ⟨by omega, by omega, ⟨_, i + 1, S'⟩, rfl, ⟨by dsimp only; omega, q1, ⟨_, q2, by simpa using h2, fun j hj => ?_, fun j hj hj2 => ?_⟩, ?_⟩, by dsimp only; omega⟩
    · dsimp only at hj
      rw [htk, List.mem_append, List.mem_singleton] at hj
      by_cases e : j = k
      · subst e; rw [List.getElem?_set_self (by omega)]
      · rw [List.getElem?_set_ne (by omega)]; exact h3 j (hj.resolve_right e)
    · dsimp only at hj2
      rw [htk, List.mem_append, List.mem_singleton, not_or] at hj2
      rw [List.getElem?_set_ne (by omega)]; exact h4 j hj hj2.1
    · dsimp only
      rw [htk, lvMost_append]; rfl
  · obtain rfl : i = (mem s n).length := by omega
    simp only [qS_exit, List.take_length] at *
    have e1 : lvBest l n (s + 1) = lvMost l n s (lvBest l n s) (mem s n) := rfl
    rw [← e1]
    refine hQ S ⟨hS.1, fun t ht => ?_⟩
    by_cases e : t = s
    · subst e; exact ⟨row, h1, h2, fun k hk hb => h3 k (mem_mem.2 ⟨hk, hb⟩)⟩
    · exact hS.2 t (by omega)
end
theorem impl_LivelyShow_ok : ∀ ds outs, F_LivelyShow ds = some outs → shL impl_LivelyShow_L (qRet outs) ds := F_LivelyShow_elim fun l hp => by
  rw [impl_LivelyShow_L_sh, p_PiecesOk hp]
  cases hok : piecesOk l with
  | false => simp [lively, hok]
  | true =>
  have hn := pieces_le hok
  have hN := pow_small hn
  have hN0 : 0 < 2 ^ l.length := Nat.two_pow_pos _
  simp only [P1_not, ifB_bool, Bool.not_true, Bool.false_eq_true, false_implies, true_and, P1_len, forall_const, P1_shl_one hn, P1_mkL1]
  refine ⟨⟨by omega, by omega, by omega⟩, ?_⟩
  generalize hn' : l.length = n at *
  generalize hNN : 2 ^ n = N at *
  simp only [Int.toNat_natCast, List.length_replicate]
  refine loop_st (σ := LvR) (fun s => [vL I2 v2 l, .int .i64 n, .int .i64 s.b, .int .i64 N, .int .i64 s.s, vL IL1 vLL1 s.m]) (by rintro ⟨a, b, c⟩ ⟨a', b', c'⟩ h; simp at h; exact LvR.inj h.1 (by omega) h.2.2)
    (fun s => s.s ≤ N ∧ Rows l n N s.m s.s ∧ s.b = lvBest l n s.s) (fun s => N - s.s) ⟨0, 0, List.replicate N []⟩ rfl ⟨by simp, ⟨by simp, fun t h => by simp at h⟩, rfl⟩ ?_
  rintro ⟨best, s, S⟩ ⟨hs, hS, e0⟩
  dsimp only at *
  subst e0
  rw [impl_LivelyShow_b0_sh]
  simp only [P1_lss, ifB_bool, decide_eq_true_eq, decide_eq_false_iff_not]
  refine ⟨fun h1 => ?_, fun h1 => ?_⟩
  · have hsl : s < S.length := by rw [hS.1]; omega
    have hpm : ∀ {kk : V → Prop} {nr : Nat}, P1 (.call F_membersOf 0 nr) [.int .i64 s, .int .i64 n] kk ↔ kk (vL I1 v1 (ints (mem s n))) := by
      intro kk nr; rw [p_membersOf ⟨by omega, by omega, by omega, by omega⟩]; simp
    simp only [P1_mkI, P1_idxL1, P1_setL1, Int.toNat_natCast, List.getElem?_eq_getElem hsl, Option.some.injEq, exists_eq_left', hpm, P1_len, ints_len]
    refine ⟨⟨by omega, by omega, by omega⟩, by omega, by omega, impl_lv_b1 hok hn' hNN (by omega) (hS.set _) (List.getElem?_set_self hsl) fun S' q1 => ?_⟩
    have w3 : IntKind.i64.wrap ((s : Int) + 1) = ((s + 1 : Nat) : Int) := by rw [wrap_id (by omega) (by omega)]; omega
    simp only [qB_exit, if_true, qS_normal, impl_LivelyShow_r7_sh, impl_LivelyShow_r8_sh, impl_LivelyShow_r9_sh, qB_normal, P1_add, w3]
    exact ⟨⟨_, s + 1, S'⟩, rfl, ⟨by dsimp only; omega, q1, rfl⟩, by dsimp only; omega⟩
  · obtain rfl : s = N := by omega
    simp [impl_LivelyShow_r10_sh, lively, hok, hn', hNN]

end Go.Mw

namespace Go.Mw
def keyAt (ks : List Int) (i : Nat) : Int := ks[i]?.getD 0
def place (ks : List Int) (x : Nat) (l : List Nat) : Nat → Nat
  | 0 => 0
  | p + 1 => if keyAt ks x < keyAt ks (l[p]?.getD 0) then place ks x l p else p + 1
def insR (ks : List Int) (x : Nat) (l : List Nat) : List Nat := l.take (place ks x l l.length) ++ x :: l.drop (place ks x l l.length)
def ordTo (ks : List Int) : Nat → List Nat
  | 0 => []
  | k + 1 => insR ks k (ordTo ks k)
def E_upTo (n : Int) : List V := [.int .i64 n]
noncomputable def F_upTo : List V → Option (List V) := mkF E_upTo (fun n => 0 ≤ n ∧ n ≤ 9) (fun n => [vL I1 v1 (ints (List.range n.toNat))])
theorem F_upTo_inj : ∀ x y, E_upTo x = E_upTo y → x = y := by
  rintro n n' h
  simpa [E_upTo] using h
theorem F_upTo_elim {P : List V → List V → Prop} (h : ∀ (n : Int), (0 ≤ n ∧ n ≤ 9) → P [.int .i64 n] [vL I1 v1 (ints (List.range n.toNat))]) : ∀ ds outs, F_upTo ds = some outs → P ds outs := by
  intro ds outs hh
  obtain ⟨n, rfl, hp, rfl⟩ := mkF_inv hh
  exact h n hp
theorem p_upTo {n : Int} {nr_ : Nat} {kk_ : V → Prop} (hp : 0 ≤ n ∧ n ≤ 9) : P1 (.call F_upTo 0 nr_) [.int .i64 n] kk_ ↔ kk_ (vL I1 v1 (ints (List.range n.toNat))) :=
  P1_callF (by unfold F_upTo; exact mkF_eq F_upTo_inj (n) hp)

def moods (l : List T2) : List Int := l.map T2.b
def secs (l : List T2) : List Int := l.map T2.a
def smooth (l : List T2) : List Int := if piecesOk l then ints (ordTo (moods l) l.length) else []
def E_SmoothShow (l : List T2) : List V := [vL I2 v2 l]
noncomputable def F_SmoothShow : List V → Option (List V) := mkF E_SmoothShow (fun l => l.length ≤ 1048576) (fun l => [vL I1 v1 (smooth l)])
theorem F_SmoothShow_inj : ∀ x y, E_SmoothShow x = E_SmoothShow y → x = y := by
  rintro l l' h
  simpa [E_SmoothShow] using h
theorem F_SmoothShow_elim {P : List V → List V → Prop} (h : ∀ (l : List T2), (l.length ≤ 1048576) → P [vL I2 v2 l] [vL I1 v1 (smooth l)]) : ∀ ds outs, F_SmoothShow ds = some outs → P ds outs := by
  intro ds outs hh
  obtain ⟨l, rfl, hp, rfl⟩ := mkF_inv hh
  exact h l hp
theorem p_SmoothShow {l : List T2} {nr_ : Nat} {kk_ : V → Prop} (hp : l.length ≤ 1048576) : P1 (.call F_SmoothShow 0 nr_) [vL I2 v2 l] kk_ ↔ kk_ (vL I1 v1 (smooth l)) :=
  P1_callF (by unfold F_SmoothShow; exact mkF_eq F_SmoothShow_inj (l) hp)

def lastsTo (s : List Int) (p : Int) (o : List Nat) : Nat → Int
  | 0 => -p
  | k + 1 => lastsTo s p o k + p + keyAt s (o[k]?.getD 0)
def fitN (s : List Int) (p t : Int) (o : List Nat) : Nat := ((List.range o.length).takeWhile fun k => decide (lastsTo s p o (k + 1) ≤ t)).length
def fitsOf (l : List T2) (p t : Int) : List Nat := (List.range l.length).filter fun k => decide (k ∈ (ordTo (secs l) l.length).take (fitN (secs l) p t (ordTo (secs l) l.length)))
def fits35 (l : List T2) (p t : Int) : List Int := if decide (0 ≤ showTime l p) && within t 0 10000 then ints (fitsOf l p t) else []
def E_FitsEvening : List T2 × Int × Int → List V := fun (l, p, t) => [vL I2 v2 l, .int .i64 p, .int .i64 t]
noncomputable def F_FitsEvening : List V → Option (List V) := mkF E_FitsEvening (fun (l, _, _) => l.length ≤ 1048576) (fun (l, p, t) => [vL I1 v1 (fits35 l p t)])
theorem F_FitsEvening_inj : ∀ x y, E_FitsEvening x = E_FitsEvening y → x = y := by
  rintro ⟨l, p, t⟩ ⟨l', p', t'⟩ h
  simpa [E_FitsEvening] using h
theorem F_FitsEvening_elim {P : List V → List V → Prop} (h : ∀ (l : List T2) (p : Int) (t : Int), (l.length ≤ 1048576) → P [vL I2 v2 l, .int .i64 p, .int .i64 t] [vL I1 v1 (fits35 l p t)]) : ∀ ds outs, F_FitsEvening ds = some outs → P ds outs := by
  intro ds outs hh
  obtain ⟨⟨l, p, t⟩, rfl, hp, rfl⟩ := mkF_inv hh
  exact h l p t hp
theorem p_FitsEvening {l : List T2} {p : Int} {t : Int} {nr_ : Nat} {kk_ : V → Prop} (hp : l.length ≤ 1048576) : P1 (.call F_FitsEvening 0 nr_) [vL I2 v2 l, .int .i64 p, .int .i64 t] kk_ ↔ kk_ (vL I1 v1 (fits35 l p t)) :=
  P1_callF (by unfold F_FitsEvening; exact mkF_eq F_FitsEvening_inj (l, p, t) hp)

def cmpI (a b : Int) : Int := if a < b then -1 else if b < a then 1 else 0
def E_cmp_isNaN_int (x : Int) : List V := [.int .i64 x]
noncomputable def F_cmp_isNaN_int : List V → Option (List V) := mkF E_cmp_isNaN_int (fun _ => True) (fun _ => [.bool false])
theorem F_cmp_isNaN_int_inj : ∀ x y, E_cmp_isNaN_int x = E_cmp_isNaN_int y → x = y := by
  rintro x x' h
  simpa [E_cmp_isNaN_int] using h
theorem F_cmp_isNaN_int_elim {P : List V → List V → Prop} (h : ∀ (x : Int), P [.int .i64 x] [.bool false]) : ∀ ds outs, F_cmp_isNaN_int ds = some outs → P ds outs := by
  intro ds outs hh
  obtain ⟨x, rfl, -, rfl⟩ := mkF_inv hh
  exact h x
@[simp] theorem p_cmp_isNaN_int {x : Int} {nr_ : Nat} {kk_ : V → Prop} : P1 (.call F_cmp_isNaN_int 0 nr_) [.int .i64 x] kk_ ↔ kk_ (.bool false) :=
  P1_callF (by unfold F_cmp_isNaN_int; exact mkF_eq F_cmp_isNaN_int_inj (x) trivial)

def E_cmp_Compare_int : Int × Int → List V := fun (x, y) => [.int .i64 x, .int .i64 y]
noncomputable def F_cmp_Compare_int : List V → Option (List V) := mkF E_cmp_Compare_int (fun (_, _) => True) (fun (x, y) => [.int .i64 (cmpI x y)])
theorem F_cmp_Compare_int_inj : ∀ x y, E_cmp_Compare_int x = E_cmp_Compare_int y → x = y := by
  rintro ⟨x, y⟩ ⟨x', y'⟩ h
  simpa [E_cmp_Compare_int] using h
theorem F_cmp_Compare_int_elim {P : List V → List V → Prop} (h : ∀ (x : Int) (y : Int), P [.int .i64 x, .int .i64 y] [.int .i64 (cmpI x y)]) : ∀ ds outs, F_cmp_Compare_int ds = some outs → P ds outs := by
  intro ds outs hh
  obtain ⟨⟨x, y⟩, rfl, -, rfl⟩ := mkF_inv hh
  exact h x y
@[simp] theorem p_cmp_Compare_int {x : Int} {y : Int} {nr_ : Nat} {kk_ : V → Prop} : P1 (.call F_cmp_Compare_int 0 nr_) [.int .i64 x, .int .i64 y] kk_ ↔ kk_ (.int .i64 (cmpI x y)) :=
  P1_callF (by unfold F_cmp_Compare_int; exact mkF_eq F_cmp_Compare_int_inj (x, y) trivial)

def E_SmoothShow_1 : Int × Int × List T2 → List V := fun (i, k, l) => [.int .i64 i, .int .i64 k, vL I2 v2 l]
noncomputable def F_SmoothShow_1 : List V → Option (List V) := mkF E_SmoothShow_1 (fun (i, k, l) => 0 ≤ i ∧ i < l.length ∧ 0 ≤ k ∧ k < l.length) (fun (i, k, l) => [.int .i64 (cmpI (keyAt (moods l) i.toNat) (keyAt (moods l) k.toNat))])
theorem F_SmoothShow_1_inj : ∀ x y, E_SmoothShow_1 x = E_SmoothShow_1 y → x = y := by
  rintro ⟨i, k, l⟩ ⟨i', k', l'⟩ h
  simpa [E_SmoothShow_1] using h
theorem F_SmoothShow_1_elim {P : List V → List V → Prop} (h : ∀ (i : Int) (k : Int) (l : List T2), (0 ≤ i ∧ i < l.length ∧ 0 ≤ k ∧ k < l.length) → P [.int .i64 i, .int .i64 k, vL I2 v2 l] [.int .i64 (cmpI (keyAt (moods l) i.toNat) (keyAt (moods l) k.toNat))]) : ∀ ds outs, F_SmoothShow_1 ds = some outs → P ds outs := by
  intro ds outs hh
  obtain ⟨⟨i, k, l⟩, rfl, hp, rfl⟩ := mkF_inv hh
  exact h i k l hp
def E_FitsEvening_1 : Int × Int × List T2 → List V := fun (i, k, l) => [.int .i64 i, .int .i64 k, vL I2 v2 l]
noncomputable def F_FitsEvening_1 : List V → Option (List V) := mkF E_FitsEvening_1 (fun (i, k, l) => 0 ≤ i ∧ i < l.length ∧ 0 ≤ k ∧ k < l.length) (fun (i, k, l) => [.int .i64 (cmpI (keyAt (secs l) i.toNat) (keyAt (secs l) k.toNat))])
theorem F_FitsEvening_1_inj : ∀ x y, E_FitsEvening_1 x = E_FitsEvening_1 y → x = y := by
  rintro ⟨i, k, l⟩ ⟨i', k', l'⟩ h
  simpa [E_FitsEvening_1] using h
theorem F_FitsEvening_1_elim {P : List V → List V → Prop} (h : ∀ (i : Int) (k : Int) (l : List T2), (0 ≤ i ∧ i < l.length ∧ 0 ≤ k ∧ k < l.length) → P [.int .i64 i, .int .i64 k, vL I2 v2 l] [.int .i64 (cmpI (keyAt (secs l) i.toNat) (keyAt (secs l) k.toNat))]) : ∀ ds outs, F_FitsEvening_1 ds = some outs → P ds outs := by
  intro ds outs hh
  obtain ⟨⟨i, k, l⟩, rfl, hp, rfl⟩ := mkF_inv hh
  exact h i k l hp
def ordK (K : List T2 → List Int) (l : List T2) : List Int := ints (ordTo (K l) l.length)
noncomputable def F_ins (K : List T2 → List Int) : List V → Option (List V) := mkF (fun (x : List Int × Int × Int × List T2) => [vL I1 v1 x.1, .int .i64 x.2.1, .int .i64 x.2.2.1, vL I2 v2 x.2.2.2]) (fun x => x.1 = ints (List.range x.2.2.2.length) ∧ x.2.1 = 0 ∧ x.2.2.1 = x.2.2.2.length ∧ x.2.2.2.length ≤ 9) (fun x => [vL I1 v1 (ordK K x.2.2.2)])
noncomputable def F_stab (K : List T2 → List Int) : List V → Option (List V) := mkF (fun (x : List Int × Int × List T2) => [vL I1 v1 x.1, .int .i64 x.2.1, vL I2 v2 x.2.2]) (fun x => x.1 = ints (List.range x.2.2.length) ∧ x.2.1 = x.2.2.length ∧ x.2.2.length ≤ 9) (fun x => [vL I1 v1 (ordK K x.2.2)])
noncomputable def F_stable (K : List T2 → List Int) : List V → Option (List V) := mkF (fun (x : List Int × List T2) => [vL I1 v1 x.1, vL I2 v2 x.2]) (fun x => x.1 = ints (List.range x.2.length) ∧ x.2.length ≤ 9) (fun x => [vL I1 v1 (ordK K x.2)])
def F_never : List V → Option (List V) := fun _ => none
noncomputable abbrev F_stable_impl_SmoothShow_1 := F_stable moods
noncomputable abbrev F_stable_impl_FitsEvening_1 := F_stable secs
theorem ins_inj : ∀ x y : List Int × Int × Int × List T2, [vL I1 v1 x.1, .int .i64 x.2.1, .int .i64 x.2.2.1, vL I2 v2 x.2.2.2] = [vL I1 v1 y.1, .int .i64 y.2.1, .int .i64 y.2.2.1, vL I2 v2 y.2.2.2] → x = y := by
  rintro ⟨a, b, c, d⟩ ⟨a', b', c', d'⟩ h
  simpa using h
theorem stab_inj : ∀ x y : List Int × Int × List T2, [vL I1 v1 x.1, .int .i64 x.2.1, vL I2 v2 x.2.2] = [vL I1 v1 y.1, .int .i64 y.2.1, vL I2 v2 y.2.2] → x = y := by
  rintro ⟨a, b, d⟩ ⟨a', b', d'⟩ h
  simpa using h
theorem stable_inj : ∀ x y : List Int × List T2, [vL I1 v1 x.1, vL I2 v2 x.2] = [vL I1 v1 y.1, vL I2 v2 y.2] → x = y := by
  rintro ⟨a, d⟩ ⟨a', d'⟩ h
  simpa using h
theorem p_ins {K : List T2 → List Int} {l : List T2} {kk : V → Prop} (hp : l.length ≤ 9) : P1 (.call (F_ins K) 1 0) [vL I1 v1 (ints (List.range l.length)), .int .i64 0, .int .i64 l.length, vL I2 v2 l, vL I1 v1 (ints (List.range l.length))] kk ↔ kk (vL I1 v1 (ordK K l)) :=
  P1_of (callIo_run (as := [vL I1 v1 (ints (List.range l.length)), .int .i64 0, .int .i64 l.length, vL I2 v2 l]) (rs := [vL I1 v1 (ints (List.range l.length))]) (n := 1) (nr := 0) rfl (by simp) (by unfold F_ins; exact mkF_eq ins_inj (ints (List.range l.length), 0, l.length, l) ⟨rfl, rfl, rfl, hp⟩) (by simp [ksAll, vL, AK.eqs_refl]) rfl) kk
theorem p_stab {K : List T2 → List Int} {l : List T2} {kk : V → Prop} (hp : l.length ≤ 9) : P1 (.call (F_stab K) 1 0) [vL I1 v1 (ints (List.range l.length)), .int .i64 l.length, vL I2 v2 l, vL I1 v1 (ints (List.range l.length))] kk ↔ kk (vL I1 v1 (ordK K l)) :=
  P1_of (callIo_run (as := [vL I1 v1 (ints (List.range l.length)), .int .i64 l.length, vL I2 v2 l]) (rs := [vL I1 v1 (ints (List.range l.length))]) (n := 1) (nr := 0) rfl (by simp) (by unfold F_stab; exact mkF_eq stab_inj (ints (List.range l.length), l.length, l) ⟨rfl, rfl, hp⟩) (by simp [ksAll, vL, AK.eqs_refl]) rfl) kk
theorem p_stable {K : List T2 → List Int} {l : List T2} {kk : V → Prop} (hp : l.length ≤ 9) : P1 (.call (F_stable K) 1 0) [vL I1 v1 (ints (List.range l.length)), vL I2 v2 l, vL I1 v1 (ints (List.range l.length))] kk ↔ kk (vL I1 v1 (ordK K l)) :=
  P1_of (callIo_run (as := [vL I1 v1 (ints (List.range l.length)), vL I2 v2 l]) (rs := [vL I1 v1 (ints (List.range l.length))]) (n := 1) (nr := 0) rfl (by simp) (by unfold F_stable; exact mkF_eq stable_inj (ints (List.range l.length), l) ⟨rfl, hp⟩) (by simp [ksAll, vL, AK.eqs_refl]) rfl) kk
def sortI (l : List Int) : List Int := l.mergeSort fun x y => decide (x ≤ y)
def E_slices_Sort_Lint_int (o : List Int) : List V := [vL I1 v1 o]
noncomputable def F_slices_Sort_Lint_int : List V → Option (List V) := mkF E_slices_Sort_Lint_int (fun o => o.length ≤ 1048576) (fun o => [vL I1 v1 (sortI o)])
theorem F_slices_Sort_Lint_int_inj : ∀ x y, E_slices_Sort_Lint_int x = E_slices_Sort_Lint_int y → x = y := by
  rintro o o' h
  simpa [E_slices_Sort_Lint_int] using h
theorem p_slices_Sort_Lint_int {o : List Int} {kk_ : V → Prop} (hp : o.length ≤ 1048576) : P1 (.call F_slices_Sort_Lint_int 1 0) [vL I1 v1 o, vL I1 v1 o] kk_ ↔ kk_ (vL I1 v1 (sortI o)) :=
  P1_of (callIo_run (as := [vL I1 v1 o]) (rs := [vL I1 v1 o]) (n := 1) (nr := 0) rfl (by simp) (by unfold F_slices_Sort_Lint_int; exact mkF_eq F_slices_Sort_Lint_int_inj (o) hp) (by simp [ksAll, vL, AK.eqs_refl]) rfl) kk_

end Go.Mw

namespace Go.Mw
noncomputable section
def impl_upTo_b0 : L := .seq (.seq (.seq (.rg [zb .lss 1 0]) (.ite (.v 3) (.skip) (.seq (zt [2]) (.exit 0)))) (.seq (.block 1 (.seq (.rg [⟨[], .lst [.sc] false 1, [.v 1], 1⟩, ⟨[], .app [.sc] 8, [.v 2, .v 4], 1⟩]) (zt [0, 1, 5]))) (.rg [zk .add 1 1]))) (zt [0, 3, 2])
theorem impl_upTo_b0_sh (Q : QT) (x0 x1 x2 : V) : shL impl_upTo_b0 Q [x0, x1, x2] = (
  P1 (.bin .lss) [x1, x0] fun v0 =>
  ifB v0 (
    P1 (.lst [.sc] false 1) [x1] fun v1 =>
    P1 (.app [.sc] 8) [x2, v1] fun v2 =>
    P1 (.bin .add) [x1, .int .i64 1] fun v3 =>
    Q .normal [x0, v3, v2]) (
    Q (.exit 0) [x2])) := by kernel_rfl

def impl_upTo_r1 : L := .seq (.rg []) (.ret [.v 0])
theorem impl_upTo_r1_sh (Q : QT) (x0 : V) : shL impl_upTo_r1 Q [x0] = (
  Q .ret [x0]) := by kernel_rfl

def impl_upTo_L : L := .seq (.rg []) (.seq (.rg [⟨[], .lst [.sc] false 0, [], 1⟩]) (.seq (.seq (.rg []) (.block 0 (.seq (.tup [.v 0, .k (.int .i64 0), .v 1]) (.loop (impl_upTo_b0))))) (impl_upTo_r1)))
theorem impl_upTo_L_sh (Q : QT) (x0 : V) : shL impl_upTo_L Q [x0] = (
  P1 (.lst [.sc] false 0) [] fun v0 =>
  shL (.loop impl_upTo_b0) (qB 0 (qS (shL impl_upTo_r1 Q) Q)) [x0, .int .i64 0, v0]) := by kernel_rfl
def impl_upTo_S : Sig := ⟨[.val false [.sc]], [(false, [.sl [.sc]])], F_upTo⟩
def impl_upTo_hs : List NF := [⟨[(3, zo 64)], [(64, true, [.sc])], [], 65⟩, ⟨[(0, zs), (3, zo 64), (4, zs)], [(64, true, [.sc])], [], 65⟩, ⟨[(0, zs), (3, zo 64), (4, zs)], [(64, true, [.sc])], [], 65⟩]

end
end Go.Mw

namespace Go.Mw
theorem pieces_le' {l : List T2} (hok : piecesOk l = true) : l.length ≤ 9 := by
  simp only [piecesOk, Bool.and_eq_true, decide_eq_true_eq] at hok; omega
theorem place_le (ks : List Int) (x : Nat) (l : List Nat) : ∀ p, place ks x l p ≤ p
  | 0 => Nat.le_refl _
  | p + 1 => by
    have := place_le ks x l p
    unfold place
    split <;> omega
theorem insR_len (ks : List Int) (x : Nat) (l : List Nat) : (insR ks x l).length = l.length + 1 := by
  have := place_le ks x l l.length
  simp [insR]; omega
theorem ordTo_len (ks : List Int) : ∀ k, (ordTo ks k).length = k
  | 0 => rfl
  | k + 1 => by rw [ordTo, insR_len, ordTo_len ks k]
theorem insR_perm (ks : List Int) (x : Nat) (l : List Nat) : (insR ks x l).Perm (x :: l) := by
  unfold insR
  refine List.perm_middle.trans ?_
  rw [List.take_append_drop]
theorem ordTo_perm (ks : List Int) : ∀ k, (ordTo ks k).Perm (List.range k)
  | 0 => .nil
  | k + 1 => by
    rw [ordTo, List.range_succ]
    exact (insR_perm ks k _).trans (((ordTo_perm ks k).cons k).trans (List.perm_append_singleton k _).symm)
theorem ordTo_lt {ks : List Int} {k x : Nat} (h : x ∈ ordTo ks k) : x < k := by simpa using (ordTo_perm ks k).mem_iff.1 h
structure OrdS where
  p : Nat
  m : List Int
theorem OrdS.inj {b b' : Nat} {c c' : List Int} (h2 : (b : Int) = b') (h3 : c = c') : OrdS.mk b c = ⟨b', c'⟩ := by
  obtain rfl : b = b' := by omega
  rw [h3]
theorem ints_append (a b : List Nat) : ints (a ++ b) = ints a ++ ints b := by simp [ints]
theorem ints_getQ (l : List Nat) (i : Nat) : (ints l)[i]? = (l[i]?).map fun x : Nat => (x : Int) := by simp [ints]
theorem impl_upTo_ok : ∀ ds outs, F_upTo ds = some outs → shL impl_upTo_L (qRet outs) ds := F_upTo_elim fun n hp => by
  obtain ⟨n, rfl⟩ := Int.eq_ofNat_of_zero_le hp.1
  rw [impl_upTo_L_sh]
  simp only [P1_lst0]
  refine loop_upto n (fun k => [.int .i64 n, .int .i64 k, vL I1 v1 (ints (List.range k))]) (by intro i j _ _ h; simp at h; omega) (fun _ => True) rfl trivial ?_
  intro k hk _
  rw [impl_upTo_b0_sh]
  simp only [P1_lss, ifB_bool, decide_eq_true_eq, decide_eq_false_iff_not]
  refine ⟨fun h => ?_, fun h => ?_⟩
  · have w2 : IntKind.i64.wrap ((k : Int) + 1) = ((k + 1 : Nat) : Int) := by rw [wrap_id (by omega) (by omega)]; omega
    simp only [P1_lst1, P1_app, ints_len, List.length_range, List.length_singleton, P1_add, w2, qS_normal]
    refine ⟨⟨by omega, by omega⟩, by omega, ?_⟩
    simp [List.range_succ, ints]
  · obtain rfl : k = n := by omega
    simp [impl_upTo_r1_sh]
end Go.Mw

namespace Go.Mw
theorem takeWhile_range {p : Nat → Bool} {n k : Nat} (hk : k ≤ n) (h1 : ∀ j, j < k → p j = true) (h2 : k = n ∨ p k = false) : ((List.range n).takeWhile p).length = k := by
  obtain ⟨m, rfl⟩ := Nat.exists_eq_add_of_le hk
  rw [List.range_add, List.takeWhile_append_of_pos (fun a ha => h1 a (by simpa using ha))]
  cases m with
  | zero => simp
  | succ m =>
    have h3 : p k = false := h2.resolve_left (by omega)
    rw [List.range_succ_eq_map, List.map_cons, List.takeWhile_cons_of_neg (by simpa using h3)]
    simp
theorem fitN_eq {s : List Int} {p t : Int} {o : List Nat} {k : Nat} (hk : k ≤ o.length) (h1 : ∀ j, j < k → lastsTo s p o (j + 1) ≤ t) (h2 : k = o.length ∨ ¬ lastsTo s p o (k + 1) ≤ t) : fitN s p t o = k := by
  unfold fitN
  refine takeWhile_range hk (fun j hj => by simpa using h1 j hj) (h2.imp id fun h => by simpa using h)
theorem showTime_ok {l : List T2} {p : Int} (h : 0 ≤ showTime l p) : piecesOk l = true ∧ 0 ≤ p ∧ p ≤ 600 := by
  unfold showTime at h
  split at h
  · rename_i hc
    simp only [Bool.and_eq_true, within, decide_eq_true_eq] at hc
    exact ⟨hc.1, by omega, by omega⟩
  · omega
theorem sec_range {l : List T2} (hok : piecesOk l = true) {j : Nat} (h : j < l.length) : 1 ≤ l[j].a ∧ l[j].a ≤ 600 := by
  simp only [piecesOk, Bool.and_eq_true, List.all_eq_true] at hok
  have := hok.2 l[j] (by simp)
  simp only [pieceOk, within, Bool.and_eq_true, decide_eq_true_eq] at this
  omega
theorem keyAt_secs {l : List T2} {j : Nat} (h : j < l.length) : keyAt (secs l) j = l[j].a := by simp [keyAt, secs, h]
theorem keyAt_sec_range {l : List T2} (hok : piecesOk l = true) (j : Nat) : 0 ≤ keyAt (secs l) j ∧ keyAt (secs l) j ≤ 600 := by
  by_cases h : j < l.length
  · have := sec_range hok h
    rw [keyAt_secs h]; omega
  · have : keyAt (secs l) j = 0 := by simp [keyAt, secs, List.getElem?_eq_none (Nat.le_of_not_lt h)]
    omega
theorem lastsTo_range {l : List T2} (hok : piecesOk l = true) {p : Int} (h0 : 0 ≤ p) (h1 : p ≤ 600) (o : List Nat) : ∀ k : Nat, -600 ≤ lastsTo (secs l) p o k ∧ lastsTo (secs l) p o k ≤ 1200 * k
  | 0 => by simp only [lastsTo]; omega
  | k + 1 => by
    have ih := lastsTo_range hok h0 h1 o k
    have := keyAt_sec_range hok (o[k]?.getD 0)
    simp only [lastsTo]
    push_cast
    omega
theorem lastsTo_succ {s : List Int} {p : Int} {o : List Nat} {k : Nat} (h : k < o.length) : lastsTo s p o (k + 1) = lastsTo s p o k + p + keyAt s o[k] := by simp [lastsTo, h]
structure FitS where
  k : Nat
  now : Int
  m : List Bool
theorem FitS.inj {a a' : Int} {b b' : Nat} {c c' : List Bool} (h1 : a = a') (h2 : (b : Int) = b') (h3 : c = c') : FitS.mk b a c = ⟨b', a', c'⟩ := by
  obtain rfl : b = b' := by omega
  rw [h1, h3]

end Go.Mw

namespace Go.Mw
noncomputable section
def cmp_isNaN_int_L : L := .seq (.rg []) (.seq (.rg [zb .neq 0 0]) (.ret [.v 1]))
theorem cmp_isNaN_int_L_sh (Q : QT) (x0 : V) : shL cmp_isNaN_int_L Q [x0] = (
  P1 (.bin .neq) [x0, x0] fun v0 =>
  Q .ret [v0]) := by kernel_rfl
def cmp_isNaN_int_S : Sig := ⟨[.val false [.sc]], [(false, [.sc])], F_cmp_isNaN_int⟩
def cmp_isNaN_int_hs : List NF := []

def cmp_Compare_int_L : L := .seq (.rg []) (.seq (.rg [zc F_cmp_isNaN_int 1 [0]]) (.seq (.rg [zc F_cmp_isNaN_int 1 [1]]) (.seq (.seq (.rg []) (.ite (.v 2) (.seq (.seq (.rg []) (.ite (.v 3) (.seq (.rg []) (.ret [.k (.int .i64 0)])) (.skip))) (.seq (.rg []) (.ret [.k (.int .i64 (-1))]))) (.skip))) (.seq (.seq (.rg []) (.ite (.v 3) (.seq (.rg []) (.ret [.k (.int .i64 1)])) (.skip))) (.seq (.seq (.rg [zb .lss 0 1]) (.ite (.v 4) (.seq (.rg []) (.ret [.k (.int .i64 (-1))])) (.skip))) (.seq (.seq (.rg [zb .gtr 0 1]) (.ite (.v 5) (.seq (.rg []) (.ret [.k (.int .i64 1)])) (.skip))) (.seq (.rg []) (.ret [.k (.int .i64 0)]))))))))
theorem cmp_Compare_int_L_sh (Q : QT) (x0 x1 : V) : shL cmp_Compare_int_L Q [x0, x1] = (
  P1 (.call F_cmp_isNaN_int 0 1) [x0] fun v0 =>
  P1 (.call F_cmp_isNaN_int 0 1) [x1] fun v1 =>
  ifB v0 (
    ifB v1 (
      Q .ret [.int .i64 0]) (
      Q .ret [.int .i64 (-1)])) (
    ifB v1 (
      Q .ret [.int .i64 1]) (
      P1 (.bin .lss) [x0, x1] fun v2 =>
      ifB v2 (
        Q .ret [.int .i64 (-1)]) (
        P1 (.bin .gtr) [x0, x1] fun v3 =>
        ifB v3 (
          Q .ret [.int .i64 1]) (
          Q .ret [.int .i64 0]))))) := by kernel_rfl
def cmp_Compare_int_S : Sig := ⟨[.val false [.sc], .val false [.sc]], [(false, [.sc])], F_cmp_Compare_int⟩
def cmp_Compare_int_hs : List NF := []

def impl_SmoothShow_1_L : L := .seq (.rg []) (.seq (.rg [zj 2 0, zj 2 1, zc F_cmp_Compare_int 1 [4, 6]]) (.ret [.v 7]))
theorem impl_SmoothShow_1_L_sh (Q : QT) (x0 x1 x2 : V) : shL impl_SmoothShow_1_L Q [x0, x1, x2] = (
  P2 (.idx [.sc, .sc]) [x2, x0] fun _ v1 =>
  P2 (.idx [.sc, .sc]) [x2, x1] fun _ v3 =>
  P1 (.call F_cmp_Compare_int 0 1) [v1, v3] fun v4 =>
  Q .ret [v4]) := by kernel_rfl
def impl_SmoothShow_1_S : Sig := ⟨[.val false [.sc], .val false [.sc], .ptr 0 [.sl [.sc, .sc]]], [(false, [.sc])], F_SmoothShow_1⟩
def impl_SmoothShow_1_hs : List NF := []

def impl_SmoothShow_L : L := .seq (.rg []) (.seq (.seq (.rg [zc F_PiecesOk 1 [0], zn 1]) (.ite (.v 2) (.seq (.rg []) (.ret [.k (.list [.sc] [])])) (.skip))) (.seq (.rg [zl 0, zc F_upTo 1 [3]]) (.seq (.rg [⟨[], .call F_stable_impl_SmoothShow_1 1 0, [.v 4, .v 0, .v 4], 1⟩]) (.seq (.rg []) (.ret [.v 5])))))
theorem impl_SmoothShow_L_sh (Q : QT) (x0 : V) : shL impl_SmoothShow_L Q [x0] = (
  P1 (.call F_PiecesOk 0 1) [x0] fun v0 =>
  P1 (.un .not) [v0] fun v1 =>
  ifB v1 (
    Q .ret [.list [.sc] []]) (
    P1 (.len) [x0] fun v2 =>
    P1 (.call F_upTo 0 1) [v2] fun v3 =>
    P1 (.call F_stable_impl_SmoothShow_1 1 0) [v3, x0, v3] fun v4 =>
    Q .ret [v4])) := by kernel_rfl
def impl_SmoothShow_S : Sig := ⟨[.val false [.sl [.sc, .sc]]], [(false, [.sl [.sc]])], F_SmoothShow⟩
def impl_SmoothShow_hs : List NF := []

def impl_FitsEvening_1_L : L := .seq (.rg []) (.seq (.rg [zj 2 0, zj 2 1, zc F_cmp_Compare_int 1 [3, 5]]) (.ret [.v 7]))
theorem impl_FitsEvening_1_L_sh (Q : QT) (x0 x1 x2 : V) : shL impl_FitsEvening_1_L Q [x0, x1, x2] = (
  P2 (.idx [.sc, .sc]) [x2, x0] fun v0 _ =>
  P2 (.idx [.sc, .sc]) [x2, x1] fun v2 _ =>
  P1 (.call F_cmp_Compare_int 0 1) [v0, v2] fun v4 =>
  Q .ret [v4]) := by kernel_rfl
def impl_FitsEvening_1_S : Sig := ⟨[.val false [.sc], .val false [.sc], .ptr 0 [.sl [.sc, .sc]]], [(false, [.sc])], F_FitsEvening_1⟩
def impl_FitsEvening_1_hs : List NF := []

def impl_FitsEvening_b0 : L := .seq (.seq (.rg [zb .lss 4 3]) (.seq (.ite (.v 8) (.skip) (.seq (zt [5]) (.exit 0))) (.seq (.block 1 (.seq (.seq (.rg [zi 6 4]) (.seq (.seq (.rg [zl 5, zk .gtr 10 0]) (.ite (.v 11) (.seq (.rg [zb .add 2 0]) (zt [0, 1, 12, 9, 3, 4, 5, 6, 7])) (.seq (.skip) (zt [0, 1, 2, 9, 3, 4, 5, 6, 7])))) (.seq (.rg [zj 8 3, zb .add 2 9]) (.seq (.seq (.rg [zb .gtr 11 1]) (.ite (.v 12) (.seq (zt [6]) (.exit 0)) (.skip))) (.rg [⟨[], .lst [.sc] false 1, [.v 3], 1⟩, ⟨[], .app [.sc] 8, [.v 6, .v 13], 1⟩]))))) (zt [0, 1, 11, 4, 5, 14, 7, 8]))) (.rg [zk .add 4 1])))) (zt [0, 1, 2, 3, 8, 5, 6, 7])
theorem impl_FitsEvening_b0_sh (Q : QT) (x0 x1 x2 x3 x4 x5 x6 x7 : V) : shL impl_FitsEvening_b0 Q [x0, x1, x2, x3, x4, x5, x6, x7] = (
  P1 (.bin .lss) [x4, x3] fun v0 =>
  ifB v0 (
    P1 (.idx [.sc]) [x6, x4] fun v1 =>
    P1 (.len) [x5] fun v2 =>
    P1 (.bin .gtr) [v2, .int .i64 0] fun v3 =>
    ifB v3 (
      P1 (.bin .add) [x2, x0] fun v4 =>
      P2 (.idx [.sc, .sc]) [x7, v1] fun v5 _ =>
      P1 (.bin .add) [v4, v5] fun v7 =>
      P1 (.bin .gtr) [v7, x1] fun v8 =>
      ifB v8 (
        Q (.exit 0) [x5]) (
        P1 (.lst [.sc] false 1) [v1] fun v9 =>
        P1 (.app [.sc] 8) [x5, v9] fun v10 =>
        P1 (.bin .add) [x4, .int .i64 1] fun v11 =>
        Q .normal [x0, x1, v7, x3, v11, v10, x6, x7])) (
      P2 (.idx [.sc, .sc]) [x7, v1] fun v12 _ =>
      P1 (.bin .add) [x2, v12] fun v14 =>
      P1 (.bin .gtr) [v14, x1] fun v15 =>
      ifB v15 (
        Q (.exit 0) [x5]) (
        P1 (.lst [.sc] false 1) [v1] fun v16 =>
        P1 (.app [.sc] 8) [x5, v16] fun v17 =>
        P1 (.bin .add) [x4, .int .i64 1] fun v18 =>
        Q .normal [x0, x1, v14, x3, v18, v17, x6, x7]))) (
    Q (.exit 0) [x5])) := by kernel_rfl

def impl_FitsEvening_r1 : L := .seq (.rg [⟨[], .call F_slices_Sort_Lint_int 1 0, [.v 0, .v 0], 1⟩]) (.seq (.rg []) (.ret [.v 1]))
theorem impl_FitsEvening_r1_sh (Q : QT) (x0 : V) : shL impl_FitsEvening_r1 Q [x0] = (
  P1 (.call F_slices_Sort_Lint_int 1 0) [x0, x0] fun v0 =>
  Q .ret [v0]) := by kernel_rfl

def impl_FitsEvening_L : L := .seq (.rg []) (.seq (.seq (.rg [zc F_ShowTime 1 [0, 1], zk .lss 3 0, ⟨[(.v 4, false)], .call F_within 0 1, [.v 2, .k (.int .i64 0), .k (.int .i64 10000)], 1⟩, ⟨[(.v 4, false)], .un .not, [.v 5], 1⟩, ⟨[], .pick, [.v 4, .k (.bool true), .v 6], 1⟩]) (.ite (.v 7) (.seq (.rg []) (.ret [.k (.list [.sc] [])])) (.skip))) (.seq (.rg [zl 0, zc F_upTo 1 [8]]) (.seq (.rg [⟨[], .call F_stable_impl_FitsEvening_1 1 0, [.v 9, .v 0, .v 9], 1⟩]) (.seq (.rg [⟨[], .lst [.sc] false 0, [], 1⟩]) (.seq (.rg []) (.seq (.seq (.rg [zl 10]) (.block 0 (.seq (.tup [.v 1, .v 2, .k (.int .i64 0), .v 12, .k (.int .i64 0), .v 11, .v 10, .v 0]) (.loop (impl_FitsEvening_b0))))) (impl_FitsEvening_r1)))))))
theorem impl_FitsEvening_L_sh (Q : QT) (x0 x1 x2 : V) : shL impl_FitsEvening_L Q [x0, x1, x2] = (
  P1 (.call F_ShowTime 0 1) [x0, x1] fun v0 =>
  P1 (.bin .lss) [v0, .int .i64 0] fun v1 =>
  ifB v1 (
    Q .ret [.list [.sc] []]) (
    P1 (.call F_within 0 1) [x2, .int .i64 0, .int .i64 10000] fun v2 =>
    P1 (.un .not) [v2] fun v3 =>
    ifB v3 (
      Q .ret [.list [.sc] []]) (
      P1 (.len) [x0] fun v4 =>
      P1 (.call F_upTo 0 1) [v4] fun v5 =>
      P1 (.call F_stable_impl_FitsEvening_1 1 0) [v5, x0, v5] fun v6 =>
      P1 (.lst [.sc] false 0) [] fun v7 =>
      P1 (.len) [v6] fun v8 =>
      shL (.loop impl_FitsEvening_b0) (qB 0 (qS (shL impl_FitsEvening_r1 Q) Q)) [x1, x2, .int .i64 0, v8, .int .i64 0, v7, v6, x0]))) := by kernel_rfl
def impl_FitsEvening_S : Sig := ⟨[.val false [.sl [.sc, .sc]], .val false [.sc], .val false [.sc]], [(false, [.sl [.sc]])], F_FitsEvening⟩
def impl_FitsEvening_hs : List NF := [⟨[(8, zo 64)], [(64, true, [.sc])], [], 65⟩, ⟨[(1, zs), (2, zs), (3, .ptr 64 0), (8, zo 65), (9, zs), (28, zo 66), (29, zs), (30, zs)], [(65, true, [.sc]), (66, true, [.sc])], [(64, [.ro [.sc, .sc]])], 67⟩, ⟨[(1, zs), (2, zs), (3, .ptr 64 0), (8, zo 65), (9, zs), (28, zo 66), (29, zs), (30, zs)], [(65, true, [.sc]), (66, true, [.sc])], [(64, [.ro [.sc, .sc]])], 67⟩, ⟨[(1, zs), (2, zs), (3, .ptr 64 0), (8, zo 65), (9, zs), (11, zs), (28, zo 66), (29, zs), (30, zs)], [(65, true, [.sc]), (66, true, [.sc])], [(64, [.ro [.sc, .sc]])], 67⟩]

end
end Go.Mw

namespace Go.Mw
noncomputable section
def slices_stableCmpFunc_int_b0 (K : List T2 → List Int) : L := .seq (.seq (.seq (.rg [zb .leq 3 0]) (.ite (.v 6) (.skip) (.seq (zt [0, 1, 2, 4, 5]) (.exit 0)))) (.block 1 (.seq (.seq (.rg [⟨[], .call (F_ins K) 1 0, [.v 4, .v 2, .v 3, .v 5, .v 4], 1⟩]) (.seq (.rg []) (.rg [zb .add 3 1]))) (zt [0, 1, 3, 8, 7, 5])))) (zt [0, 1, 2, 3, 4, 5])
theorem slices_stableCmpFunc_int_b0_sh (K : List T2 → List Int) (Q : QT) (x0 x1 x2 x3 x4 x5 : V) : shL (slices_stableCmpFunc_int_b0 K) Q [x0, x1, x2, x3, x4, x5] = (
  P1 (.bin .leq) [x3, x0] fun v0 =>
  ifB v0 (
    P1 (.call (F_ins K) 1 0) [x4, x2, x3, x5, x4] fun v1 =>
    P1 (.bin .add) [x3, x1] fun v2 =>
    Q .normal [x0, x1, x3, v2, v1, x5]) (
    Q (.exit 0) [x0, x1, x2, x4, x5])) := by kernel_rfl

def slices_stableCmpFunc_int_b3 : L := .seq (.seq (.seq (.rg [zb .leq 3 0]) (.ite (.v 6) (.skip) (.seq (zt [0, 1, 2, 4, 5]) (.exit 4)))) (.block 5 (.seq (.seq (.rg [zb .add 2 1, ⟨[], .call F_never 1 0, [.v 4, .v 2, .v 7, .v 3, .v 5, .v 4], 1⟩]) (.seq (.rg []) (.rg [⟨[], .bin .mul, [.k (.int .i64 2), .v 1], 1⟩, zb .add 3 9]))) (zt [0, 1, 3, 10, 8, 5])))) (zt [0, 1, 2, 3, 4, 5])
def slices_stableCmpFunc_int_r4 : L := .seq (.seq (.rg [zb .add 2 1]) (.seq (.rg [zb .lss 5 0]) (.ite (.v 6) (.seq (.rg [⟨[], .call F_never 1 0, [.v 3, .v 2, .v 5, .v 0, .v 4, .v 3], 1⟩]) (zt [0, 1, 7, 4])) (.seq (.skip) (zt [0, 1, 3, 4]))))) (.rg [zk .mul 1 2])
def slices_stableCmpFunc_int_r5 : L := zt [0, 4, 2, 3]
def slices_stableCmpFunc_int_r6 : L := zt [0, 1, 2, 3]
def slices_stableCmpFunc_int_b2 : L := .seq (.seq (.seq (.rg [zb .lss 1 0]) (.ite (.v 4) (.skip) (.seq (zt [2, 3]) (.exit 2)))) (.block 3 (.seq (.seq (.rg [⟨[], .bin .mul, [.k (.int .i64 2), .v 1], 1⟩]) (.seq (.block 4 (.seq (.tup [.v 0, .v 1, .k (.int .i64 0), .v 5, .v 2, .v 3]) (.loop (slices_stableCmpFunc_int_b3)))) (slices_stableCmpFunc_int_r4))) (slices_stableCmpFunc_int_r5)))) (slices_stableCmpFunc_int_r6)
theorem slices_stableCmpFunc_int_b2_sh (Q : QT) (x0 x1 x2 x3 : V) : shL slices_stableCmpFunc_int_b2 Q [x0, x1, x2, x3] = (
  P1 (.bin .lss) [x1, x0] fun v0 =>
  ifB v0 (
    P1 (.bin .mul) [.int .i64 2, x1] fun v1 =>
    shL (.loop slices_stableCmpFunc_int_b3) (qB 4 (qS (shL slices_stableCmpFunc_int_r4 (qS (shL slices_stableCmpFunc_int_r5 (qB 3 (qS (shL slices_stableCmpFunc_int_r6 Q) Q))) (qB 3 (qS (shL slices_stableCmpFunc_int_r6 Q) Q)))) (qS (shL slices_stableCmpFunc_int_r5 (qB 3 (qS (shL slices_stableCmpFunc_int_r6 Q) Q))) (qB 3 (qS (shL slices_stableCmpFunc_int_r6 Q) Q))))) [x0, x1, .int .i64 0, v1, x2, x3]) (
    Q (.exit 2) [x2, x3])) := by kernel_rfl

def slices_stableCmpFunc_int_r1 (K : List T2 → List Int) : L := .seq (.rg [⟨[], .call (F_ins K) 1 0, [.v 3, .v 2, .v 0, .v 4, .v 3], 1⟩]) (.block 2 (.seq (zt [0, 1, 5, 4]) (.loop (slices_stableCmpFunc_int_b2))))
theorem slices_stableCmpFunc_int_r1_sh (K : List T2 → List Int) (Q : QT) (x0 x1 x2 x3 x4 : V) : shL (slices_stableCmpFunc_int_r1 K) Q [x0, x1, x2, x3, x4] = (
  P1 (.call (F_ins K) 1 0) [x3, x2, x0, x4, x3] fun v0 =>
  shL (.loop slices_stableCmpFunc_int_b2) (qB 2 Q) [x0, x1, v0, x4]) := by kernel_rfl

def slices_stableCmpFunc_int_r7 : L := .ret [.v 0]
theorem slices_stableCmpFunc_int_r7_sh (Q : QT) (x0 x1 : V) : shL slices_stableCmpFunc_int_r7 Q [x0, x1] = (
  Q .ret [x0]) := by kernel_rfl

def slices_stableCmpFunc_int_L (K : List T2 → List Int) : L := .seq (.seq (.rg []) (.seq (.rg []) (.seq (.block 0 (.seq (.tup [.v 1, .k (.int .i64 20), .k (.int .i64 0), .k (.int .i64 20), .v 0, .v 2]) (.loop ((slices_stableCmpFunc_int_b0 K))))) ((slices_stableCmpFunc_int_r1 K))))) (slices_stableCmpFunc_int_r7)
theorem slices_stableCmpFunc_int_L_sh (K : List T2 → List Int) (Q : QT) (x0 x1 x2 : V) : shL (slices_stableCmpFunc_int_L K) Q [x0, x1, x2] = (
  shL (.loop (slices_stableCmpFunc_int_b0 K)) (qB 0 (qS (shL (slices_stableCmpFunc_int_r1 K) (qS (shL slices_stableCmpFunc_int_r7 Q) Q)) (qS (shL slices_stableCmpFunc_int_r7 Q) Q))) [x1, .int .i64 20, .int .i64 0, .int .i64 20, x0, x2]) := by kernel_rfl
noncomputable def slices_stableCmpFunc_int_S (K : List T2 → List Int) (g : Nat) : Sig := ⟨[.io false [.sl [.sc]], .val false [.sc], .ptr (cloK + g) [.sl [.sc, .sc]]], [], F_stab K⟩
def slices_stableCmpFunc_int_hs (g : Nat) : List NF := [⟨[(0, zo 0), (1, zs), (2, .ptr 1 (cloK + g)), (6, zs), (7, zs)], [(0, false, [.sc])], [(1, [.ro [.sc, .sc]])], 64⟩, ⟨[(0, zo 0), (1, zs), (2, .ptr 1 (cloK + g)), (6, zs), (7, zs), (8, zs)], [(0, false, [.sc])], [(1, [.ro [.sc, .sc]])], 64⟩, ⟨[(0, zo 0), (1, zs), (2, .ptr 1 (cloK + g)), (6, zs), (7, zs), (8, zs)], [(0, false, [.sc])], [(1, [.ro [.sc, .sc]])], 64⟩, ⟨[], [(0, false, [.sc])], [(1, [.ro [.sc, .sc]])], 64⟩, ⟨[(0, zo 0), (1, zs), (2, .ptr 1 (cloK + g)), (6, zs)], [(0, false, [.sc])], [(1, [.ro [.sc, .sc]])], 64⟩, ⟨[(0, zo 0), (1, zs), (2, .ptr 1 (cloK + g)), (6, zs)], [(0, false, [.sc])], [(1, [.ro [.sc, .sc]])], 64⟩, ⟨[(0, zo 0), (1, zs), (2, .ptr 1 (cloK + g)), (6, zs), (7, zs)], [(0, false, [.sc])], [(1, [.ro [.sc, .sc]])], 64⟩, ⟨[(0, zo 0), (1, zs), (2, .ptr 1 (cloK + g)), (6, zs), (7, zs), (8, zs)], [(0, false, [.sc])], [(1, [.ro [.sc, .sc]])], 64⟩, ⟨[(0, zo 0), (1, zs), (2, .ptr 1 (cloK + g)), (6, zs), (7, zs), (8, zs)], [(0, false, [.sc])], [(1, [.ro [.sc, .sc]])], 64⟩, ⟨[(0, zo 0), (1, zs), (2, .ptr 1 (cloK + g)), (6, zs)], [(0, false, [.sc])], [(1, [.ro [.sc, .sc]])], 64⟩]

def slices_SortStableFunc_Lint_int_L (K : List T2 → List Int) : L := .seq (.rg [zl 0, ⟨[], .call (F_stab K) 1 0, [.v 0, .v 2, .v 1, .v 0], 1⟩]) (.ret [.v 3])
theorem slices_SortStableFunc_Lint_int_L_sh (K : List T2 → List Int) (Q : QT) (x0 x1 : V) : shL (slices_SortStableFunc_Lint_int_L K) Q [x0, x1] = (
  P1 (.len) [x0] fun v0 =>
  P1 (.call (F_stab K) 1 0) [x0, v0, x1, x0] fun v1 =>
  Q .ret [v1]) := by kernel_rfl
noncomputable def slices_SortStableFunc_Lint_int_S (K : List T2 → List Int) (g : Nat) : Sig := ⟨[.io false [.sl [.sc]], .ptr (cloK + g) [.sl [.sc, .sc]]], [], F_stable K⟩
def slices_SortStableFunc_Lint_int_hs : List NF := []


theorem slices_stableCmpFunc_int_ok (K : List T2 → List Int) : ∀ ds outs, F_stab K ds = some outs → shL (slices_stableCmpFunc_int_L K) (qRet outs) ds := by
  intro ds outs h
  obtain ⟨⟨o, n, l⟩, rfl, ⟨ho, hn, h9⟩, rfl⟩ := mkF_inv h
  dsimp only at ho hn h9 ⊢
  subst ho hn
  rw [slices_stableCmpFunc_int_L_sh]
  refine loop_upto 0 (fun _ => [.int .i64 l.length, .int .i64 20, .int .i64 0, .int .i64 20, vL I1 v1 (ints (List.range l.length)), vL I2 v2 l]) (fun i j h1 h2 _ => by omega) (fun _ => True) rfl trivial ?_
  intro k _ _
  rw [slices_stableCmpFunc_int_b0_sh]
  simp only [P1_leq, ifB_bool, decide_eq_true_eq, decide_eq_false_iff_not]
  refine ⟨fun h => by omega, fun _ => ?_⟩
  simp only [qS_exit, qB_exit, if_true, qS_normal, slices_stableCmpFunc_int_r1_sh]
  rw [p_ins h9]
  refine loop_upto 0 (fun _ => [.int .i64 l.length, .int .i64 20, vL I1 v1 (ordK K l), vL I2 v2 l]) (fun i j h1 h2 _ => by omega) (fun _ => True) rfl trivial ?_
  intro k _ _
  rw [slices_stableCmpFunc_int_b2_sh]
  simp only [P1_lss, ifB_bool, decide_eq_true_eq, decide_eq_false_iff_not]
  refine ⟨fun h => by omega, fun _ => ?_⟩
  simp only [qS_exit, qB_exit, if_true, qS_normal, slices_stableCmpFunc_int_r7_sh, qRet_ret]
theorem slices_SortStableFunc_Lint_int_ok (K : List T2 → List Int) : ∀ ds outs, F_stable K ds = some outs → shL (slices_SortStableFunc_Lint_int_L K) (qRet outs) ds := by
  intro ds outs h
  obtain ⟨⟨o, l⟩, rfl, ⟨ho, h9⟩, rfl⟩ := mkF_inv h
  dsimp only at ho h9 ⊢
  subst ho
  rw [slices_SortStableFunc_Lint_int_L_sh]
  have hl : (ints (List.range l.length)).length = l.length := by simp
  simp only [P1_len, hl]
  rw [p_stab h9]
  simp
theorem SmoothShow_1_F (l : List T2) (i k : Nat) (_ : l.length ≤ 9) (hi : i < l.length) (hk : k < l.length) : F_SmoothShow_1 [.int .i64 i, .int .i64 k, vL I2 v2 l] = some [.int .i64 (cmpI (keyAt (moods l) i) (keyAt (moods l) k))] :=
  mkF_eq F_SmoothShow_1_inj ((i : Int), (k : Int), l) ⟨by omega, by omega, by omega, by omega⟩
theorem FitsEvening_1_F (l : List T2) (i k : Nat) (_ : l.length ≤ 9) (hi : i < l.length) (hk : k < l.length) : F_FitsEvening_1 [.int .i64 i, .int .i64 k, vL I2 v2 l] = some [.int .i64 (cmpI (keyAt (secs l) i) (keyAt (secs l) k))] :=
  mkF_eq F_FitsEvening_1_inj ((i : Int), (k : Int), l) ⟨by omega, by omega, by omega, by omega⟩

end
end Go.Mw

namespace Go.Mw
theorem cmp_isNaN_int_ok : ∀ ds outs, F_cmp_isNaN_int ds = some outs → shL cmp_isNaN_int_L (qRet outs) ds := F_cmp_isNaN_int_elim fun x => by
  rw [cmp_isNaN_int_L_sh]; simp
theorem cmp_Compare_int_ok : ∀ ds outs, F_cmp_Compare_int ds = some outs → shL cmp_Compare_int_L (qRet outs) ds := F_cmp_Compare_int_elim fun x y => by
  rw [cmp_Compare_int_L_sh]
  by_cases h1 : x < y
  · simp [cmpI, h1]
  · by_cases h2 : y < x <;> simp [cmpI, h1, h2]
theorem impl_SmoothShow_1_ok : ∀ ds outs, F_SmoothShow_1 ds = some outs → shL impl_SmoothShow_1_L (qRet outs) ds := F_SmoothShow_1_elim fun i k l hp => by
  rw [impl_SmoothShow_1_L_sh]
  have h1 : i.toNat < l.length := by omega
  have h2 : k.toNat < l.length := by omega
  simp [hp.1, hp.2.2.1, h1, h2, keyAt, moods]
theorem impl_FitsEvening_1_ok : ∀ ds outs, F_FitsEvening_1 ds = some outs → shL impl_FitsEvening_1_L (qRet outs) ds := F_FitsEvening_1_elim fun i k l hp => by
  rw [impl_FitsEvening_1_L_sh]
  have h1 : i.toNat < l.length := by omega
  have h2 : k.toNat < l.length := by omega
  simp [hp.1, hp.2.2.1, h1, h2, keyAt, secs]
theorem impl_SmoothShow_ok : ∀ ds outs, F_SmoothShow ds = some outs → shL impl_SmoothShow_L (qRet outs) ds := F_SmoothShow_elim fun l hp => by
  rw [impl_SmoothShow_L_sh, p_PiecesOk hp]
  cases hok : piecesOk l with
  | false => simp [smooth, hok]
  | true =>
  have hn := pieces_le' hok
  simp only [P1_not, ifB_bool, Bool.not_true, Bool.false_eq_true, false_implies, true_and, forall_const, P1_len]
  rw [p_upTo ⟨by omega, by omega⟩, Int.toNat_natCast, show F_stable_impl_SmoothShow_1 = F_stable moods from rfl, p_stable hn]
  simp [smooth, hok, ordK]

theorem sort_members {n : Nat} {xs : List Nat} (hn : xs.Nodup) (hlt : ∀ x ∈ xs, x < n) : sortI (ints xs) = ints ((List.range n).filter fun k => decide (k ∈ xs)) := by
  have tr : ∀ a b c : Int, decide (a ≤ b) = true → decide (b ≤ c) = true → decide (a ≤ c) = true := by intro a b c h1 h2; simp at *; omega
  have tot : ∀ a b : Int, (decide (a ≤ b) || decide (b ≤ a)) = true := by intro a b; simp; omega
  refine List.Perm.eq_of_pairwise (le := fun a b : Int => a ≤ b) (fun a b _ _ h1 h2 => by omega) ?_ ?_ ?_
  · have := List.pairwise_mergeSort (le := fun x y : Int => decide (x ≤ y)) tr tot (ints xs)
    exact this.imp fun h => by simpa using h
  · unfold ints
    rw [List.pairwise_map]
    exact (List.pairwise_lt_range.sublist List.filter_sublist).imp fun h => by omega
  · refine (List.mergeSort_perm _ _).trans ?_
    unfold ints
    refine List.Perm.map _ ?_
    refine (List.perm_ext_iff_of_nodup hn (List.nodup_range.sublist List.filter_sublist)).2 fun a => ?_
    simp only [List.mem_filter, List.mem_range, decide_eq_true_eq]
    exact ⟨fun h => ⟨hlt a h, h⟩, fun h => h.2⟩
structure EvS where
  k : Nat
  s : Int
theorem impl_FitsEvening_ok : ∀ ds outs, F_FitsEvening ds = some outs → shL impl_FitsEvening_L (qRet outs) ds := F_FitsEvening_elim fun l p t hp => by
  rw [impl_FitsEvening_L_sh]
  simp only [p_ShowTime hp, P1_lss, ifB_bool, decide_eq_true_eq, decide_eq_false_iff_not, qRet_ret]
  refine ⟨fun h => by simp [fits35, show ¬ (0 ≤ showTime l p) by omega], fun h => ?_⟩
  have hsh : 0 ≤ showTime l p := by omega
  obtain ⟨hok, hp0, hp1⟩ := showTime_ok hsh
  simp only [p_within, P1_not, ifB_bool]
  refine ⟨fun h => by simp [fits35, by simpa using h], fun h => ?_⟩
  have hw : within t 0 10000 = true := by simpa using h
  have ht : 0 ≤ t ∧ t ≤ 10000 := by simpa [within] using hw
  have hn := pieces_le' hok
  have eF : fits35 l p t = ints (fitsOf l p t) := by simp [fits35, hsh, hw]
  rw [eF]
  simp only [P1_len]
  rw [p_upTo ⟨by omega, by omega⟩, Int.toNat_natCast, show F_stable_impl_FitsEvening_1 = F_stable secs from rfl, p_stable hn]
  have hol := ordTo_len (secs l) l.length
  have hnd : (ordTo (secs l) l.length).Nodup := (ordTo_perm (secs l) l.length).nodup_iff.2 List.nodup_range
  simp only [ordK, P1_lst0, P1_len, ints_len, hol]
  have hfo : fitsOf l p t = (List.range l.length).filter fun k => decide (k ∈ (ordTo (secs l) l.length).take (fitN (secs l) p t (ordTo (secs l) l.length))) := rfl
  generalize ho : ordTo (secs l) l.length = o at *
  have hox : ∀ x ∈ o, x < l.length := fun x hx => ordTo_lt (ho ▸ hx)
  have fin : ∀ {Q : QT} {k : Nat}, k ≤ l.length → (∀ j, j < k → lastsTo (secs l) p o (j + 1) ≤ t) → (k = l.length ∨ ¬ lastsTo (secs l) p o (k + 1) ≤ t) → (∀ e, e = [vL I1 v1 (ints (fitsOf l p t))] → Q .ret e) → shL impl_FitsEvening_r1 Q [vL I1 v1 (ints (o.take k))] := by
    intro Q k hk hall hstop hQ
    have hfit : fitN (secs l) p t o = k := fitN_eq (by omega) hall (by rw [hol]; exact hstop)
    have htl : (o.take k).length ≤ 9 := by simp; omega
    rw [impl_FitsEvening_r1_sh, p_slices_Sort_Lint_int (by simp; omega)]
    refine hQ _ ?_
    rw [sort_members (hnd.sublist (List.take_sublist k o)) (fun x hx => hox x (List.mem_of_mem_take hx)), hfo, hfit]
  refine loop_st (σ := EvS) (fun x => [.int .i64 p, .int .i64 t, .int .i64 x.s, .int .i64 l.length, .int .i64 x.k, vL I1 v1 (ints (o.take x.k)), vL I1 v1 (ints o), vL I2 v2 l]) (by rintro ⟨b, c⟩ ⟨b', c'⟩ h; simp at h; simp only [EvS.mk.injEq]; omega)
    (fun x => x.k ≤ l.length ∧ x.s = (if x.k = 0 then 0 else lastsTo (secs l) p o x.k) ∧ ∀ j, j < x.k → lastsTo (secs l) p o (j + 1) ≤ t) (fun x => l.length - x.k) ⟨0, 0⟩ rfl ⟨Nat.zero_le _, rfl, fun j h => by simp at h⟩ ?_
  rintro ⟨k, s⟩ ⟨hk, e1, hall⟩
  dsimp only at *
  replace e1 : s = (if k = 0 then (0 : Int) else lastsTo (secs l) p o k) := e1
  subst e1
  rw [impl_FitsEvening_b0_sh]
  simp only [P1_lss, ifB_bool, decide_eq_true_eq, decide_eq_false_iff_not]
  refine ⟨fun h => ?_, fun h => ?_⟩
  · have hkl : k < l.length := by omega
    have hko : k < o.length := by omega
    have hx := hox o[k] (List.getElem_mem hko)
    have hkr := keyAt_sec_range hok o[k]
    have hr := lastsTo_range hok hp0 hp1 o k
    have hks : keyAt (secs l) o[k] = l[o[k]].a := keyAt_secs hx
    have hsu := lastsTo_succ (s := secs l) (p := p) hko
    have hg : (ints o)[k]? = some (o[k] : Int) := ints_get hko
    have w2 : IntKind.i64.wrap ((k : Int) + 1) = ((k + 1 : Nat) : Int) := by rw [wrap_id (by omega) (by omega)]; omega
    have htl : (o.take k).length = k := by simp; omega
    have e2 : ints (o.take k) ++ [(o[k] : Int)] = ints (o.take (k + 1)) := by rw [take_succ_get hko, ints_append]; rfl
    simp only [P1_idxI, Int.toNat_natCast, hg, Option.some.injEq, exists_eq_left', P1_len, ints_len, htl, P1_gtr, ifB_bool, decide_eq_true_eq, decide_eq_false_iff_not]
    have go : ∀ {kk : Prop}, (¬ t < lastsTo (secs l) p o (k + 1) → kk) → (t < lastsTo (secs l) p o (k + 1) → kk) → kk := fun h1 h2 => by
      by_cases e : t < lastsTo (secs l) p o (k + 1)
      · exact h2 e
      · exact h1 e
    refine ⟨by omega, fun h0 => ?_, fun h0 => ?_⟩
    · have w1 : IntKind.i64.wrap (lastsTo (secs l) p o k + p) = lastsTo (secs l) p o k + p := wrap_id (by omega) (by omega)
      have w3 : IntKind.i64.wrap (lastsTo (secs l) p o k + p + l[o[k]].a) = lastsTo (secs l) p o (k + 1) := by rw [wrap_id (by omega) (by omega)]; omega
      rw [if_neg (by omega)]
      simp only [P1_add, w1, P2_idxI, Int.toNat_natCast, List.getElem?_eq_getElem hx, Option.some.injEq, exists_eq_left', w3, P1_gtr, ifB_bool, decide_eq_true_eq, decide_eq_false_iff_not]
      refine ⟨by omega, fun h3 => ?_, fun h3 => ?_⟩
      · simp only [qS_exit, qB_exit, if_true, qS_normal]
        exact fin hk hall (.inr (by omega)) fun e he => by rw [he]; simp
      · simp only [P1_lst1, P1_app, ints_len, htl, List.length_singleton, w2, qS_normal, e2]
        refine ⟨⟨by omega, by omega⟩, ⟨k + 1, _⟩, rfl, ⟨by dsimp only; omega, by dsimp only; rw [if_neg (by omega)]; rfl, fun j hj => ?_⟩, by dsimp only; omega⟩
        dsimp only at hj
        by_cases e : j = k
        · subst e; omega
        · exact hall j (by omega)
    · obtain rfl : k = 0 := by omega
      have e0 : lastsTo (secs l) p o 0 = -p := rfl
      have w3 : IntKind.i64.wrap ((0 : Int) + l[o[0]].a) = lastsTo (secs l) p o (0 + 1) := by rw [wrap_id (by omega) (by omega)]; omega
      rw [if_pos rfl]
      simp only [P1_add, P2_idxI, Int.toNat_natCast, List.getElem?_eq_getElem hx, Option.some.injEq, exists_eq_left', w3, P1_gtr, ifB_bool, decide_eq_true_eq, decide_eq_false_iff_not]
      refine ⟨by omega, fun h3 => ?_, fun h3 => ?_⟩
      · simp only [qS_exit, qB_exit, if_true, qS_normal]
        exact fin hk hall (.inr (by omega)) fun e he => by rw [he]; simp
      · simp only [P1_lst1, P1_app, ints_len, htl, List.length_singleton, w2, qS_normal, e2]
        refine ⟨⟨by omega, by omega⟩, ⟨0 + 1, _⟩, rfl, ⟨by dsimp only; omega, by dsimp only; rw [if_neg (by omega)]; rfl, fun j hj => ?_⟩, by dsimp only; omega⟩
        dsimp only at hj
        obtain rfl : j = 0 := by omega
        omega
  · obtain rfl : k = l.length := by omega
    simp only [qS_exit, qB_exit, if_true, qS_normal]
    exact fin hk hall (.inl rfl) fun e he => by rw [he]; simp

end Go.Mw

namespace Go.Mw
def pieceOf (x : Cur) : T2 := ⟨1 + cBelow x 90, cBelow (cAfter x 90) 10⟩
def pieceEnd (x : Cur) : Cur := cAfter (cAfter x 90) 10
def pieceTo (x : Cur) : Nat → List T2 × Cur
  | 0 => ([], x)
  | k + 1 => ((pieceTo x k).1 ++ [pieceOf (pieceTo x k).2], pieceEnd (pieceTo x k).2)
def pieceN (x : Cur) : Nat := (cBelow x 8).toNat
def E_l35List (x : Cur) : List V := [vL I1 vY x.b, .int .i64 x.i, .int .i64 x.h]
noncomputable def F_l35List : List V → Option (List V) := mkF E_l35List (fun x => 0 ≤ x.i ∧ x.b.length ≤ 1048576) (fun x => [vL I2 v2 ((pieceTo (cAfter x 8) (pieceN x)).1), .int .i64 ((pieceTo (cAfter x 8) (pieceN x)).2.i), .int .i64 ((pieceTo (cAfter x 8) (pieceN x)).2.h)])
theorem F_l35List_inj : ∀ x y, E_l35List x = E_l35List y → x = y := by
  rintro ⟨xb, xi, xh⟩ ⟨xb', xi', xh'⟩ h
  simpa [E_l35List] using h
theorem F_l35List_elim {P : List V → List V → Prop} (h : ∀ (x : Cur), (0 ≤ x.i ∧ x.b.length ≤ 1048576) → P [vL I1 vY x.b, .int .i64 x.i, .int .i64 x.h] [vL I2 v2 ((pieceTo (cAfter x 8) (pieceN x)).1), .int .i64 ((pieceTo (cAfter x 8) (pieceN x)).2.i), .int .i64 ((pieceTo (cAfter x 8) (pieceN x)).2.h)]) : ∀ ds outs, F_l35List ds = some outs → P ds outs := by
  intro ds outs hh
  obtain ⟨x, rfl, hp, rfl⟩ := mkF_inv hh
  exact h x hp
theorem p_l35List {x_b : List UInt8} {x_i : Int} {x_h : Int} {nr_ : Nat} {kk_ : V → V → V → Prop} (hp : 0 ≤ (⟨x_b, x_i, x_h⟩ : Cur).i ∧ (⟨x_b, x_i, x_h⟩ : Cur).b.length ≤ 1048576) : P3 (.call F_l35List 0 nr_) [vL I1 vY x_b, .int .i64 x_i, .int .i64 x_h] kk_ ↔ kk_ (vL I2 v2 ((pieceTo (cAfter (⟨x_b, x_i, x_h⟩ : Cur) 8) (pieceN (⟨x_b, x_i, x_h⟩ : Cur))).1)) (.int .i64 ((pieceTo (cAfter (⟨x_b, x_i, x_h⟩ : Cur) 8) (pieceN (⟨x_b, x_i, x_h⟩ : Cur))).2.i)) (.int .i64 ((pieceTo (cAfter (⟨x_b, x_i, x_h⟩ : Cur) 8) (pieceN (⟨x_b, x_i, x_h⟩ : Cur))).2.h)) :=
  P3_callF (by unfold F_l35List; exact mkF_eq F_l35List_inj ((⟨x_b, x_i, x_h⟩ : Cur)) hp)

def drawP (l : List UInt8) : List T2 := (pieceTo (cAfter (cur0 l) 8) (pieceN (cur0 l))).1
def E_DrawPieces (l : List UInt8) : List V := [vL I1 vY l]
noncomputable def F_DrawPieces : List V → Option (List V) := mkF E_DrawPieces (fun l => l.length ≤ 1048576) (fun l => [vL I2 v2 (drawP l)])
theorem F_DrawPieces_inj : ∀ x y, E_DrawPieces x = E_DrawPieces y → x = y := by
  rintro l l' h
  simpa [E_DrawPieces] using h
theorem F_DrawPieces_elim {P : List V → List V → Prop} (h : ∀ (l : List UInt8), (l.length ≤ 1048576) → P [vL I1 vY l] [vL I2 v2 (drawP l)]) : ∀ ds outs, F_DrawPieces ds = some outs → P ds outs := by
  intro ds outs hh
  obtain ⟨l, rfl, hp, rfl⟩ := mkF_inv hh
  exact h l hp
theorem p_DrawPieces {l : List UInt8} {nr_ : Nat} {kk_ : V → Prop} (hp : l.length ≤ 1048576) : P1 (.call F_DrawPieces 0 nr_) [vL I1 vY l] kk_ ↔ kk_ (vL I2 v2 (drawP l)) :=
  P1_callF (by unfold F_DrawPieces; exact mkF_eq F_DrawPieces_inj (l) hp)

def E_FnShows (l : List UInt8) : List V := [vL I1 vY l]
noncomputable def F_FnShows : List V → Option (List V) := mkF E_FnShows (fun l => wfLY l) (fun _ => [.bool true])
theorem F_FnShows_inj : ∀ x y, E_FnShows x = E_FnShows y → x = y := by
  rintro l l' h
  simpa [E_FnShows] using h
theorem F_FnShows_elim {P : List V → List V → Prop} (h : ∀ (l : List UInt8), (wfLY l) → P [vL I1 vY l] [.bool true]) : ∀ ds outs, F_FnShows ds = some outs → P ds outs := by
  intro ds outs hh
  obtain ⟨l, rfl, hp, rfl⟩ := mkF_inv hh
  exact h l hp
theorem F_FnShows_law : ∀ ds, okTKs [.list false [.int .u8]] ds → F_FnShows ds = some [.bool true] := by
  intro ds g0
  obtain ⟨_, _, rfl, h0, g1⟩ := okTKs_cons g0
  obtain ⟨l, rfl, r0⟩ := dec_LY h0
  obtain rfl := okTKs_nil g1
  exact mkF_eq F_FnShows_inj (l) r0


end Go.Mw

namespace Go.Mw
noncomputable section
def spec_l35List_b0 : L := .seq (.seq (.seq (.rg [zb .lss 1 0]) (.ite (.v 6) (.skip) (.seq (zt [2, 3, 4, 5]) (.exit 0)))) (.seq (.block 1 (.seq (.rg [⟨[], .call F_l01Below 0 1, [.v 3, .v 4, .v 5, .k (.int .i64 90)], 3⟩, ⟨[], .bin .add, [.k (.int .i64 1), .v 7], 1⟩, ⟨[], .call F_l01Below 0 1, [.v 3, .v 8, .v 9, .k (.int .i64 10)], 3⟩, ⟨[], .lst [.sc, .sc] true 1, [.v 10, .v 11], 1⟩, ⟨[], .app [.sc, .sc] 16, [.v 2, .v 14], 1⟩]) (zt [0, 1, 15, 3, 12, 13]))) (.rg [zk .add 1 1]))) (zt [0, 6, 2, 3, 4, 5])
theorem spec_l35List_b0_sh (Q : QT) (x0 x1 x2 x3 x4 x5 : V) : shL spec_l35List_b0 Q [x0, x1, x2, x3, x4, x5] = (
  P1 (.bin .lss) [x1, x0] fun v0 =>
  ifB v0 (
    P3 (.call F_l01Below 0 1) [x3, x4, x5, .int .i64 90] fun v1 v2 v3 =>
    P1 (.bin .add) [.int .i64 1, v1] fun v4 =>
    P3 (.call F_l01Below 0 1) [x3, v2, v3, .int .i64 10] fun v5 v6 v7 =>
    P1 (.lst [.sc, .sc] true 1) [v4, v5] fun v8 =>
    P1 (.app [.sc, .sc] 16) [x2, v8] fun v9 =>
    P1 (.bin .add) [x1, .int .i64 1] fun v10 =>
    Q .normal [x0, v10, v9, x3, v6, v7]) (
    Q (.exit 0) [x2, x3, x4, x5])) := by kernel_rfl

def spec_l35List_r1 : L := .seq (.rg []) (.ret [.v 0, .v 2, .v 3])
theorem spec_l35List_r1_sh (Q : QT) (x0 x1 x2 x3 : V) : shL spec_l35List_r1 Q [x0, x1, x2, x3] = (
  Q .ret [x0, x2, x3]) := by kernel_rfl

def spec_l35List_L : L := .seq (.rg []) (.seq (.rg [⟨[], .lst [.sc, .sc] true 0, [], 1⟩]) (.seq (.rg [⟨[], .call F_l01Below 0 1, [.v 0, .v 1, .v 2, .k (.int .i64 8)], 3⟩]) (.seq (.seq (.rg []) (.block 0 (.seq (.tup [.v 4, .k (.int .i64 0), .v 3, .v 0, .v 5, .v 6]) (.loop (spec_l35List_b0))))) (spec_l35List_r1))))
theorem spec_l35List_L_sh (Q : QT) (x0 x1 x2 : V) : shL spec_l35List_L Q [x0, x1, x2] = (
  P1 (.lst [.sc, .sc] true 0) [] fun v0 =>
  P3 (.call F_l01Below 0 1) [x0, x1, x2, .int .i64 8] fun v1 v2 v3 =>
  shL (.loop spec_l35List_b0) (qB 0 (qS (shL spec_l35List_r1 Q) Q)) [v1, .int .i64 0, v0, x0, v2, v3]) := by kernel_rfl
def spec_l35List_S : Sig := ⟨[.ptr 0 [.sl [.sc], .sc, .sc]], [(false, [.sl [.sc, .sc]])], F_l35List⟩
def spec_l35List_hs : List NF := [⟨[(3, zo 64)], [(64, true, [.sc, .sc])], [(0, [.ro [.sc], .sc, .sc])], 65⟩, ⟨[(0, .ptr 0 0), (3, zo 64), (4, zs), (5, zs)], [(64, true, [.sc, .sc])], [(0, [.ro [.sc], .sc, .sc])], 65⟩, ⟨[(0, .ptr 0 0), (3, zo 64), (4, zs), (5, zs)], [(64, true, [.sc, .sc])], [(0, [.ro [.sc], .sc, .sc])], 65⟩]

def spec_DrawPieces_L : L := .seq (.rg []) (.seq (.rg [zc F_l01New 3 [0], ⟨[], .call F_l35List 0 1, [.v 1, .v 2, .v 3], 3⟩]) (.ret [.v 4]))
theorem spec_DrawPieces_L_sh (Q : QT) (x0 : V) : shL spec_DrawPieces_L Q [x0] = (
  P3 (.call F_l01New 0 3) [x0] fun v0 v1 v2 =>
  P3 (.call F_l35List 0 1) [v0, v1, v2] fun v3 _ _ =>
  Q .ret [v3]) := by kernel_rfl
def spec_DrawPieces_S : Sig := ⟨[.val false [.sl [.sc]]], [(false, [.sl [.sc, .sc]])], F_DrawPieces⟩
def spec_DrawPieces_hs : List NF := []

def laws_FnShows_b0 : L := .seq (.seq (.seq (.rg [zb .lss 6 1]) (.ite (.v 8) (.skip) (.seq (zt [0, 1, 2, 3, 4, 5, 7]) (.exit 0)))) (.seq (.block 1 (.seq (.seq (.rg [zj 7 6, ⟨[], .mn, [.v 4, .v 10], 1⟩]) (.rg [zj 7 6, ⟨[], .mx, [.v 5, .v 13], 1⟩])) (zt [0, 1, 2, 3, 11, 14, 6, 7]))) (.rg [zk .add 6 1]))) (zt [0, 1, 2, 3, 4, 5, 8, 7])
theorem laws_FnShows_b0_sh (Q : QT) (x0 x1 x2 x3 x4 x5 x6 x7 : V) : shL laws_FnShows_b0 Q [x0, x1, x2, x3, x4, x5, x6, x7] = (
  P1 (.bin .lss) [x6, x1] fun v0 =>
  ifB v0 (
    P2 (.idx [.sc, .sc]) [x7, x6] fun _ v2 =>
    P1 (.mn) [x4, v2] fun v3 =>
    P2 (.idx [.sc, .sc]) [x7, x6] fun _ v5 =>
    P1 (.mx) [x5, v5] fun v6 =>
    P1 (.bin .add) [x6, .int .i64 1] fun v7 =>
    Q .normal [x0, x1, x2, x3, v3, v6, v7, x7]) (
    Q (.exit 0) [x0, x1, x2, x3, x4, x5, x7])) := by kernel_rfl

def laws_FnShows_b2 : L := .seq (.seq (.seq (.rg [zb .lss 6 1]) (.ite (.v 9) (.skip) (.seq (zt [0, 1, 2, 3, 4, 5, 7, 8]) (.exit 2)))) (.seq (.block 3 (.seq (.rg [⟨[], .call F_at 0 1, [.v 0, .k (.int .i64 2)], 1⟩, zb .add 6 10, zb .rem 11 1, ⟨[], .lst [.sc] false 1, [.v 12], 1⟩, ⟨[], .app [.sc] 8, [.v 8, .v 13], 1⟩]) (zt [0, 1, 2, 3, 4, 5, 6, 7, 14]))) (.rg [zk .add 6 1]))) (zt [0, 1, 2, 3, 4, 5, 9, 7, 8])
theorem laws_FnShows_b2_sh (Q : QT) (x0 x1 x2 x3 x4 x5 x6 x7 x8 : V) : shL laws_FnShows_b2 Q [x0, x1, x2, x3, x4, x5, x6, x7, x8] = (
  P1 (.bin .lss) [x6, x1] fun v0 =>
  ifB v0 (
    P1 (.call F_at 0 1) [x0, .int .i64 2] fun v1 =>
    P1 (.bin .add) [x6, v1] fun v2 =>
    P1 (.bin .rem) [v2, x1] fun v3 =>
    P1 (.lst [.sc] false 1) [v3] fun v4 =>
    P1 (.app [.sc] 8) [x8, v4] fun v5 =>
    P1 (.bin .add) [x6, .int .i64 1] fun v6 =>
    Q .normal [x0, x1, x2, x3, x4, x5, v6, x7, v5]) (
    Q (.exit 2) [x0, x1, x2, x3, x4, x5, x7, x8])) := by kernel_rfl

def laws_FnShows_r6 : L := .rg [zi 5 3, zj 4 21, ⟨[], .lst [.sc, .sc] true 1, [.v 22, .v 23], 1⟩, ⟨[], .app [.sc, .sc] 16, [.v 6, .v 24], 1⟩]
theorem laws_FnShows_r6_sh (Q : QT) (x0 x1 x2 x3 x4 x5 x6 x7 x8 x9 x10 x11 x12 x13 x14 x15 x16 x17 x18 x19 x20 : V) : shL laws_FnShows_r6 Q [x0, x1, x2, x3, x4, x5, x6, x7, x8, x9, x10, x11, x12, x13, x14, x15, x16, x17, x18, x19, x20] = (
  P1 (.idx [.sc]) [x5, x3] fun v0 =>
  P2 (.idx [.sc, .sc]) [x4, v0] fun v1 v2 =>
  P1 (.lst [.sc, .sc] true 1) [v1, v2] fun v3 =>
  P1 (.app [.sc, .sc] 16) [x6, v3] fun v4 =>
  Q .normal [x0, x1, x2, x3, x4, x5, x6, x7, x8, x9, x10, x11, x12, x13, x14, x15, x16, x17, x18, x19, x20, v0, v1, v2, v3, v4]) := by kernel_rfl

def laws_FnShows_r7 : L := zt [0, 1, 2, 3, 4, 5, 25]
theorem laws_FnShows_r7_sh (Q : QT) (x0 x1 x2 x3 x4 x5 x6 x7 x8 x9 x10 x11 x12 x13 x14 x15 x16 x17 x18 x19 x20 x21 x22 x23 x24 x25 : V) : shL laws_FnShows_r7 Q [x0, x1, x2, x3, x4, x5, x6, x7, x8, x9, x10, x11, x12, x13, x14, x15, x16, x17, x18, x19, x20, x21, x22, x23, x24, x25] = (
  Q .normal [x0, x1, x2, x3, x4, x5, x25]) := by kernel_rfl

def laws_FnShows_r8 : L := .rg [zk .add 3 1]
theorem laws_FnShows_r8_sh (Q : QT) (x0 x1 x2 x3 x4 x5 x6 : V) : shL laws_FnShows_r8 Q [x0, x1, x2, x3, x4, x5, x6] = (
  P1 (.bin .add) [x3, .int .i64 1] fun v0 =>
  Q .normal [x0, x1, x2, x3, x4, x5, x6, v0]) := by kernel_rfl

def laws_FnShows_r9 : L := zt [0, 1, 2, 7, 4, 5, 6]
theorem laws_FnShows_r9_sh (Q : QT) (x0 x1 x2 x3 x4 x5 x6 x7 : V) : shL laws_FnShows_r9 Q [x0, x1, x2, x3, x4, x5, x6, x7] = (
  Q .normal [x0, x1, x2, x7, x4, x5, x6]) := by kernel_rfl

def laws_FnShows_b5 : L := .seq (.seq (.seq (.rg [zl 5, zb .lss 3 7]) (.ite (.v 8) (.skip) (.seq (zt [0, 1, 2, 4, 5, 6]) (.exit 4)))) (.seq (.block 5 (.seq (.seq (.seq (.rg [zi 5 3, zk .lss 9 0, ⟨[(.v 10, false)], .idx [.sc], [.v 5, .v 3], 1⟩, ⟨[(.v 10, false)], .bin .geq, [.v 11, .v 0], 1⟩, ⟨[], .pick, [.v 10, .k (.bool true), .v 12], 1⟩, ⟨[(.v 13, false)], .bin .gtr, [.v 3, .k (.int .i64 0)], 1⟩, ⟨[(.v 13, false), (.v 14, true)], .idx [.sc], [.v 5, .v 3], 1⟩, ⟨[(.v 13, false), (.v 14, true)], .bin .sub, [.v 3, .k (.int .i64 1)], 1⟩, ⟨[(.v 13, false), (.v 14, true)], .idx [.sc], [.v 5, .v 16], 1⟩, ⟨[(.v 13, false), (.v 14, true)], .bin .leq, [.v 15, .v 17], 1⟩, ⟨[(.v 13, false)], .pick, [.v 14, .v 18, .k (.bool false)], 1⟩, ⟨[], .pick, [.v 13, .k (.bool true), .v 19], 1⟩]) (.ite (.v 20) (.seq (.rg []) (.ret [.k (.bool false)])) (.skip))) (laws_FnShows_r6)) (laws_FnShows_r7))) (laws_FnShows_r8))) (laws_FnShows_r9)
theorem laws_FnShows_b5_sh (Q : QT) (x0 x1 x2 x3 x4 x5 x6 : V) : shL laws_FnShows_b5 Q [x0, x1, x2, x3, x4, x5, x6] = (
  P1 (.len) [x5] fun v0 =>
  P1 (.bin .lss) [x3, v0] fun v1 =>
  ifB v1 (
    P1 (.idx [.sc]) [x5, x3] fun v2 =>
    P1 (.bin .lss) [v2, .int .i64 0] fun v3 =>
    ifB v3 (
      Q .ret [.bool false]) (
      P1 (.idx [.sc]) [x5, x3] fun v4 =>
      P1 (.bin .geq) [v4, x0] fun v5 =>
      ifB v5 (
        Q .ret [.bool false]) (
        P1 (.bin .gtr) [x3, .int .i64 0] fun v6 =>
        ifB v6 (
          P1 (.idx [.sc]) [x5, x3] fun v7 =>
          P1 (.bin .sub) [x3, .int .i64 1] fun v8 =>
          P1 (.idx [.sc]) [x5, v8] fun v9 =>
          P1 (.bin .leq) [v7, v9] fun v10 =>
          ifB v10 (
            Q .ret [.bool false]) (
            shL laws_FnShows_r6 (qS (shL laws_FnShows_r7 (qB 5 (qS (shL laws_FnShows_r8 (qS (shL laws_FnShows_r9 Q) Q)) (qS (shL laws_FnShows_r9 Q) Q)))) (qB 5 (qS (shL laws_FnShows_r8 (qS (shL laws_FnShows_r9 Q) Q)) (qS (shL laws_FnShows_r9 Q) Q)))) [x0, x1, x2, x3, x4, x5, x6, v0, .bool true, v2, .bool false, v4, v5, .bool false, .bool true, v7, v8, v9, v10, v10, .bool false])) (
          shL laws_FnShows_r6 (qS (shL laws_FnShows_r7 (qB 5 (qS (shL laws_FnShows_r8 (qS (shL laws_FnShows_r9 Q) Q)) (qS (shL laws_FnShows_r9 Q) Q)))) (qB 5 (qS (shL laws_FnShows_r8 (qS (shL laws_FnShows_r9 Q) Q)) (qS (shL laws_FnShows_r9 Q) Q)))) [x0, x1, x2, x3, x4, x5, x6, v0, .bool true, v2, .bool false, v4, v5, .bool false, .bool false, .list [] [], .list [] [], .list [] [], .list [] [], .bool false, .bool false])))) (
    Q (.exit 4) [x0, x1, x2, x4, x5, x6])) := by kernel_rfl

def laws_FnShows_b12 : L := .seq (.seq (.seq (.rg [zl 6, zb .lss 4 8]) (.ite (.v 9) (.skip) (.seq (zt [0, 1, 2, 3, 5, 6, 7]) (.exit 8)))) (.seq (.block 9 (.seq (.seq (.rg [zc F_has 1 [6, 3], zn 10, ⟨[(.v 11, true)], .idx [.sc, .sc], [.v 5, .v 3], 2⟩, ⟨[(.v 11, true)], .idx [.sc], [.v 6, .v 4], 1⟩, ⟨[(.v 11, true)], .idx [.sc, .sc], [.v 5, .v 14], 2⟩, ⟨[(.v 11, true)], .bin .lss, [.v 12, .v 15], 1⟩, ⟨[], .pick, [.v 11, .v 17, .k (.bool false)], 1⟩]) (.ite (.v 18) (.seq (.rg []) (.ret [.k (.bool false)])) (.skip))) (zt [0, 1, 2, 3, 4, 5, 6, 7]))) (.rg [zk .add 4 1]))) (zt [0, 1, 2, 3, 8, 5, 6, 7])
theorem laws_FnShows_b12_sh (Q : QT) (x0 x1 x2 x3 x4 x5 x6 x7 : V) : shL laws_FnShows_b12 Q [x0, x1, x2, x3, x4, x5, x6, x7] = (
  P1 (.len) [x6] fun v0 =>
  P1 (.bin .lss) [x4, v0] fun v1 =>
  ifB v1 (
    P1 (.call F_has 0 1) [x6, x3] fun v2 =>
    P1 (.un .not) [v2] fun v3 =>
    ifB v3 (
      P2 (.idx [.sc, .sc]) [x5, x3] fun v4 _ =>
      P1 (.idx [.sc]) [x6, x4] fun v6 =>
      P2 (.idx [.sc, .sc]) [x5, v6] fun v7 _ =>
      P1 (.bin .lss) [v4, v7] fun v9 =>
      ifB v9 (
        Q .ret [.bool false]) (
        P1 (.bin .add) [x4, .int .i64 1] fun v10 =>
        Q .normal [x0, x1, x2, x3, v10, x5, x6, x7])) (
      P1 (.bin .add) [x4, .int .i64 1] fun v11 =>
      Q .normal [x0, x1, x2, x3, v11, x5, x6, x7])) (
    Q (.exit 8) [x0, x1, x2, x3, x5, x6, x7])) := by kernel_rfl

def laws_FnShows_r13 : L := zt [0, 1, 2, 3, 4, 5, 6]
theorem laws_FnShows_r13_sh (Q : QT) (x0 x1 x2 x3 x4 x5 x6 : V) : shL laws_FnShows_r13 Q [x0, x1, x2, x3, x4, x5, x6] = (
  Q .normal [x0, x1, x2, x3, x4, x5, x6]) := by kernel_rfl

def laws_FnShows_r14 : L := .rg [zk .add 3 1]
theorem laws_FnShows_r14_sh (Q : QT) (x0 x1 x2 x3 x4 x5 x6 : V) : shL laws_FnShows_r14 Q [x0, x1, x2, x3, x4, x5, x6] = (
  P1 (.bin .add) [x3, .int .i64 1] fun v0 =>
  Q .normal [x0, x1, x2, x3, x4, x5, x6, v0]) := by kernel_rfl

def laws_FnShows_r15 : L := zt [0, 1, 2, 7, 4, 5, 6]
theorem laws_FnShows_r15_sh (Q : QT) (x0 x1 x2 x3 x4 x5 x6 x7 : V) : shL laws_FnShows_r15 Q [x0, x1, x2, x3, x4, x5, x6, x7] = (
  Q .normal [x0, x1, x2, x7, x4, x5, x6]) := by kernel_rfl

def laws_FnShows_b11 : L := .seq (.seq (.seq (.rg [zb .lss 3 0]) (.ite (.v 7) (.skip) (.seq (zt [0, 1, 4]) (.exit 6)))) (.seq (.block 7 (.seq (.seq (.seq (.rg [zc F_has 1 [5, 3], zn 8, ⟨[(.v 9, true)], .lst [.sc, .sc] true 0, [], 1⟩, ⟨[(.v 9, true)], .app [.sc, .sc] 16, [.v 10, .v 6], 1⟩, ⟨[(.v 9, true)], .idx [.sc, .sc], [.v 4, .v 3], 2⟩, ⟨[(.v 9, true)], .lst [.sc, .sc] true 1, [.v 12, .v 13], 1⟩, ⟨[(.v 9, true)], .app [.sc, .sc] 16, [.v 11, .v 14], 1⟩, ⟨[(.v 9, true)], .call F_ShowTime 0 1, [.v 15, .v 1], 1⟩, ⟨[(.v 9, true)], .bin .leq, [.v 16, .v 2], 1⟩, ⟨[], .pick, [.v 9, .v 17, .k (.bool false)], 1⟩]) (.ite (.v 18) (.seq (.rg []) (.ret [.k (.bool false)])) (.skip))) (.seq (.rg []) (.block 8 (.seq (.tup [.v 0, .v 1, .v 2, .v 3, .k (.int .i64 0), .v 4, .v 5, .v 6]) (.loop (laws_FnShows_b12)))))) (laws_FnShows_r13))) (laws_FnShows_r14))) (laws_FnShows_r15)
theorem laws_FnShows_b11_sh (Q : QT) (x0 x1 x2 x3 x4 x5 x6 : V) : shL laws_FnShows_b11 Q [x0, x1, x2, x3, x4, x5, x6] = (
  P1 (.bin .lss) [x3, x0] fun v0 =>
  ifB v0 (
    P1 (.call F_has 0 1) [x5, x3] fun v1 =>
    P1 (.un .not) [v1] fun v2 =>
    ifB v2 (
      P1 (.lst [.sc, .sc] true 0) [] fun v3 =>
      P1 (.app [.sc, .sc] 16) [v3, x6] fun v4 =>
      P2 (.idx [.sc, .sc]) [x4, x3] fun v5 v6 =>
      P1 (.lst [.sc, .sc] true 1) [v5, v6] fun v7 =>
      P1 (.app [.sc, .sc] 16) [v4, v7] fun v8 =>
      P1 (.call F_ShowTime 0 1) [v8, x1] fun v9 =>
      P1 (.bin .leq) [v9, x2] fun v10 =>
      ifB v10 (
        Q .ret [.bool false]) (
        shL (.loop laws_FnShows_b12) (qB 8 (qS (shL laws_FnShows_r13 (qB 7 (qS (shL laws_FnShows_r14 (qS (shL laws_FnShows_r15 Q) Q)) (qS (shL laws_FnShows_r15 Q) Q)))) (qB 7 (qS (shL laws_FnShows_r14 (qS (shL laws_FnShows_r15 Q) Q)) (qS (shL laws_FnShows_r15 Q) Q))))) [x0, x1, x2, x3, .int .i64 0, x4, x5, x6])) (
      shL (.loop laws_FnShows_b12) (qB 8 (qS (shL laws_FnShows_r13 (qB 7 (qS (shL laws_FnShows_r14 (qS (shL laws_FnShows_r15 Q) Q)) (qS (shL laws_FnShows_r15 Q) Q)))) (qB 7 (qS (shL laws_FnShows_r14 (qS (shL laws_FnShows_r15 Q) Q)) (qS (shL laws_FnShows_r15 Q) Q))))) [x0, x1, x2, x3, .int .i64 0, x4, x5, x6])) (
    Q (.exit 6) [x0, x1, x4])) := by kernel_rfl

def laws_FnShows_b17 : L := .seq (.seq (.seq (.rg [zb .lss 3 0]) (.ite (.v 5) (.skip) (.seq (zt [0, 1, 2, 4]) (.exit 10)))) (.seq (.block 11 (.seq (.rg [zj 4 3, zb .add 2 6]) (zt [0, 1, 8, 3, 4]))) (.rg [zk .add 3 1]))) (zt [0, 1, 2, 5, 4])
theorem laws_FnShows_b17_sh (Q : QT) (x0 x1 x2 x3 x4 : V) : shL laws_FnShows_b17 Q [x0, x1, x2, x3, x4] = (
  P1 (.bin .lss) [x3, x0] fun v0 =>
  ifB v0 (
    P2 (.idx [.sc, .sc]) [x4, x3] fun v1 _ =>
    P1 (.bin .add) [x2, v1] fun v3 =>
    P1 (.bin .add) [x3, .int .i64 1] fun v4 =>
    Q .normal [x0, x1, v3, v4, x4]) (
    Q (.exit 10) [x0, x1, x2, x4])) := by kernel_rfl

def laws_FnShows_r18 : L := .seq (.rg [zc F_ShowTime 1 [3, 1], zk .sub 0 1, ⟨[], .mx, [.k (.int .i64 0), .v 5], 1⟩, zb .mul 1 6, zb .add 2 7, zb .eql 4 8, ⟨[(.v 9, true)], .call F_PiecesOk 0 1, [.v 3], 1⟩, ⟨[], .pick, [.v 9, .v 10, .k (.bool false)], 1⟩]) (.ret [.v 11])
theorem laws_FnShows_r18_sh (Q : QT) (x0 x1 x2 x3 : V) : shL laws_FnShows_r18 Q [x0, x1, x2, x3] = (
  P1 (.call F_ShowTime 0 1) [x3, x1] fun v0 =>
  P1 (.bin .sub) [x0, .int .i64 1] fun v1 =>
  P1 (.mx) [.int .i64 0, v1] fun v2 =>
  P1 (.bin .mul) [x1, v2] fun v3 =>
  P1 (.bin .add) [x2, v3] fun v4 =>
  P1 (.bin .eql) [v0, v4] fun v5 =>
  ifB v5 (
    P1 (.call F_PiecesOk 0 1) [x3] fun v6 =>
    Q .ret [v6]) (
    Q .ret [.bool false])) := by kernel_rfl

def laws_FnShows_r16 : L := .seq (.rg []) (.seq (.seq (.rg []) (.block 10 (.seq (.tup [.v 0, .v 1, .k (.int .i64 0), .k (.int .i64 0), .v 2]) (.loop (laws_FnShows_b17))))) (laws_FnShows_r18))
theorem laws_FnShows_r16_sh (Q : QT) (x0 x1 x2 : V) : shL laws_FnShows_r16 Q [x0, x1, x2] = (
  shL (.loop laws_FnShows_b17) (qB 10 (qS (shL laws_FnShows_r18 Q) Q)) [x0, x1, .int .i64 0, .int .i64 0, x2]) := by kernel_rfl

def laws_FnShows_r10 : L := .seq (.seq (.rg [zl 5, zk .gtr 6 0, ⟨[(.v 7, true)], .call F_ShowTime 0 1, [.v 5, .v 1], 1⟩, ⟨[(.v 7, true)], .bin .gtr, [.v 8, .v 2], 1⟩, ⟨[], .pick, [.v 7, .v 9, .k (.bool false)], 1⟩]) (.ite (.v 10) (.seq (.rg []) (.ret [.k (.bool false)])) (.skip))) (.seq (.seq (.rg []) (.block 6 (.seq (.tup [.v 0, .v 1, .v 2, .k (.int .i64 0), .v 3, .v 4, .v 5]) (.loop (laws_FnShows_b11))))) (laws_FnShows_r16))
theorem laws_FnShows_r10_sh (Q : QT) (x0 x1 x2 x3 x4 x5 : V) : shL laws_FnShows_r10 Q [x0, x1, x2, x3, x4, x5] = (
  P1 (.len) [x5] fun v0 =>
  P1 (.bin .gtr) [v0, .int .i64 0] fun v1 =>
  ifB v1 (
    P1 (.call F_ShowTime 0 1) [x5, x1] fun v2 =>
    P1 (.bin .gtr) [v2, x2] fun v3 =>
    ifB v3 (
      Q .ret [.bool false]) (
      shL (.loop laws_FnShows_b11) (qB 6 (qS (shL laws_FnShows_r16 Q) Q)) [x0, x1, x2, .int .i64 0, x3, x4, x5])) (
    shL (.loop laws_FnShows_b11) (qB 6 (qS (shL laws_FnShows_r16 Q) Q)) [x0, x1, x2, .int .i64 0, x3, x4, x5])) := by kernel_rfl

def laws_FnShows_r4 : L := .seq (.rg [⟨[], .call F_at 0 1, [.v 0, .k (.int .i64 0)], 1⟩, zk .rem 16 20]) (.seq (.rg [⟨[], .call F_at 0 1, [.v 0, .k (.int .i64 1)], 1⟩]) (.seq (.rg [zc F_FitsEvening 1 [6, 17, 18]]) (.seq (.rg [⟨[], .lst [.sc, .sc] true 0, [], 1⟩]) (.seq (.seq (.rg []) (.block 4 (.seq (.tup [.v 1, .v 17, .v 18, .k (.int .i64 0), .v 6, .v 19, .v 20]) (.loop (laws_FnShows_b5))))) (laws_FnShows_r10)))))
theorem laws_FnShows_r4_sh (Q : QT) (x0 x1 x2 x3 x4 x5 x6 x7 x8 x9 x10 x11 x12 x13 x14 x15 : V) : shL laws_FnShows_r4 Q [x0, x1, x2, x3, x4, x5, x6, x7, x8, x9, x10, x11, x12, x13, x14, x15] = (
  P1 (.call F_at 0 1) [x0, .int .i64 0] fun v0 =>
  P1 (.bin .rem) [v0, .int .i64 20] fun v1 =>
  P1 (.call F_at 0 1) [x0, .int .i64 1] fun v2 =>
  P1 (.call F_FitsEvening 0 1) [x6, v1, v2] fun v3 =>
  P1 (.lst [.sc, .sc] true 0) [] fun v4 =>
  shL (.loop laws_FnShows_b5) (qB 4 (qS (shL laws_FnShows_r10 Q) Q)) [x1, v1, v2, .int .i64 0, x6, v3, v4]) := by kernel_rfl

def laws_FnShows_r3 : L := .seq (.rg [zc F_MoodSteps 1 [6, 7]]) (.seq (.seq (.rg [zb .sub 5 4, ⟨[], .mx, [.k (.int .i64 0), .v 9], 1⟩, zb .neq 2 10, ⟨[(.v 11, false)], .bin .lss, [.v 8, .v 2], 1⟩, ⟨[], .pick, [.v 11, .k (.bool true), .v 12], 1⟩, ⟨[(.v 13, false)], .bin .gtr, [.v 8, .v 3], 1⟩, ⟨[], .pick, [.v 13, .k (.bool true), .v 14], 1⟩]) (.ite (.v 15) (.seq (.rg []) (.ret [.k (.bool false)])) (.skip))) (laws_FnShows_r4))
theorem laws_FnShows_r3_sh (Q : QT) (x0 x1 x2 x3 x4 x5 x6 x7 : V) : shL laws_FnShows_r3 Q [x0, x1, x2, x3, x4, x5, x6, x7] = (
  P1 (.call F_MoodSteps 0 1) [x6, x7] fun v0 =>
  P1 (.bin .sub) [x5, x4] fun v1 =>
  P1 (.mx) [.int .i64 0, v1] fun v2 =>
  P1 (.bin .neq) [x2, v2] fun v3 =>
  ifB v3 (
    Q .ret [.bool false]) (
    P1 (.bin .lss) [v0, x2] fun v4 =>
    ifB v4 (
      Q .ret [.bool false]) (
      P1 (.bin .gtr) [v0, x3] fun v5 =>
      ifB v5 (
        Q .ret [.bool false]) (
        shL laws_FnShows_r4 Q [x0, x1, x2, x3, x4, x5, x6, x7, v0, v1, v2, .bool false, v4, .bool false, v5, .bool false])))) := by kernel_rfl

def laws_FnShows_r1 : L := .seq (.rg [⟨[], .lst [.sc] false 0, [], 1⟩]) (.seq (.seq (.rg []) (.block 2 (.seq (.tup [.v 0, .v 1, .v 2, .v 3, .v 4, .v 5, .k (.int .i64 0), .v 6, .v 7]) (.loop (laws_FnShows_b2))))) (laws_FnShows_r3))
theorem laws_FnShows_r1_sh (Q : QT) (x0 x1 x2 x3 x4 x5 x6 : V) : shL laws_FnShows_r1 Q [x0, x1, x2, x3, x4, x5, x6] = (
  P1 (.lst [.sc] false 0) [] fun v0 =>
  shL (.loop laws_FnShows_b2) (qB 2 (qS (shL laws_FnShows_r3 Q) Q)) [x0, x1, x2, x3, x4, x5, .int .i64 0, x6, v0]) := by kernel_rfl

def laws_FnShows_L : L := .seq (.rg []) (.seq (.seq (.rg [zc F_big 1 [0]]) (.ite (.v 1) (.seq (.rg []) (.ret [.k (.bool true)])) (.skip))) (.seq (.rg [zc F_DrawPieces 1 [0]]) (.seq (.rg [zl 2]) (.seq (.rg [zc F_SmoothShow 1 [2]]) (.seq (.rg [zc F_MoodSteps 1 [2, 4]]) (.seq (.rg [zc F_LivelyShow 1 [2]]) (.seq (.seq (.rg [zl 4, zb .neq 7 3, ⟨[(.v 8, false)], .bin .lss, [.v 5, .k (.int .i64 0)], 1⟩, ⟨[], .pick, [.v 8, .k (.bool true), .v 9], 1⟩, ⟨[(.v 10, false)], .bin .lss, [.v 6, .v 5], 1⟩, ⟨[], .pick, [.v 10, .k (.bool true), .v 11], 1⟩]) (.ite (.v 12) (.seq (.rg []) (.ret [.k (.bool false)])) (.skip))) (.seq (.rg []) (.seq (.rg []) (.seq (.seq (.rg []) (.block 0 (.seq (.tup [.v 0, .v 3, .v 5, .v 6, .k (.int .i64 9), .k (.int .i64 0), .k (.int .i64 0), .v 2]) (.loop (laws_FnShows_b0))))) (laws_FnShows_r1)))))))))))
theorem laws_FnShows_L_sh (Q : QT) (x0 : V) : shL laws_FnShows_L Q [x0] = (
  P1 (.call F_big 0 1) [x0] fun v0 =>
  ifB v0 (
    Q .ret [.bool true]) (
    P1 (.call F_DrawPieces 0 1) [x0] fun v1 =>
    P1 (.len) [v1] fun v2 =>
    P1 (.call F_SmoothShow 0 1) [v1] fun v3 =>
    P1 (.call F_MoodSteps 0 1) [v1, v3] fun v4 =>
    P1 (.call F_LivelyShow 0 1) [v1] fun v5 =>
    P1 (.len) [v3] fun v6 =>
    P1 (.bin .neq) [v6, v2] fun v7 =>
    ifB v7 (
      Q .ret [.bool false]) (
      P1 (.bin .lss) [v4, .int .i64 0] fun v8 =>
      ifB v8 (
        Q .ret [.bool false]) (
        P1 (.bin .lss) [v5, v4] fun v9 =>
        ifB v9 (
          Q .ret [.bool false]) (
          shL (.loop laws_FnShows_b0) (qB 0 (qS (shL laws_FnShows_r1 Q) Q)) [x0, v2, v4, v5, .int .i64 9, .int .i64 0, .int .i64 0, v1]))))) := by kernel_rfl
def laws_FnShows_S : Sig := ⟨[.val false [.sl [.sc]]], [(false, [.sc])], F_FnShows⟩
def laws_FnShows_hs : List NF := [⟨[(0, zr), (3, zo 64), (4, zs), (6, zs), (7, zs), (8, zs), (9, zs)], [(64, true, [.sc, .sc])], [], 65⟩, ⟨[(0, zr), (3, zo 64), (4, zs), (6, zs), (7, zs), (8, zs), (9, zs), (10, zs)], [(64, true, [.sc, .sc])], [], 65⟩, ⟨[(0, zr), (3, zo 64), (4, zs), (6, zs), (7, zs), (8, zs), (9, zs), (10, zs)], [(64, true, [.sc, .sc])], [], 65⟩, ⟨[(0, zr), (3, zo 64), (4, zs), (6, zs), (7, zs), (8, zs), (9, zs), (11, zo 65)], [(64, true, [.sc, .sc]), (65, true, [.sc])], [], 66⟩, ⟨[(0, zr), (3, zo 64), (4, zs), (6, zs), (7, zs), (8, zs), (9, zs), (11, zo 65), (12, zs)], [(64, true, [.sc, .sc]), (65, true, [.sc])], [], 66⟩, ⟨[(0, zr), (3, zo 64), (4, zs), (6, zs), (7, zs), (8, zs), (9, zs), (11, zo 65), (12, zs)], [(64, true, [.sc, .sc]), (65, true, [.sc])], [], 66⟩, ⟨[(3, zo 64), (4, zs), (14, zs), (15, zs), (16, zo 65), (17, zo 66)], [(64, true, [.sc, .sc]), (65, true, [.sc]), (66, true, [.sc, .sc])], [], 67⟩, ⟨[(3, zo 64), (4, zs), (14, zs), (15, zs), (16, zo 65), (17, zo 66), (18, zs)], [(64, true, [.sc, .sc]), (65, true, [.sc]), (66, true, [.sc, .sc])], [], 67⟩, ⟨[(3, zo 64), (4, zs), (14, zs), (15, zs), (16, zo 65), (17, zo 66), (18, zs)], [(64, true, [.sc, .sc]), (65, true, [.sc]), (66, true, [.sc, .sc])], [], 67⟩, ⟨[(3, zo 64), (4, zs), (14, zs)], [(64, true, [.sc, .sc])], [], 65⟩, ⟨[(3, zo 64), (4, zs), (14, zs), (15, zs), (16, zo 65), (17, zo 66), (19, zs)], [(64, true, [.sc, .sc]), (65, true, [.sc]), (66, true, [.sc, .sc])], [], 67⟩, ⟨[(3, zo 64), (4, zs), (14, zs), (15, zs), (16, zo 65), (17, zo 66), (19, zs)], [(64, true, [.sc, .sc]), (65, true, [.sc]), (66, true, [.sc, .sc])], [], 67⟩, ⟨[(3, zo 64), (4, zs), (14, zs), (15, zs), (16, zo 65), (17, zo 66), (19, zs)], [(64, true, [.sc, .sc]), (65, true, [.sc]), (66, true, [.sc, .sc])], [], 67⟩, ⟨[(3, zo 64), (4, zs), (14, zs), (15, zs), (16, zo 65), (17, zo 66), (19, zs), (20, zs)], [(64, true, [.sc, .sc]), (65, true, [.sc]), (66, true, [.sc, .sc])], [], 67⟩, ⟨[(3, zo 64), (4, zs), (14, zs), (15, zs), (16, zo 65), (17, zo 66), (19, zs), (20, zs)], [(64, true, [.sc, .sc]), (65, true, [.sc]), (66, true, [.sc, .sc])], [], 67⟩, ⟨[(3, zo 64), (4, zs), (14, zs), (21, zs)], [(64, true, [.sc, .sc])], [], 65⟩, ⟨[(3, zo 64), (4, zs), (14, zs), (21, zs), (22, zs)], [(64, true, [.sc, .sc])], [], 65⟩, ⟨[(3, zo 64), (4, zs), (14, zs), (21, zs), (22, zs)], [(64, true, [.sc, .sc])], [], 65⟩]

end
end Go.Mw

namespace Go.Mw
@[simp] theorem pieceEnd_b (x : Cur) : (pieceEnd x).b = x.b := by simp [pieceEnd]
theorem pieceEnd_i {x : Cur} (h : 0 ≤ x.i) : 0 ≤ (pieceEnd x).i := cAfter_i (cAfter_i h)
theorem piece_inv (x : Cur) (hi : 0 ≤ x.i) (k : Nat) : (pieceTo x k).2.b = x.b ∧ 0 ≤ (pieceTo x k).2.i ∧ (pieceTo x k).1.length = k ∧ ∀ d ∈ (pieceTo x k).1, (1 ≤ d.a ∧ d.a ≤ 90) ∧ 0 ≤ d.b ∧ d.b ≤ 9 := by
  induction k with
  | zero => exact ⟨rfl, hi, rfl, by simp [pieceTo]⟩
  | succ k ih =>
    obtain ⟨h1, h2, h3, h4⟩ := ih
    refine ⟨by simp [pieceTo, h1], pieceEnd_i h2, by simp [pieceTo, h3], fun d hd => ?_⟩
    simp only [pieceTo, List.mem_append, List.mem_singleton] at hd
    rcases hd with hd | rfl
    · exact h4 d hd
    · have a1 := cBelow_range (pieceTo x k).2 (show (0 : Int) < 90 by omega)
      have a2 := cBelow_range (cAfter (pieceTo x k).2 90) (show (0 : Int) < 10 by omega)
      simp only [pieceOf]
      omega
theorem spec_l35List_ok : ∀ ds outs, F_l35List ds = some outs → shL spec_l35List_L (qRet outs) ds := F_l35List_elim fun x hp => by
  obtain ⟨i0, hb⟩ := hp
  have r := cBelow_range x (show (0 : Int) < 8 by omega)
  have w1 : cBelow x 8 = (pieceN x : Int) := by simp only [pieceN]; omega
  have hN : pieceN x ≤ 7 := by simp only [pieceN]; omega
  rw [spec_l35List_L_sh]
  simp only [P1_lst0]
  rw [q_below (b := x.b) x rfl i0 hb, w1]
  refine loop_upto (pieceN x) (fun k => [.int .i64 (pieceN x), .int .i64 k, vL I2 v2 (pieceTo (cAfter x 8) k).1, vL I1 vY x.b, .int .i64 (pieceTo (cAfter x 8) k).2.i, .int .i64 (pieceTo (cAfter x 8) k).2.h]) (by intro i j _ _ h; simp at h; omega) (fun _ => True) (by simp [pieceTo]) trivial ?_
  intro k hk _
  obtain ⟨g1, g2, g3, -⟩ := piece_inv (cAfter x 8) (cAfter_i i0) k
  rw [cAfter_b] at g1
  rw [spec_l35List_b0_sh]
  simp only [P1_lss, ifB_bool, decide_eq_true_eq, decide_eq_false_iff_not]
  refine ⟨fun h => ?_, fun h => ?_⟩
  · have hs : pieceTo (cAfter x 8) (k + 1) = ((pieceTo (cAfter x 8) k).1 ++ [pieceOf (pieceTo (cAfter x 8) k).2], pieceEnd (pieceTo (cAfter x 8) k).2) := rfl
    generalize pieceTo (cAfter x 8) k = c at *
    have h1 := cBelow_range c.2 (show (0 : Int) < 90 by omega)
    have hw1 : IntKind.i64.wrap (1 + cBelow c.2 90) = 1 + cBelow c.2 90 := wrap_id (by omega) (by omega)
    have hw : IntKind.i64.wrap ((k : Int) + 1) = ((k + 1 : Nat) : Int) := by rw [wrap_id (by omega) (by omega)]; omega
    rw [q_below (b := x.b) c.2 g1 g2 hb]
    simp only [P1_add, hw1]
    rw [q_below (b := x.b) (cAfter c.2 90) (by simpa using g1) (cAfter_i g2) hb]
    simp only [P1_lst2, P1_app2_, g3, List.length_singleton, P1_add, hw, qS_normal]
    refine ⟨⟨by omega, by omega⟩, by omega, ?_, trivial⟩
    rw [hs]
    rfl
  · have e : k = pieceN x := by omega
    subst e
    simp [spec_l35List_r1_sh]
theorem spec_DrawPieces_ok : ∀ ds outs, F_DrawPieces ds = some outs → shL spec_DrawPieces_L (qRet outs) ds := F_DrawPieces_elim fun l hp => by
  rw [spec_DrawPieces_L_sh, p_l01New hp]
  refine (p_l35List (x_b := (cur0 l).b) (x_i := (cur0 l).i) (x_h := (cur0 l).h) ⟨by simp [cur0], hp⟩).2 ?_
  show qRet [vL I2 v2 (drawP l)] .ret [vL I2 v2 (pieceTo (cAfter (cur0 l) 8) (pieceN (cur0 l))).1]
  simp [drawP]
theorem drawP_ok (l : List UInt8) : (drawP l).length ≤ 7 ∧ piecesOk (drawP l) = true := by
  have r := cBelow_range (cur0 l) (show (0 : Int) < 8 by omega)
  obtain ⟨-, -, g3, g4⟩ := piece_inv (cAfter (cur0 l) 8) (cAfter_i (show 0 ≤ (cur0 l).i by simp [cur0])) (pieceN (cur0 l))
  have hl : (drawP l).length ≤ 7 := by
    have : (drawP l).length = pieceN (cur0 l) := g3
    simp only [pieceN] at this; omega
  refine ⟨hl, ?_⟩
  simp only [piecesOk, Bool.and_eq_true, decide_eq_true_eq, List.all_eq_true]
  refine ⟨by omega, fun d hd => ?_⟩
  have := g4 d hd
  simp only [pieceOk, within, Bool.and_eq_true, decide_eq_true_eq]
  omega

def mAt (l : List T2) (o : List Nat) (i : Nat) : Int := moodOf l (o[i]?.getD 0 : Nat)
def stN (l : List T2) (o : List Nat) : Nat → Int
  | 0 => 0
  | k + 1 => stN l o k + (if 0 < k then mag (mAt l o k - mAt l o (k - 1)) else 0)
theorem steps_nat (l : List T2) (o : List Nat) : ∀ k, k ≤ o.length → stepsTo l (ints o) k = stN l o k
  | 0, _ => rfl
  | k + 1, h => by
    have ih := steps_nat l o k (by omega)
    have e1 : (ints o)[k]?.getD 0 = ((o[k]?.getD 0 : Nat) : Int) := by rw [ints_getQ, List.getElem?_eq_getElem (by omega)]; rfl
    unfold stepsTo stN
    rw [ih]
    split
    · have e2 : (ints o)[k - 1]?.getD 0 = ((o[k - 1]?.getD 0 : Nat) : Int) := by rw [ints_getQ, List.getElem?_eq_getElem (by omega)]; rfl
      rw [e1, e2]; rfl
    · rfl
theorem stN_mono (l : List T2) (o : List Nat) (k : Nat) : stN l o k ≤ stN l o (k + 1) := by
  have := mag_nonneg (mAt l o k - mAt l o (k - 1))
  simp only [stN]
  split <;> omega
theorem stN_le (l : List T2) (o : List Nat) {i j : Nat} (h : i ≤ j) : stN l o i ≤ stN l o j := by
  induction j with
  | zero => obtain rfl : i = 0 := by omega
            exact Int.le_refl _
  | succ j ih =>
    by_cases e : i = j + 1
    · subst e; exact Int.le_refl _
    · exact Int.le_trans (ih (by omega)) (stN_mono l o j)
theorem mag_le {a b : Int} : a ≤ mag a ∧ -a ≤ mag a ∧ mag (a + b) ≤ mag a + mag b := by
  unfold mag
  split <;> split <;> (try split) <;> omega
theorem stN_far (l : List T2) (o : List Nat) {i j : Nat} (h : i ≤ j) : mag (mAt l o j - mAt l o i) ≤ stN l o (j + 1) - stN l o (i + 1) := by
  induction j with
  | zero =>
    obtain rfl : i = 0 := by omega
    simp [mag]
  | succ j ih =>
    by_cases e : i = j + 1
    · subst e; simp [mag]
    · have h1 := ih (by omega)
      have e1 : stN l o (j + 1 + 1) = stN l o (j + 1) + mag (mAt l o (j + 1) - mAt l o j) := by
        conv => lhs; rw [stN]
        rw [if_pos (by omega)]
        rfl
      have h2 := (mag_le (a := mAt l o (j + 1) - mAt l o j) (b := mAt l o j - mAt l o i)).2.2
      have e2 : mAt l o (j + 1) - mAt l o j + (mAt l o j - mAt l o i) = mAt l o (j + 1) - mAt l o i := by omega
      rw [e2] at h2
      omega
theorem stN_any (l : List T2) (o : List Nat) {i j : Nat} (hi : i < o.length) (hj : j < o.length) : mAt l o j - mAt l o i ≤ stN l o o.length := by
  have h0 : 0 ≤ stN l o (min i j + 1) := by
    have := stN_le l o (Nat.zero_le (min i j + 1))
    simpa [stN] using this
  rcases Nat.le_total i j with h | h
  · have h1 := stN_far l o h
    have h2 := stN_le l o (show j + 1 ≤ o.length by omega)
    have h3 := (mag_le (a := mAt l o j - mAt l o i) (b := 0)).1
    rw [Nat.min_eq_left h] at h0
    omega
  · have h1 := stN_far l o h
    have h2 := stN_le l o (show i + 1 ≤ o.length by omega)
    have h3 := (mag_le (a := mAt l o i - mAt l o j) (b := 0)).2.1
    rw [Nat.min_eq_right h] at h0
    omega
theorem stN_rising (l : List T2) (o : List Nat) (hr : ∀ i, i + 1 < o.length → mAt l o i ≤ mAt l o (i + 1)) : ∀ k, k < o.length → stN l o (k + 1) = mAt l o k - mAt l o 0
  | 0, _ => by simp [stN]
  | k + 1, h => by
    have ih := stN_rising l o hr k (by omega)
    have := hr k (by omega)
    have e1 : stN l o (k + 1 + 1) = stN l o (k + 1) + mag (mAt l o (k + 1) - mAt l o k) := by
      conv => lhs; rw [stN]
      rw [if_pos (by omega)]
      rfl
    have e2 : mag (mAt l o (k + 1) - mAt l o k) = mAt l o (k + 1) - mAt l o k := by unfold mag; rw [if_neg (by omega)]
    omega

theorem place_spec (ks : List Int) (x : Nat) (l : List Nat) : ∀ P, P ≤ l.length → (∀ (h : 0 < place ks x l P) (h2 : place ks x l P - 1 < l.length), keyAt ks l[place ks x l P - 1] ≤ keyAt ks x) ∧ ∀ (i : Nat) (hi : i < l.length), place ks x l P ≤ i → i < P → keyAt ks x < keyAt ks l[i]
  | 0, _ => ⟨fun h => by simp [place] at h, fun i hi _ h => by omega⟩
  | P + 1, hP => by
    have ih := place_spec ks x l P (by omega)
    have hPl : P < l.length := by omega
    have e : place ks x l (P + 1) = if keyAt ks x < keyAt ks l[P] then place ks x l P else P + 1 := by rw [place, List.getElem?_eq_getElem hPl, Option.getD_some]
    by_cases h : keyAt ks x < keyAt ks l[P]
    · rw [if_pos h] at e
      rw [e]
      refine ⟨ih.1, fun i hi h1 h2 => ?_⟩
      by_cases ei : i = P
      · subst ei; exact h
      · exact ih.2 i hi h1 (by omega)
    · rw [if_neg h] at e
      rw [e]
      refine ⟨fun _ _ => by simpa using h, fun i hi h1 h2 => by omega⟩
theorem insR_rising {ks : List Int} {x : Nat} {l : List Nat} (h : l.Pairwise fun a b => keyAt ks a ≤ keyAt ks b) : (insR ks x l).Pairwise fun a b => keyAt ks a ≤ keyAt ks b := by
  have hp := place_le ks x l l.length
  obtain ⟨s1, s2⟩ := place_spec ks x l l.length (Nat.le_refl _)
  have hl := List.pairwise_iff_getElem.1 h
  unfold insR
  generalize place ks x l l.length = p at *
  rw [List.pairwise_append, List.pairwise_cons]
  have hlow : ∀ a ∈ l.take p, keyAt ks a ≤ keyAt ks x := by
    intro a ha
    obtain ⟨i, hi, rfl⟩ := List.mem_iff_getElem.1 ha
    rw [List.length_take] at hi
    rw [List.getElem_take]
    have h1 := s1 (by omega) (by omega)
    by_cases e : i = p - 1
    · subst e; exact h1
    · exact Int.le_trans (hl i (p - 1) (by omega) (by omega) (by omega)) h1
  have hhigh : ∀ b ∈ l.drop p, keyAt ks x ≤ keyAt ks b := by
    intro b hb
    obtain ⟨i, hi, rfl⟩ := List.mem_iff_getElem.1 hb
    rw [List.length_drop] at hi
    rw [List.getElem_drop]
    have := s2 (p + i) (by omega) (by omega) (by omega)
    omega
  refine ⟨h.sublist (List.take_sublist _ _), ⟨hhigh, h.sublist (List.drop_sublist _ _)⟩, fun a ha b hb => ?_⟩
  rcases List.mem_cons.1 hb with rfl | hb
  · exact hlow a ha
  · exact Int.le_trans (hlow a ha) (hhigh b hb)
theorem ordTo_rising (ks : List Int) : ∀ k, (ordTo ks k).Pairwise fun a b => keyAt ks a ≤ keyAt ks b
  | 0 => .nil
  | k + 1 => insR_rising (ordTo_rising ks k)
theorem keyAt_moods (l : List T2) (i : Nat) : keyAt (moods l) i = moodOf l (i : Nat) := by
  by_cases h : i < l.length
  · simp [keyAt, moods, h, moodOf]
  · simp [keyAt, moods, moodOf, List.getElem?_eq_none (Nat.le_of_not_lt h)]

def setTo (o : List Nat) : Nat → Nat
  | 0 => 0
  | j + 1 => setTo o j ||| 2 ^ (o[j]?.getD 0)
theorem setTo_bit (o : List Nat) : ∀ j, j ≤ o.length → ∀ x, (setTo o j).testBit x = true ↔ x ∈ o.take j
  | 0, _, x => by simp [setTo]
  | j + 1, h, x => by
    have ih := setTo_bit o j (by omega) x
    have hj : j < o.length := by omega
    have e : o[j]?.getD 0 = o[j] := by rw [List.getElem?_eq_getElem hj]; rfl
    rw [setTo, Nat.testBit_or, Nat.testBit_two_pow, e, take_succ_get hj, List.mem_append, List.mem_singleton, Bool.or_eq_true, ih, decide_eq_true_eq]
    exact ⟨fun h => h.imp id (fun h => h.symm), fun h => h.imp id (fun h => h.symm)⟩
theorem setTo_lt (o : List Nat) {n : Nat} (ho : ∀ x ∈ o, x < n) : ∀ j, j ≤ o.length → setTo o j < 2 ^ n
  | 0, _ => Nat.two_pow_pos n
  | j + 1, h => by
    have hj : j < o.length := by omega
    have e : o[j]?.getD 0 = o[j] := by rw [List.getElem?_eq_getElem hj]; rfl
    rw [setTo, e]
    exact Nat.or_lt_two_pow (setTo_lt o ho j (by omega)) (Nat.pow_lt_pow_right (by omega) (ho _ (List.getElem_mem hj)))
theorem or_sub_all : ∀ (s : Fin 512) (k : Fin 9), s.val.testBit k.val = false → (s.val ||| 2 ^ k.val) - 2 ^ k.val = s.val := by decide +kernel
theorem lv_order {l : List T2} {o : List Nat} {n : Nat} (hn : n ≤ 9) (hnd : o.Nodup) (ho : ∀ x ∈ o, x < n) : ∀ j, (h : j < o.length) → stN l o (j + 1) ≤ lv l n (setTo o (j + 1)) o[j]
  | 0, h => by
    have hb : (setTo o 1).testBit o[0] = true := (setTo_bit o 1 (by omega) o[0]).2 (by rw [take_succ_get h]; simp)
    have := lv_nonneg l n hb
    simpa [stN] using this
  | j + 1, h => by
    have hj : j < o.length := by omega
    have ih := lv_order (l := l) hn hnd ho j hj
    have hb : (setTo o (j + 2)).testBit o[j + 1] = true := (setTo_bit o (j + 2) (by omega) _).2 (by rw [take_succ_get h]; exact List.mem_append_right _ (List.mem_singleton.2 rfl))
    have hnot : (setTo o (j + 1)).testBit o[j + 1] = false := by
      cases hh : (setTo o (j + 1)).testBit o[j + 1] with
      | false => rfl
      | true =>
        have := (setTo_bit o (j + 1) (by omega) _).1 hh
        obtain ⟨i, hi, e⟩ := List.mem_iff_getElem.1 this
        rw [List.length_take] at hi
        rw [List.getElem_take] at e
        have := (List.getElem_inj hnd).1 e
        omega
    have hlt := setTo_lt o ho (j + 1) (by omega)
    have h512 : 2 ^ n ≤ 512 := pow_small hn
    have hsub : setTo o (j + 2) - 2 ^ o[j + 1] = setTo o (j + 1) := by
      have e : o[j + 1]?.getD 0 = o[j + 1] := by rw [List.getElem?_eq_getElem h]; rfl
      have hx := ho _ (List.getElem_mem h)
      rw [setTo, e]
      exact or_sub_all ⟨setTo o (j + 1), by omega⟩ ⟨o[j + 1], by omega⟩ hnot
    have hmem : o[j] ∈ mem (setTo o (j + 1)) n := mem_mem.2 ⟨ho _ (List.getElem_mem hj), (setTo_bit o (j + 1) (by omega) _).2 (by rw [take_succ_get hj]; exact List.mem_append_right _ (List.mem_singleton.2 rfl))⟩
    have h1 := lvOver_ge_mem l (lv l n (setTo o (j + 1))) o[j + 1] (mem (setTo o (j + 1)) n) 0 o[j] hmem
    have h2 : lv l n (setTo o (j + 2)) o[j + 1] = lvOver l (lv l n (setTo o (j + 1))) o[j + 1] 0 (mem (setTo o (j + 1)) n) := by rw [lv_eq l n hb, hsub]
    have e1 : stN l o (j + 1 + 1) = stN l o (j + 1) + mag (mAt l o (j + 1) - mAt l o j) := by
      conv => lhs; rw [stN]
      rw [if_pos (by omega)]
      rfl
    have e2 : mag (mAt l o (j + 1) - mAt l o j) = lgap l o[j] o[j + 1] := by
      have a1 : o[j + 1]?.getD 0 = o[j + 1] := by rw [List.getElem?_eq_getElem h]; rfl
      have a2 : o[j]?.getD 0 = o[j] := by rw [List.getElem?_eq_getElem hj]; rfl
      unfold lgap mAt mag
      rw [a1, a2]
      split <;> split <;> omega
    show stN l o (j + 1 + 1) ≤ _
    rw [h2, e1, e2]
    omega
theorem lvMost_ge (l : List T2) (n s : Nat) : ∀ (ks : List Nat) (b : Int), b ≤ lvMost l n s b ks
  | [], b => by simp [lvMost]
  | k :: ks, b => by
    have := lvMost_ge l n s ks (max b (lv l n s k))
    simp only [lvMost, List.foldl_cons] at *
    omega
theorem lvMost_mem (l : List T2) (n s : Nat) : ∀ (ks : List Nat) (b : Int) (k : Nat), k ∈ ks → lv l n s k ≤ lvMost l n s b ks
  | j :: ks, b, k, h => by
    rcases List.mem_cons.1 h with rfl | h
    · have := lvMost_ge l n s ks (max b (lv l n s k))
      simp only [lvMost, List.foldl_cons] at *
      omega
    · have := lvMost_mem l n s ks (max b (lv l n s j)) k h
      simpa only [lvMost, List.foldl_cons] using this
theorem lvBest_mono (l : List T2) (n : Nat) {s t : Nat} (h : s ≤ t) : lvBest l n s ≤ lvBest l n t := by
  induction t with
  | zero => obtain rfl : s = 0 := by omega
            exact Int.le_refl _
  | succ t ih =>
    by_cases e : s = t + 1
    · subst e; exact Int.le_refl _
    · exact Int.le_trans (ih (by omega)) (lvMost_ge l n t (mem t n) _)
theorem lively_ge {l : List T2} {o : List Nat} (hok : piecesOk l = true) (hnd : o.Nodup) (ho : ∀ x ∈ o, x < l.length) (hlen : o.length = l.length) : stN l o o.length ≤ lively l := by
  have hn := pieces_le' hok
  unfold lively
  rw [if_pos hok]
  cases hol : o.length with
  | zero =>
    have := lvBest_mono l l.length (Nat.zero_le (2 ^ l.length))
    simpa [stN, lvBest] using this
  | succ m =>
    have hm : m < o.length := by omega
    have h1 := lv_order (l := l) hn hnd ho m hm
    have hlt := setTo_lt o ho (m + 1) (by omega)
    have hmem : o[m] ∈ mem (setTo o (m + 1)) l.length := mem_mem.2 ⟨ho _ (List.getElem_mem hm), (setTo_bit o (m + 1) (by omega) _).2 (by rw [take_succ_get hm]; exact List.mem_append_right _ (List.mem_singleton.2 rfl))⟩
    have h2 := lvMost_mem l l.length (setTo o (m + 1)) (mem (setTo o (m + 1)) l.length) (lvBest l l.length (setTo o (m + 1))) o[m] hmem
    have h3 := lvBest_mono l l.length (show setTo o (m + 1) + 1 ≤ 2 ^ l.length by omega)
    have e : lvBest l l.length (setTo o (m + 1) + 1) = lvMost l l.length (setTo o (m + 1)) (lvBest l l.length (setTo o (m + 1))) (mem (setTo o (m + 1)) l.length) := rfl
    omega
end Go.Mw

namespace Go.Mw
theorem moodSteps_nat {l : List T2} (hok : piecesOk l = true) {o : List Nat} (hnd : o.Nodup) (ho : ∀ x ∈ o, x < l.length) (hlen : o.length = l.length) : moodSteps l (ints o) = stN l o o.length := by
  have hp : isPerm (ints o) l.length = true := by
    simp only [isPerm, decide_eq_true_eq]
    refine ⟨by simp [hlen], fun x hx => ?_, ?_⟩
    · simp only [ints, List.mem_map] at hx
      obtain ⟨y, hy, rfl⟩ := hx
      have := ho y hy
      omega
    · unfold ints
      exact List.pairwise_map.2 (hnd.imp fun h e => h (by omega))
  unfold moodSteps
  rw [hok, hp, Bool.and_true, if_pos rfl, ints_len]
  exact steps_nat l o o.length (Nat.le_refl _)
theorem nodup_len : ∀ (n : Nat) (xs : List Nat), xs.Nodup → (∀ x ∈ xs, x < n) → xs.length ≤ n
  | 0, xs, _, h => by
    cases xs with
    | nil => simp
    | cons a r => have := h a (by simp); omega
  | n + 1, xs, hnd, h => by
    have ih := nodup_len n (xs.erase n) (hnd.erase n) (fun x hx => by
      have h1 := (hnd.mem_erase_iff).1 hx
      have := h x h1.2
      have := h1.1
      omega)
    have := List.length_erase (a := n) (l := xs)
    split at this <;> omega
theorem mem_of_full {o : List Nat} {n : Nat} (hnd : o.Nodup) (ho : ∀ x ∈ o, x < n) (hlen : o.length = n) {x : Nat} (hx : x < n) : x ∈ o := by
  by_cases h : x ∈ o
  · exact h
  · exfalso
    have h3 := nodup_len n (x :: o) (List.nodup_cons.2 ⟨h, hnd⟩) fun y hy => by
      rcases List.mem_cons.1 hy with rfl | hy
      · exact hx
      · exact ho y hy
    simp only [List.length_cons] at h3
    omega
theorem mood09 {l : List T2} (hok : piecesOk l = true) {i : Nat} (hi : i < l.length) : 0 ≤ moodOf l (i : Nat) ∧ moodOf l (i : Nat) ≤ 9 := by
  simp only [piecesOk, Bool.and_eq_true, decide_eq_true_eq, List.all_eq_true] at hok
  have := hok.2 l[i] (List.getElem_mem hi)
  simp only [pieceOk, within, Bool.and_eq_true, decide_eq_true_eq] at this
  simp only [moodOf, Int.toNat_natCast, List.getElem?_eq_getElem hi]
  omega
def loTo (l : List T2) : Nat → Int
  | 0 => 9
  | k + 1 => min (loTo l k) (moodOf l k)
def hiTo (l : List T2) : Nat → Int
  | 0 => 0
  | k + 1 => max (hiTo l k) (moodOf l k)
theorem lo_le (l : List T2) : ∀ k i, i < k → loTo l k ≤ moodOf l (i : Nat)
  | k + 1, i, h => by
    simp only [loTo]
    by_cases e : i = k
    · subst e; omega
    · have := lo_le l k i (by omega); omega
theorem hi_ge (l : List T2) : ∀ k i, i < k → moodOf l (i : Nat) ≤ hiTo l k
  | k + 1, i, h => by
    simp only [hiTo]
    by_cases e : i = k
    · subst e; omega
    · have := hi_ge l k i (by omega); omega
theorem lo_mem {l : List T2} (hok : piecesOk l = true) : ∀ k, k ≤ l.length → (k = 0 ∧ loTo l k = 9) ∨ ∃ i, i < k ∧ loTo l k = moodOf l (i : Nat)
  | 0, _ => .inl ⟨rfl, rfl⟩
  | k + 1, h => .inr (by
    have hr := mood09 hok (show k < l.length by omega)
    simp only [loTo]
    rcases lo_mem hok k (by omega) with ⟨rfl, e⟩ | ⟨i, h1, e⟩
    · exact ⟨0, by omega, by omega⟩
    · by_cases c : loTo l k ≤ moodOf l (k : Nat)
      · exact ⟨i, by omega, by omega⟩
      · exact ⟨k, by omega, by omega⟩)
theorem hi_mem {l : List T2} (hok : piecesOk l = true) : ∀ k, k ≤ l.length → (k = 0 ∧ hiTo l k = 0) ∨ ∃ i, i < k ∧ hiTo l k = moodOf l (i : Nat)
  | 0, _ => .inl ⟨rfl, rfl⟩
  | k + 1, h => .inr (by
    have hr := mood09 hok (show k < l.length by omega)
    simp only [hiTo]
    rcases hi_mem hok k (by omega) with ⟨rfl, e⟩ | ⟨i, h1, e⟩
    · exact ⟨0, by omega, by omega⟩
    · by_cases c : moodOf l (k : Nat) ≤ hiTo l k
      · exact ⟨i, by omega, by omega⟩
      · exact ⟨k, by omega, by omega⟩)
theorem mAt_get (l : List T2) {o : List Nat} {i : Nat} (h : i < o.length) : mAt l o i = moodOf l (o[i] : Nat) := by simp [mAt, h]
def rises (l : List T2) (o : List Nat) : Prop := ∀ i, i + 1 < o.length → mAt l o i ≤ mAt l o (i + 1)
theorem rises_far {l : List T2} {o : List Nat} (h : rises l o) {i : Nat} : ∀ {j : Nat}, i ≤ j → j < o.length → mAt l o i ≤ mAt l o j
  | 0, h1, _ => by obtain rfl : i = 0 := by omega
                   exact Int.le_refl _
  | j + 1, h1, h2 => by
    by_cases e : i = j + 1
    · subst e; exact Int.le_refl _
    · exact Int.le_trans (rises_far h (by omega) (by omega)) (h j h2)
theorem ord_rises (l : List T2) : rises l (ordTo (moods l) l.length) := by
  intro i hi
  have h := List.pairwise_iff_getElem.1 (ordTo_rising (moods l) l.length) i (i + 1) (by omega) hi (by omega)
  rw [keyAt_moods, keyAt_moods] at h
  rw [mAt_get l (by omega), mAt_get l hi]
  exact h
theorem ord_spread {l : List T2} (hok : piecesOk l = true) {o : List Nat} (hr : rises l o) (hnd : o.Nodup) (ho : ∀ x ∈ o, x < l.length) (hlen : o.length = l.length) : stN l o o.length = max 0 (hiTo l l.length - loTo l l.length) := by
  cases hn : o.length with
  | zero => rw [show l.length = 0 by omega]; simp only [stN, hiTo, loTo]; omega
  | succ m =>
    have hm : m < o.length := by omega
    have h0 : 0 < o.length := by omega
    rw [stN_rising l o hr m hm]
    have at_ : ∀ i, i < l.length → mAt l o 0 ≤ moodOf l (i : Nat) ∧ moodOf l (i : Nat) ≤ mAt l o m := fun i hi => by
      obtain ⟨j, hj, e⟩ := List.mem_iff_getElem.1 (mem_of_full hnd ho hlen hi)
      rw [← e, ← mAt_get l hj]
      exact ⟨rises_far hr (by omega) hj, rises_far hr (by omega) hm⟩
    have g0 := ho o[0] (List.getElem_mem h0)
    have gm := ho o[m] (List.getElem_mem hm)
    have l1 := lo_le l l.length _ g0
    have l2 := hi_ge l l.length _ gm
    rw [← mAt_get l h0] at l1
    rw [← mAt_get l hm] at l2
    rcases lo_mem hok l.length (Nat.le_refl _) with ⟨e, _⟩ | ⟨i, hi, ei⟩
    · omega
    rcases hi_mem hok l.length (Nat.le_refl _) with ⟨e, _⟩ | ⟨j, hj, ej⟩
    · omega
    have a1 := at_ i hi
    have a2 := at_ j hj
    have a3 := rises_far hr (Nat.zero_le m) hm
    omega
theorem ord_least {l : List T2} {o p : List Nat} (hr : rises l o) (ho : ∀ x ∈ o, x < l.length) (hlen : o.length = l.length) (pnd : p.Nodup) (hp : ∀ x ∈ p, x < l.length) (plen : p.length = l.length) : stN l o o.length ≤ stN l p p.length := by
  cases hn : o.length with
  | zero =>
    have := stN_le l p (Nat.zero_le p.length)
    simpa [stN] using this
  | succ m =>
    have hm : m < o.length := by omega
    have h0 : 0 < o.length := by omega
    rw [stN_rising l o hr m hm, mAt_get l h0, mAt_get l hm]
    obtain ⟨i, hi, ei⟩ := List.mem_iff_getElem.1 (mem_of_full pnd hp plen (ho o[0] (List.getElem_mem h0)))
    obtain ⟨j, hj, ej⟩ := List.mem_iff_getElem.1 (mem_of_full pnd hp plen (ho o[m] (List.getElem_mem hm)))
    have := stN_any l p hi hj
    rw [mAt_get l hi, mAt_get l hj, ei, ej] at this
    exact this

def turned (n a : Nat) (k : Nat) : List Nat := (List.range k).map fun i => (i + a) % n
theorem turned_len (n a k : Nat) : (turned n a k).length = k := by simp [turned]
theorem turned_lt {n a k x : Nat} (hk : k ≤ n) (h : x ∈ turned n a k) : x < n := by
  simp only [turned, List.mem_map, List.mem_range] at h
  obtain ⟨i, hi, rfl⟩ := h
  exact Nat.mod_lt _ (by omega)
theorem turn_inj {n a i j : Nat} (hi : i < n) (hj : j < n) (hij : i < j) (h : (i + a) % n = (j + a) % n) : False := by
  have h1 := Nat.sub_mod_eq_zero_of_mod_eq h.symm
  rw [show j + a - (i + a) = j - i by omega, Nat.mod_eq_of_lt (by omega)] at h1
  omega
theorem turned_nodup {n a k : Nat} (hk : k ≤ n) : (turned n a k).Nodup := by
  unfold turned
  refine List.pairwise_map.2 ?_
  have := (List.pairwise_lt_range (n := k))
  refine (List.pairwise_iff_getElem.2 fun i j hi hj hij => ?_)
  simp only [List.length_range] at hi hj
  simp only [List.getElem_range]
  exact fun e => turn_inj (by omega) (by omega) hij e
theorem turned_succ (n a k : Nat) : ints (turned n a (k + 1)) = ints (turned n a k) ++ [(((k + a) % n : Nat) : Int)] := by
  simp [turned, List.range_succ, ints]

def sumK (s : List Int) (xs : List Nat) : Int := (xs.map (keyAt s)).sum
theorem sumK_append (s : List Int) (a b : List Nat) : sumK s (a ++ b) = sumK s a + sumK s b := by simp [sumK]
theorem sumK_perm (s : List Int) {a b : List Nat} (h : a.Perm b) : sumK s a = sumK s b := by
  induction h with
  | nil => rfl
  | cons x _ ih => simp only [sumK, List.map_cons, List.sum_cons] at *; omega
  | swap x y _ => simp only [sumK, List.map_cons, List.sum_cons] at *; omega
  | trans _ _ h1 h2 => omega
theorem lasts_sum (s : List Int) (p : Int) (o : List Nat) : ∀ k, k ≤ o.length → lastsTo s p o k = sumK s (o.take k) + (k - 1) * p
  | 0, _ => by simp [lastsTo, sumK]
  | k + 1, h => by
    have hk : k < o.length := by omega
    rw [lastsTo_succ hk, lasts_sum s p o k (by omega), take_succ_get hk, sumK_append]
    have e : ((k + 1 : Nat) : Int) - 1 = (k - 1 : Int) + 1 := by omega
    rw [e, Int.add_mul]
    simp only [sumK, List.map_cons, List.map_nil, List.sum_cons, List.sum_nil]
    omega
def picks (l : List T2) (xs : List Nat) : List T2 := xs.map fun i => l[i]?.getD ⟨0, 0⟩
theorem picks_len (l : List T2) (xs : List Nat) : (picks l xs).length = xs.length := by simp [picks]
theorem picks_ok {l : List T2} (hok : piecesOk l = true) {xs : List Nat} (h9 : xs.length ≤ 9) (hx : ∀ x ∈ xs, x < l.length) : piecesOk (picks l xs) = true := by
  simp only [piecesOk, Bool.and_eq_true, decide_eq_true_eq, List.all_eq_true] at hok ⊢
  refine ⟨by rw [picks_len]; exact h9, fun d hd => ?_⟩
  simp only [picks, List.mem_map] at hd
  obtain ⟨i, hi, rfl⟩ := hd
  have := hx i hi
  rw [List.getElem?_eq_getElem this]
  exact hok.2 _ (List.getElem_mem this)
theorem keyAt_pick (l : List T2) (i : Nat) : keyAt (secs l) i = (l[i]?.getD ⟨0, 0⟩).a := by
  by_cases h : i < l.length
  · simp [keyAt, secs, h]
  · simp [keyAt, secs, List.getElem?_eq_none (Nat.le_of_not_lt h)]
theorem show_picks (l : List T2) (p : Int) (xs : List Nat) : ∀ k, k ≤ xs.length → showSum p (picks l xs) k = sumK (secs l) (xs.take k) + (if k = 0 then 0 else (k - 1) * p)
  | 0, _ => by simp [showSum, sumK]
  | k + 1, h => by
    have hk : k < xs.length := by omega
    have e1 : (picks l xs)[k]? = some (l[xs[k]]?.getD ⟨0, 0⟩) := by simp [picks, hk]
    rw [showSum, show_picks l p xs k (by omega), take_succ_get hk, sumK_append, e1]
    simp only [sumK, List.map_cons, List.map_nil, List.sum_cons, List.sum_nil, keyAt_pick, Int.add_zero]
    rw [if_neg (by omega : ¬ k + 1 = 0), show ((k + 1 : Nat) : Int) - 1 = k by omega]
    by_cases e : k = 0
    · subst e; simp
    · rw [if_neg e, if_pos (by omega), show (k : Int) * p = (k - 1) * p + p by rw [Int.sub_mul]; omega]
      omega
theorem showTime_picks {l : List T2} (hok : piecesOk l = true) {p : Int} (hp : 0 ≤ p ∧ p ≤ 600) {xs : List Nat} (h9 : xs.length ≤ 9) (hx : ∀ x ∈ xs, x < l.length) (h0 : 0 < xs.length) : showTime (picks l xs) p = sumK (secs l) xs + (xs.length - 1) * p := by
  have hw : within p 0 600 = true := by simp [within]; omega
  unfold showTime
  rw [picks_ok hok h9 hx, hw, Bool.and_true, if_pos rfl, picks_len, show_picks l p xs _ (Nat.le_refl _), List.take_length, if_neg (by omega)]
theorem first_no (P : Nat → Prop) : ∀ n, ∃ k, k ≤ n ∧ (∀ j, j < k → P j) ∧ (k = n ∨ ¬ P k)
  | 0 => ⟨0, Nat.le_refl _, fun j h => by omega, .inl rfl⟩
  | n + 1 => by
    obtain ⟨k, h1, h2, h3⟩ := first_no P n
    by_cases hk : k = n
    · by_cases hp : P n
      · exact ⟨n + 1, Nat.le_refl _, fun j hj => by
          by_cases e : j = n
          · exact e ▸ hp
          · exact h2 j (by omega), .inl rfl⟩
      · exact ⟨n, by omega, fun j hj => h2 j (by omega), .inr hp⟩
    · rcases h3 with h3 | h3
      · exact absurd h3 hk
      · exact ⟨k, by omega, h2, .inr h3⟩
theorem fits_spec {l : List T2} (hok : piecesOk l = true) (h7 : l.length ≤ 7) {p t : Int} (hp : 0 ≤ p ∧ p ≤ 600) : (∀ x ∈ fitsOf l p t, x < l.length) ∧ ((fitsOf l p t).Pairwise fun a b => a < b) ∧ (0 < (fitsOf l p t).length → showTime (picks l (fitsOf l p t)) p ≤ t) ∧ (∀ k, k < l.length → k ∉ fitsOf l p t → t < showTime (picks l (fitsOf l p t ++ [k])) p ∧ ∀ x ∈ fitsOf l p t, keyAt (secs l) x ≤ keyAt (secs l) k) := by
  have hlt : ∀ x ∈ fitsOf l p t, x < l.length := fun x hx => by simp only [fitsOf, List.mem_filter, List.mem_range] at hx; exact hx.1
  have hpw : (fitsOf l p t).Pairwise fun a b => a < b := List.pairwise_lt_range.sublist List.filter_sublist
  have hol := ordTo_len (secs l) l.length
  have hpm := ordTo_perm (secs l) l.length
  have hnd : (ordTo (secs l) l.length).Nodup := hpm.nodup_iff.2 List.nodup_range
  have hri := ordTo_rising (secs l) l.length
  have hox : ∀ x ∈ ordTo (secs l) l.length, x < l.length := fun x hx => ordTo_lt hx
  have hmem : ∀ x, x ∈ fitsOf l p t ↔ x ∈ (ordTo (secs l) l.length).take (fitN (secs l) p t (ordTo (secs l) l.length)) := fun x => by
    simp only [fitsOf, List.mem_filter, List.mem_range, decide_eq_true_eq]
    exact ⟨fun h => h.2, fun h => ⟨hox x (List.mem_of_mem_take h), h⟩⟩
  obtain ⟨K, k1, k2, k3⟩ := first_no (fun j => lastsTo (secs l) p (ordTo (secs l) l.length) (j + 1) ≤ t) l.length
  have hfit := fitN_eq (s := secs l) (p := p) (t := t) (o := ordTo (secs l) l.length) (k := K) (by omega) k2 (by rw [hol]; exact k3)
  rw [hfit] at hmem
  generalize ordTo (secs l) l.length = o at *
  generalize fitsOf l p t = f at *
  have hfnd : f.Nodup := hpw.imp fun h e => by omega
  have hperm : f.Perm (o.take K) := (List.perm_ext_iff_of_nodup hfnd (hnd.sublist (List.take_sublist _ _))).2 hmem
  have hfl : f.length = K := by rw [hperm.length_eq, List.length_take]; omega
  have hsum := sumK_perm (secs l) hperm
  refine ⟨hlt, hpw, fun h0 => ?_, fun k hk hkf => ?_⟩
  · rw [showTime_picks hok hp (by omega) hlt h0, hfl, hsum, ← lasts_sum (secs l) p o K (by omega)]
    have := k2 (K - 1) (by omega)
    rwa [show K - 1 + 1 = K by omega] at this
  · have hko : k ∈ o := mem_of_full hnd hox hol hk
    obtain ⟨i, hi, ei⟩ := List.mem_iff_getElem.1 hko
    have hiK : K ≤ i := by
      refine Nat.le_of_not_lt fun hlt' => hkf ((hmem k).2 ?_)
      rw [← ei]
      exact List.mem_take_iff_getElem.2 ⟨i, by omega, rfl⟩
    have hKl : K < o.length := by omega
    have hkey : ∀ j (hj : j < o.length), j ≤ i → keyAt (secs l) o[j] ≤ keyAt (secs l) k := fun j hj hji => by
      by_cases e : j = i
      · subst e; rw [ei]; exact Int.le_refl _
      · have := List.pairwise_iff_getElem.1 hri j i hj hi (by omega)
        rwa [ei] at this
    constructor
    · have hnext : ¬ lastsTo (secs l) p o (K + 1) ≤ t := by
        rcases k3 with k3 | k3
        · omega
        · exact k3
      have hx : ∀ x ∈ f ++ [k], x < l.length := fun x hx => by
        rcases List.mem_append.1 hx with hx | hx
        · exact hlt x hx
        · rw [List.mem_singleton.1 hx]; exact hk
      rw [showTime_picks hok hp (by simp; omega) hx (by simp), sumK_append, hsum]
      rw [lasts_sum (secs l) p o (K + 1) (by omega), take_succ_get hKl, sumK_append] at hnext
      have h1 := hkey K hKl hiK
      have e1 : ((f ++ [k]).length : Int) - 1 = ((K + 1 : Nat) : Int) - 1 := by simp [hfl]
      rw [e1]
      simp only [sumK, List.map_cons, List.map_nil, List.sum_cons, List.sum_nil] at hnext ⊢
      omega
    · intro x hx
      obtain ⟨j, hj, ej⟩ := List.mem_take_iff_getElem.1 ((hmem x).1 hx)
      have := hkey j (by omega) (by omega)
      rwa [ej] at this
end Go.Mw

namespace Go.Mw
theorem mem_ints {k : Nat} {f : List Nat} : ((k : Int) ∈ ints f) ↔ k ∈ f := by
  simp only [ints, List.mem_map]
  exact ⟨fun ⟨x, h, e⟩ => by rwa [show k = x by omega], fun h => ⟨k, h, rfl⟩⟩
def aTo (l : List T2) (k : Nat) : Int := sumK (secs l) ((List.range l.length).take k)
theorem aTo_succ {l : List T2} {k : Nat} (h : k < l.length) : aTo l (k + 1) = aTo l k + l[k].a := by
  unfold aTo
  rw [take_succ_get (by simpa using h), sumK_append, List.getElem_range]
  simp [sumK, keyAt_secs h]
theorem aTo_range {l : List T2} (hok : piecesOk l = true) : ∀ k, k ≤ l.length → 0 ≤ aTo l k ∧ aTo l k ≤ 600 * k
  | 0, _ => by simp [aTo, sumK]
  | k + 1, h => by
    have ih := aTo_range hok k (by omega)
    have hk := keyAt_sec_range hok k
    rw [keyAt_secs (show k < l.length by omega)] at hk
    rw [aTo_succ (by omega)]
    omega
theorem picks_all (l : List T2) : picks l (List.range l.length) = l := by
  unfold picks
  refine List.ext_getElem (by simp) fun i h1 h2 => ?_
  simp [h2]
theorem showTime_all {l : List T2} (hok : piecesOk l = true) {p : Int} (hp : 0 ≤ p ∧ p ≤ 600) : showTime l p = aTo l l.length + p * max 0 ((l.length : Int) - 1) := by
  have hw : within p 0 600 = true := by simp [within]; omega
  have h1 := show_picks l p (List.range l.length) l.length (by simp)
  rw [picks_all] at h1
  unfold showTime
  rw [hok, hw, Bool.and_true, if_pos rfl, h1, Int.mul_comm p]
  show aTo l l.length + _ = _
  by_cases h : l.length = 0
  · rw [if_pos h, h]; simp [show max (0 : Int) (-1) = 0 by omega]
  · rw [if_neg h, show max (0 : Int) ((l.length : Int) - 1) = l.length - 1 by omega]
theorem shows_sum {l : List T2} (hok : piecesOk l = true) (h7 : l.length ≤ 7) {p : Int} (hp : 0 ≤ p ∧ p ≤ 600) : shL laws_FnShows_r16 (qRet [.bool true]) [.int .i64 l.length, .int .i64 p, vL I2 v2 l] := by
  rw [laws_FnShows_r16_sh]
  refine loop_upto l.length (fun k => [.int .i64 l.length, .int .i64 p, .int .i64 (aTo l k), .int .i64 k, vL I2 v2 l]) (by intro i j _ _ h; simp at h; omega) (fun _ => True) (by simp [aTo, sumK]) trivial ?_
  intro k hk _
  rw [laws_FnShows_b17_sh]
  simp only [P1_lss, ifB_bool, decide_eq_true_eq, decide_eq_false_iff_not]
  have hr := aTo_range hok k hk
  refine ⟨fun h => ?_, fun h => ?_⟩
  · have hkl : k < l.length := by omega
    have hs := aTo_succ hkl
    have hr' := aTo_range hok (k + 1) hkl
    have w1 : IntKind.i64.wrap (aTo l k + l[k].a) = aTo l (k + 1) := by rw [wrap_id (by omega) (by omega)]; omega
    have w2 : IntKind.i64.wrap ((k : Int) + 1) = ((k + 1 : Nat) : Int) := by rw [wrap_id (by omega) (by omega)]; omega
    simp only [P2_idxI, Int.toNat_natCast, List.getElem?_eq_getElem hkl, Option.some.injEq, exists_eq_left', P1_add, w1, w2, qS_normal]
    exact ⟨by omega, hkl, trivial, trivial⟩
  · obtain rfl : k = l.length := by omega
    have hm : 0 ≤ p * max 0 ((l.length : Int) - 1) ∧ p * max 0 ((l.length : Int) - 1) ≤ 600 * 7 := by
      refine ⟨Int.mul_nonneg hp.1 (by omega), ?_⟩
      exact Int.mul_le_mul hp.2 (by omega) (by omega) (by omega)
    have w1 : IntKind.i64.wrap ((l.length : Int) - 1) = l.length - 1 := wrap_id (by omega) (by omega)
    have w2 : IntKind.i64.wrap (p * max 0 ((l.length : Int) - 1)) = p * max 0 ((l.length : Int) - 1) := wrap_id (by omega) (by omega)
    have w3 : IntKind.i64.wrap (aTo l l.length + p * max 0 ((l.length : Int) - 1)) = aTo l l.length + p * max 0 ((l.length : Int) - 1) := wrap_id (by omega) (by omega)
    simp only [qS_exit, qB_exit, if_true, qS_normal, laws_FnShows_r18_sh]
    rw [p_ShowTime (by omega), showTime_all hok hp]
    simp only [P1_sub, w1, P1_mx2, P1_mul, w2, P1_add, w3, P1_eql, ifB_bool]
    refine ⟨fun _ => ?_, fun h => by simp at h⟩
    rw [p_PiecesOk (by omega), hok]
    simp
structure Fits (l : List T2) (p t : Int) (f : List Nat) : Prop where
  lt : ∀ x ∈ f, x < l.length
  up : f.Pairwise fun a b => a < b
  len : f.length ≤ 7
  sum : 0 < f.length → showTime (picks l f) p ≤ t
  out : ∀ k, k < l.length → k ∉ f → t < showTime (picks l (f ++ [k])) p ∧ ∀ x ∈ f, keyAt (secs l) x ≤ keyAt (secs l) k
theorem shows_left {l : List T2} (hok : piecesOk l = true) (h7 : l.length ≤ 7) {p t : Int} (hp : 0 ≤ p ∧ p ≤ 600) {f : List Nat} (hf : Fits l p t f) :
    shL (.loop laws_FnShows_b11) (qB 6 (qS (shL laws_FnShows_r16 (qRet [.bool true])) (qRet [.bool true]))) [.int .i64 l.length, .int .i64 p, .int .i64 t, .int .i64 0, vL I2 v2 l, vL I1 v1 (ints f), vL I2 v2 (picks l f)] := by
  have h9 := hf.len
  have hpl := picks_len l f
  refine loop_upto l.length (fun k => [.int .i64 l.length, .int .i64 p, .int .i64 t, .int .i64 k, vL I2 v2 l, vL I1 v1 (ints f), vL I2 v2 (picks l f)]) (by intro i j _ _ h; simp at h; omega) (fun _ => True) rfl trivial ?_
  intro k hk _
  rw [laws_FnShows_b11_sh]
  simp only [P1_lss, ifB_bool, decide_eq_true_eq, decide_eq_false_iff_not]
  refine ⟨fun h => ?_, fun h => ?_⟩
  · have hkl : k < l.length := by omega
    have w2 : IntKind.i64.wrap ((k : Int) + 1) = ((k + 1 : Nat) : Int) := by rw [wrap_id (by omega) (by omega)]; omega
    have inner : ∀ {Q : QT}, (Q .normal [.int .i64 l.length, .int .i64 p, .int .i64 t, .int .i64 ((k + 1 : Nat) : Int), vL I2 v2 l, vL I1 v1 (ints f), vL I2 v2 (picks l f)]) →
        shL (.loop laws_FnShows_b12) (qB 8 (qS (shL laws_FnShows_r13 (qB 7 (qS (shL laws_FnShows_r14 (qS (shL laws_FnShows_r15 Q) Q)) (qS (shL laws_FnShows_r15 Q) Q)))) (qB 7 (qS (shL laws_FnShows_r14 (qS (shL laws_FnShows_r15 Q) Q)) (qS (shL laws_FnShows_r15 Q) Q))))) [.int .i64 l.length, .int .i64 p, .int .i64 t, .int .i64 k, .int .i64 0, vL I2 v2 l, vL I1 v1 (ints f), vL I2 v2 (picks l f)] := by
      intro Q hQ
      refine loop_upto f.length (fun j => [.int .i64 l.length, .int .i64 p, .int .i64 t, .int .i64 k, .int .i64 j, vL I2 v2 l, vL I1 v1 (ints f), vL I2 v2 (picks l f)]) (by intro i j _ _ h; simp at h; omega) (fun _ => True) rfl trivial ?_
      intro j hj _
      rw [laws_FnShows_b12_sh]
      have hw : IntKind.i64.wrap ((j : Int) + 1) = ((j + 1 : Nat) : Int) := by rw [wrap_id (by omega) (by omega)]; omega
      simp only [P1_len, ints_len, P1_lss, ifB_bool, decide_eq_true_eq, decide_eq_false_iff_not, P1_add, hw, qS_normal]
      refine ⟨fun h => ?_, fun h => ?_⟩
      · have hjf : j < f.length := by omega
        rw [p_has (by rw [ints_len]; omega)]
        simp only [P1_not, ifB_bool, mem_ints]
        refine ⟨fun h2 => ?_, fun _ => ⟨hjf, trivial, trivial⟩⟩
        have hkf : k ∉ f := by simpa using h2
        have hx := hf.lt f[j] (List.getElem_mem hjf)
        have ho := (hf.out k hkl hkf).2 f[j] (List.getElem_mem hjf)
        rw [keyAt_secs hx, keyAt_secs hkl] at ho
        simp only [P2_idxI, P1_idxI, Int.toNat_natCast, List.getElem?_eq_getElem hkl, ints_get hjf, List.getElem?_eq_getElem hx, Option.some.injEq, exists_eq_left', P1_lss, ifB_bool, decide_eq_true_eq, decide_eq_false_iff_not]
        refine ⟨by omega, by omega, by omega, fun h3 => by omega, fun _ => ⟨hjf, trivial, trivial⟩⟩
      · simp only [qS_exit, qB_exit, if_true, qS_normal, laws_FnShows_r13_sh, qB_normal, laws_FnShows_r14_sh, P1_add, w2, laws_FnShows_r15_sh]
        exact hQ
    rw [p_has (by rw [ints_len]; omega)]
    simp only [P1_not, ifB_bool, mem_ints]
    refine ⟨fun h2 => ?_, fun _ => inner ⟨hkl, rfl, trivial⟩⟩
    have hkf : k ∉ f := by simpa using h2
    have ho := (hf.out k hkl hkf).1
    have e : picks l f ++ [(⟨l[k].a, l[k].b⟩ : T2)] = picks l (f ++ [k]) := by simp [picks, hkl]
    simp only [P1_lst0, P1_app2_0, P2_idxI, Int.toNat_natCast, List.getElem?_eq_getElem hkl, Option.some.injEq, exists_eq_left', P1_lst2, P1_app2_, e, hpl, List.length_singleton]
    refine ⟨⟨by omega, by omega⟩, by omega, ⟨by omega, by omega⟩, ?_⟩
    rw [p_ShowTime (by simp [picks]; omega)]
    simp only [P1_leq, ifB_bool, decide_eq_true_eq, decide_eq_false_iff_not]
    exact ⟨fun h3 => by omega, fun _ => inner ⟨hkl, rfl, trivial⟩⟩
  · obtain rfl : k = l.length := by omega
    simp only [qS_exit, qB_exit, if_true, qS_normal]
    exact shows_sum hok h7 hp
theorem shows_fits {l : List T2} (hok : piecesOk l = true) (h7 : l.length ≤ 7) {p t : Int} (hp : 0 ≤ p ∧ p ≤ 600) {f : List Nat} (hf : Fits l p t f) :
    shL (.loop laws_FnShows_b5) (qB 4 (qS (shL laws_FnShows_r10 (qRet [.bool true])) (qRet [.bool true]))) [.int .i64 l.length, .int .i64 p, .int .i64 t, .int .i64 0, vL I2 v2 l, vL I1 v1 (ints f), vL I2 v2 []] := by
  have h9 := hf.len
  refine loop_upto f.length (fun k => [.int .i64 l.length, .int .i64 p, .int .i64 t, .int .i64 k, vL I2 v2 l, vL I1 v1 (ints f), vL I2 v2 (picks l (f.take k))]) (by intro i j _ _ h; simp at h; omega) (fun _ => True) rfl trivial ?_
  intro k hk _
  rw [laws_FnShows_b5_sh]
  simp only [P1_len, ints_len, P1_lss, ifB_bool, decide_eq_true_eq, decide_eq_false_iff_not]
  refine ⟨fun h => ?_, fun h => ?_⟩
  · have hkf : k < f.length := by omega
    have hx := hf.lt f[k] (List.getElem_mem hkf)
    have w2 : IntKind.i64.wrap ((k : Int) + 1) = ((k + 1 : Nat) : Int) := by rw [wrap_id (by omega) (by omega)]; omega
    have e : picks l (f.take k) ++ [(⟨l[f[k]].a, l[f[k]].b⟩ : T2)] = picks l (f.take (k + 1)) := by rw [take_succ_get hkf]; unfold picks; rw [List.map_append, List.map_cons, List.map_nil, List.getElem?_eq_getElem hx]; rfl
    have hpl : (picks l (f.take k)).length = k := by rw [picks_len, List.length_take]; omega
    simp only [P1_idxI, Int.toNat_natCast, ints_get hkf, Option.some.injEq, exists_eq_left', P1_geq, P1_lss, P1_gtr, ifB_bool, decide_eq_true_eq, decide_eq_false_iff_not]
    have tail : ∀ {Q : QT} (x7 x8 x9 x10 x11 x12 x13 x14 x15 x16 x17 x18 x19 x20 : V), Q .normal [.int .i64 l.length, .int .i64 p, .int .i64 t, .int .i64 ((k + 1 : Nat) : Int), vL I2 v2 l, vL I1 v1 (ints f), vL I2 v2 (picks l (f.take (k + 1)))] →
        shL laws_FnShows_r6 (qS (shL laws_FnShows_r7 (qB 5 (qS (shL laws_FnShows_r8 (qS (shL laws_FnShows_r9 Q) Q)) (qS (shL laws_FnShows_r9 Q) Q)))) (qB 5 (qS (shL laws_FnShows_r8 (qS (shL laws_FnShows_r9 Q) Q)) (qS (shL laws_FnShows_r9 Q) Q)))) [.int .i64 l.length, .int .i64 p, .int .i64 t, .int .i64 k, vL I2 v2 l, vL I1 v1 (ints f), vL I2 v2 (picks l (f.take k)), x7, x8, x9, x10, x11, x12, x13, x14, x15, x16, x17, x18, x19, x20] := by
      intro Q x7 x8 x9 x10 x11 x12 x13 x14 x15 x16 x17 x18 x19 x20 hQ
      rw [laws_FnShows_r6_sh]
      simp only [P1_idxI, P2_idxI, Int.toNat_natCast, ints_get hkf, List.getElem?_eq_getElem hx, Option.some.injEq, exists_eq_left', P1_lst2, P1_app2_, hpl, List.length_singleton, e, qS_normal, laws_FnShows_r7_sh, qB_normal, laws_FnShows_r8_sh, P1_add, w2, laws_FnShows_r9_sh]
      exact ⟨by omega, by omega, ⟨by omega, by omega⟩, hQ⟩
    refine ⟨by omega, fun h2 => by omega, fun _ => ⟨by omega, fun h2 => by omega, fun _ => ⟨fun h2 => ?_, fun h2 => ?_⟩⟩⟩
    · have hk0 : k - 1 < f.length := by omega
      have w3 : IntKind.i64.wrap ((k : Int) - 1) = ((k - 1 : Nat) : Int) := by rw [wrap_id (by omega) (by omega)]; omega
      have hup := List.pairwise_iff_getElem.1 hf.up (k - 1) k hk0 hkf (by omega)
      simp only [P1_sub, w3, P1_idxI, Int.toNat_natCast, ints_get hk0, Option.some.injEq, exists_eq_left', P1_leq, ifB_bool, decide_eq_true_eq, decide_eq_false_iff_not]
      refine ⟨by omega, by omega, fun h3 => by omega, fun _ => ?_⟩
      exact tail _ _ _ _ _ _ _ _ _ _ _ _ _ _ ⟨hkf, rfl, trivial⟩
    · exact tail _ _ _ _ _ _ _ _ _ _ _ _ _ _ ⟨hkf, rfl, trivial⟩
  · obtain rfl : k = f.length := by omega
    simp only [qS_exit, qB_exit, if_true, qS_normal, laws_FnShows_r10_sh, List.take_length, P1_len, picks_len, P1_gtr, ifB_bool, decide_eq_true_eq, decide_eq_false_iff_not]
    refine ⟨fun h2 => ?_, fun _ => shows_left hok h7 hp hf⟩
    rw [p_ShowTime (by rw [picks_len]; omega)]
    have := hf.sum (by omega)
    simp only [P1_gtr, ifB_bool, decide_eq_true_eq, decide_eq_false_iff_not]
    exact ⟨fun h3 => by omega, fun _ => shows_left hok h7 hp hf⟩
theorem fits_any {l : List T2} (hok : piecesOk l = true) (h7 : l.length ≤ 7) {p t : Int} (hp : 0 ≤ p ∧ p ≤ 600) (ht : 0 ≤ t ∧ t ≤ 10000) : ∃ f, fits35 l p t = ints f ∧ Fits l p t f := by
  have hw : within p 0 600 = true := by simp [within]; omega
  have hw2 : within t 0 10000 = true := by simp [within]; omega
  have hs : 0 ≤ showTime l p := by
    have h1 := aTo_range hok l.length (Nat.le_refl _)
    rw [showTime_all hok hp]
    have := Int.mul_nonneg hp.1 (show 0 ≤ max (0 : Int) ((l.length : Int) - 1) by omega)
    omega
  obtain ⟨a, b, c, d⟩ := fits_spec (t := t) hok h7 hp
  refine ⟨fitsOf l p t, by simp [fits35, hs, hw2], a, b, ?_, c, d⟩
  have := nodup_len l.length _ (b.imp fun h e => by omega) a
  omega
theorem lo_hi {l : List T2} (hok : piecesOk l = true) : ∀ k, k ≤ l.length → (0 ≤ loTo l k ∧ loTo l k ≤ 9) ∧ 0 ≤ hiTo l k ∧ hiTo l k ≤ 9
  | 0, _ => by simp [loTo, hiTo]
  | k + 1, h => by
    have ih := lo_hi hok k (by omega)
    have := mood09 hok (show k < l.length by omega)
    simp only [loTo, hiTo]
    omega
theorem laws_FnShows_ok : ∀ ds outs, F_FnShows ds = some outs → shL laws_FnShows_L (qRet outs) ds := F_FnShows_elim fun l hp => by
  rw [laws_FnShows_L_sh, p_big hp]
  by_cases hb : l.length ≤ 1048576
  · have hb' : decide (1048576 < l.length) = false := by simp; omega
    rw [hb', p_DrawPieces hb]
    have hd := drawP_ok l
    generalize drawP l = d at *
    obtain ⟨h7, hok⟩ := hd
    have hol := ordTo_len (moods d) d.length
    have hpm := ordTo_perm (moods d) d.length
    have hnd : (ordTo (moods d) d.length).Nodup := hpm.nodup_iff.2 List.nodup_range
    have hox : ∀ x ∈ ordTo (moods d) d.length, x < d.length := fun x hx => ordTo_lt hx
    have hri := ord_rises d
    have es : smooth d = ints (ordTo (moods d) d.length) := by simp [smooth, hok]
    generalize ordTo (moods d) d.length = o at *
    have em := moodSteps_nat hok hnd hox hol
    have hv := lively_ge hok hnd hox hol
    have h0 : 0 ≤ stN d o o.length := by have := stN_le d o (Nat.zero_le o.length); simpa [stN] using this
    simp only [ifB_bool, Bool.false_eq_true, false_implies, true_and, forall_const, P1_len]
    rw [p_SmoothShow (by omega), es, p_MoodSteps ⟨by omega, by simp; omega⟩, em, p_LivelyShow (by omega)]
    simp only [P1_len, ints_len, P1_neq, P1_lss, ifB_bool, decide_eq_true_eq, decide_eq_false_iff_not]
    refine ⟨fun h => by simp [hol] at h, fun _ => ⟨fun h => by omega, fun _ => ⟨fun h => by omega, fun _ => ?_⟩⟩⟩
    have esp := ord_spread hok hri hnd hox hol
    refine loop_upto d.length (fun k => [vL I1 vY l, .int .i64 d.length, .int .i64 (stN d o o.length), .int .i64 (lively d), .int .i64 (loTo d k), .int .i64 (hiTo d k), .int .i64 k, vL I2 v2 d]) (by intro i j _ _ h; simp at h; omega) (fun _ => True) (by simp [loTo, hiTo]) trivial ?_
    intro k hk _
    rw [laws_FnShows_b0_sh]
    simp only [P1_lss, ifB_bool, decide_eq_true_eq, decide_eq_false_iff_not]
    refine ⟨fun h => ?_, fun h => ?_⟩
    · have hkl : k < d.length := by omega
      have w2 : IntKind.i64.wrap ((k : Int) + 1) = ((k + 1 : Nat) : Int) := by rw [wrap_id (by omega) (by omega)]; omega
      have e : d[k].b = moodOf d (k : Nat) := by simp [moodOf, hkl]
      simp only [P2_idxI, Int.toNat_natCast, List.getElem?_eq_getElem hkl, Option.some.injEq, exists_eq_left', P1_mn2, P1_mx2, P1_add, w2, qS_normal, e]
      exact ⟨by omega, by omega, hkl, rfl, trivial⟩
    · obtain rfl : k = d.length := by omega
      simp only [qS_exit, qB_exit, if_true, qS_normal, laws_FnShows_r1_sh, P1_lst0]
      have ha := atB_range l 2
      have ea : atB l 2 = ((atB l 2).toNat : Int) := by omega
      refine loop_upto d.length (fun k => [vL I1 vY l, .int .i64 d.length, .int .i64 (stN d o o.length), .int .i64 (lively d), .int .i64 (loTo d d.length), .int .i64 (hiTo d d.length), .int .i64 k, vL I2 v2 d, vL I1 v1 (ints (turned d.length (atB l 2).toNat k))]) (by intro i j _ _ h; simp at h; omega) (fun _ => True) (by simp [turned, ints, vL]) trivial ?_
      intro k hk _
      rw [laws_FnShows_b2_sh]
      simp only [P1_lss, ifB_bool, decide_eq_true_eq, decide_eq_false_iff_not]
      refine ⟨fun h => ?_, fun h => ?_⟩
      · have hkl : k < d.length := by omega
        have w2 : IntKind.i64.wrap ((k : Int) + 1) = ((k + 1 : Nat) : Int) := by rw [wrap_id (by omega) (by omega)]; omega
        have w3 : IntKind.i64.wrap ((k : Int) + atB l 2) = ((k + (atB l 2).toNat : Nat) : Int) := by rw [wrap_id (by omega) (by omega)]; omega
        have e3 : ((k + (atB l 2).toNat : Nat) : Int).tmod d.length = (((k + (atB l 2).toNat) % d.length : Nat) : Int) := by rw [Int.tmod_eq_emod_of_nonneg (by omega)]; rfl
        rw [p_at ⟨hb, by omega, by omega⟩]
        simp only [P1_add, w3, P1_rem, e3, P1_lst1, P1_app, ints_len, turned_len, List.length_singleton, w2, qS_normal, ← turned_succ]
        exact ⟨by omega, ⟨by omega, by omega⟩, hkl, trivial, trivial⟩
      · obtain rfl : k = d.length := by omega
        have htl := turned_len d.length (atB l 2).toNat d.length
        have htn := turned_nodup (n := d.length) (a := (atB l 2).toNat) (Nat.le_refl _)
        have htx : ∀ x ∈ turned d.length (atB l 2).toNat d.length, x < d.length := fun x hx => turned_lt (Nat.le_refl _) hx
        generalize turned d.length (atB l 2).toNat d.length = q at *
        have emq := moodSteps_nat hok htn htx htl
        have hvq := lively_ge hok htn htx htl
        have hle := ord_least hri hox hol htn htx htl
        have hlh := lo_hi hok d.length (Nat.le_refl _)
        have w4 : IntKind.i64.wrap (hiTo d d.length - loTo d d.length) = hiTo d d.length - loTo d d.length := wrap_id (by omega) (by omega)
        simp only [qS_exit, qB_exit, if_true, qS_normal, laws_FnShows_r3_sh]
        rw [p_MoodSteps ⟨by omega, by rw [ints_len]; omega⟩, emq]
        simp only [P1_sub, w4, P1_mx2, P1_neq, P1_lss, P1_gtr, ifB_bool, decide_eq_true_eq, decide_eq_false_iff_not]
        refine ⟨fun h => by simp [esp] at h, fun _ => ⟨fun h => by omega, fun _ => ⟨fun h => by omega, fun _ => ?_⟩⟩⟩
        rw [laws_FnShows_r4_sh, p_at ⟨hb, by omega, by omega⟩]
        have h0r := atB_range l 0
        have h1r := atB_range l 1
        have e4 : (atB l 0).tmod 20 = atB l 0 % 20 := Int.tmod_eq_emod_of_nonneg (by omega)
        simp only [P1_rem, e4]
        refine ⟨by omega, ?_⟩
        rw [p_at ⟨hb, by omega, by omega⟩, p_FitsEvening (by omega)]
        have hpz : 0 ≤ atB l 0 % 20 ∧ atB l 0 % 20 ≤ 600 := by omega
        obtain ⟨f, ef, hf⟩ := fits_any (t := atB l 1) hok h7 hpz (by omega)
        rw [ef]
        simp only [P1_lst0]
        exact shows_fits hok h7 hpz hf
  · have hb' : decide (1048576 < l.length) = true := by simp; omega
    rw [hb']
    simp
end Go.Mw

