/- What functions of the program compute, as small pure programs, shown against plain Lean functions: no condition. -/
import Derived.KernelRfl
import Derived.Lib.ItoaMem
import Derived.Lib.ItoaLen
import Derived.Lib.AtoiAll
import Derived.Lib.Join
import Derived.Lib.Repeat
import Derived.Lib.Split
import Derived.Test.YtpilehpgnfegkaaDoorFwH
/- What the functions of the first rows compute, in plain terms. -/
namespace Go.Mw
def within (n low high : Int) : Bool := decide (low ≤ n) && decide (n ≤ high)
def E_within : Int × Int × Int → List V := fun (a, b, c) => [.int .i64 a, .int .i64 b, .int .i64 c]
noncomputable def F_within : List V → Option (List V) := mkF E_within (fun (_, _, _) => True) (fun (a, b, c) => [.bool (within a b c)])
theorem F_within_inj : ∀ x y, E_within x = E_within y → x = y := by
  rintro ⟨a, b, c⟩ ⟨a', b', c'⟩ h
  simpa [E_within] using h
theorem F_within_elim {P : List V → List V → Prop} (h : ∀ (a : Int) (b : Int) (c : Int), P [.int .i64 a, .int .i64 b, .int .i64 c] [.bool (within a b c)]) : ∀ ds outs, F_within ds = some outs → P ds outs := by
  intro ds outs hh
  obtain ⟨⟨a, b, c⟩, rfl, -, rfl⟩ := mkF_inv hh
  exact h a b c
@[simp] theorem p_within {a : Int} {b : Int} {c : Int} {nr_ : Nat} {kk_ : V → Prop} : P1 (.call F_within 0 nr_) [.int .i64 a, .int .i64 b, .int .i64 c] kk_ ↔ kk_ (.bool (within a b c)) :=
  P1_callF (by unfold F_within; exact mkF_eq F_within_inj (a, b, c) trivial)

noncomputable abbrev F_l01In := F_within

def boxOk (x : T3) : Bool := within x.a 1 500 && within x.b 1 500 && within x.c 1 500
def E_toAct (x : T3) : List V := [.int .i64 x.a, .int .i64 x.b, .int .i64 x.c]
noncomputable def F_toAct : List V → Option (List V) := mkF E_toAct (fun _ => True) (fun x => [.int .i64 x.a, .int .i64 x.b, .int .i64 x.c])
theorem F_toAct_inj : ∀ x y, E_toAct x = E_toAct y → x = y := by
  rintro ⟨xa, xb, xc⟩ ⟨xa', xb', xc'⟩ h
  simpa [E_toAct] using h
theorem F_toAct_elim {P : List V → List V → Prop} (h : ∀ (x : T3), P [.int .i64 x.a, .int .i64 x.b, .int .i64 x.c] [.int .i64 x.a, .int .i64 x.b, .int .i64 x.c]) : ∀ ds outs, F_toAct ds = some outs → P ds outs := by
  intro ds outs hh
  obtain ⟨x, rfl, -, rfl⟩ := mkF_inv hh
  exact h x
@[simp] theorem p_toAct {x_a : Int} {x_b : Int} {x_c : Int} {nr_ : Nat} {kk_ : V → V → V → Prop} : P3 (.call F_toAct 0 nr_) [.int .i64 x_a, .int .i64 x_b, .int .i64 x_c] kk_ ↔ kk_ (.int .i64 ((⟨x_a, x_b, x_c⟩ : T3)).a) (.int .i64 ((⟨x_a, x_b, x_c⟩ : T3)).b) (.int .i64 ((⟨x_a, x_b, x_c⟩ : T3)).c) :=
  P3_callF (by unfold F_toAct; exact mkF_eq F_toAct_inj ((⟨x_a, x_b, x_c⟩ : T3)) trivial)


def actOk (x : T3) : Bool :=
  if x.a = 1 then within x.b 0 99 && within x.c 0 95
  else if x.a = 2 then within x.b 0 99 && x.c == 0
  else if x.a = 4 then within x.b 0 100 && x.c == 0
  else if x.a = 3 ∨ x.a = 5 ∨ x.a = 6 then x.b == 0 && x.c == 0
  else false
def E_ActOk (x : T3) : List V := [.int .i64 x.a, .int .i64 x.b, .int .i64 x.c]
noncomputable def F_ActOk : List V → Option (List V) := mkF E_ActOk (fun _ => True) (fun x => [.bool (actOk x)])
theorem F_ActOk_inj : ∀ x y, E_ActOk x = E_ActOk y → x = y := by
  rintro ⟨xa, xb, xc⟩ ⟨xa', xb', xc'⟩ h
  simpa [E_ActOk] using h
theorem F_ActOk_elim {P : List V → List V → Prop} (h : ∀ (x : T3), P [.int .i64 x.a, .int .i64 x.b, .int .i64 x.c] [.bool (actOk x)]) : ∀ ds outs, F_ActOk ds = some outs → P ds outs := by
  intro ds outs hh
  obtain ⟨x, rfl, -, rfl⟩ := mkF_inv hh
  exact h x
@[simp] theorem p_ActOk {x_a : Int} {x_b : Int} {x_c : Int} {nr_ : Nat} {kk_ : V → Prop} : P1 (.call F_ActOk 0 nr_) [.int .i64 x_a, .int .i64 x_b, .int .i64 x_c] kk_ ↔ kk_ (.bool (actOk (⟨x_a, x_b, x_c⟩ : T3))) :=
  P1_callF (by unfold F_ActOk; exact mkF_eq F_ActOk_inj ((⟨x_a, x_b, x_c⟩ : T3)) trivial)


def sortedBox (x : T3) : T3 :=
  if boxOk x then ⟨max (max x.a x.b) x.c, x.a + x.b + x.c - max (max x.a x.b) x.c - min (min x.a x.b) x.c, min (min x.a x.b) x.c⟩ else ⟨0, 0, 0⟩
/-! lists of pairs -/
end Go.Mw

/- Functions of the program, as small pure programs (printed by a program of ours). -/
namespace Go.Mw
noncomputable section
def spec_l01In_L : L := .seq (.rg []) (.seq (.rg [⟨[], .bin .geq, [.v 0, .v 1], 1⟩, ⟨[(.v 3, true)], .bin .leq, [.v 0, .v 2], 1⟩, ⟨[], .pick, [.v 3, .v 4, .k (.bool false)], 1⟩]) (.ret [.v 5]))
theorem spec_l01In_L_sh (Q : QT) (x0 x1 x2 : V) : shL spec_l01In_L Q [x0, x1, x2] = (
  P1 (.bin .geq) [x0, x1] fun v0 =>
  ifB v0 (
    P1 (.bin .leq) [x0, x2] fun v1 =>
    Q .ret [v1]) (
    Q .ret [.bool false])) := by kernel_rfl
def spec_l01In_S : Sig := ⟨[.val false [.sc], .val false [.sc], .val false [.sc]], [(false, [.sc])], F_l01In⟩
def spec_l01In_hs : List NF := []

def impl_within_L : L := .seq (.rg []) (.seq (.rg [⟨[], .bin .geq, [.v 0, .v 1], 1⟩, ⟨[(.v 3, true)], .bin .leq, [.v 0, .v 2], 1⟩, ⟨[], .pick, [.v 3, .v 4, .k (.bool false)], 1⟩]) (.ret [.v 5]))
theorem impl_within_L_sh (Q : QT) (x0 x1 x2 : V) : shL impl_within_L Q [x0, x1, x2] = (
  P1 (.bin .geq) [x0, x1] fun v0 =>
  ifB v0 (
    P1 (.bin .leq) [x0, x2] fun v1 =>
    Q .ret [v1]) (
    Q .ret [.bool false])) := by kernel_rfl
def impl_within_S : Sig := ⟨[.val false [.sc], .val false [.sc], .val false [.sc]], [(false, [.sc])], F_within⟩
def impl_within_hs : List NF := []

def laws_toAct_L : L := .seq (.rg []) (.seq (.rg []) (.seq (.rg []) (.seq (.rg []) (.seq (.rg []) (.seq (.rg []) (.ret [.v 0, .v 1, .v 2]))))))
theorem laws_toAct_L_sh (Q : QT) (x0 x1 x2 : V) : shL laws_toAct_L Q [x0, x1, x2] = (
  Q .ret [x0, x1, x2]) := by kernel_rfl
def laws_toAct_S : Sig := ⟨[.val true [.sc, .sc, .sc]], [(true, [.sc, .sc, .sc])], F_toAct⟩
def laws_toAct_hs : List NF := []

def spec_ActOk_L : L := .seq (.rg []) (.seq (.seq (.rg []) (.block 0 (.seq (.seq (.rg [⟨[], .bin .eql, [.v 0, .k (.int .i64 1)], 1⟩]) (.ite (.v 3) (.seq (.rg [⟨[], .call F_l01In 0 1, [.v 1, .k (.int .i64 0), .k (.int .i64 99)], 1⟩, ⟨[(.v 4, true)], .call F_l01In 0 1, [.v 2, .k (.int .i64 0), .k (.int .i64 95)], 1⟩, ⟨[], .pick, [.v 4, .v 5, .k (.bool false)], 1⟩]) (.ret [.v 6])) (.seq (.rg [⟨[], .bin .eql, [.v 0, .k (.int .i64 2)], 1⟩]) (.ite (.v 4) (.seq (.rg [⟨[], .call F_l01In 0 1, [.v 1, .k (.int .i64 0), .k (.int .i64 99)], 1⟩, ⟨[(.v 5, true)], .bin .eql, [.v 2, .k (.int .i64 0)], 1⟩, ⟨[], .pick, [.v 5, .v 6, .k (.bool false)], 1⟩]) (.ret [.v 7])) (.seq (.rg [⟨[], .bin .eql, [.v 0, .k (.int .i64 4)], 1⟩]) (.ite (.v 5) (.seq (.rg [⟨[], .call F_l01In 0 1, [.v 1, .k (.int .i64 0), .k (.int .i64 100)], 1⟩, ⟨[(.v 6, true)], .bin .eql, [.v 2, .k (.int .i64 0)], 1⟩, ⟨[], .pick, [.v 6, .v 7, .k (.bool false)], 1⟩]) (.ret [.v 8])) (.seq (.seq (.rg [⟨[], .bin .eql, [.v 0, .k (.int .i64 3)], 1⟩]) (.ite (.v 6) (.seq (.skip) (.tup [.v 6, .v 0, .v 1, .v 2])) (.seq (.seq (.rg [⟨[], .bin .eql, [.v 0, .k (.int .i64 5)], 1⟩]) (.ite (.v 7) (.seq (.skip) (.tup [.v 7, .v 0, .v 1, .v 2])) (.seq (.rg [⟨[], .bin .eql, [.v 0, .k (.int .i64 6)], 1⟩]) (.tup [.v 8, .v 0, .v 1, .v 2])))) (.tup [.v 0, .v 1, .v 2, .v 3])))) (.ite (.v 0) (.seq (.rg [⟨[], .bin .eql, [.v 2, .k (.int .i64 0)], 1⟩, ⟨[(.v 4, true)], .bin .eql, [.v 3, .k (.int .i64 0)], 1⟩, ⟨[], .pick, [.v 4, .v 5, .k (.bool false)], 1⟩]) (.ret [.v 6])) (.skip))))))))) (.tup [])))) (.seq (.rg []) (.ret [.k (.bool false)])))
theorem spec_ActOk_L_sh (Q : QT) (x0 x1 x2 : V) : shL spec_ActOk_L Q [x0, x1, x2] = (
  P1 (.bin .eql) [x0, .int .i64 1] fun v0 =>
  ifB v0 (
    P1 (.call F_l01In 0 1) [x1, .int .i64 0, .int .i64 99] fun v1 =>
    ifB v1 (
      P1 (.call F_l01In 0 1) [x2, .int .i64 0, .int .i64 95] fun v2 =>
      Q .ret [v2]) (
      Q .ret [.bool false])) (
    P1 (.bin .eql) [x0, .int .i64 2] fun v3 =>
    ifB v3 (
      P1 (.call F_l01In 0 1) [x1, .int .i64 0, .int .i64 99] fun v4 =>
      ifB v4 (
        P1 (.bin .eql) [x2, .int .i64 0] fun v5 =>
        Q .ret [v5]) (
        Q .ret [.bool false])) (
      P1 (.bin .eql) [x0, .int .i64 4] fun v6 =>
      ifB v6 (
        P1 (.call F_l01In 0 1) [x1, .int .i64 0, .int .i64 100] fun v7 =>
        ifB v7 (
          P1 (.bin .eql) [x2, .int .i64 0] fun v8 =>
          Q .ret [v8]) (
          Q .ret [.bool false])) (
        P1 (.bin .eql) [x0, .int .i64 3] fun v9 =>
        ifB v9 (
          P1 (.bin .eql) [x1, .int .i64 0] fun v10 =>
          ifB v10 (
            P1 (.bin .eql) [x2, .int .i64 0] fun v11 =>
            Q .ret [v11]) (
            Q .ret [.bool false])) (
          P1 (.bin .eql) [x0, .int .i64 5] fun v12 =>
          ifB v12 (
            P1 (.bin .eql) [x1, .int .i64 0] fun v13 =>
            ifB v13 (
              P1 (.bin .eql) [x2, .int .i64 0] fun v14 =>
              Q .ret [v14]) (
              Q .ret [.bool false])) (
            P1 (.bin .eql) [x0, .int .i64 6] fun v15 =>
            ifB v15 (
              P1 (.bin .eql) [x1, .int .i64 0] fun v16 =>
              ifB v16 (
                P1 (.bin .eql) [x2, .int .i64 0] fun v17 =>
                Q .ret [v17]) (
                Q .ret [.bool false])) (
              Q .ret [.bool false]))))))) := by kernel_rfl
def spec_ActOk_S : Sig := ⟨[.val true [.sc, .sc, .sc]], [(false, [.sc])], F_ActOk⟩
def spec_ActOk_hs : List NF := [⟨[], [], [], 64⟩, ⟨[(1, .ptr 64 0), (35, .sc false [.sc])], [], [(64, [.sc, .sc, .sc])], 65⟩, ⟨[(1, .ptr 64 0), (35, .sc false [.sc])], [], [(64, [.sc, .sc, .sc])], 65⟩]

def impl_ActOk_L : L := .seq (.rg []) (.seq (.seq (.rg []) (.block 0 (.seq (.seq (.rg [⟨[], .bin .eql, [.v 0, .k (.int .i64 1)], 1⟩]) (.ite (.v 3) (.seq (.rg [⟨[], .call F_within 0 1, [.v 1, .k (.int .i64 0), .k (.int .i64 99)], 1⟩, ⟨[(.v 4, true)], .call F_within 0 1, [.v 2, .k (.int .i64 0), .k (.int .i64 95)], 1⟩, ⟨[], .pick, [.v 4, .v 5, .k (.bool false)], 1⟩]) (.ret [.v 6])) (.seq (.rg [⟨[], .bin .eql, [.v 0, .k (.int .i64 2)], 1⟩]) (.ite (.v 4) (.seq (.rg [⟨[], .call F_within 0 1, [.v 1, .k (.int .i64 0), .k (.int .i64 99)], 1⟩, ⟨[(.v 5, true)], .bin .eql, [.v 2, .k (.int .i64 0)], 1⟩, ⟨[], .pick, [.v 5, .v 6, .k (.bool false)], 1⟩]) (.ret [.v 7])) (.seq (.rg [⟨[], .bin .eql, [.v 0, .k (.int .i64 4)], 1⟩]) (.ite (.v 5) (.seq (.rg [⟨[], .call F_within 0 1, [.v 1, .k (.int .i64 0), .k (.int .i64 100)], 1⟩, ⟨[(.v 6, true)], .bin .eql, [.v 2, .k (.int .i64 0)], 1⟩, ⟨[], .pick, [.v 6, .v 7, .k (.bool false)], 1⟩]) (.ret [.v 8])) (.seq (.seq (.rg [⟨[], .bin .eql, [.v 0, .k (.int .i64 3)], 1⟩]) (.ite (.v 6) (.seq (.skip) (.tup [.v 6, .v 0, .v 1, .v 2])) (.seq (.seq (.rg [⟨[], .bin .eql, [.v 0, .k (.int .i64 5)], 1⟩]) (.ite (.v 7) (.seq (.skip) (.tup [.v 7, .v 0, .v 1, .v 2])) (.seq (.rg [⟨[], .bin .eql, [.v 0, .k (.int .i64 6)], 1⟩]) (.tup [.v 8, .v 0, .v 1, .v 2])))) (.tup [.v 0, .v 1, .v 2, .v 3])))) (.ite (.v 0) (.seq (.rg [⟨[], .bin .eql, [.v 2, .k (.int .i64 0)], 1⟩, ⟨[(.v 4, true)], .bin .eql, [.v 3, .k (.int .i64 0)], 1⟩, ⟨[], .pick, [.v 4, .v 5, .k (.bool false)], 1⟩]) (.ret [.v 6])) (.skip))))))))) (.tup [])))) (.seq (.rg []) (.ret [.k (.bool false)])))
theorem impl_ActOk_L_sh (Q : QT) (x0 x1 x2 : V) : shL impl_ActOk_L Q [x0, x1, x2] = (
  P1 (.bin .eql) [x0, .int .i64 1] fun v0 =>
  ifB v0 (
    P1 (.call F_within 0 1) [x1, .int .i64 0, .int .i64 99] fun v1 =>
    ifB v1 (
      P1 (.call F_within 0 1) [x2, .int .i64 0, .int .i64 95] fun v2 =>
      Q .ret [v2]) (
      Q .ret [.bool false])) (
    P1 (.bin .eql) [x0, .int .i64 2] fun v3 =>
    ifB v3 (
      P1 (.call F_within 0 1) [x1, .int .i64 0, .int .i64 99] fun v4 =>
      ifB v4 (
        P1 (.bin .eql) [x2, .int .i64 0] fun v5 =>
        Q .ret [v5]) (
        Q .ret [.bool false])) (
      P1 (.bin .eql) [x0, .int .i64 4] fun v6 =>
      ifB v6 (
        P1 (.call F_within 0 1) [x1, .int .i64 0, .int .i64 100] fun v7 =>
        ifB v7 (
          P1 (.bin .eql) [x2, .int .i64 0] fun v8 =>
          Q .ret [v8]) (
          Q .ret [.bool false])) (
        P1 (.bin .eql) [x0, .int .i64 3] fun v9 =>
        ifB v9 (
          P1 (.bin .eql) [x1, .int .i64 0] fun v10 =>
          ifB v10 (
            P1 (.bin .eql) [x2, .int .i64 0] fun v11 =>
            Q .ret [v11]) (
            Q .ret [.bool false])) (
          P1 (.bin .eql) [x0, .int .i64 5] fun v12 =>
          ifB v12 (
            P1 (.bin .eql) [x1, .int .i64 0] fun v13 =>
            ifB v13 (
              P1 (.bin .eql) [x2, .int .i64 0] fun v14 =>
              Q .ret [v14]) (
              Q .ret [.bool false])) (
            P1 (.bin .eql) [x0, .int .i64 6] fun v15 =>
            ifB v15 (
              P1 (.bin .eql) [x1, .int .i64 0] fun v16 =>
              ifB v16 (
                P1 (.bin .eql) [x2, .int .i64 0] fun v17 =>
                Q .ret [v17]) (
                Q .ret [.bool false])) (
              Q .ret [.bool false]))))))) := by kernel_rfl
def impl_ActOk_S : Sig := ⟨[.val true [.sc, .sc, .sc]], [(false, [.sc])], F_ActOk⟩
def impl_ActOk_hs : List NF := [⟨[], [], [], 64⟩, ⟨[(1, .ptr 64 0), (35, .sc false [.sc])], [], [(64, [.sc, .sc, .sc])], 65⟩, ⟨[(1, .ptr 64 0), (35, .sc false [.sc])], [], [(64, [.sc, .sc, .sc])], 65⟩]

end
end Go.Mw

/- The functions of the first rows compute what was said. -/
namespace Go.Mw
theorem laws_toAct_ok : ∀ ds outs, F_toAct ds = some outs → shL laws_toAct_L (qRet outs) ds := F_toAct_elim fun x => by
  rw [laws_toAct_L_sh]; simp
theorem spec_l01In_ok : ∀ ds outs, F_l01In ds = some outs → shL spec_l01In_L (qRet outs) ds := F_within_elim fun a b c => by
  rw [spec_l01In_L_sh]; simp [within]; grind
theorem impl_within_ok : ∀ ds outs, F_within ds = some outs → shL impl_within_L (qRet outs) ds := F_within_elim fun a b c => by
  rw [impl_within_L_sh]; simp [within]; grind
theorem impl_ActOk_ok : ∀ ds outs, F_ActOk ds = some outs → shL impl_ActOk_L (qRet outs) ds := F_ActOk_elim fun x => by
  rw [impl_ActOk_L_sh]; simp [actOk]; grind
theorem spec_ActOk_ok : ∀ ds outs, F_ActOk ds = some outs → shL spec_ActOk_L (qRet outs) ds := F_ActOk_elim fun x => by
  rw [spec_ActOk_L_sh]; simp [actOk]; grind
theorem boxOk_iff (x : T3) : boxOk x = true ↔ (1 ≤ x.a ∧ x.a ≤ 500) ∧ (1 ≤ x.b ∧ x.b ≤ 500) ∧ (1 ≤ x.c ∧ x.c ≤ 500) := by
  simp [boxOk, within, and_assoc]

end Go.Mw

/- The structs of the program, flat. -/
namespace Go.Mw
/-- A cylinder: steps, tracks, pins (track, angle). -/
structure Cyl where
  s : Int
  t : Int
  p : List T2
/-- A state: angle, on, played. -/
structure Stt where
  a : Int
  n : Bool
  p : Int
  deriving DecidableEq
/-- A bench: its cylinder, and the former pins. -/
structure Bench where
  s : Int
  t : Int
  p : List T2
  o : List (List T2)
/-- A workshop: its bench; comb; spring (turns, most, force); money; played. -/
structure Shop where
  s : Int
  t : Int
  p : List T2
  o : List (List T2)
  c : List Int
  u : Int
  m : Int
  f : Int
  y : Int
  d : Int
  deriving DecidableEq
@[simp] theorem Cyl.eta (x : Cyl) : Cyl.mk x.s x.t x.p = x := rfl
@[simp] theorem Stt.eta (x : Stt) : Stt.mk x.a x.n x.p = x := rfl
@[simp] theorem P1_eqa22 {a b c d : Int} {k : V → Prop} : P1 (.eqa false [.i, .i]) [.int .i64 a, .int .i64 b, .int .i64 c, .int .i64 d] k ↔ k (.bool (decide (a = c ∧ b = d))) := P1_of (by simp only [Prim.run, eqVs, eqV1, List.length_cons, List.length_nil, List.take, List.drop, if_true]; cases h1 : a == c <;> cases h2 : b == d <;> simp_all) k
@[simp] theorem P1_nea22 {a b c d : Int} {k : V → Prop} : P1 (.eqa true [.i, .i]) [.int .i64 a, .int .i64 b, .int .i64 c, .int .i64 d] k ↔ k (.bool (!decide (a = c ∧ b = d))) := P1_of (by simp only [Prim.run, eqVs, eqV1, List.length_cons, List.length_nil, List.take, List.drop, if_true]; cases h1 : a == c <;> cases h2 : b == d <;> simp_all) k
@[simp] theorem P1_eqaX {a c e g : Int} {b f : Bool} {k : V → Prop} : P1 (.eqa false [.i, .b, .i]) [.int .i64 a, .bool b, .int .i64 c, .int .i64 e, .bool f, .int .i64 g] k ↔ k (.bool (decide (a = e ∧ b = f ∧ c = g))) := P1_of (by simp only [Prim.run, eqVs, eqV1, List.length_cons, List.length_nil, List.take, List.drop, if_true]; cases h1 : a == e <;> cases h2 : b == f <;> cases h3 : c == g <;> simp_all) k
theorem P1_lsub2 {α : Type} {ks : List AK} {f : α → V} {l : List α} {κ κ' : IntKind} {i j : Int} {k : V → Prop} : P1 (.lsub ks) [vL ks f l, .int κ i, .int κ' j] k ↔ (0 ≤ i ∧ i ≤ j ∧ j ≤ l.length) ∧ k (vL ks f ((l.take j.toNat).drop i.toNat)) :=
  P1_opt (by simp only [Prim.run, vL, AK.eqs_refl, if_true, subB, List.length_map]; split <;> simp_all [List.map_drop, List.map_take]) k
theorem P1_lsub1 {α : Type} {ks : List AK} {f : α → V} {l : List α} {κ : IntKind} {i : Int} {k : V → Prop} : P1 (.lsub ks) [vL ks f l, .int κ i] k ↔ (0 ≤ i ∧ i ≤ l.length) ∧ k (vL ks f (l.drop i.toNat)) :=
  P1_opt (by simp only [Prim.run, vL, AK.eqs_refl, if_true, subB, List.length_map]; split <;> simp_all [List.map_drop, List.take_of_length_le]) k
@[simp] theorem P1_lsubI_2 {l : List Int} {κ κ' : IntKind} {i j : Int} {k : V → Prop} : P1 (.lsub [.sc]) [vL I1 v1 l, .int κ i, .int κ' j] k ↔ (0 ≤ i ∧ i ≤ j ∧ j ≤ l.length) ∧ k (vL I1 v1 ((l.take j.toNat).drop i.toNat)) := P1_lsub2
@[simp] theorem P1_lsubI_1 {l : List Int} {κ : IntKind} {i : Int} {k : V → Prop} : P1 (.lsub [.sc]) [vL I1 v1 l, .int κ i] k ↔ (0 ≤ i ∧ i ≤ l.length) ∧ k (vL I1 v1 (l.drop i.toNat)) := P1_lsub1
@[simp] theorem P1_appI_ {l m : List Int} {b : Nat} {k : V → Prop} : P1 (.app [.sc] b) [vL I1 v1 l, vL I1 v1 m] k ↔ ((l.length + m.length) * b ≤ 140737488355328 ∧ l.length + m.length ≤ 140737488355328) ∧ k (vL I1 v1 (l ++ m)) := P1_app
@[simp] theorem P1_appI_0 {m : List Int} {b : Nat} {k : V → Prop} : P1 (.app [.sc] b) [.list [.sc] [], vL I1 v1 m] k ↔ (m.length * b ≤ 140737488355328 ∧ m.length ≤ 140737488355328) ∧ k (vL I1 v1 m) := P1_app0
@[simp] theorem P1_appI_1 {l : List Int} {b : Nat} {k : V → Prop} : P1 (.app [.sc] b) [vL I1 v1 l, .list [.sc] []] k ↔ (l.length * b ≤ 140737488355328 ∧ l.length ≤ 140737488355328) ∧ k (vL I1 v1 l) := P1_app1
@[simp] theorem P1_lsubY_2 {l : List UInt8} {κ κ' : IntKind} {i j : Int} {k : V → Prop} : P1 (.lsub [.sc]) [vL I1 vY l, .int κ i, .int κ' j] k ↔ (0 ≤ i ∧ i ≤ j ∧ j ≤ l.length) ∧ k (vL I1 vY ((l.take j.toNat).drop i.toNat)) := P1_lsub2
@[simp] theorem P1_lsubY_1 {l : List UInt8} {κ : IntKind} {i : Int} {k : V → Prop} : P1 (.lsub [.sc]) [vL I1 vY l, .int κ i] k ↔ (0 ≤ i ∧ i ≤ l.length) ∧ k (vL I1 vY (l.drop i.toNat)) := P1_lsub1
@[simp] theorem P1_appY_ {l m : List UInt8} {b : Nat} {k : V → Prop} : P1 (.app [.sc] b) [vL I1 vY l, vL I1 vY m] k ↔ ((l.length + m.length) * b ≤ 140737488355328 ∧ l.length + m.length ≤ 140737488355328) ∧ k (vL I1 vY (l ++ m)) := P1_app
@[simp] theorem P1_appY_0 {m : List UInt8} {b : Nat} {k : V → Prop} : P1 (.app [.sc] b) [.list [.sc] [], vL I1 vY m] k ↔ (m.length * b ≤ 140737488355328 ∧ m.length ≤ 140737488355328) ∧ k (vL I1 vY m) := P1_app0
@[simp] theorem P1_appY_1 {l : List UInt8} {b : Nat} {k : V → Prop} : P1 (.app [.sc] b) [vL I1 vY l, .list [.sc] []] k ↔ (l.length * b ≤ 140737488355328 ∧ l.length ≤ 140737488355328) ∧ k (vL I1 vY l) := P1_app1
@[simp] theorem P1_lsubS_2 {l : List (List UInt8)} {κ κ' : IntKind} {i j : Int} {k : V → Prop} : P1 (.lsub [.sc]) [vL I1 vS l, .int κ i, .int κ' j] k ↔ (0 ≤ i ∧ i ≤ j ∧ j ≤ l.length) ∧ k (vL I1 vS ((l.take j.toNat).drop i.toNat)) := P1_lsub2
@[simp] theorem P1_lsubS_1 {l : List (List UInt8)} {κ : IntKind} {i : Int} {k : V → Prop} : P1 (.lsub [.sc]) [vL I1 vS l, .int κ i] k ↔ (0 ≤ i ∧ i ≤ l.length) ∧ k (vL I1 vS (l.drop i.toNat)) := P1_lsub1
@[simp] theorem P1_appS_ {l m : List (List UInt8)} {b : Nat} {k : V → Prop} : P1 (.app [.sc] b) [vL I1 vS l, vL I1 vS m] k ↔ ((l.length + m.length) * b ≤ 140737488355328 ∧ l.length + m.length ≤ 140737488355328) ∧ k (vL I1 vS (l ++ m)) := P1_app
@[simp] theorem P1_appS_0 {m : List (List UInt8)} {b : Nat} {k : V → Prop} : P1 (.app [.sc] b) [.list [.sc] [], vL I1 vS m] k ↔ (m.length * b ≤ 140737488355328 ∧ m.length ≤ 140737488355328) ∧ k (vL I1 vS m) := P1_app0
@[simp] theorem P1_appS_1 {l : List (List UInt8)} {b : Nat} {k : V → Prop} : P1 (.app [.sc] b) [vL I1 vS l, .list [.sc] []] k ↔ (l.length * b ≤ 140737488355328 ∧ l.length ≤ 140737488355328) ∧ k (vL I1 vS l) := P1_app1
@[simp] theorem P1_lsub2_2 {l : List T2} {κ κ' : IntKind} {i j : Int} {k : V → Prop} : P1 (.lsub [.sc, .sc]) [vL I2 v2 l, .int κ i, .int κ' j] k ↔ (0 ≤ i ∧ i ≤ j ∧ j ≤ l.length) ∧ k (vL I2 v2 ((l.take j.toNat).drop i.toNat)) := P1_lsub2
@[simp] theorem P1_lsub2_1 {l : List T2} {κ : IntKind} {i : Int} {k : V → Prop} : P1 (.lsub [.sc, .sc]) [vL I2 v2 l, .int κ i] k ↔ (0 ≤ i ∧ i ≤ l.length) ∧ k (vL I2 v2 (l.drop i.toNat)) := P1_lsub1
@[simp] theorem P1_app2_ {l m : List T2} {b : Nat} {k : V → Prop} : P1 (.app [.sc, .sc] b) [vL I2 v2 l, vL I2 v2 m] k ↔ ((l.length + m.length) * b ≤ 140737488355328 ∧ l.length + m.length ≤ 140737488355328) ∧ k (vL I2 v2 (l ++ m)) := P1_app
@[simp] theorem P1_app2_0 {m : List T2} {b : Nat} {k : V → Prop} : P1 (.app [.sc, .sc] b) [.list [.sc, .sc] [], vL I2 v2 m] k ↔ (m.length * b ≤ 140737488355328 ∧ m.length ≤ 140737488355328) ∧ k (vL I2 v2 m) := P1_app0
@[simp] theorem P1_app2_1 {l : List T2} {b : Nat} {k : V → Prop} : P1 (.app [.sc, .sc] b) [vL I2 v2 l, .list [.sc, .sc] []] k ↔ (l.length * b ≤ 140737488355328 ∧ l.length ≤ 140737488355328) ∧ k (vL I2 v2 l) := P1_app1
@[simp] theorem P1_lsub3_2 {l : List T3} {κ κ' : IntKind} {i j : Int} {k : V → Prop} : P1 (.lsub [.sc, .sc, .sc]) [vL I3 v3 l, .int κ i, .int κ' j] k ↔ (0 ≤ i ∧ i ≤ j ∧ j ≤ l.length) ∧ k (vL I3 v3 ((l.take j.toNat).drop i.toNat)) := P1_lsub2
@[simp] theorem P1_lsub3_1 {l : List T3} {κ : IntKind} {i : Int} {k : V → Prop} : P1 (.lsub [.sc, .sc, .sc]) [vL I3 v3 l, .int κ i] k ↔ (0 ≤ i ∧ i ≤ l.length) ∧ k (vL I3 v3 (l.drop i.toNat)) := P1_lsub1
@[simp] theorem P1_app3_ {l m : List T3} {b : Nat} {k : V → Prop} : P1 (.app [.sc, .sc, .sc] b) [vL I3 v3 l, vL I3 v3 m] k ↔ ((l.length + m.length) * b ≤ 140737488355328 ∧ l.length + m.length ≤ 140737488355328) ∧ k (vL I3 v3 (l ++ m)) := P1_app
@[simp] theorem P1_app3_0 {m : List T3} {b : Nat} {k : V → Prop} : P1 (.app [.sc, .sc, .sc] b) [.list [.sc, .sc, .sc] [], vL I3 v3 m] k ↔ (m.length * b ≤ 140737488355328 ∧ m.length ≤ 140737488355328) ∧ k (vL I3 v3 m) := P1_app0
@[simp] theorem P1_app3_1 {l : List T3} {b : Nat} {k : V → Prop} : P1 (.app [.sc, .sc, .sc] b) [vL I3 v3 l, .list [.sc, .sc, .sc] []] k ↔ (l.length * b ≤ 140737488355328 ∧ l.length ≤ 140737488355328) ∧ k (vL I3 v3 l) := P1_app1
@[simp] theorem P1_lsubL2_2 {l : List (List T2)} {κ κ' : IntKind} {i j : Int} {k : V → Prop} : P1 (.lsub [.sl [.sc, .sc]]) [vL IL2 vLL2 l, .int κ i, .int κ' j] k ↔ (0 ≤ i ∧ i ≤ j ∧ j ≤ l.length) ∧ k (vL IL2 vLL2 ((l.take j.toNat).drop i.toNat)) := P1_lsub2
@[simp] theorem P1_lsubL2_1 {l : List (List T2)} {κ : IntKind} {i : Int} {k : V → Prop} : P1 (.lsub [.sl [.sc, .sc]]) [vL IL2 vLL2 l, .int κ i] k ↔ (0 ≤ i ∧ i ≤ l.length) ∧ k (vL IL2 vLL2 (l.drop i.toNat)) := P1_lsub1
@[simp] theorem P1_appL2_ {l m : List (List T2)} {b : Nat} {k : V → Prop} : P1 (.app [.sl [.sc, .sc]] b) [vL IL2 vLL2 l, vL IL2 vLL2 m] k ↔ ((l.length + m.length) * b ≤ 140737488355328 ∧ l.length + m.length ≤ 140737488355328) ∧ k (vL IL2 vLL2 (l ++ m)) := P1_app
@[simp] theorem P1_appL2_0 {m : List (List T2)} {b : Nat} {k : V → Prop} : P1 (.app [.sl [.sc, .sc]] b) [.list [.sl [.sc, .sc]] [], vL IL2 vLL2 m] k ↔ (m.length * b ≤ 140737488355328 ∧ m.length ≤ 140737488355328) ∧ k (vL IL2 vLL2 m) := P1_app0
@[simp] theorem P1_appL2_1 {l : List (List T2)} {b : Nat} {k : V → Prop} : P1 (.app [.sl [.sc, .sc]] b) [vL IL2 vLL2 l, .list [.sl [.sc, .sc]] []] k ↔ (l.length * b ≤ 140737488355328 ∧ l.length ≤ 140737488355328) ∧ k (vL IL2 vLL2 l) := P1_app1
end Go.Mw

/- What functions compute, in plain terms: pieces, pins, cylinders, states, digits, boxes. -/
namespace Go.Mw
/-! memory -/
/-! pieces -/
/-! pins -/
def pinLess (p q : T2) : Bool := decide (p.b < q.b ∨ p.b = q.b ∧ p.a < q.a)
def rising : List T2 → Bool
  | [] => true
  | [_] => true
  | a :: b :: r => pinLess a b && rising (b :: r)
def pinIn (s t : Int) (p : T2) : Bool := within p.a 0 (t - 1) && within p.b 0 (s - 1)
def cylOk (c : Cyl) : Bool := within c.s 4 96 && within c.t 1 100 && decide (c.p.length ≤ 100) && (c.p.all (pinIn c.s c.t) && rising c.p)
def sttOk (c : Cyl) (x : Stt) : Bool := cylOk c && (within x.a 0 (c.s - 1) && within x.p 0 100000)
def pinsAt (c : Cyl) (a : Int) : List Int := if cylOk c && within a (-1000000) 1000000 then (c.p.filter fun p => p.b == a % c.s).map (·.a) else []
/-! states -/
def stepsLeft (c : Cyl) (x : Stt) : Int := if sttOk c x then (if x.n then c.s - x.a else 0) else -1
def nextStt (c : Cyl) (x : Stt) : Stt := ⟨(x.a + 1) % c.s, decide ((x.a + 1) % c.s ≠ 0), x.p + (pinsAt c x.a).length⟩
def canStep (c : Cyl) (x : Stt) : Bool := sttOk c x && x.n && sttOk c (nextStt c x)
/-- The run: so many steps from x. -/
def itS (c : Cyl) (x : Stt) : Nat → Stt
  | 0 => x
  | k + 1 => nextStt c (itS c x k)
def itL (c : Cyl) (x : Stt) : Nat → List Int
  | 0 => []
  | k + 1 => itL c x k ++ pinsAt c (itS c x k).a
def runN (c : Cyl) (x : Stt) : Nat := (c.s - x.a).toNat
def runOk (c : Cyl) (x : Stt) : Bool := sttOk c x && (x.n && (List.range (runN c x)).all fun k => canStep c (itS c x k))
def runBox (c : Cyl) (x : Stt) : Stt × List Int := if runOk c x then (itS c x (runN c x), itL c x (runN c x)) else (x, [])
/-! digits -/
def areDigits (l : List Int) (a b : Int) : Bool := within l.length a b && l.all (within · 0 9)
/-! boxes -/
def areBoxes (l : List T3) (n : Int) : Bool := decide ((l.length : Int) ≤ n) && l.all boxOk
def inside (x y : T3) : Bool := decide ((sortedBox x).a < (sortedBox y).a) && (decide ((sortedBox x).b < (sortedBox y).b) && decide ((sortedBox x).c < (sortedBox y).c))
end Go.Mw

/- Functions of the program, as small pure programs (printed by a program of ours). -/
namespace Go.Mw
noncomputable section
end
end Go.Mw

/- Laws' helpers on memory, and the plain functions of pieces, pins, cylinders, states. -/
namespace Go.Mw
end Go.Mw

/- Pieces, pins, cylinders, states: the functions compute what was said. -/
namespace Go.Mw
/-! show time -/
/-! cylinders -/
end Go.Mw

/- Cylinders and their pins. -/
namespace Go.Mw
theorem rising_iff : ∀ l : List T2, rising l = true ↔ ∀ j (_ : j < l.length), 0 < j → pinLess l[j - 1] l[j] = true
  | [] => by simp [rising]
  | [a] => by simp [rising]
  | a :: b :: r => by
    simp only [rising, Bool.and_eq_true, rising_iff (b :: r)]
    constructor
    · rintro ⟨h1, h2⟩ j hj h0
      rcases j with _ | _ | j
      · omega
      · exact h1
      · exact h2 (j + 1) (by simp at hj ⊢; omega) (by omega)
    · intro h
      refine ⟨h 1 (by simp) (by omega), fun j hj h0 => ?_⟩
      have := h (j + 1) (by simp at hj ⊢; omega) (by omega)
      rcases j with _ | j
      · omega
      · exact this

def goodPin (x : Cyl) (j : Nat) (hj : j < x.p.length) : Prop := pinIn x.s x.t x.p[j] = true ∧ (0 < j → pinLess x.p[j - 1] x.p[j] = true)
theorem cylOk_iff (x : Cyl) : cylOk x = true ↔ within x.s 4 96 = true ∧ within x.t 1 100 = true ∧ x.p.length ≤ 100 ∧ ∀ j (hj : j < x.p.length), goodPin x j hj := by
  simp only [cylOk, Bool.and_eq_true, decide_eq_true_eq, rising_iff, List.all_eq_true, goodPin, and_assoc]
  refine and_congr_right fun _ => and_congr_right fun _ => and_congr_right fun _ => ?_
  constructor
  · rintro ⟨h1, h2⟩ j hj
    exact ⟨h1 _ (List.getElem_mem hj), h2 j hj⟩
  · intro h
    refine ⟨fun p hp => ?_, fun j hj h0 => (h j hj).2 h0⟩
    obtain ⟨j, hj, rfl⟩ := List.getElem_of_mem hp
    exact (h j hj).1

end Go.Mw

/- Sums, steps, states. -/
namespace Go.Mw
theorem cylOk_bounds {x : Cyl} (h : cylOk x = true) : (4 ≤ x.s ∧ x.s ≤ 96) ∧ (1 ≤ x.t ∧ x.t ≤ 100) ∧ x.p.length ≤ 100 := by
  have h := (cylOk_iff x).1 h
  exact ⟨by simpa [within] using h.1, by simpa [within] using h.2.1, h.2.2.1⟩
end Go.Mw

/- States: around, pins at an angle, start, stop, step. -/
namespace Go.Mw
theorem sttOk_iff (x : Cyl) (y : Stt) : sttOk x y = true ↔ cylOk x = true ∧ (0 ≤ y.a ∧ y.a ≤ x.s - 1) ∧ (0 ≤ y.p ∧ y.p ≤ 100000) := by
  simp [sttOk, within]
end Go.Mw

/- Steps and runs. -/
namespace Go.Mw
theorem canStep_iff (x : Cyl) (y : Stt) : canStep x y = true ↔ sttOk x y = true ∧ y.n = true ∧ sttOk x (nextStt x y) = true := by
  simp [canStep, and_assoc]
theorem itS_on {x : Cyl} {y : Stt} (h : sttOk x y = true) (hn : y.n = true) : ∀ k, k < runN x y → (itS x y k).a = y.a + k ∧ (itS x y k).n = true
  | 0, _ => by simp [itS, hn]
  | k + 1, hk => by
    have ih := itS_on h hn k (by omega)
    have hs := (sttOk_iff x y).1 h
    unfold runN at hk
    have e : (y.a + k + 1) % x.s = y.a + k + 1 := Int.emod_eq_of_lt (by omega) (by omega)
    simp only [itS, nextStt, ih.1, e]
    simp; omega
theorem itS_off {x : Cyl} {y : Stt} (h : sttOk x y = true) (hn : y.n = true) : (itS x y (runN x y)).a = 0 ∧ (itS x y (runN x y)).n = false := by
  have hs := (sttOk_iff x y).1 h
  obtain ⟨k, hk⟩ : ∃ k, runN x y = k + 1 := ⟨runN x y - 1, by unfold runN; omega⟩
  have ih := itS_on h hn k (by omega)
  rw [hk]
  have e : (y.a + k + 1) % x.s = 0 := by
    rw [show y.a + k + 1 = x.s by unfold runN at hk; omega, Int.emod_self]
  simp only [itS, nextStt, ih.1, e]
  simp
end Go.Mw

/- Digits; boxes. -/
namespace Go.Mw
theorem areDigits_iff {l : List Int} {a b : Int} : areDigits l a b = true ↔ within l.length a b = true ∧ ∀ x ∈ l, within x 0 9 = true := by
  simp [areDigits]
end Go.Mw

/- Checked digits. -/
namespace Go.Mw
end Go.Mw

/- Boxes; moods. -/
namespace Go.Mw
end Go.Mw

/- Moods. -/
namespace Go.Mw
/-- Which of the numbers below n stand in the list. -/
def seenOf (l : List Int) (n : Nat) : List Bool := (List.range n).map fun j : Nat => decide ((j : Int) ∈ l)
@[simp] theorem seenOf_len {l : List Int} {n : Nat} : (seenOf l n).length = n := by simp [seenOf]
end Go.Mw

/- What functions compute, in plain terms: benches and workshops. -/
namespace Go.Mw
/-! memory -/
/-! benches -/
/-! workshops -/
def Shop.bench (w : Shop) : Bench := ⟨w.s, w.t, w.p, w.o⟩
end Go.Mw

/- Functions of the program, as small pure programs (printed by a program of ours). -/
namespace Go.Mw
noncomputable section
end
end Go.Mw

/- Benches: memory. -/
namespace Go.Mw
end Go.Mw

/- Benches: memory that is marked. -/
namespace Go.Mw
end Go.Mw

/- Benches: memory; what is a fine bench. -/
namespace Go.Mw
end Go.Mw

/- Benches: laws, copies, changed pins. -/
namespace Go.Mw
end Go.Mw

/- Benches: changed pins, copies, new benches. -/
namespace Go.Mw
end Go.Mw

/- New benches; combs, springs, workshops. -/
namespace Go.Mw
@[simp] theorem P1_lstL2 {a : List T2} {k : V → Prop} : P1 (.lst [.sl [.sc, .sc]] false 1) [vL I2 v2 a] k ↔ k (vL IL2 vLL2 [a]) := P1_of (by simp [Prim.run, aksOk, akOk, chunk, V.pack, vL, vLL2, AK.eqs_refl, IL2]) k
end Go.Mw

/- Combs, workshops. -/
namespace Go.Mw
end Go.Mw

/- Workshops. -/
namespace Go.Mw
end Go.Mw

/- Workshops: memory, opening. -/
namespace Go.Mw
@[simp] theorem P1_lst14 {a b c d : Int} {k : V → Prop} : P1 (.lst [.sc] false 4) [.int .i64 a, .int .i64 b, .int .i64 c, .int .i64 d] k ↔ k (vL I1 v1 [a, b, c, d]) := P1_of (by simp [Prim.run, aksOk, akOk, chunk, V.pack, vL, v1]) k
end Go.Mw

/- The sample workshop: the law. -/
namespace Go.Mw
noncomputable section
end
end Go.Mw

/- What functions compute, in plain terms: the bench's steps. -/
namespace Go.Mw
end Go.Mw

/- Functions of the program, as small pure programs (printed by a program of ours). -/
namespace Go.Mw
noncomputable section
end
end Go.Mw

/- Taking back; a step of the bench; pulling a pin. -/
namespace Go.Mw
end Go.Mw

/- Copies of a bench (spec); pulling a pin. -/
namespace Go.Mw
end Go.Mw

/- What functions compute, in plain terms: the workshop's steps. -/
namespace Go.Mw
@[simp] theorem P1_lstLL1 {x : List Int} {k : V → Prop} : P1 (.lst [.sl [.sc]] false 1) [vL I1 v1 x] k ↔ k (vL IL1 vLL1 [x]) := P1_of (by simp [Prim.run, aksOk, akOk, chunk, V.pack, vL, vLL1, IL1, I1, AK.eqs_refl]) k
@[simp] theorem P1_lstI2 {a b : Int} {k : V → Prop} : P1 (.lst [.sc] false 2) [.int .i64 a, .int .i64 b] k ↔ k (vL I1 v1 [a, b]) := P1_of (by simp [Prim.run, aksOk, akOk, chunk, V.pack, vL, v1]) k
@[simp] theorem P1_appLL1 {l m : List (List Int)} {b : Nat} {k : V → Prop} : P1 (.app [.sl [.sc]] b) [vL IL1 vLL1 l, vL IL1 vLL1 m] k ↔ ((l.length + m.length) * b ≤ 140737488355328 ∧ l.length + m.length ≤ 140737488355328) ∧ k (vL IL1 vLL1 (l ++ m)) := P1_app
@[simp] theorem P1_appLL1_0 {m : List (List Int)} {b : Nat} {k : V → Prop} : P1 (.app [.sl [.sc]] b) [.list [.sl [.sc]] [], vL IL1 vLL1 m] k ↔ (m.length * b ≤ 140737488355328 ∧ m.length ≤ 140737488355328) ∧ k (vL IL1 vLL1 m) := P1_app0

def Shop.spring (w : Shop) : T3 := ⟨w.u, w.m, w.f⟩
def played (w : Shop) : Shop := ⟨w.s, w.t, w.p, w.o, w.c, w.u - 1, w.m, w.f, w.y, w.d + w.p.length⟩
end Go.Mw

/- Functions of the program, as small pure programs (printed by a program of ours). -/
namespace Go.Mw
noncomputable section
end
end Go.Mw

/- Crank, RemovePin, the gap. -/
namespace Go.Mw
end Go.Mw

/- RemovePin; the law. -/
namespace Go.Mw
end Go.Mw

/- The gap; pins that stand too close. -/
namespace Go.Mw
end Go.Mw

/- What functions compute, in plain terms: draws; stops and sums. -/
namespace Go.Mw
/-- A bitwise operation of the machine. -/
def land (a b : Int) : Int := IntKind.i64.wrap (BitVec.ofInt IntKind.i64.bits a &&& BitVec.ofInt IntKind.i64.bits b).toNat
def lxor (a b : Int) : Int := IntKind.i64.wrap (BitVec.ofInt IntKind.i64.bits a ^^^ BitVec.ofInt IntKind.i64.bits b).toNat
@[simp] theorem P1_and {a b : Int} {k : V → Prop} : P1 (.bin .and) [.int .i64 a, .int .i64 b] k ↔ k (.int .i64 (land a b)) := P1_of (by simp [Prim.run, binV, binI, land]) k
@[simp] theorem P1_xor {a b : Int} {k : V → Prop} : P1 (.bin .xor) [.int .i64 a, .int .i64 b] k ↔ k (.int .i64 (lxor a b)) := P1_of (by simp [Prim.run, binV, binI, lxor]) k
/-- A cursor: its bytes, the place, the hash. -/
structure Cur where
  b : List UInt8
  i : Int
  h : Int
def hNext (h : Int) : Int := IntKind.i64.wrap (IntKind.i64.wrap (h * 6364136223846793005) + 1442695040888963407)
def cStep (x : Cur) : Cur := ⟨x.b, if x.i < x.b.length then x.i + 1 else x.i, hNext x.h⟩
def cAfter (x : Cur) (n : Int) : Cur := if n ≤ 0 then x else if n ≤ 256 then cStep x else cStep (cStep (cStep (cStep x)))
def cylX (x : Cur) : Cur := cAfter (cAfter (cAfter x 21) 8) 10
end Go.Mw

/- Functions of the program, as small pure programs (printed by a program of ours). -/
namespace Go.Mw
noncomputable section
end
end Go.Mw

/- Draws. -/
namespace Go.Mw
@[simp] theorem cStep_b (x : Cur) : (cStep x).b = x.b := rfl
@[simp] theorem cAfter_b (x : Cur) (n : Int) : (cAfter x n).b = x.b := by unfold cAfter; split <;> (try split) <;> simp
/-! putting a pin -/
end Go.Mw

/- Drawn cylinders and states. -/
namespace Go.Mw
theorem within_iff' {a b c : Int} : within a b c = true ↔ b ≤ a ∧ a ≤ c := by simp [within]
@[simp] theorem P1_lstI3 {a b c : Int} {k : V → Prop} : P1 (.lst [.sc] false 3) [.int .i64 a, .int .i64 b, .int .i64 c] k ↔ k (vL I1 v1 [a, b, c]) := P1_of (by simp [Prim.run, aksOk, akOk, chunk, V.pack, vL, v1]) k

@[simp] theorem cylX_b (x : Cur) : (cylX x).b = x.b := by simp [cylX]
end Go.Mw

/- Stops. -/
namespace Go.Mw
@[simp] theorem P1_neaX {a c e g : Int} {b f : Bool} {k : V → Prop} : P1 (.eqa true [.i, .b, .i]) [.int .i64 a, .bool b, .int .i64 c, .int .i64 e, .bool f, .int .i64 g] k ↔ k (.bool (!decide (a = e ∧ b = f ∧ c = g))) := P1_of (by simp only [Prim.run, eqVs, eqV1, List.length_cons, List.length_nil, List.take, List.drop, if_true]; cases b <;> cases f <;> simp <;> grind) k
theorem pinsAt_le (c : Cyl) (a : Int) : (pinsAt c a).length ≤ c.p.length := by
  unfold pinsAt
  split
  · simpa using List.length_filter_le _ _
  · simp
theorem it_p (c : Cyl) (x : Stt) : ∀ k, (itS c x k).p = x.p + (itL c x k).length ∧ (itL c x k).length ≤ k * c.p.length
  | 0 => by simp [itS, itL]
  | k + 1 => by
    obtain ⟨h1, h2⟩ := it_p c x k
    have h3 := pinsAt_le c (itS c x k).a
    simp only [itS, itL, nextStt, List.length_append, h1, Nat.add_mul]
    omega
/-- A state of a small cylinder. -/
structure Small (c : Cyl) (x : Stt) : Prop where
  ok : sttOk c x = true
  len : c.p.length ≤ 9
  p : x.p ≤ 77
theorem Small.it {c : Cyl} {x : Stt} (h : Small c x) (hn : x.n = true) {k : Nat} (hk : k ≤ runN c x) : sttOk c (itS c x k) = true := by
  have h0 := (sttOk_iff c x).1 h.ok
  have hb := cylOk_bounds h0.1
  have h1 := it_p c x k
  have h77 := h.p
  have h2 : k * c.p.length ≤ 96 * 9 := Nat.mul_le_mul (by simp only [runN] at hk; omega) h.len
  rw [sttOk_iff]
  refine ⟨h0.1, ?_, by omega⟩
  by_cases e : k < runN c x
  · have := (itS_on h.ok hn k e).1
    simp only [runN] at e
    omega
  · obtain rfl : k = runN c x := by omega
    have := (itS_off h.ok hn).1
    omega
theorem Small.can {c : Cyl} {x : Stt} (h : Small c x) (hn : x.n = true) {k : Nat} (hk : k < runN c x) : canStep c (itS c x k) = true := by
  rw [canStep_iff]
  exact ⟨h.it hn (by omega), (itS_on h.ok hn k hk).2, h.it hn (k := k + 1) hk⟩
def runM (c : Cyl) (x : Stt) : Nat := if x.n then runN c x else 0
theorem Small.steps {c : Cyl} {x : Stt} (h : Small c x) : stepsLeft c x = runM c x := by
  have h0 := (sttOk_iff c x).1 h.ok
  unfold stepsLeft runM
  rw [if_pos h.ok]
  cases x.n
  · simp
  · simp only [if_true, runN]; omega
theorem Small.run {c : Cyl} {x : Stt} (h : Small c x) : runBox c x = (itS c x (runM c x), itL c x (runM c x)) := by
  unfold runBox runM
  cases hn : x.n with
  | false =>
    have : runOk c x = false := by simp [runOk, hn]
    simp [this, itS, itL]
  | true =>
    have : runOk c x = true := by
      simp only [runOk, h.ok, hn, Bool.true_and, List.all_eq_true, List.mem_range]
      intro k hk; exact h.can hn hk
    simp [this]
end Go.Mw

/- The law on stops. -/
namespace Go.Mw
end Go.Mw

/- What functions compute, in plain terms: sums. -/
namespace Go.Mw
end Go.Mw

/- Functions of the program, as small pure programs (printed by a program of ours). -/
namespace Go.Mw
noncomputable section
end
end Go.Mw

/- Drawn digits; swaps. -/
namespace Go.Mw
end Go.Mw

/- Words of digits with a check; the law on sums. -/
namespace Go.Mw
/-- A word of digits. -/
structure Word (w : List Int) : Prop where
  lo : 2 ≤ w.length
  hi : w.length ≤ 21
  dig : ∀ x ∈ w, 0 ≤ x ∧ x ≤ 9
theorem Word.are {w : List Int} (h : Word w) : areDigits w 2 21 = true := by
  rw [areDigits_iff]
  have h1 := h.lo; have h2 := h.hi
  exact ⟨within_iff'.2 (by omega), fun x hx => within_iff'.2 (h.dig x hx)⟩
theorem Word.set {w : List Int} (h : Word w) {k : Nat} {e : Int} (he : 0 ≤ e ∧ e ≤ 9) : Word (w.set k e) := by
  refine ⟨by simpa using h.lo, by simpa using h.hi, fun x hx => ?_⟩
  rcases List.mem_or_eq_of_mem_set hx with hx | rfl
  · exact h.dig x hx
  · exact he
end Go.Mw

/- The law on sums. -/
namespace Go.Mw
end Go.Mw

/- What functions compute, in plain terms: nested boxes. -/
namespace Go.Mw
def inBest (l : List T3) (d : List Int) (x : T3) : Nat → Int
  | 0 => 1
  | j + 1 => match l[j]?, d[j]? with
    | some y, some v => if inside y x then max (inBest l d x j) (v + 1) else inBest l d x j
    | _, _ => inBest l d x j
def rowTo (l : List T3) (s : List Int × Int) : Nat → List Int × Int
  | 0 => s
  | i + 1 => match l[i]? with
    | some x => ((rowTo l s i).1.set i (inBest l (rowTo l s i).1 x l.length), max (rowTo l s i).2 (inBest l (rowTo l s i).1 x l.length))
    | none => rowTo l s i
def dpTo (l : List T3) : Nat → List Int × Int
  | 0 => (List.replicate l.length 0, 0)
  | r + 1 => rowTo l (dpTo l r) l.length
def boxEnd (x : Cur) : Cur := cAfter (cAfter (cAfter x 20) 20) 20
end Go.Mw

/- The depth of nested boxes. -/
namespace Go.Mw
def maxIn (f : T3 → Int) : List T3 → Int
  | [] => 0
  | a :: r => max (f a) (maxIn f r)
theorem maxIn_le {f : T3 → Int} {b : Int} (hb : 0 ≤ b) : ∀ {l : List T3}, (∀ y ∈ l, f y ≤ b) → maxIn f l ≤ b
  | [], _ => hb
  | a :: r, h => by
    have h1 := h a (by simp)
    have h2 := maxIn_le hb (l := r) (fun y hy => h y (by simp [hy]))
    simp only [maxIn]; omega
theorem le_maxIn {f : T3 → Int} {y : T3} : ∀ {l : List T3}, y ∈ l → f y ≤ maxIn f l
  | a :: r, h => by
    simp only [maxIn]
    rcases List.mem_cons.1 h with rfl | h
    · omega
    · have := le_maxIn (f := f) h; omega
theorem maxIn_nonneg {f : T3 → Int} : ∀ {l : List T3}, 0 ≤ maxIn f l
  | [] => by simp [maxIn]
  | a :: r => by have := maxIn_nonneg (f := f) (l := r); simp only [maxIn]; omega
theorem maxIn_mono {f g : T3 → Int} {l : List T3} (h : ∀ y ∈ l, f y ≤ g y) : maxIn f l ≤ maxIn g l :=
  maxIn_le maxIn_nonneg fun y hy => Int.le_trans (h y hy) (le_maxIn hy)

/-- The longest chain of boxes, each inside the next, that ends at x; of at most so many boxes. -/
def dep (l : List T3) : Nat → T3 → Int
  | 0, _ => 0
  | k + 1, x => 1 + maxIn (fun y => if inside y x then dep l k y else 0) l
theorem dep_le (l : List T3) : ∀ k x, 0 ≤ dep l k x ∧ dep l k x ≤ k
  | 0, _ => by simp [dep]
  | k + 1, x => by
    have h := maxIn_nonneg (f := fun y => if inside y x then dep l k y else 0) (l := l)
    have h2 : maxIn (fun y => if inside y x then dep l k y else 0) l ≤ k := maxIn_le (by omega) fun y _ => by
      have := dep_le l k y; split <;> omega
    simp only [dep]; omega
theorem dep_mono (l : List T3) : ∀ k x, dep l k x ≤ dep l (k + 1) x
  | 0, x => by have := (dep_le l 1 x).1; simpa [dep] using this
  | k + 1, x => by
    have : maxIn (fun y => if inside y x then dep l k y else 0) l ≤ maxIn (fun y => if inside y x then dep l (k + 1) y else 0) l := maxIn_mono fun y _ => by
      have := dep_mono l k y; split <;> omega
    show 1 + _ ≤ 1 + _
    omega
theorem inside_trans {x y z : T3} (h1 : inside x y = true) (h2 : inside y z = true) : inside x z = true := by
  simp only [inside, Bool.and_eq_true, decide_eq_true_eq] at *; omega
theorem inside_irrefl (x : T3) : inside x x = false := by simp [inside]
theorem count_lt {p q : T3 → Bool} (h : ∀ z, p z = true → q z = true) {y : T3} (hq : q y = true) (hp : p y = false) : ∀ {l : List T3}, y ∈ l → l.countP p < l.countP q
  | a :: r, hy => by
    have hle : r.countP p ≤ r.countP q := List.countP_mono_left fun z _ => h z
    rw [List.countP_cons, List.countP_cons]
    rcases List.mem_cons.1 hy with rfl | hy
    · simp only [hq, hp, if_true]; simp; omega
    · have ih := count_lt h hq hp hy
      have : (if p a = true then 1 else 0) ≤ (if q a = true then 1 else 0) := by
        cases hpa : p a with
        | false => simp
        | true => simp [h a hpa]
      omega
theorem dep_stable (l : List T3) : ∀ k x, l.countP (inside · x) + 1 ≤ k → dep l (k + 1) x ≤ dep l k x
  | 0, _, h => by omega
  | k + 1, x, h => by
    have : maxIn (fun y => if inside y x then dep l (k + 1) y else 0) l ≤ maxIn (fun y => if inside y x then dep l k y else 0) l := maxIn_mono fun y hy => by

      cases hi : inside y x with
      | false => simp
      | true =>
        have hc : l.countP (inside · y) < l.countP (inside · x) := count_lt (p := (inside · y)) (q := (inside · x)) (fun z hz => inside_trans hz hi) hi (inside_irrefl y) hy
        have := dep_stable l k y (by omega)
        simpa using this
    show 1 + _ ≤ 1 + _
    omega
theorem count_len {l : List T3} {x : T3} (hx : x ∈ l) : l.countP (inside · x) + 1 ≤ l.length := by
  have := count_lt (p := (inside · x)) (q := fun _ => true) (fun _ _ => rfl) rfl (inside_irrefl x) hx
  rw [List.countP_true] at this
  omega
def D (l : List T3) (x : T3) : Int := dep l l.length x
theorem D_eq {l : List T3} {x : T3} (hx : x ∈ l) : D l x = 1 + maxIn (fun y => if inside y x then D l y else 0) l := by
  have h1 := dep_stable l l.length x (count_len hx)
  have h2 := dep_mono l l.length x
  have : D l x = dep l (l.length + 1) x := by unfold D; omega
  rw [this]; rfl
theorem D_sub {l : List T3} {x y : T3} (hx : x ∈ l) (hy : y ∈ l) (h : inside y x = true) : D l y + 1 ≤ D l x := by
  rw [D_eq hx]
  have := le_maxIn (f := fun y => if inside y x then D l y else 0) hy
  simp only [h, if_true] at this
  omega

theorem inBest_ge {l : List T3} {d : List Int} {x : T3} {j : Nat} (hj : j < l.length) (hd : j < d.length) (hi : inside l[j] x = true) : ∀ n, j < n → d[j] + 1 ≤ inBest l d x n
  | 0, h => by omega
  | n + 1, h => by
    unfold inBest
    by_cases e : j = n
    · subst e
      rw [List.getElem?_eq_getElem hj, List.getElem?_eq_getElem hd]
      simp only [hi, if_true]; omega
    · have ih := inBest_ge hj hd hi n (by omega)
      split
      · split <;> omega
      · exact ih
theorem inBest_one {l : List T3} {d : List Int} {x : T3} : ∀ n, 1 ≤ inBest l d x n
  | 0 => by simp [inBest]
  | n + 1 => by
    have ih := inBest_one (l := l) (d := d) (x := x) n
    unfold inBest
    split
    · split <;> omega
    · exact ih
theorem inBest_le {l : List T3} {d : List Int} {x : T3} (hx : x ∈ l) (h : ∀ (j : Nat) (h1 : j < l.length) (h2 : j < d.length), d[j] ≤ D l l[j]) : ∀ n, inBest l d x n ≤ D l x
  | 0 => by
    have := maxIn_nonneg (f := fun y => if inside y x then D l y else 0) (l := l)
    rw [D_eq hx]; simp only [inBest]; omega
  | n + 1 => by
    have ih := inBest_le hx h n
    unfold inBest
    split
    · rename_i y v h1 h2
      obtain ⟨g1, rfl⟩ := List.getElem?_eq_some_iff.1 h1
      obtain ⟨g2, rfl⟩ := List.getElem?_eq_some_iff.1 h2
      split
      · rename_i hi
        have := D_sub hx (List.getElem_mem g1) hi
        have := h n g1 g2
        omega
      · exact ih
    · exact ih
/-- What the round has reached. -/
structure Dp (l : List T3) (r i : Nat) (s : List Int × Int) : Prop where
  len : s.1.length = l.length
  hi : ∀ (j : Nat) (h1 : j < l.length) (h2 : j < s.1.length), s.1[j] ≤ D l l[j]
  lo : ∀ (j : Nat) (h1 : j < l.length) (h2 : j < s.1.length), dep l r l[j] ≤ s.1[j]
  up : ∀ (j : Nat) (h1 : j < l.length) (h2 : j < s.1.length), j < i → dep l (r + 1) l[j] ≤ s.1[j]
  m : s.2 ≤ maxIn (D l) l
  mm : ∀ (j : Nat) (h2 : j < s.1.length), s.1[j] ≤ s.2
theorem Dp.row {l : List T3} {r : Nat} {s : List Int × Int} (h : Dp l r 0 s) : ∀ i, i ≤ l.length → Dp l r i (rowTo l s i)
  | 0, _ => h
  | i + 1, hi => by
    have ih := h.row i (by omega)
    have hil : i < l.length := by omega
    have hx := List.getElem_mem hil
    unfold rowTo
    rw [List.getElem?_eq_getElem hil]
    dsimp only
    generalize rowTo l s i = t at *
    have b1 := inBest_le hx ih.hi l.length
    have b2 : dep l (r + 1) l[i] ≤ inBest l t.1 l[i] l.length := by
      have h1 := inBest_one (l := l) (d := t.1) (x := l[i]) l.length
      have : maxIn (fun y => if inside y l[i] then dep l r y else 0) l ≤ inBest l t.1 l[i] l.length - 1 := maxIn_le (by omega) fun y hy => by

        cases hin : inside y l[i] with
        | false => simp; omega
        | true =>
          obtain ⟨j, hj, rfl⟩ := List.mem_iff_getElem.1 hy
          have hj2 : j < t.1.length := by rw [ih.len]; exact hj
          have g1 := inBest_ge hj hj2 hin l.length hj
          have g2 := ih.lo j hj hj2
          simp only [if_true]; omega
      show 1 + _ ≤ _
      omega
    have b3 := dep_mono l r l[i]
    refine ⟨by simpa using ih.len, fun j h1 h2 => ?_, fun j h1 h2 => ?_, fun j h1 h2 h3 => ?_, ?_, fun j h2 => ?_⟩
    · rw [List.getElem_set]
      split
      · rename_i e; subst e; exact b1
      · exact ih.hi j h1 (by simpa using h2)
    · rw [List.getElem_set]
      split
      · rename_i e; subst e; omega
      · exact ih.lo j h1 (by simpa using h2)
    · rw [List.getElem_set]
      split
      · rename_i e; subst e; exact b2
      · exact ih.up j h1 (by simpa using h2) (by omega)
    · have := le_maxIn (f := D l) hx
      have := ih.m
      omega
    · rw [List.getElem_set]
      split
      · omega
      · have := ih.mm j (by simpa using h2); omega
theorem Dp.all {l : List T3} : ∀ r, Dp l r 0 (dpTo l r)
  | 0 => by
    refine ⟨by simp [dpTo], fun j h1 h2 => ?_, fun j h1 h2 => ?_, fun j h1 h2 h3 => by omega, maxIn_nonneg, fun j h2 => ?_⟩
    · simp only [dpTo, List.getElem_replicate]; exact (dep_le l _ _).1
    · simp [dpTo, dep]
    · simp [dpTo]
  | r + 1 => by
    have h := (Dp.all r).row l.length (Nat.le_refl _)
    exact ⟨h.len, h.hi, fun j h1 h2 => h.up j h1 h2 h1, fun j h1 h2 h3 => by omega, h.m, h.mm⟩
end Go.Mw

/- Functions of the program, as small pure programs (printed by a program of ours). -/
namespace Go.Mw
noncomputable section
end
end Go.Mw

/- Nested boxes: the program's way. -/
namespace Go.Mw
end Go.Mw

/- Drawn boxes; what fits. -/
namespace Go.Mw
@[simp] theorem boxEnd_b (x : Cur) : (boxEnd x).b = x.b := by simp [boxEnd]
/-! what fits -/
theorem sorted_eq {x : T3} (h : boxOk x = true) : sortedBox x = ⟨max (max x.a x.b) x.c, x.a + x.b + x.c - max (max x.a x.b) x.c - min (min x.a x.b) x.c, min (min x.a x.b) x.c⟩ := by simp [sortedBox, h]
end Go.Mw

/- The law on lids. -/
namespace Go.Mw
/-- Drawn boxes: few and small. -/
structure Small3 (l : List T3) : Prop where
  len : l.length ≤ 6
  ok : ∀ d ∈ l, (1 ≤ d.a ∧ d.a ≤ 20) ∧ (1 ≤ d.b ∧ d.b ≤ 20) ∧ (1 ≤ d.c ∧ d.c ≤ 20)
theorem Small3.box {l : List T3} (h : Small3 l) {d : T3} (hd : d ∈ l) : boxOk d = true := by
  have := h.ok d hd
  rw [boxOk_iff]; omega
theorem Small3.are {l : List T3} (h : Small3 l) (n : Int) (hn : 6 ≤ n) : areBoxes l n = true := by
  have := h.len
  simp only [areBoxes, Bool.and_eq_true, decide_eq_true_eq, List.all_eq_true]
  exact ⟨by omega, fun d hd => h.box hd⟩
theorem Small3.inside {l : List T3} (h : Small3 l) {d : T3} (hd : d ∈ l) : inside d ⟨50, 50, 50⟩ = true := by
  have h1 := h.ok d hd
  have e2 : sortedBox ⟨50, 50, 50⟩ = ⟨50, 50, 50⟩ := by decide
  simp only [Go.Mw.inside, sorted_eq (h.box hd), e2, Bool.and_eq_true, decide_eq_true_eq]
  omega
end Go.Mw

/- What functions compute, in plain terms: sorted pins; setting a pin. -/
namespace Go.Mw
end Go.Mw

/- Functions of the program, as small pure programs (printed by a program of ours). -/
namespace Go.Mw
noncomputable section
end
end Go.Mw

/- Sorting pins; setting a pin. -/
namespace Go.Mw
end Go.Mw

/- What functions compute, in plain terms: acts. -/
namespace Go.Mw
end Go.Mw

/- Functions of the program, as small pure programs (printed by a program of ours). -/
namespace Go.Mw
noncomputable section
end
end Go.Mw

/- Putting a pin into a workshop. -/
namespace Go.Mw
end Go.Mw

/- What functions compute, in plain terms: runs of acts. -/
namespace Go.Mw
def E_szActS : List T3 × Int → List V := fun (l, n) => [vL I3 v3 l, .int .i64 n]
noncomputable def F_szActS : List V → Option (List V) := mkF E_szActS (fun (l, n) => l.length ≤ 9223372036854775807 ∧ 0 ≤ n ∧ n ≤ 1048576) (fun (l, n) => [.int .i64 (if (l.length : Int) ≤ n then n - l.length else -1)])
theorem F_szActS_inj : ∀ x y, E_szActS x = E_szActS y → x = y := by
  rintro ⟨l, n⟩ ⟨l', n'⟩ h
  simpa [E_szActS] using h
theorem F_szActS_elim {P : List V → List V → Prop} (h : ∀ (l : List T3) (n : Int), (l.length ≤ 9223372036854775807 ∧ 0 ≤ n ∧ n ≤ 1048576) → P [vL I3 v3 l, .int .i64 n] [.int .i64 (if (l.length : Int) ≤ n then n - l.length else -1)]) : ∀ ds outs, F_szActS ds = some outs → P ds outs := by
  intro ds outs hh
  obtain ⟨⟨l, n⟩, rfl, hp, rfl⟩ := mkF_inv hh
  exact h l n hp
theorem p_szActS {l : List T3} {n : Int} {nr_ : Nat} {kk_ : V → Prop} (hp : l.length ≤ 9223372036854775807 ∧ 0 ≤ n ∧ n ≤ 1048576) : P1 (.call F_szActS 0 nr_) [vL I3 v3 l, .int .i64 n] kk_ ↔ kk_ (.int .i64 (if (l.length : Int) ≤ n then n - l.length else -1)) :=
  P1_callF (by unfold F_szActS; exact mkF_eq F_szActS_inj (l, n) hp)

def E_toActS (l : List T3) : List V := [vL I3 v3 l]
noncomputable def F_toActS : List V → Option (List V) := mkF E_toActS (fun l => l.length ≤ 1048576) (fun l => [vL I3 v3 l])
theorem F_toActS_inj : ∀ x y, E_toActS x = E_toActS y → x = y := by
  rintro l l' h
  simpa [E_toActS] using h
theorem F_toActS_elim {P : List V → List V → Prop} (h : ∀ (l : List T3), (l.length ≤ 1048576) → P [vL I3 v3 l] [vL I3 v3 l]) : ∀ ds outs, F_toActS ds = some outs → P ds outs := by
  intro ds outs hh
  obtain ⟨l, rfl, hp, rfl⟩ := mkF_inv hh
  exact h l hp
theorem p_toActS {l : List T3} {nr_ : Nat} {kk_ : V → Prop} (hp : l.length ≤ 1048576) : P1 (.call F_toActS 0 nr_) [vL I3 v3 l] kk_ ↔ kk_ (vL I3 v3 l) :=
  P1_callF (by unfold F_toActS; exact mkF_eq F_toActS_inj (l) hp)

def E_eqActS : List T3 × List T3 → List V := fun (l, m) => [vL I3 v3 l, vL I3 v3 m]
noncomputable def F_eqActS : List V → Option (List V) := mkF E_eqActS (fun (l, m) => l.length ≤ 1048576 ∧ m.length ≤ 1048576) (fun (l, m) => [.bool (decide (l = m))])
theorem F_eqActS_inj : ∀ x y, E_eqActS x = E_eqActS y → x = y := by
  rintro ⟨l, m⟩ ⟨l', m'⟩ h
  simpa [E_eqActS] using h
theorem F_eqActS_elim {P : List V → List V → Prop} (h : ∀ (l : List T3) (m : List T3), (l.length ≤ 1048576 ∧ m.length ≤ 1048576) → P [vL I3 v3 l, vL I3 v3 m] [.bool (decide (l = m))]) : ∀ ds outs, F_eqActS ds = some outs → P ds outs := by
  intro ds outs hh
  obtain ⟨⟨l, m⟩, rfl, hp, rfl⟩ := mkF_inv hh
  exact h l m hp
theorem p_eqActS {l : List T3} {m : List T3} {nr_ : Nat} {kk_ : V → Prop} (hp : l.length ≤ 1048576 ∧ m.length ≤ 1048576) : P1 (.call F_eqActS 0 nr_) [vL I3 v3 l, vL I3 v3 m] kk_ ↔ kk_ (.bool (decide (l = m))) :=
  P1_callF (by unfold F_eqActS; exact mkF_eq F_eqActS_inj (l, m) hp)

def E_eqAct : T3 × T3 → List V := fun (x, y) => [.int .i64 x.a, .int .i64 x.b, .int .i64 x.c, .int .i64 y.a, .int .i64 y.b, .int .i64 y.c]
noncomputable def F_eqAct : List V → Option (List V) := mkF E_eqAct (fun (_, _) => True) (fun (x, y) => [.bool (decide (x = y))])
theorem F_eqAct_inj : ∀ x y, E_eqAct x = E_eqAct y → x = y := by
  rintro ⟨⟨xa, xb, xc⟩, ⟨ya, yb, yc⟩⟩ ⟨⟨xa', xb', xc'⟩, ⟨ya', yb', yc'⟩⟩ h
  simpa [E_eqAct, and_assoc] using h
theorem F_eqAct_elim {P : List V → List V → Prop} (h : ∀ (x : T3) (y : T3), P [.int .i64 x.a, .int .i64 x.b, .int .i64 x.c, .int .i64 y.a, .int .i64 y.b, .int .i64 y.c] [.bool (decide (x = y))]) : ∀ ds outs, F_eqAct ds = some outs → P ds outs := by
  intro ds outs hh
  obtain ⟨⟨x, y⟩, rfl, -, rfl⟩ := mkF_inv hh
  exact h x y
@[simp] theorem p_eqAct {x_a : Int} {x_b : Int} {x_c : Int} {y_a : Int} {y_b : Int} {y_c : Int} {nr_ : Nat} {kk_ : V → Prop} : P1 (.call F_eqAct 0 nr_) [.int .i64 x_a, .int .i64 x_b, .int .i64 x_c, .int .i64 y_a, .int .i64 y_b, .int .i64 y_c] kk_ ↔ kk_ (.bool (decide ((⟨x_a, x_b, x_c⟩ : T3) = (⟨y_a, y_b, y_c⟩ : T3)))) :=
  P1_callF (by unfold F_eqAct; exact mkF_eq F_eqAct_inj ((⟨x_a, x_b, x_c⟩ : T3), (⟨y_a, y_b, y_c⟩ : T3)) trivial)

end Go.Mw

/- Functions of the program, as small pure programs (printed by a program of ours). -/
namespace Go.Mw
noncomputable section
def laws_szActS_L : L := .seq (.rg []) (.seq (.rg [⟨[], .len, [.v 0], 1⟩, ⟨[], .bin .sub, [.v 1, .v 2], 1⟩]) (.seq (.seq (.rg [⟨[], .bin .lss, [.v 3, .k (.int .i64 0)], 1⟩]) (.ite (.v 4) (.seq (.rg []) (.ret [.k (.int .i64 (-1))])) (.skip))) (.seq (.rg []) (.ret [.v 3]))))
theorem laws_szActS_L_sh (Q : QT) (x0 x1 : V) : shL laws_szActS_L Q [x0, x1] = (
  P1 (.len) [x0] fun v0 =>
  P1 (.bin .sub) [x1, v0] fun v1 =>
  P1 (.bin .lss) [v1, .int .i64 0] fun v2 =>
  ifB v2 (
    Q .ret [.int .i64 (-1)]) (
    Q .ret [v1])) := by kernel_rfl
def laws_szActS_S : Sig := ⟨[.val false [.sl [.sc, .sc, .sc]], .val false [.sc]], [(false, [.sc])], F_szActS⟩
def laws_szActS_hs : List NF := []

def laws_toActS_b0 : L := .seq (.seq (.seq (.rg [⟨[], .len, [.v 0], 1⟩, ⟨[], .bin .lss, [.v 1, .v 3], 1⟩]) (.ite (.v 4) (.skip) (.seq (.tup [.v 2]) (.exit 0)))) (.seq (.block 1 (.seq (.rg [⟨[], .idx [.sc, .sc, .sc], [.v 0, .v 1], 3⟩, ⟨[], .call F_toAct 0 3, [.v 5, .v 6, .v 7], 3⟩, ⟨[], .idx [.sc, .sc, .sc], [.v 2, .v 1], 3⟩, ⟨[], .set [.sc, .sc, .sc] 0, [.v 2, .v 1, .v 8, .v 9, .v 10], 1⟩]) (.tup [.v 0, .v 1, .v 14]))) (.rg [⟨[], .bin .add, [.v 1, .k (.int .i64 1)], 1⟩]))) (.tup [.v 0, .v 3, .v 2])
theorem laws_toActS_b0_sh (Q : QT) (x0 x1 x2 : V) : shL laws_toActS_b0 Q [x0, x1, x2] = (
  P1 (.len) [x0] fun v0 =>
  P1 (.bin .lss) [x1, v0] fun v1 =>
  ifB v1 (
    P3 (.idx [.sc, .sc, .sc]) [x0, x1] fun v2 v3 v4 =>
    P3 (.call F_toAct 0 3) [v2, v3, v4] fun v5 v6 v7 =>
    P3 (.idx [.sc, .sc, .sc]) [x2, x1] fun _ _ _ =>
    P1 (.set [.sc, .sc, .sc] 0) [x2, x1, v5, v6, v7] fun v11 =>
    P1 (.bin .add) [x1, .int .i64 1] fun v12 =>
    Q .normal [x0, v12, v11]) (
    Q (.exit 0) [x2])) := by kernel_rfl

def laws_toActS_r1 : L := .seq (.rg []) (.ret [.v 0])
theorem laws_toActS_r1_sh (Q : QT) (x0 : V) : shL laws_toActS_r1 Q [x0] = (
  Q .ret [x0]) := by kernel_rfl

def laws_toActS_L : L := .seq (.rg []) (.seq (.rg [⟨[], .len, [.v 0], 1⟩, ⟨[], .mk [.sc, .sc, .sc] (.agg [.int .i64 0, .int .i64 0, .int .i64 0]) 24, [.v 1, .v 1], 1⟩]) (.seq (.seq (.rg []) (.block 0 (.seq (.tup [.v 0, .k (.int .i64 0), .v 2]) (.loop (laws_toActS_b0))))) (laws_toActS_r1)))
theorem laws_toActS_L_sh (Q : QT) (x0 : V) : shL laws_toActS_L Q [x0] = (
  P1 (.len) [x0] fun v0 =>
  P1 (.mk [.sc, .sc, .sc] (.agg [.int .i64 0, .int .i64 0, .int .i64 0]) 24) [v0, v0] fun v1 =>
  shL (.loop laws_toActS_b0) (qB 0 (qS (shL laws_toActS_r1 Q) Q)) [x0, .int .i64 0, v1]) := by kernel_rfl
def laws_toActS_S : Sig := ⟨[.val false [.sl [.sc, .sc, .sc]]], [(false, [.sl [.sc, .sc, .sc]])], F_toActS⟩
def laws_toActS_hs : List NF := [⟨[(3, .sc false [.own 64])], [(64, true, [.sc, .sc, .sc])], [], 65⟩, ⟨[(0, .sc false [.ro [.sc, .sc, .sc]]), (3, .sc false [.own 64]), (4, .sc false [.sc])], [(64, true, [.sc, .sc, .sc])], [], 65⟩, ⟨[(0, .sc false [.ro [.sc, .sc, .sc]]), (3, .sc false [.own 64]), (4, .sc false [.sc])], [(64, true, [.sc, .sc, .sc])], [], 65⟩]

def laws_eqAct_L : L := .seq (.rg []) (.seq (.seq (.rg [⟨[], .bin .neq, [.v 0, .v 3], 1⟩]) (.ite (.v 6) (.seq (.rg []) (.ret [.k (.bool false)])) (.skip))) (.seq (.seq (.rg [⟨[], .bin .neq, [.v 1, .v 4], 1⟩]) (.ite (.v 7) (.seq (.rg []) (.ret [.k (.bool false)])) (.skip))) (.seq (.seq (.rg [⟨[], .bin .neq, [.v 2, .v 5], 1⟩]) (.ite (.v 8) (.seq (.rg []) (.ret [.k (.bool false)])) (.skip))) (.seq (.rg []) (.ret [.k (.bool true)])))))
theorem laws_eqAct_L_sh (Q : QT) (x0 x1 x2 x3 x4 x5 : V) : shL laws_eqAct_L Q [x0, x1, x2, x3, x4, x5] = (
  P1 (.bin .neq) [x0, x3] fun v0 =>
  ifB v0 (
    Q .ret [.bool false]) (
    P1 (.bin .neq) [x1, x4] fun v1 =>
    ifB v1 (
      Q .ret [.bool false]) (
      P1 (.bin .neq) [x2, x5] fun v2 =>
      ifB v2 (
        Q .ret [.bool false]) (
        Q .ret [.bool true])))) := by kernel_rfl
def laws_eqAct_S : Sig := ⟨[.val true [.sc, .sc, .sc], .val true [.sc, .sc, .sc]], [(false, [.sc])], F_eqAct⟩
def laws_eqAct_hs : List NF := []

def laws_eqActS_b0 : L := .seq (.seq (.seq (.rg [⟨[], .len, [.v 0], 1⟩, ⟨[], .bin .lss, [.v 2, .v 3], 1⟩]) (.ite (.v 4) (.skip) (.seq (.tup []) (.exit 0)))) (.seq (.block 1 (.seq (.seq (.rg [⟨[], .idx [.sc, .sc, .sc], [.v 0, .v 2], 3⟩, ⟨[], .idx [.sc, .sc, .sc], [.v 1, .v 2], 3⟩, ⟨[], .call F_eqAct 0 1, [.v 5, .v 6, .v 7, .v 8, .v 9, .v 10], 1⟩, ⟨[], .un .not, [.v 11], 1⟩]) (.ite (.v 12) (.seq (.rg []) (.ret [.k (.bool false)])) (.skip))) (.tup [.v 0, .v 1, .v 2]))) (.rg [⟨[], .bin .add, [.v 2, .k (.int .i64 1)], 1⟩]))) (.tup [.v 0, .v 1, .v 3])
theorem laws_eqActS_b0_sh (Q : QT) (x0 x1 x2 : V) : shL laws_eqActS_b0 Q [x0, x1, x2] = (
  P1 (.len) [x0] fun v0 =>
  P1 (.bin .lss) [x2, v0] fun v1 =>
  ifB v1 (
    P3 (.idx [.sc, .sc, .sc]) [x0, x2] fun v2 v3 v4 =>
    P3 (.idx [.sc, .sc, .sc]) [x1, x2] fun v5 v6 v7 =>
    P1 (.call F_eqAct 0 1) [v2, v3, v4, v5, v6, v7] fun v8 =>
    P1 (.un .not) [v8] fun v9 =>
    ifB v9 (
      Q .ret [.bool false]) (
      P1 (.bin .add) [x2, .int .i64 1] fun v10 =>
      Q .normal [x0, x1, v10])) (
    Q (.exit 0) [])) := by kernel_rfl

def laws_eqActS_r1 : L := .seq (.rg []) (.ret [.k (.bool true)])
theorem laws_eqActS_r1_sh (Q : QT) : shL laws_eqActS_r1 Q [] = (
  Q .ret [.bool true]) := by kernel_rfl

def laws_eqActS_L : L := .seq (.rg []) (.seq (.seq (.rg [⟨[], .len, [.v 0], 1⟩, ⟨[], .len, [.v 1], 1⟩, ⟨[], .bin .neq, [.v 2, .v 3], 1⟩]) (.ite (.v 4) (.seq (.rg []) (.ret [.k (.bool false)])) (.skip))) (.seq (.seq (.rg []) (.block 0 (.seq (.tup [.v 0, .v 1, .k (.int .i64 0)]) (.loop (laws_eqActS_b0))))) (laws_eqActS_r1)))
theorem laws_eqActS_L_sh (Q : QT) (x0 x1 : V) : shL laws_eqActS_L Q [x0, x1] = (
  P1 (.len) [x0] fun v0 =>
  P1 (.len) [x1] fun v1 =>
  P1 (.bin .neq) [v0, v1] fun v2 =>
  ifB v2 (
    Q .ret [.bool false]) (
    shL (.loop laws_eqActS_b0) (qB 0 (qS (shL laws_eqActS_r1 Q) Q)) [x0, x1, .int .i64 0])) := by kernel_rfl
def laws_eqActS_S : Sig := ⟨[.val false [.sl [.sc, .sc, .sc]], .val false [.sl [.sc, .sc, .sc]]], [(false, [.sc])], F_eqActS⟩
def laws_eqActS_hs : List NF := [⟨[], [], [], 64⟩, ⟨[(0, .sc false [.ro [.sc, .sc, .sc]]), (1, .sc false [.ro [.sc, .sc, .sc]]), (5, .sc false [.sc])], [], [], 64⟩, ⟨[(0, .sc false [.ro [.sc, .sc, .sc]]), (1, .sc false [.ro [.sc, .sc, .sc]]), (5, .sc false [.sc])], [], [], 64⟩]

end
end Go.Mw

/- Acts: memory. -/
namespace Go.Mw
theorem laws_szActS_ok : ∀ ds outs, F_szActS ds = some outs → shL laws_szActS_L (qRet outs) ds := F_szActS_elim fun l n hp => by
  rw [laws_szActS_L_sh]
  simp (disch := omega) [wrap_id]
  grind

theorem laws_toActS_ok : ∀ ds outs, F_toActS ds = some outs → shL laws_toActS_L (qRet outs) ds := F_toActS_elim fun l hp => by
  rw [laws_toActS_L_sh]
  simp
  refine ⟨by omega, ?_⟩
  refine loop_upto l.length (fun k => [vL I3 v3 l, .int .i64 k, vL I3 v3 (l.take k ++ List.replicate (l.length - k) ⟨0, 0, 0⟩)]) (by intro i j _ _ h; simp at h; omega) (fun _ => True) (by simp) trivial ?_
  intro k hk _
  rw [laws_toActS_b0_sh]
  simp
  refine ⟨fun h => ?_, fun h => ?_⟩
  · rw [fill_get h (by omega)]
    simp (disch := omega) [h, fill_set h, wrap_id]
  · obtain rfl : k = l.length := by omega
    simp [laws_toActS_r1_sh]

theorem laws_eqActS_ok : ∀ ds outs, F_eqActS ds = some outs → shL laws_eqActS_L (qRet outs) ds := F_eqActS_elim fun l m hp => by
  rw [laws_eqActS_L_sh]
  simp
  refine ⟨fun h => ?_, fun hl => ?_⟩
  · rintro rfl; omega
  refine loop_upto l.length (fun k => [vL I3 v3 l, vL I3 v3 m, .int .i64 k]) (by intro i j _ _ h; simp at h; omega) (fun k => l.take k = m.take k) (by simp) (by simp) ?_
  intro k hk hP
  rw [laws_eqActS_b0_sh]
  simp
  refine ⟨fun h => ?_, fun h => ?_⟩
  · have h2 : k < m.length := by omega
    simp (disch := omega) [h, h2, wrap_id]
    refine ⟨fun hne he => ?_, fun h3 => ?_⟩
    · subst he; exact hne rfl
    · rw [take_succ_get h, take_succ_get h2, hP, h3]
  · obtain rfl : k = l.length := by omega
    rw [List.take_length, List.take_of_length_le (by omega)] at hP
    simp [laws_eqActS_r1_sh, hP]

end Go.Mw

/- Acts. -/
namespace Go.Mw
end Go.Mw

/- Runs of acts; the laws. -/
namespace Go.Mw
end Go.Mw

/- Replays; the laws on runs. -/
namespace Go.Mw
end Go.Mw

/- The law on runs of acts. -/
namespace Go.Mw
theorem laws_eqAct_ok : ∀ ds outs, F_eqAct ds = some outs → shL laws_eqAct_L (qRet outs) ds := F_eqAct_elim fun x y => by
  rw [laws_eqAct_L_sh]
  cases x; cases y
  simp
  grind
end Go.Mw

/- What functions compute, in plain terms: numbers and fields as texts. -/
namespace Go.Mw
/-! the library -/
def E_strconv_Itoa (n : Int) : List V := [.int .i64 n]
noncomputable def F_strconv_Itoa : List V → Option (List V) := mkF E_strconv_Itoa (fun n => -9223372036854775808 ≤ n ∧ n ≤ 9223372036854775807) (fun n => [.str (Go.Lib.itoa n)])
theorem F_strconv_Itoa_inj : ∀ x y, E_strconv_Itoa x = E_strconv_Itoa y → x = y := by
  rintro n n' h
  simpa [E_strconv_Itoa] using h
theorem p_strconv_Itoa {n : Int} {nr_ : Nat} {kk_ : V → Prop} (hp : -9223372036854775808 ≤ n ∧ n ≤ 9223372036854775807) : P1 (.call F_strconv_Itoa 0 nr_) [.int .i64 n] kk_ ↔ kk_ (.str (Go.Lib.itoa n)) :=
  P1_callF (by unfold F_strconv_Itoa; exact mkF_eq F_strconv_Itoa_inj (n) hp)

def E_strings_Join : List (List UInt8) × List UInt8 → List V := fun (l, s) => [vL I1 vS l, .str s]
noncomputable def F_strings_Join : List V → Option (List V) := mkF E_strings_Join (fun (l, s) => l.length ≤ 140737488355328 ∧ (Go.Lib.join l s).length ≤ 140737488355328) (fun (l, s) => [.str (Go.Lib.join l s)])
theorem F_strings_Join_inj : ∀ x y, E_strings_Join x = E_strings_Join y → x = y := by
  rintro ⟨l, s⟩ ⟨l', s'⟩ h
  simpa [E_strings_Join] using h
theorem p_strings_Join {l : List (List UInt8)} {s : List UInt8} {nr_ : Nat} {kk_ : V → Prop} (hp : l.length ≤ 140737488355328 ∧ (Go.Lib.join l s).length ≤ 140737488355328) : P1 (.call F_strings_Join 0 nr_) [vL I1 vS l, .str s] kk_ ↔ kk_ (.str (Go.Lib.join l s)) :=
  P1_callF (by unfold F_strings_Join; exact mkF_eq F_strings_Join_inj (l, s) hp)

/-! numbers -/
def E_FormatInt (n : Int) : List V := [.int .i64 n]
noncomputable def F_FormatInt : List V → Option (List V) := mkF E_FormatInt (fun n => -9223372036854775808 ≤ n ∧ n ≤ 9223372036854775807) (fun n => [.str (Go.Lib.itoa n)])
theorem F_FormatInt_inj : ∀ x y, E_FormatInt x = E_FormatInt y → x = y := by
  rintro n n' h
  simpa [E_FormatInt] using h
theorem F_FormatInt_elim {P : List V → List V → Prop} (h : ∀ (n : Int), (-9223372036854775808 ≤ n ∧ n ≤ 9223372036854775807) → P [.int .i64 n] [.str (Go.Lib.itoa n)]) : ∀ ds outs, F_FormatInt ds = some outs → P ds outs := by
  intro ds outs hh
  obtain ⟨n, rfl, hp, rfl⟩ := mkF_inv hh
  exact h n hp
theorem p_FormatInt {n : Int} {nr_ : Nat} {kk_ : V → Prop} (hp : -9223372036854775808 ≤ n ∧ n ≤ 9223372036854775807) : P1 (.call F_FormatInt 0 nr_) [.int .i64 n] kk_ ↔ kk_ (.str (Go.Lib.itoa n)) :=
  P1_callF (by unfold F_FormatInt; exact mkF_eq F_FormatInt_inj (n) hp)

def E_l01Figure (n : Int) : List V := [.int .i64 n]
noncomputable def F_l01Figure : List V → Option (List V) := mkF E_l01Figure (fun n => 0 ≤ n ∧ n ≤ 9) (fun n => [.int .u8 ((UInt8.ofNat (48 + n.toNat))).toNat])
theorem F_l01Figure_inj : ∀ x y, E_l01Figure x = E_l01Figure y → x = y := by
  rintro n n' h
  simpa [E_l01Figure] using h
theorem F_l01Figure_elim {P : List V → List V → Prop} (h : ∀ (n : Int), (0 ≤ n ∧ n ≤ 9) → P [.int .i64 n] [.int .u8 ((UInt8.ofNat (48 + n.toNat))).toNat]) : ∀ ds outs, F_l01Figure ds = some outs → P ds outs := by
  intro ds outs hh
  obtain ⟨n, rfl, hp, rfl⟩ := mkF_inv hh
  exact h n hp
theorem p_l01Figure {n : Int} {nr_ : Nat} {kk_ : V → Prop} (hp : 0 ≤ n ∧ n ≤ 9) : P1 (.call F_l01Figure 0 nr_) [.int .i64 n] kk_ ↔ kk_ (.int .u8 ((UInt8.ofNat (48 + n.toNat))).toNat) :=
  P1_callF (by unfold F_l01Figure; exact mkF_eq F_l01Figure_inj (n) hp)

/-! fields -/
/-! acts -/
def actWord (k : Int) : List UInt8 := if k = 1 then [112, 105, 110] else if k = 2 then [112, 117, 108, 108] else if k = 3 then [98, 97, 99, 107] else if k = 4 then [119, 105, 110, 100] else if k = 5 then [112, 108, 97, 121] else [99, 108, 111, 115, 101]
def E_actWord (n : Int) : List V := [.int .i64 n]
noncomputable def F_actWord : List V → Option (List V) := mkF E_actWord (fun _ => True) (fun n => [.str (actWord n)])
theorem F_actWord_inj : ∀ x y, E_actWord x = E_actWord y → x = y := by
  rintro n n' h
  simpa [E_actWord] using h
theorem F_actWord_elim {P : List V → List V → Prop} (h : ∀ (n : Int), P [.int .i64 n] [.str (actWord n)]) : ∀ ds outs, F_actWord ds = some outs → P ds outs := by
  intro ds outs hh
  obtain ⟨n, rfl, -, rfl⟩ := mkF_inv hh
  exact h n
@[simp] theorem p_actWord {n : Int} {nr_ : Nat} {kk_ : V → Prop} : P1 (.call F_actWord 0 nr_) [.int .i64 n] kk_ ↔ kk_ (.str (actWord n)) :=
  P1_callF (by unfold F_actWord; exact mkF_eq F_actWord_inj (n) trivial)

def actNums (k : Int) : Nat := if k = 1 then 2 else if k = 2 ∨ k = 4 then 1 else 0
def E_actNumbers (n : Int) : List V := [.int .i64 n]
noncomputable def F_actNumbers : List V → Option (List V) := mkF E_actNumbers (fun _ => True) (fun n => [.int .i64 (actNums n)])
theorem F_actNumbers_inj : ∀ x y, E_actNumbers x = E_actNumbers y → x = y := by
  rintro n n' h
  simpa [E_actNumbers] using h
theorem F_actNumbers_elim {P : List V → List V → Prop} (h : ∀ (n : Int), P [.int .i64 n] [.int .i64 (actNums n)]) : ∀ ds outs, F_actNumbers ds = some outs → P ds outs := by
  intro ds outs hh
  obtain ⟨n, rfl, -, rfl⟩ := mkF_inv hh
  exact h n
@[simp] theorem p_actNumbers {n : Int} {nr_ : Nat} {kk_ : V → Prop} : P1 (.call F_actNumbers 0 nr_) [.int .i64 n] kk_ ↔ kk_ (.int .i64 (actNums n)) :=
  P1_callF (by unfold F_actNumbers; exact mkF_eq F_actNumbers_inj (n) trivial)

def fmtAct (a : T3) : List UInt8 := if actOk a then actWord a.a ++ (if actNums a.a = 2 then 32 :: (Go.Lib.itoa a.b ++ 32 :: Go.Lib.itoa a.c) else if actNums a.a = 1 then 32 :: Go.Lib.itoa a.b else []) else []
def E_FormatAct (x : T3) : List V := [.int .i64 x.a, .int .i64 x.b, .int .i64 x.c]
noncomputable def F_FormatAct : List V → Option (List V) := mkF E_FormatAct (fun _ => True) (fun x => [.str (fmtAct x), .bool (actOk x)])
theorem F_FormatAct_inj : ∀ x y, E_FormatAct x = E_FormatAct y → x = y := by
  rintro ⟨xa, xb, xc⟩ ⟨xa', xb', xc'⟩ h
  simpa [E_FormatAct] using h
theorem F_FormatAct_elim {P : List V → List V → Prop} (h : ∀ (x : T3), P [.int .i64 x.a, .int .i64 x.b, .int .i64 x.c] [.str (fmtAct x), .bool (actOk x)]) : ∀ ds outs, F_FormatAct ds = some outs → P ds outs := by
  intro ds outs hh
  obtain ⟨x, rfl, -, rfl⟩ := mkF_inv hh
  exact h x
@[simp] theorem p_FormatAct {x_a : Int} {x_b : Int} {x_c : Int} {nr_ : Nat} {kk_ : V → V → Prop} : P2 (.call F_FormatAct 0 nr_) [.int .i64 x_a, .int .i64 x_b, .int .i64 x_c] kk_ ↔ kk_ (.str (fmtAct (⟨x_a, x_b, x_c⟩ : T3))) (.bool (actOk (⟨x_a, x_b, x_c⟩ : T3))) :=
  P2_callF (by unfold F_FormatAct; exact mkF_eq F_FormatAct_inj ((⟨x_a, x_b, x_c⟩ : T3)) trivial)

def scriptTo (l : List T3) : Nat → List UInt8
  | 0 => []
  | k + 1 => match l[k]? with
    | some a => scriptTo l k ++ (fmtAct a ++ [10])
    | none => scriptTo l k
def scriptOk (l : List T3) : Bool := decide (l.length ≤ 40) && l.all actOk
def script (l : List T3) : List UInt8 := if scriptOk l then scriptTo l l.length else []
def E_ScriptText (l : List T3) : List V := [vL I3 v3 l]
noncomputable def F_ScriptText : List V → Option (List V) := mkF E_ScriptText (fun l => l.length ≤ 1048576) (fun l => [.str (script l), .bool (scriptOk l)])
theorem F_ScriptText_inj : ∀ x y, E_ScriptText x = E_ScriptText y → x = y := by
  rintro l l' h
  simpa [E_ScriptText] using h
theorem F_ScriptText_elim {P : List V → List V → Prop} (h : ∀ (l : List T3), (l.length ≤ 1048576) → P [vL I3 v3 l] [.str (script l), .bool (scriptOk l)]) : ∀ ds outs, F_ScriptText ds = some outs → P ds outs := by
  intro ds outs hh
  obtain ⟨l, rfl, hp, rfl⟩ := mkF_inv hh
  exact h l hp
theorem p_ScriptText {l : List T3} {nr_ : Nat} {kk_ : V → V → Prop} (hp : l.length ≤ 1048576) : P2 (.call F_ScriptText 0 nr_) [vL I3 v3 l] kk_ ↔ kk_ (.str (script l)) (.bool (scriptOk l)) :=
  P2_callF (by unfold F_ScriptText; exact mkF_eq F_ScriptText_inj (l) hp)

def E_FnExactFormatAct (x : T3) : List V := [.int .i64 x.a, .int .i64 x.b, .int .i64 x.c]
noncomputable def F_FnExactFormatAct : List V → Option (List V) := mkF E_FnExactFormatAct (fun x => wfI x.a ∧ wfI x.b ∧ wfI x.c) (fun _ => [.bool true])
theorem F_FnExactFormatAct_inj : ∀ x y, E_FnExactFormatAct x = E_FnExactFormatAct y → x = y := by
  rintro ⟨xa, xb, xc⟩ ⟨xa', xb', xc'⟩ h
  simpa [E_FnExactFormatAct] using h
theorem F_FnExactFormatAct_elim {P : List V → List V → Prop} (h : ∀ (x : T3), (wfI x.a ∧ wfI x.b ∧ wfI x.c) → P [.int .i64 x.a, .int .i64 x.b, .int .i64 x.c] [.bool true]) : ∀ ds outs, F_FnExactFormatAct ds = some outs → P ds outs := by
  intro ds outs hh
  obtain ⟨x, rfl, hp, rfl⟩ := mkF_inv hh
  exact h x hp
theorem F_FnExactFormatAct_law : ∀ ds, okTKs [.int .i64, .int .i64, .int .i64] ds → F_FnExactFormatAct ds = some [.bool true] := by
  intro ds g0
  obtain ⟨_, _, rfl, h0, g1⟩ := okTKs_cons g0
  obtain ⟨x_a, rfl, r0⟩ := dec_I h0
  obtain ⟨_, _, rfl, h1, g2⟩ := okTKs_cons g1
  obtain ⟨x_b, rfl, r1⟩ := dec_I h1
  obtain ⟨_, _, rfl, h2, g3⟩ := okTKs_cons g2
  obtain ⟨x_c, rfl, r2⟩ := dec_I h2
  obtain rfl := okTKs_nil g3
  exact mkF_eq F_FnExactFormatAct_inj ((⟨x_a, x_b, x_c⟩ : T3)) ⟨r0, r1, r2⟩

def E_FnExactScriptText (l : List T3) : List V := [vL I3 v3 l]
noncomputable def F_FnExactScriptText : List V → Option (List V) := mkF E_FnExactScriptText (fun l => wfL3 l) (fun _ => [.bool true])
theorem F_FnExactScriptText_inj : ∀ x y, E_FnExactScriptText x = E_FnExactScriptText y → x = y := by
  rintro l l' h
  simpa [E_FnExactScriptText] using h
theorem F_FnExactScriptText_elim {P : List V → List V → Prop} (h : ∀ (l : List T3), (wfL3 l) → P [vL I3 v3 l] [.bool true]) : ∀ ds outs, F_FnExactScriptText ds = some outs → P ds outs := by
  intro ds outs hh
  obtain ⟨l, rfl, hp, rfl⟩ := mkF_inv hh
  exact h l hp
theorem F_FnExactScriptText_law : ∀ ds, okTKs [.list true [.int .i64, .int .i64, .int .i64]] ds → F_FnExactScriptText ds = some [.bool true] := by
  intro ds g0
  obtain ⟨_, _, rfl, h0, g1⟩ := okTKs_cons g0
  obtain ⟨l, rfl, r0⟩ := dec_L3 h0
  obtain rfl := okTKs_nil g1
  exact mkF_eq F_FnExactScriptText_inj (l) r0


end Go.Mw

/- Numerals, in plain terms. -/
namespace Go.Mw
open Go.Lib (decDigits)
theorem dec_small {u : Nat} (h : u < 10) : decDigits u = [UInt8.ofNat (48 + u)] := by rw [decDigits, dif_pos h]
theorem dec_big {u : Nat} (h : ¬ u < 10) : decDigits u = decDigits (u / 10) ++ [UInt8.ofNat (48 + u % 10)] := by rw [decDigits, dif_neg h]
/-- The digits of a number, none for 0. -/
def digs (u : Nat) : List UInt8 := if u = 0 then [] else decDigits u
theorem digs_step {u : Nat} (h : u ≠ 0) : digs u = digs (u / 10) ++ [UInt8.ofNat (48 + u % 10)] := by
  unfold digs
  rw [if_neg h]
  by_cases h2 : u < 10
  · rw [if_pos (by omega), dec_small h2, show u % 10 = u by omega]; rfl
  · rw [if_neg (by omega), dec_big h2]
theorem dig_nat {d : Nat} (h : d < 10) : (UInt8.ofNat (48 + d)).toNat = 48 + d := by
  simp; omega
theorem dec_len : ∀ (k u : Nat), u < 10 ^ (k + 1) → (decDigits u).length ≤ k + 1
  | 0, u, h => by rw [dec_small (by simpa using h)]; simp
  | k + 1, u, h => by
    by_cases h2 : u < 10
    · rw [dec_small h2]; simp
    · rw [dec_big h2, List.length_append]
      have h3 : u < 10 * 10 ^ (k + 1) := by rw [Nat.mul_comm, ← Nat.pow_succ]; exact h
      have := dec_len k (u / 10) (by omega)
      simp only [List.length_singleton]; omega
/-! parsing -/
end Go.Mw

/- Functions of the program, as small pure programs (printed by a program of ours). -/
namespace Go.Mw
noncomputable section
def spec_l01Figure_L : L := .seq (.rg []) (.seq (.seq (.rg [⟨[], .bin .lss, [.v 0, .k (.int .i64 10)], 1⟩]) (.ite (.v 1) (.seq (.rg [⟨[], .bin .add, [.k (.int .i64 48), .v 0], 1⟩, ⟨[], .conv .u8, [.v 2], 1⟩]) (.ret [.v 3])) (.skip))) (.seq (.rg [⟨[], .bin .add, [.k (.int .i64 97), .v 0], 1⟩, ⟨[], .bin .sub, [.v 2, .k (.int .i64 10)], 1⟩, ⟨[], .conv .u8, [.v 3], 1⟩]) (.ret [.v 4])))
theorem spec_l01Figure_L_sh (Q : QT) (x0 : V) : shL spec_l01Figure_L Q [x0] = (
  P1 (.bin .lss) [x0, .int .i64 10] fun v0 =>
  ifB v0 (
    P1 (.bin .add) [.int .i64 48, x0] fun v1 =>
    P1 (.conv .u8) [v1] fun v2 =>
    Q .ret [v2]) (
    P1 (.bin .add) [.int .i64 97, x0] fun v3 =>
    P1 (.bin .sub) [v3, .int .i64 10] fun v4 =>
    P1 (.conv .u8) [v4] fun v5 =>
    Q .ret [v5])) := by kernel_rfl
def spec_l01Figure_S : Sig := ⟨[.val false [.sc]], [(false, [.sc])], F_l01Figure⟩
def spec_l01Figure_hs : List NF := []

def spec_FormatInt_b0 : L := .seq (.seq (.seq (.rg [⟨[], .bin .neq, [.v 0, .k (.int .i64 0)], 1⟩]) (.ite (.v 3) (.skip) (.seq (.tup [.v 1, .v 2]) (.exit 0)))) (.block 1 (.seq (.seq (.rg [⟨[], .bin .rem, [.v 0, .k (.int .i64 10)], 1⟩]) (.seq (.seq (.rg [⟨[], .bin .lss, [.v 4, .k (.int .i64 0)], 1⟩]) (.ite (.v 5) (.seq (.rg [⟨[], .un .neg, [.v 4], 1⟩]) (.tup [.v 0, .v 1, .v 2, .v 6])) (.seq (.skip) (.tup [.v 0, .v 1, .v 2, .v 4])))) (.seq (.rg [⟨[], .call F_l01Figure 0 1, [.v 3], 1⟩, ⟨[], .lst [.sc] false 1, [.v 4], 1⟩, ⟨[], .b2s, [.v 5], 1⟩, ⟨[], .bin .add, [.v 6, .v 2], 1⟩]) (.rg [⟨[], .bin .quo, [.v 0, .k (.int .i64 10)], 1⟩])))) (.tup [.v 8, .v 1, .v 7])))) (.tup [.v 0, .v 1, .v 2])
theorem spec_FormatInt_b0_sh (Q : QT) (x0 x1 x2 : V) : shL spec_FormatInt_b0 Q [x0, x1, x2] = (
  P1 (.bin .neq) [x0, .int .i64 0] fun v0 =>
  ifB v0 (
    P1 (.bin .rem) [x0, .int .i64 10] fun v1 =>
    P1 (.bin .lss) [v1, .int .i64 0] fun v2 =>
    ifB v2 (
      P1 (.un .neg) [v1] fun v3 =>
      P1 (.call F_l01Figure 0 1) [v3] fun v4 =>
      P1 (.lst [.sc] false 1) [v4] fun v5 =>
      P1 (.b2s) [v5] fun v6 =>
      P1 (.bin .add) [v6, x2] fun v7 =>
      P1 (.bin .quo) [x0, .int .i64 10] fun v8 =>
      Q .normal [v8, x1, v7]) (
      P1 (.call F_l01Figure 0 1) [v1] fun v9 =>
      P1 (.lst [.sc] false 1) [v9] fun v10 =>
      P1 (.b2s) [v10] fun v11 =>
      P1 (.bin .add) [v11, x2] fun v12 =>
      P1 (.bin .quo) [x0, .int .i64 10] fun v13 =>
      Q .normal [v13, x1, v12])) (
    Q (.exit 0) [x1, x2])) := by kernel_rfl

def spec_FormatInt_r1 : L := .seq (.seq (.rg []) (.ite (.v 0) (.seq (.rg [⟨[], .bin .add, [.k (.str [45]), .v 1], 1⟩]) (.ret [.v 2])) (.skip))) (.seq (.rg []) (.ret [.v 1]))
theorem spec_FormatInt_r1_sh (Q : QT) (x0 x1 : V) : shL spec_FormatInt_r1 Q [x0, x1] = (
  ifB x0 (
    P1 (.bin .add) [.str [45], x1] fun v0 =>
    Q .ret [v0]) (
    Q .ret [x1])) := by kernel_rfl

def spec_FormatInt_L : L := .seq (.rg []) (.seq (.seq (.rg [⟨[], .bin .eql, [.v 0, .k (.int .i64 0)], 1⟩]) (.ite (.v 1) (.seq (.rg []) (.ret [.k (.str [48])])) (.skip))) (.seq (.rg [⟨[], .bin .lss, [.v 0, .k (.int .i64 0)], 1⟩]) (.seq (.rg []) (.seq (.block 0 (.seq (.tup [.v 0, .v 2, .k (.str [])]) (.loop (spec_FormatInt_b0)))) (spec_FormatInt_r1)))))
theorem spec_FormatInt_L_sh (Q : QT) (x0 : V) : shL spec_FormatInt_L Q [x0] = (
  P1 (.bin .eql) [x0, .int .i64 0] fun v0 =>
  ifB v0 (
    Q .ret [.str [48]]) (
    P1 (.bin .lss) [x0, .int .i64 0] fun v1 =>
    shL (.loop spec_FormatInt_b0) (qB 0 (qS (shL spec_FormatInt_r1 Q) Q)) [x0, v1, .str []])) := by kernel_rfl
def spec_FormatInt_S : Sig := ⟨[.val false [.sc]], [(false, [.sc])], F_FormatInt⟩
def spec_FormatInt_hs : List NF := [⟨[(3, .sc false [.sc]), (4, .sc false [.sc])], [], [], 64⟩, ⟨[(0, .sc false [.sc]), (3, .sc false [.sc]), (4, .sc false [.sc])], [], [], 64⟩, ⟨[(0, .sc false [.sc]), (3, .sc false [.sc]), (4, .sc false [.sc])], [], [], 64⟩, ⟨[(0, .sc false [.sc]), (3, .sc false [.sc]), (4, .sc false [.sc]), (5, .sc false [.sc])], [], [], 64⟩]

def spec_FormatAct_b0 : L := .seq (.seq (.seq (.rg [⟨[], .bin .lss, [.v 2, .v 1], 1⟩]) (.ite (.v 4) (.skip) (.seq (.tup [.v 0]) (.exit 0)))) (.seq (.block 1 (.seq (.rg [⟨[], .bin .add, [.v 0, .k (.str [32])], 1⟩, ⟨[], .idx [.sc], [.v 3, .v 2], 1⟩, ⟨[], .call F_FormatInt 0 1, [.v 6], 1⟩, ⟨[], .bin .add, [.v 5, .v 7], 1⟩]) (.tup [.v 8, .v 1, .v 2, .v 3]))) (.rg [⟨[], .bin .add, [.v 2, .k (.int .i64 1)], 1⟩]))) (.tup [.v 0, .v 1, .v 4, .v 3])
theorem spec_FormatAct_b0_sh (Q : QT) (x0 x1 x2 x3 : V) : shL spec_FormatAct_b0 Q [x0, x1, x2, x3] = (
  P1 (.bin .lss) [x2, x1] fun v0 =>
  ifB v0 (
    P1 (.bin .add) [x0, .str [32]] fun v1 =>
    P1 (.idx [.sc]) [x3, x2] fun v2 =>
    P1 (.call F_FormatInt 0 1) [v2] fun v3 =>
    P1 (.bin .add) [v1, v3] fun v4 =>
    P1 (.bin .add) [x2, .int .i64 1] fun v5 =>
    Q .normal [v4, x1, v5, x3]) (
    Q (.exit 0) [x0])) := by kernel_rfl

def spec_FormatAct_r1 : L := .seq (.rg []) (.ret [.v 0, .k (.bool true)])
theorem spec_FormatAct_r1_sh (Q : QT) (x0 : V) : shL spec_FormatAct_r1 Q [x0] = (
  Q .ret [x0, .bool true]) := by kernel_rfl

def spec_FormatAct_L : L := .seq (.rg []) (.seq (.seq (.rg [⟨[], .call F_ActOk 0 1, [.v 0, .v 1, .v 2], 1⟩, ⟨[], .un .not, [.v 3], 1⟩]) (.ite (.v 4) (.seq (.rg []) (.ret [.k (.str []), .k (.bool false)])) (.skip))) (.seq (.rg [⟨[], .lst [.sc] false 7, [.k (.str []), .k (.str [112, 105, 110]), .k (.str [112, 117, 108, 108]), .k (.str [98, 97, 99, 107]), .k (.str [119, 105, 110, 100]), .k (.str [112, 108, 97, 121]), .k (.str [99, 108, 111, 115, 101])], 1⟩, ⟨[], .idx [.sc], [.v 5, .v 0], 1⟩]) (.seq (.rg [⟨[], .lst [.sc] false 7, [.k (.int .i64 0), .k (.int .i64 2), .k (.int .i64 1), .k (.int .i64 0), .k (.int .i64 1), .k (.int .i64 0), .k (.int .i64 0)], 1⟩, ⟨[], .idx [.sc], [.v 7, .v 0], 1⟩]) (.seq (.rg [⟨[], .lst [.sc] false 2, [.v 1, .v 2], 1⟩]) (.seq (.seq (.rg []) (.block 0 (.seq (.tup [.v 6, .v 8, .k (.int .i64 0), .v 9]) (.loop (spec_FormatAct_b0))))) (spec_FormatAct_r1))))))
theorem spec_FormatAct_L_sh (Q : QT) (x0 x1 x2 : V) : shL spec_FormatAct_L Q [x0, x1, x2] = (
  P1 (.call F_ActOk 0 1) [x0, x1, x2] fun v0 =>
  P1 (.un .not) [v0] fun v1 =>
  ifB v1 (
    Q .ret [.str [], .bool false]) (
    P1 (.lst [.sc] false 7) [.str [], .str [112, 105, 110], .str [112, 117, 108, 108], .str [98, 97, 99, 107], .str [119, 105, 110, 100], .str [112, 108, 97, 121], .str [99, 108, 111, 115, 101]] fun v2 =>
    P1 (.idx [.sc]) [v2, x0] fun v3 =>
    P1 (.lst [.sc] false 7) [.int .i64 0, .int .i64 2, .int .i64 1, .int .i64 0, .int .i64 1, .int .i64 0, .int .i64 0] fun v4 =>
    P1 (.idx [.sc]) [v4, x0] fun v5 =>
    P1 (.lst [.sc] false 2) [x1, x2] fun v6 =>
    shL (.loop spec_FormatAct_b0) (qB 0 (qS (shL spec_FormatAct_r1 Q) Q)) [v3, v5, .int .i64 0, v6])) := by kernel_rfl
def spec_FormatAct_S : Sig := ⟨[.val true [.sc, .sc, .sc]], [(false, [.sc]), (false, [.sc])], F_FormatAct⟩
def spec_FormatAct_hs : List NF := [⟨[(4, .sc false [.sc])], [], [], 64⟩, ⟨[(4, .sc false [.sc]), (5, .sc false [.sc]), (6, .sc false [.own 64]), (7, .sc false [.sc])], [(64, true, [.sc])], [], 65⟩, ⟨[(4, .sc false [.sc]), (5, .sc false [.sc]), (6, .sc false [.own 64]), (7, .sc false [.sc])], [(64, true, [.sc])], [], 65⟩]

def impl_actWord_L : L := .seq (.rg []) (.seq (.seq (.rg []) (.block 0 (.seq (.seq (.rg [⟨[], .bin .eql, [.v 0, .k (.int .i64 1)], 1⟩]) (.ite (.v 1) (.seq (.rg []) (.ret [.k (.str [112, 105, 110])])) (.seq (.rg [⟨[], .bin .eql, [.v 0, .k (.int .i64 2)], 1⟩]) (.ite (.v 2) (.seq (.rg []) (.ret [.k (.str [112, 117, 108, 108])])) (.seq (.rg [⟨[], .bin .eql, [.v 0, .k (.int .i64 3)], 1⟩]) (.ite (.v 3) (.seq (.rg []) (.ret [.k (.str [98, 97, 99, 107])])) (.seq (.rg [⟨[], .bin .eql, [.v 0, .k (.int .i64 4)], 1⟩]) (.ite (.v 4) (.seq (.rg []) (.ret [.k (.str [119, 105, 110, 100])])) (.seq (.rg [⟨[], .bin .eql, [.v 0, .k (.int .i64 5)], 1⟩]) (.ite (.v 5) (.seq (.rg []) (.ret [.k (.str [112, 108, 97, 121])])) (.skip))))))))))) (.tup [])))) (.seq (.rg []) (.ret [.k (.str [99, 108, 111, 115, 101])])))
theorem impl_actWord_L_sh (Q : QT) (x0 : V) : shL impl_actWord_L Q [x0] = (
  P1 (.bin .eql) [x0, .int .i64 1] fun v0 =>
  ifB v0 (
    Q .ret [.str [112, 105, 110]]) (
    P1 (.bin .eql) [x0, .int .i64 2] fun v1 =>
    ifB v1 (
      Q .ret [.str [112, 117, 108, 108]]) (
      P1 (.bin .eql) [x0, .int .i64 3] fun v2 =>
      ifB v2 (
        Q .ret [.str [98, 97, 99, 107]]) (
        P1 (.bin .eql) [x0, .int .i64 4] fun v3 =>
        ifB v3 (
          Q .ret [.str [119, 105, 110, 100]]) (
          P1 (.bin .eql) [x0, .int .i64 5] fun v4 =>
          ifB v4 (
            Q .ret [.str [112, 108, 97, 121]]) (
            Q .ret [.str [99, 108, 111, 115, 101]])))))) := by kernel_rfl
def impl_actWord_S : Sig := ⟨[.val false [.sc]], [(false, [.sc])], F_actWord⟩
def impl_actWord_hs : List NF := [⟨[], [], [], 64⟩]

def impl_FormatInt_L : L := .seq (.rg []) (.seq (.rg [⟨[], .call F_strconv_Itoa 0 1, [.v 0], 1⟩]) (.ret [.v 1]))
theorem impl_FormatInt_L_sh (Q : QT) (x0 : V) : shL impl_FormatInt_L Q [x0] = (
  P1 (.call F_strconv_Itoa 0 1) [x0] fun v0 =>
  Q .ret [v0]) := by kernel_rfl
def impl_FormatInt_S : Sig := ⟨[.val false [.sc]], [(false, [.sc])], F_FormatInt⟩
def impl_FormatInt_hs : List NF := []

def impl_actNumbers_L : L := .seq (.rg []) (.seq (.seq (.rg []) (.block 0 (.seq (.seq (.rg [⟨[], .bin .eql, [.v 0, .k (.int .i64 1)], 1⟩]) (.ite (.v 1) (.seq (.rg []) (.ret [.k (.int .i64 2)])) (.seq (.seq (.rg [⟨[], .bin .eql, [.v 0, .k (.int .i64 2)], 1⟩]) (.ite (.v 2) (.seq (.skip) (.tup [.v 2])) (.seq (.rg [⟨[], .bin .eql, [.v 0, .k (.int .i64 4)], 1⟩]) (.tup [.v 3])))) (.ite (.v 0) (.seq (.rg []) (.ret [.k (.int .i64 1)])) (.skip))))) (.tup [])))) (.seq (.rg []) (.ret [.k (.int .i64 0)])))
theorem impl_actNumbers_L_sh (Q : QT) (x0 : V) : shL impl_actNumbers_L Q [x0] = (
  P1 (.bin .eql) [x0, .int .i64 1] fun v0 =>
  ifB v0 (
    Q .ret [.int .i64 2]) (
    P1 (.bin .eql) [x0, .int .i64 2] fun v1 =>
    ifB v1 (
      Q .ret [.int .i64 1]) (
      P1 (.bin .eql) [x0, .int .i64 4] fun v2 =>
      ifB v2 (
        Q .ret [.int .i64 1]) (
        Q .ret [.int .i64 0])))) := by kernel_rfl
def impl_actNumbers_S : Sig := ⟨[.val false [.sc]], [(false, [.sc])], F_actNumbers⟩
def impl_actNumbers_hs : List NF := [⟨[], [], [], 64⟩, ⟨[(6, .sc false [.sc])], [], [], 64⟩]

def impl_FormatAct_L : L := .seq (.rg []) (.seq (.seq (.rg [⟨[], .call F_ActOk 0 1, [.v 0, .v 1, .v 2], 1⟩, ⟨[], .un .not, [.v 3], 1⟩]) (.ite (.v 4) (.seq (.rg []) (.ret [.k (.str []), .k (.bool false)])) (.skip))) (.seq (.rg [⟨[], .call F_actWord 0 1, [.v 0], 1⟩, ⟨[], .call F_FormatInt 0 1, [.v 1], 1⟩, ⟨[], .call F_FormatInt 0 1, [.v 2], 1⟩, ⟨[], .lst [.sc] false 3, [.v 5, .v 6, .v 7], 1⟩]) (.seq (.rg [⟨[], .call F_actNumbers 0 1, [.v 0], 1⟩, ⟨[], .bin .add, [.k (.int .i64 1), .v 9], 1⟩, ⟨[], .lsub [.sc], [.v 8, .k (.int .i64 0), .v 10], 1⟩, ⟨[], .call F_strings_Join 0 1, [.v 11, .k (.str [32])], 1⟩]) (.ret [.v 12, .k (.bool true)]))))
theorem impl_FormatAct_L_sh (Q : QT) (x0 x1 x2 : V) : shL impl_FormatAct_L Q [x0, x1, x2] = (
  P1 (.call F_ActOk 0 1) [x0, x1, x2] fun v0 =>
  P1 (.un .not) [v0] fun v1 =>
  ifB v1 (
    Q .ret [.str [], .bool false]) (
    P1 (.call F_actWord 0 1) [x0] fun v2 =>
    P1 (.call F_FormatInt 0 1) [x1] fun v3 =>
    P1 (.call F_FormatInt 0 1) [x2] fun v4 =>
    P1 (.lst [.sc] false 3) [v2, v3, v4] fun v5 =>
    P1 (.call F_actNumbers 0 1) [x0] fun v6 =>
    P1 (.bin .add) [.int .i64 1, v6] fun v7 =>
    P1 (.lsub [.sc]) [v5, .int .i64 0, v7] fun v8 =>
    P1 (.call F_strings_Join 0 1) [v8, .str [32]] fun v9 =>
    Q .ret [v9, .bool true])) := by kernel_rfl
def impl_FormatAct_S : Sig := ⟨[.val true [.sc, .sc, .sc]], [(false, [.sc]), (false, [.sc])], F_FormatAct⟩
def impl_FormatAct_hs : List NF := []

def laws_FnExactFormatAct_L : L := .seq (.rg []) (.seq (.rg [⟨[], .call F_toAct 0 3, [.v 0, .v 1, .v 2], 3⟩, ⟨[], .call F_FormatAct 0 2, [.v 3, .v 4, .v 5], 2⟩]) (.seq (.rg [⟨[], .call F_toAct 0 3, [.v 0, .v 1, .v 2], 3⟩, ⟨[], .call F_FormatAct 0 2, [.v 8, .v 9, .v 10], 2⟩]) (.seq (.seq (.rg [⟨[], .bin .neq, [.v 11, .v 6], 1⟩, ⟨[(.v 13, false)], .binb .neq, [.v 12, .v 7], 1⟩, ⟨[], .pick, [.v 13, .k (.bool true), .v 14], 1⟩]) (.ite (.v 15) (.seq (.rg []) (.ret [.k (.bool false)])) (.skip))) (.seq (.rg []) (.ret [.k (.bool true)])))))
theorem laws_FnExactFormatAct_L_sh (Q : QT) (x0 x1 x2 : V) : shL laws_FnExactFormatAct_L Q [x0, x1, x2] = (
  P3 (.call F_toAct 0 3) [x0, x1, x2] fun v0 v1 v2 =>
  P2 (.call F_FormatAct 0 2) [v0, v1, v2] fun v3 v4 =>
  P3 (.call F_toAct 0 3) [x0, x1, x2] fun v5 v6 v7 =>
  P2 (.call F_FormatAct 0 2) [v5, v6, v7] fun v8 v9 =>
  P1 (.bin .neq) [v8, v3] fun v10 =>
  ifB v10 (
    Q .ret [.bool false]) (
    P1 (.binb .neq) [v9, v4] fun v11 =>
    ifB v11 (
      Q .ret [.bool false]) (
      Q .ret [.bool true]))) := by kernel_rfl
def laws_FnExactFormatAct_S : Sig := ⟨[.val true [.sc, .sc, .sc]], [(false, [.sc])], F_FnExactFormatAct⟩
def laws_FnExactFormatAct_hs : List NF := []

def spec_ScriptText_b0 : L := .seq (.seq (.seq (.rg [⟨[], .len, [.v 0], 1⟩, ⟨[], .bin .lss, [.v 1, .v 3], 1⟩]) (.ite (.v 4) (.skip) (.seq (.tup [.v 2]) (.exit 0)))) (.seq (.block 1 (.seq (.seq (.rg [⟨[], .idx [.sc, .sc, .sc], [.v 0, .v 1], 3⟩, ⟨[], .call F_FormatAct 0 2, [.v 5, .v 6, .v 7], 2⟩]) (.seq (.seq (.rg [⟨[], .un .not, [.v 9], 1⟩, ⟨[(.v 10, false)], .len, [.v 0], 1⟩, ⟨[(.v 10, false)], .bin .gtr, [.v 11, .k (.int .i64 40)], 1⟩, ⟨[], .pick, [.v 10, .k (.bool true), .v 12], 1⟩]) (.ite (.v 13) (.seq (.rg []) (.ret [.k (.str []), .k (.bool false)])) (.skip))) (.rg [⟨[], .bin .add, [.v 8, .k (.str [10])], 1⟩, ⟨[], .apps 1, [.v 2, .v 14], 1⟩]))) (.tup [.v 0, .v 1, .v 15]))) (.rg [⟨[], .bin .add, [.v 1, .k (.int .i64 1)], 1⟩]))) (.tup [.v 0, .v 3, .v 2])
theorem spec_ScriptText_b0_sh (Q : QT) (x0 x1 x2 : V) : shL spec_ScriptText_b0 Q [x0, x1, x2] = (
  P1 (.len) [x0] fun v0 =>
  P1 (.bin .lss) [x1, v0] fun v1 =>
  ifB v1 (
    P3 (.idx [.sc, .sc, .sc]) [x0, x1] fun v2 v3 v4 =>
    P2 (.call F_FormatAct 0 2) [v2, v3, v4] fun v5 v6 =>
    P1 (.un .not) [v6] fun v7 =>
    ifB v7 (
      Q .ret [.str [], .bool false]) (
      P1 (.len) [x0] fun v8 =>
      P1 (.bin .gtr) [v8, .int .i64 40] fun v9 =>
      ifB v9 (
        Q .ret [.str [], .bool false]) (
        P1 (.bin .add) [v5, .str [10]] fun v10 =>
        P1 (.apps 1) [x2, v10] fun v11 =>
        P1 (.bin .add) [x1, .int .i64 1] fun v12 =>
        Q .normal [x0, v12, v11]))) (
    Q (.exit 0) [x2])) := by kernel_rfl

def spec_ScriptText_r1 : L := .seq (.rg [⟨[], .b2s, [.v 0], 1⟩]) (.ret [.v 1, .k (.bool true)])
theorem spec_ScriptText_r1_sh (Q : QT) (x0 : V) : shL spec_ScriptText_r1 Q [x0] = (
  P1 (.b2s) [x0] fun v0 =>
  Q .ret [v0, .bool true]) := by kernel_rfl

def spec_ScriptText_L : L := .seq (.rg []) (.seq (.rg [⟨[], .lst [.sc] false 0, [], 1⟩]) (.seq (.seq (.rg []) (.block 0 (.seq (.tup [.v 0, .k (.int .i64 0), .v 1]) (.loop (spec_ScriptText_b0))))) (spec_ScriptText_r1)))
theorem spec_ScriptText_L_sh (Q : QT) (x0 : V) : shL spec_ScriptText_L Q [x0] = (
  P1 (.lst [.sc] false 0) [] fun v0 =>
  shL (.loop spec_ScriptText_b0) (qB 0 (qS (shL spec_ScriptText_r1 Q) Q)) [x0, .int .i64 0, v0]) := by kernel_rfl
def spec_ScriptText_S : Sig := ⟨[.val false [.sl [.sc, .sc, .sc]]], [(false, [.sc]), (false, [.sc])], F_ScriptText⟩
def spec_ScriptText_hs : List NF := [⟨[(4, .sc false [.own 64])], [(64, true, [.sc])], [], 65⟩, ⟨[(0, .sc false [.ro [.sc, .sc, .sc]]), (4, .sc false [.own 64]), (5, .sc false [.sc])], [(64, true, [.sc])], [], 65⟩, ⟨[(0, .sc false [.ro [.sc, .sc, .sc]]), (4, .sc false [.own 64]), (5, .sc false [.sc])], [(64, true, [.sc])], [], 65⟩]

def impl_ScriptText_b0 : L := .seq (.seq (.rg [⟨[], .bin .lss, [.v 3, .v 2], 1⟩]) (.seq (.ite (.v 4) (.skip) (.seq (.tup [.v 0]) (.exit 0))) (.seq (.block 1 (.seq (.seq (.rg [⟨[], .idx [.sc, .sc, .sc], [.v 1, .v 3], 3⟩]) (.seq (.rg [⟨[], .call F_FormatAct 0 2, [.v 5, .v 6, .v 7], 2⟩]) (.seq (.seq (.rg [⟨[], .un .not, [.v 9], 1⟩]) (.ite (.v 10) (.seq (.rg []) (.ret [.k (.str []), .k (.bool false)])) (.skip))) (.rg [⟨[], .bin .add, [.v 8, .k (.str [10])], 1⟩, ⟨[], .bin .add, [.v 0, .v 11], 1⟩])))) (.tup [.v 12, .v 1, .v 2, .v 3]))) (.rg [⟨[], .bin .add, [.v 3, .k (.int .i64 1)], 1⟩])))) (.tup [.v 0, .v 1, .v 2, .v 4])
theorem impl_ScriptText_b0_sh (Q : QT) (x0 x1 x2 x3 : V) : shL impl_ScriptText_b0 Q [x0, x1, x2, x3] = (
  P1 (.bin .lss) [x3, x2] fun v0 =>
  ifB v0 (
    P3 (.idx [.sc, .sc, .sc]) [x1, x3] fun v1 v2 v3 =>
    P2 (.call F_FormatAct 0 2) [v1, v2, v3] fun v4 v5 =>
    P1 (.un .not) [v5] fun v6 =>
    ifB v6 (
      Q .ret [.str [], .bool false]) (
      P1 (.bin .add) [v4, .str [10]] fun v7 =>
      P1 (.bin .add) [x0, v7] fun v8 =>
      P1 (.bin .add) [x3, .int .i64 1] fun v9 =>
      Q .normal [v8, x1, x2, v9])) (
    Q (.exit 0) [x0])) := by kernel_rfl

def impl_ScriptText_r1 : L := .seq (.rg []) (.ret [.v 0, .k (.bool true)])
theorem impl_ScriptText_r1_sh (Q : QT) (x0 : V) : shL impl_ScriptText_r1 Q [x0] = (
  Q .ret [x0, .bool true]) := by kernel_rfl

def impl_ScriptText_L : L := .seq (.rg []) (.seq (.seq (.rg [⟨[], .len, [.v 0], 1⟩, ⟨[], .bin .gtr, [.v 1, .k (.int .i64 40)], 1⟩]) (.ite (.v 2) (.seq (.rg []) (.ret [.k (.str []), .k (.bool false)])) (.skip))) (.seq (.rg []) (.seq (.seq (.rg [⟨[], .len, [.v 0], 1⟩]) (.block 0 (.seq (.tup [.k (.str []), .v 0, .v 3, .k (.int .i64 0)]) (.loop (impl_ScriptText_b0))))) (impl_ScriptText_r1))))
theorem impl_ScriptText_L_sh (Q : QT) (x0 : V) : shL impl_ScriptText_L Q [x0] = (
  P1 (.len) [x0] fun v0 =>
  P1 (.bin .gtr) [v0, .int .i64 40] fun v1 =>
  ifB v1 (
    Q .ret [.str [], .bool false]) (
    P1 (.len) [x0] fun v2 =>
    shL (.loop impl_ScriptText_b0) (qB 0 (qS (shL impl_ScriptText_r1 Q) Q)) [.str [], x0, v2, .int .i64 0])) := by kernel_rfl
def impl_ScriptText_S : Sig := ⟨[.val false [.sl [.sc, .sc, .sc]]], [(false, [.sc]), (false, [.sc])], F_ScriptText⟩
def impl_ScriptText_hs : List NF := [⟨[(4, .sc false [.sc])], [], [], 64⟩, ⟨[(4, .sc false [.sc]), (12, .sc false [.ro [.sc, .sc, .sc]]), (13, .sc false [.sc]), (14, .sc false [.sc])], [], [], 64⟩, ⟨[(4, .sc false [.sc]), (12, .sc false [.ro [.sc, .sc, .sc]]), (13, .sc false [.sc]), (14, .sc false [.sc])], [], [], 64⟩]

def laws_FnExactScriptText_L : L := .seq (.rg []) (.seq (.rg []) (.seq (.rg [⟨[], .call F_szActS 0 1, [.v 0, .k (.int .i64 1048576)], 1⟩]) (.seq (.seq (.rg [⟨[], .bin .lss, [.v 1, .k (.int .i64 0)], 1⟩]) (.ite (.v 2) (.seq (.rg []) (.ret [.k (.bool true)])) (.skip))) (.seq (.rg [⟨[], .call F_toActS 0 1, [.v 0], 1⟩, ⟨[], .call F_ScriptText 0 2, [.v 3], 2⟩]) (.seq (.rg [⟨[], .call F_toActS 0 1, [.v 0], 1⟩]) (.seq (.rg [⟨[], .call F_ScriptText 0 2, [.v 6], 2⟩]) (.seq (.seq (.rg [⟨[], .bin .neq, [.v 7, .v 4], 1⟩, ⟨[(.v 9, false)], .binb .neq, [.v 8, .v 5], 1⟩, ⟨[], .pick, [.v 9, .k (.bool true), .v 10], 1⟩]) (.ite (.v 11) (.seq (.rg []) (.ret [.k (.bool false)])) (.skip))) (.seq (.seq (.rg [⟨[], .call F_toActS 0 1, [.v 0], 1⟩, ⟨[], .call F_eqActS 0 1, [.v 6, .v 12], 1⟩, ⟨[], .un .not, [.v 13], 1⟩]) (.ite (.v 14) (.seq (.rg []) (.ret [.k (.bool false)])) (.skip))) (.seq (.rg []) (.ret [.k (.bool true)]))))))))))
theorem laws_FnExactScriptText_L_sh (Q : QT) (x0 : V) : shL laws_FnExactScriptText_L Q [x0] = (
  P1 (.call F_szActS 0 1) [x0, .int .i64 1048576] fun v0 =>
  P1 (.bin .lss) [v0, .int .i64 0] fun v1 =>
  ifB v1 (
    Q .ret [.bool true]) (
    P1 (.call F_toActS 0 1) [x0] fun v2 =>
    P2 (.call F_ScriptText 0 2) [v2] fun v3 v4 =>
    P1 (.call F_toActS 0 1) [x0] fun v5 =>
    P2 (.call F_ScriptText 0 2) [v5] fun v6 v7 =>
    P1 (.bin .neq) [v6, v3] fun v8 =>
    ifB v8 (
      Q .ret [.bool false]) (
      P1 (.binb .neq) [v7, v4] fun v9 =>
      ifB v9 (
        Q .ret [.bool false]) (
        P1 (.call F_toActS 0 1) [x0] fun v10 =>
        P1 (.call F_eqActS 0 1) [v5, v10] fun v11 =>
        P1 (.un .not) [v11] fun v12 =>
        ifB v12 (
          Q .ret [.bool false]) (
          Q .ret [.bool true]))))) := by kernel_rfl
def laws_FnExactScriptText_S : Sig := ⟨[.val false [.sl [.sc, .sc, .sc]]], [(false, [.sc])], F_FnExactScriptText⟩
def laws_FnExactScriptText_hs : List NF := []

end
end Go.Mw

/- Numbers and acts as texts. -/
namespace Go.Mw
open Go.Lib (decDigits itoa)
section
variable {k : V → Prop}
@[simp] theorem P1_addS {x y : List UInt8} : P1 (.bin .add) [.str x, .str y] k ↔ x.length + y.length ≤ 1073741824 ∧ k (.str (x ++ y)) := P1_opt (by simp [Prim.run, binV, binS]) k
@[simp] theorem P1_neqS {x y : List UInt8} : P1 (.bin .neq) [.str x, .str y] k ↔ k (.bool (!(x == y))) := P1_of (by simp [Prim.run, binV, binS]) k
@[simp] theorem P1_eqlS {x y : List UInt8} : P1 (.bin .eql) [.str x, .str y] k ↔ k (.bool (x == y)) := P1_of (by simp [Prim.run, binV, binS]) k
@[simp] theorem P1_lstY1 {b : UInt8} : P1 (.lst [.sc] false 1) [.int .u8 b.toNat] k ↔ k (vL I1 vY [b]) := P1_of (by simp [Prim.run, aksOk, akOk, chunk, V.pack, vL, vY]) k
@[simp] theorem P1_lstS3 {a b c : List UInt8} : P1 (.lst [.sc] false 3) [.str a, .str b, .str c] k ↔ k (vL I1 vS [a, b, c]) := P1_of (by simp [Prim.run, aksOk, akOk, chunk, V.pack, vL, vS]) k
@[simp] theorem P1_lstS7 {a b c d e f g : List UInt8} : P1 (.lst [.sc] false 7) [.str a, .str b, .str c, .str d, .str e, .str f, .str g] k ↔ k (vL I1 vS [a, b, c, d, e, f, g]) := P1_of (by simp [Prim.run, aksOk, akOk, chunk, V.pack, vL, vS]) k
@[simp] theorem P1_lstI7 {a b c d e f g : Int} : P1 (.lst [.sc] false 7) [.int .i64 a, .int .i64 b, .int .i64 c, .int .i64 d, .int .i64 e, .int .i64 f, .int .i64 g] k ↔ k (vL I1 v1 [a, b, c, d, e, f, g]) := P1_of (by simp [Prim.run, aksOk, akOk, chunk, V.pack, vL, v1]) k
theorem bytesV_map : ∀ l : List UInt8, bytesV (l.map vY) = some l
  | [] => rfl
  | b :: r => by
    have ih := bytesV_map r
    simp only [List.map_cons, vY, bytesV, Option.map_eq_some_iff]
    exact ⟨r, ih, by simp⟩
@[simp] theorem P1_b2s {l : List UInt8} : P1 .b2s [vL I1 vY l] k ↔ k (.str l) := P1_of (by simp [Prim.run, vL, bytesV_map]) k
end
theorem wrap_u8 {x : Int} (h0 : 0 ≤ x) (h1 : x < 256) : IntKind.u8.wrap x = x := by
  simp [IntKind.wrap, IntKind.bits, IntKind.signed]; omega

theorem spec_l01Figure_ok : ∀ ds outs, F_l01Figure ds = some outs → shL spec_l01Figure_L (qRet outs) ds := F_l01Figure_elim fun n hp => by
  rw [spec_l01Figure_L_sh]
  have w1 : IntKind.i64.wrap (48 + n) = 48 + n := wrap_id (by omega) (by omega)
  have w2 : IntKind.u8.wrap (48 + n) = ((48 + n.toNat : Nat) : Int) := by rw [wrap_u8 (by omega) (by omega)]; omega
  have e : ((UInt8.ofNat (48 + n.toNat)).toNat : Int) = ((48 + n.toNat : Nat) : Int) := by rw [dig_nat (by omega)]
  simp only [P1_lss, ifB_bool, P1_add, P1_conv, w1, w2, e, decide_eq_true_eq, decide_eq_false_iff_not]
  exact ⟨fun _ => by simp, fun h => absurd hp.2 (by omega)⟩
theorem digs_len (u : Nat) (h : u < 10 ^ 20) : (digs u).length ≤ 20 := by
  unfold digs
  split
  · simp
  · exact dec_len 19 u h
theorem spec_FormatInt_ok : ∀ ds outs, F_FormatInt ds = some outs → shL spec_FormatInt_L (qRet outs) ds := F_FormatInt_elim fun n hp => by
  rw [spec_FormatInt_L_sh]
  simp only [P1_eql, ifB_bool, P1_lss, beq_iff_eq, beq_eq_false_iff_ne]
  refine ⟨fun h => by subst h; simp [itoa, dec_small (show 0 < 10 by omega)], fun hn => ?_⟩
  have hL := digs_len n.natAbs (by omega)
  refine loop_st (σ := Int × List UInt8) (fun s => [.int .i64 s.1, .bool (decide (n < 0)), .str s.2]) (fun a b h => by simpa [Prod.ext_iff] using h)
    (fun s => (-9223372036854775808 ≤ s.1 ∧ s.1 ≤ 9223372036854775807) ∧ digs s.1.natAbs ++ s.2 = digs n.natAbs) (fun s => s.1.natAbs) (n, []) rfl ⟨hp, by simp⟩ ?_
  rintro ⟨m, s⟩ ⟨hm, hs⟩
  simp only at hm hs ⊢
  have hsl : s.length ≤ 20 := by have := congrArg List.length hs; rw [List.length_append] at this; omega
  rw [spec_FormatInt_b0_sh]
  simp only [P1_neq, ifB_bool, bne_iff_ne, ne_eq]
  refine ⟨fun h => ?_, fun h => ?_⟩
  · have hd1 : (m.tmod 10).natAbs = m.natAbs % 10 := Int.natAbs_tmod m 10
    have hq1 : (m.tdiv 10).natAbs = m.natAbs / 10 := Int.natAbs_tdiv m 10
    have hu : m.natAbs ≠ 0 := by omega
    have hstep := digs_step hu
    have wq : IntKind.i64.wrap (m.tdiv 10) = m.tdiv 10 := wrap_id (by omega) (by omega)
    have hinv : digs (m.tdiv 10).natAbs ++ (UInt8.ofNat (48 + m.natAbs % 10) :: s) = digs n.natAbs := by
      rw [hq1, ← hs, hstep, List.append_assoc]; rfl
    have hlt : (m.tdiv 10).natAbs < m.natAbs := by rw [hq1]; omega
    simp only [P1_rem, P1_lss, ifB_bool, decide_eq_true_eq, decide_eq_false_iff_not, P1_neg]
    refine ⟨by decide, fun hneg => ?_, fun hneg => ?_⟩
    · have w1 : IntKind.i64.wrap (0 - m.tmod 10) = ((m.natAbs % 10 : Nat) : Int) := by rw [wrap_id (by omega) (by omega)]; omega
      rw [w1, p_l01Figure (by omega)]
      simp only [P1_lstY1, P1_b2s, P1_addS, P1_quo, wq, Int.toNat_natCast, qS_normal, List.length_singleton]
      refine ⟨by omega, by decide, (m.tdiv 10, UInt8.ofNat (48 + m.natAbs % 10) :: s), rfl, ⟨by omega, hinv⟩, hlt⟩
    · have w1 : m.tmod 10 = ((m.natAbs % 10 : Nat) : Int) := by omega
      rw [w1, p_l01Figure (by omega)]
      simp only [P1_lstY1, P1_b2s, P1_addS, P1_quo, wq, Int.toNat_natCast, qS_normal, List.length_singleton]
      refine ⟨by omega, by decide, (m.tdiv 10, UInt8.ofNat (48 + m.natAbs % 10) :: s), rfl, ⟨by omega, hinv⟩, hlt⟩
  · have h0 : m = 0 := by simpa using h
    subst h0
    have hs' : s = decDigits n.natAbs := by
      rw [← List.nil_append s]
      have : digs n.natAbs = decDigits n.natAbs := by unfold digs; rw [if_neg (by omega)]
      rw [← this, ← hs]; rfl
    simp only [qS_exit, qB_exit, if_true, qS_normal, spec_FormatInt_r1_sh, ifB_bool, decide_eq_true_eq, decide_eq_false_iff_not, P1_addS]
    refine ⟨fun hneg => ⟨by simp only [List.length_singleton]; omega, ?_⟩, fun hneg => ?_⟩
    · simp [itoa, hneg, hs']
    · have : n.toNat = n.natAbs := by omega
      simp [itoa, hneg, hs', this]
theorem impl_FormatInt_ok : ∀ ds outs, F_FormatInt ds = some outs → shL impl_FormatInt_L (qRet outs) ds := F_FormatInt_elim fun n hp => by
  rw [impl_FormatInt_L_sh, p_strconv_Itoa hp]
  simp
theorem impl_actWord_ok : ∀ ds outs, F_actWord ds = some outs → shL impl_actWord_L (qRet outs) ds := F_actWord_elim fun n => by
  rw [impl_actWord_L_sh]
  simp only [P1_eql, ifB_bool, beq_iff_eq, beq_eq_false_iff_ne, qRet_ret, actWord]
  refine ⟨fun h => by simp [h], fun h1 => ⟨fun h => by simp [h], fun h2 => ⟨fun h => by simp [h], fun h3 => ⟨fun h => by simp [h], fun h4 => ⟨fun h => by simp [h], fun h5 => ?_⟩⟩⟩⟩⟩
  rw [if_neg h1, if_neg h2, if_neg h3, if_neg h4, if_neg h5]
theorem impl_actNumbers_ok : ∀ ds outs, F_actNumbers ds = some outs → shL impl_actNumbers_L (qRet outs) ds := F_actNumbers_elim fun n => by
  rw [impl_actNumbers_L_sh]
  simp only [P1_eql, ifB_bool, beq_iff_eq, beq_eq_false_iff_ne, qRet_ret, actNums]
  refine ⟨fun h => by simp [h], fun h1 => ⟨fun h => by simp [h], fun h2 => ⟨fun h => by simp [h], fun h3 => ?_⟩⟩⟩
  simp [h1, h2, h3]

/-! acts -/
theorem actOk_kind {a : T3} (h : actOk a = true) : 1 ≤ a.a ∧ a.a ≤ 6 ∧ (0 ≤ a.b ∧ a.b ≤ 100) ∧ 0 ≤ a.c ∧ a.c ≤ 100 := by
  unfold actOk within at h
  split at h
  · simp at h; omega
  · split at h
    · simp at h; omega
    · split at h
      · simp at h; omega
      · split at h
        · simp at h; omega
        · cases h
theorem itoa_len {n : Int} (h0 : 0 ≤ n) (h1 : n ≤ 100) : (itoa n).length ≤ 21 := Go.Lib.itoa_length_le n (by omega) (by omega)
theorem actWord_len (n : Int) : (actWord n).length ≤ 5 := by
  unfold actWord
  split
  · simp
  · split
    · simp
    · split
      · simp
      · split
        · simp
        · split <;> simp
theorem actNums_le (n : Int) : actNums n ≤ 2 := by
  unfold actNums
  split
  · omega
  · split <;> omega
/-- The act's text by the first numbers. -/
def fmtTo (a : T3) (k : Nat) : List UInt8 := actWord a.a ++ (if k = 0 then [] else if k = 1 then 32 :: itoa a.b else 32 :: (itoa a.b ++ 32 :: itoa a.c))
theorem fmt_to {a : T3} (h : actOk a = true) : fmtAct a = fmtTo a (actNums a.a) := by
  unfold fmtAct fmtTo
  rw [if_pos h]
  congr 1
  unfold actNums
  split
  · rfl
  · split <;> rfl
theorem spec_FormatAct_ok : ∀ ds outs, F_FormatAct ds = some outs → shL spec_FormatAct_L (qRet outs) ds := F_FormatAct_elim fun a => by
  rw [spec_FormatAct_L_sh]
  simp only [p_ActOk, P1_not, ifB_bool, Bool.not_eq_true', Bool.not_eq_false', qRet_ret]
  refine ⟨fun h => by simp [fmtAct, h], fun h => ?_⟩
  have h : actOk a = true := h
  obtain ⟨k1, k6, ⟨b0, b1⟩, c0, c1⟩ := actOk_kind h
  have w1 : ([[], [112, 105, 110], [112, 117, 108, 108], [98, 97, 99, 107], [119, 105, 110, 100], [112, 108, 97, 121], [99, 108, 111, 115, 101]] : List (List UInt8))[a.a.toNat]? = some (actWord a.a) := by
    obtain e | e | e | e | e | e : a.a = 1 ∨ a.a = 2 ∨ a.a = 3 ∨ a.a = 4 ∨ a.a = 5 ∨ a.a = 6 := by omega
    all_goals rw [e]; rfl
  have w2 : ([0, 2, 1, 0, 1, 0, 0] : List Int)[a.a.toNat]? = some (actNums a.a : Int) := by
    obtain e | e | e | e | e | e : a.a = 1 ∨ a.a = 2 ∨ a.a = 3 ∨ a.a = 4 ∨ a.a = 5 ∨ a.a = 6 := by omega
    all_goals rw [e]; rfl
  have hl2 := actNums_le a.a
  have lw := actWord_len a.a
  have lb := itoa_len b0 b1
  have lc := itoa_len c0 c1
  simp only [P1_lstS7, P1_idxS, w1, w2, P1_lstI7, P1_idxI, P1_lstI2, Option.some.injEq, exists_eq_left']
  refine ⟨by omega, by omega, ?_⟩
  refine loop_upto (actNums a.a) (fun k => [.str (fmtTo a k), .int .i64 (actNums a.a), .int .i64 k, vL I1 v1 [a.b, a.c]]) (fun i j _ _ e => by simp at e; omega) (fun _ => True) (by simp [fmtTo]) trivial ?_
  intro k hk _
  rw [spec_FormatAct_b0_sh]
  simp only [P1_lss, ifB_bool, decide_eq_true_eq, decide_eq_false_iff_not]
  refine ⟨fun h2 => ?_, fun h2 => ?_⟩
  · have hk2 : k < actNums a.a := by omega
    obtain rfl | rfl : k = 0 ∨ k = 1 := by omega
    · simp only [P1_addS, P1_idxI]
      refine ⟨by simp [fmtTo]; omega, by simp, a.b, rfl, ?_⟩
      rw [p_FormatInt (by omega)]
      simp only [P1_addS, P1_add, qS_normal]
      exact ⟨by simp [fmtTo]; omega, hk2, by simp [fmtTo, wrap_id], trivial⟩
    · simp only [P1_addS, P1_idxI]
      refine ⟨by simp [fmtTo]; omega, by simp, a.c, rfl, ?_⟩
      rw [p_FormatInt (by omega)]
      simp only [P1_addS, P1_add, qS_normal]
      exact ⟨by simp [fmtTo]; omega, hk2, by simp [fmtTo, wrap_id], trivial⟩
  · have e : k = actNums a.a := by omega
    subst e
    simp [spec_FormatAct_r1_sh, fmt_to h, h]
theorem impl_FormatAct_ok : ∀ ds outs, F_FormatAct ds = some outs → shL impl_FormatAct_L (qRet outs) ds := F_FormatAct_elim fun a => by
  rw [impl_FormatAct_L_sh]
  simp only [p_ActOk, P1_not, ifB_bool, Bool.not_eq_true', Bool.not_eq_false', qRet_ret]
  refine ⟨fun h => by simp [fmtAct, h], fun h => ?_⟩
  have h : actOk a = true := h
  obtain ⟨k1, k6, ⟨b0, b1⟩, c0, c1⟩ := actOk_kind h
  have hl2 := actNums_le a.a
  have lw := actWord_len a.a
  have lb := itoa_len b0 b1
  have lc := itoa_len c0 c1
  rw [p_actWord, p_FormatInt (by omega), p_FormatInt (by omega)]
  simp only [P1_lstS3, p_actNumbers, P1_add]
  have w1 : IntKind.i64.wrap (1 + (actNums a.a : Int)) = ((1 + actNums a.a : Nat) : Int) := by rw [wrap_id (by omega) (by omega)]; omega
  rw [w1, P1_lsubS_2]
  refine ⟨⟨by omega, by omega, by simp only [List.length_cons, List.length_nil]; omega⟩, ?_⟩
  have ej : Go.Lib.join (([actWord a.a, itoa a.b, itoa a.c].take (1 + actNums a.a))) [32] = fmtAct a := by
    rw [fmt_to h]
    obtain e | e | e : actNums a.a = 0 ∨ actNums a.a = 1 ∨ actNums a.a = 2 := by omega
    all_goals rw [e]; simp [fmtTo, Go.Lib.join, List.intercalate, List.intersperse]
  have el : (fmtAct a).length ≤ 140737488355328 := by
    rw [fmt_to h]
    unfold fmtTo
    split
    · simp; omega
    · split
      · simp; omega
      · simp; omega
  simp only [Int.toNat_natCast, Int.toNat_zero, List.drop_zero]
  rw [p_strings_Join ⟨by simp; omega, by rw [ej]; exact el⟩, ej]
  simp [h]
theorem laws_FnExactFormatAct_ok : ∀ ds outs, F_FnExactFormatAct ds = some outs → shL laws_FnExactFormatAct_L (qRet outs) ds := F_FnExactFormatAct_elim fun a h => by
  rw [laws_FnExactFormatAct_L_sh]
  simp
end Go.Mw

/- Scripts as texts. -/
namespace Go.Mw
open Go.Lib (decDigits itoa)
@[simp] theorem P1_apps {l y : List UInt8} {b : Nat} {k : V → Prop} : P1 (.apps b) [vL I1 vY l, .str y] k ↔ ((l.length + y.length) * b ≤ 140737488355328 ∧ l.length + y.length ≤ 140737488355328) ∧ k (vL I1 vY (l ++ y)) :=
  P1_opt (by simp [Prim.run, vL, I1, show AK.eqs [.sc] [.sc] = true from rfl]; rfl) k
@[simp] theorem P1_apps0 {y : List UInt8} {b : Nat} {k : V → Prop} : P1 (.apps b) [.list [.sc] [], .str y] k ↔ ((([] : List UInt8).length + y.length) * b ≤ 140737488355328 ∧ ([] : List UInt8).length + y.length ≤ 140737488355328) ∧ k (vL I1 vY ([] ++ y)) := P1_apps (l := [])
theorem fmt_len (a : T3) : (fmtAct a).length ≤ 49 := by
  by_cases h : actOk a = true
  · obtain ⟨k1, k6, ⟨b0, b1⟩, c0, c1⟩ := actOk_kind h
    have lw := actWord_len a.a
    have lb := itoa_len b0 b1
    have lc := itoa_len c0 c1
    rw [fmt_to h]
    unfold fmtTo
    split
    · simp; omega
    · split
      · simp; omega
      · simp; omega
  · unfold fmtAct; rw [if_neg h]; simp
theorem scriptTo_len (l : List T3) : ∀ k, (scriptTo l k).length ≤ 50 * k
  | 0 => by simp [scriptTo]
  | k + 1 => by
    have ih := scriptTo_len l k
    unfold scriptTo
    split
    · rename_i a _
      have := fmt_len a
      simp only [List.length_append, List.length_singleton]; omega
    · omega
theorem scriptTo_succ {l : List T3} {k : Nat} (h : k < l.length) : scriptTo l (k + 1) = scriptTo l k ++ (fmtAct l[k] ++ [10]) := by
  rw [scriptTo, List.getElem?_eq_getElem h]
theorem script_no {l : List T3} (h : scriptOk l = false) : script l = [] := by simp [script, h]
theorem scriptOk_bad {l : List T3} {k : Nat} (h : k < l.length) (h2 : actOk l[k] = false) : scriptOk l = false := by
  have : l.all actOk = false := by
    rw [List.all_eq_false]
    exact ⟨l[k], List.getElem_mem h, by simp [h2]⟩
  simp [scriptOk, this]
theorem scriptOk_long {l : List T3} (h : 40 < l.length) : scriptOk l = false := by
  simp [scriptOk]; omega

theorem spec_ScriptText_ok : ∀ ds outs, F_ScriptText ds = some outs → shL spec_ScriptText_L (qRet outs) ds := F_ScriptText_elim fun l hp => by
  rw [spec_ScriptText_L_sh]
  simp only [P1_lst0]
  refine loop_upto l.length (fun k => [vL I3 v3 l, .int .i64 k, vL I1 vY (scriptTo l k)]) (fun i j _ _ e => by simp at e; omega) (fun k => (∀ a ∈ l.take k, actOk a = true) ∧ (0 < k → l.length ≤ 40)) (by simp [scriptTo]) ⟨by simp, fun h => absurd h (by omega)⟩ ?_
  intro k hk ⟨ha, h40⟩
  rw [spec_ScriptText_b0_sh]
  simp only [P1_len, P1_lss, ifB_bool, decide_eq_true_eq, decide_eq_false_iff_not]
  refine ⟨fun h => ?_, fun h => ?_⟩
  · have h2 : k < l.length := by omega
    simp only [P3_idxI, Int.toNat_natCast, List.getElem?_eq_getElem h2, Option.some.injEq, exists_eq_left', p_FormatAct, P1_not, ifB_bool, Bool.not_eq_true', Bool.not_eq_false']
    refine ⟨by omega, fun h3 => ?_, fun h3 => ?_⟩
    · have h4 := scriptOk_bad h2 h3
      simp [script_no h4, h4]
    · simp only [P1_gtr, ifB_bool, decide_eq_true_eq, decide_eq_false_iff_not]
      refine ⟨fun h5 => ?_, fun h5 => ?_⟩
      · have h4 := scriptOk_long (l := l) (by omega)
        simp [script_no h4, h4]
      · have hl := scriptTo_len l k
        have hf : (fmtAct ⟨l[k].a, l[k].b, l[k].c⟩).length ≤ 49 := fmt_len l[k]
        simp only [P1_addS, P1_apps, P1_add, List.length_append, List.length_singleton, qS_normal]
        refine ⟨by omega, ⟨by omega, by omega⟩, h2, by rw [scriptTo_succ h2, wrap_id (by omega) (by omega)]; rfl, ?_, fun _ => by omega⟩
        rw [all_take_succ h2]
        exact ⟨ha, h3⟩
  · have e : k = l.length := by omega
    subst e
    rw [List.take_length] at ha
    have h4 : scriptOk l = true := by
      simp only [scriptOk, Bool.and_eq_true, decide_eq_true_eq, List.all_eq_true]
      refine ⟨?_, ha⟩
      rcases Nat.eq_zero_or_pos l.length with h0 | h0
      · omega
      · exact h40 h0
    simp only [qS_exit, qB_exit, if_true, qS_normal, spec_ScriptText_r1_sh, P1_b2s, qRet_ret]
    simp [script, h4]
theorem impl_ScriptText_ok : ∀ ds outs, F_ScriptText ds = some outs → shL impl_ScriptText_L (qRet outs) ds := F_ScriptText_elim fun l hp => by
  rw [impl_ScriptText_L_sh]
  simp only [P1_len, P1_gtr, ifB_bool, decide_eq_true_eq, decide_eq_false_iff_not]
  refine ⟨fun h => ?_, fun h => ?_⟩
  · have h4 := scriptOk_long (l := l) (by omega)
    simp [script_no h4, h4]
  refine loop_upto l.length (fun k => [.str (scriptTo l k), vL I3 v3 l, .int .i64 l.length, .int .i64 k]) (fun i j _ _ e => by simp at e; omega) (fun k => ∀ a ∈ l.take k, actOk a = true) (by simp [scriptTo]) (by simp) ?_
  intro k hk ha
  rw [impl_ScriptText_b0_sh]
  simp only [P1_lss, ifB_bool, decide_eq_true_eq, decide_eq_false_iff_not]
  refine ⟨fun h => ?_, fun h => ?_⟩
  · have h2 : k < l.length := by omega
    simp only [P3_idxI, Int.toNat_natCast, List.getElem?_eq_getElem h2, Option.some.injEq, exists_eq_left', p_FormatAct, P1_not, ifB_bool, Bool.not_eq_true', Bool.not_eq_false']
    refine ⟨by omega, fun h3 => ?_, fun h3 => ?_⟩
    · have h4 := scriptOk_bad h2 h3
      simp [script_no h4, h4]
    · have hl := scriptTo_len l k
      have hf : (fmtAct ⟨l[k].a, l[k].b, l[k].c⟩).length ≤ 49 := fmt_len l[k]
      simp only [P1_addS, P1_add, List.length_append, List.length_singleton, qS_normal]
      refine ⟨by omega, by omega, h2, by rw [scriptTo_succ h2, wrap_id (by omega) (by omega)]; rfl, ?_⟩
      rw [all_take_succ h2]
      exact ⟨ha, h3⟩
  · have e : k = l.length := by omega
    subst e
    rw [List.take_length] at ha
    have h4 : scriptOk l = true := by
      simp only [scriptOk, Bool.and_eq_true, decide_eq_true_eq, List.all_eq_true]
      exact ⟨by omega, ha⟩
    simp only [qS_exit, qB_exit, if_true, qS_normal, impl_ScriptText_r1_sh, qRet_ret]
    simp [script, h4]
theorem laws_FnExactScriptText_ok : ∀ ds outs, F_FnExactScriptText ds = some outs → shL laws_FnExactScriptText_L (qRet outs) ds := F_FnExactScriptText_elim fun l hp => by
  rw [laws_FnExactScriptText_L_sh, p_szActS ⟨hp.1, by omega, by omega⟩]
  simp only [P1_lss, ifB_bool, decide_eq_true_eq, decide_eq_false_iff_not]
  refine ⟨fun _ => by simp, fun h => ?_⟩
  have hl : l.length ≤ 1048576 := by
    split at h <;> omega
  simp only [p_toActS hl, p_ScriptText hl, p_eqActS ⟨hl, hl⟩]
  simp
end Go.Mw

