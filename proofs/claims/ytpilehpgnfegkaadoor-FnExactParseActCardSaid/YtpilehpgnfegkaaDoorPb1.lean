/- What functions of the program compute, as small pure programs, shown against plain Lean functions: no condition. -/
import Derived.KernelRfl
import Derived.Test.YtpilehpgnfegkaaDoorFwH
/- What the functions of the first rows compute, in plain terms. -/
namespace Go.Mw
def within (n low high : Int) : Bool := decide (low ≤ n) && decide (n ≤ high)
def E_within : Int × Int × Int → List V := fun (a, b, c) => [.int .i64 a, .int .i64 b, .int .i64 c]
noncomputable def F_within : List V → Option (List V) := mkF E_within (fun (_, _, _) => True) (fun (a, b, c) => [.bool (within a b c)])
theorem F_within_inj : ∀ x y, E_within x = E_within y → x = y := by
  rintro ⟨a, b, c⟩ ⟨a', b', c'⟩ h
  simpa [E_within] using h
theorem F_within_elim {P : List V → List V → Prop} (h : ∀ (a : Int) (b : Int) (c : Int), P [.int .i64 a, .int .i64 b, .int .i64 c] [.bool (within a b c)]) : ∀ ds outs, F_within ds = some outs → P ds outs := by
  intro ds outs hh
  obtain ⟨⟨a, b, c⟩, rfl, -, rfl⟩ := mkF_inv hh
  exact h a b c
@[simp] theorem p_within {a : Int} {b : Int} {c : Int} {nr_ : Nat} {kk_ : V → Prop} : P1 (.call F_within 0 nr_) [.int .i64 a, .int .i64 b, .int .i64 c] kk_ ↔ kk_ (.bool (within a b c)) :=
  P1_callF (by unfold F_within; exact mkF_eq F_within_inj (a, b, c) trivial)

noncomputable abbrev F_l01In := F_within

def actOk (x : T3) : Bool :=
  if x.a = 1 then within x.b 0 99 && within x.c 0 95
  else if x.a = 2 then within x.b 0 99 && x.c == 0
  else if x.a = 4 then within x.b 0 100 && x.c == 0
  else if x.a = 3 ∨ x.a = 5 ∨ x.a = 6 then x.b == 0 && x.c == 0
  else false
def E_ActOk (x : T3) : List V := [.int .i64 x.a, .int .i64 x.b, .int .i64 x.c]
noncomputable def F_ActOk : List V → Option (List V) := mkF E_ActOk (fun _ => True) (fun x => [.bool (actOk x)])
theorem F_ActOk_inj : ∀ x y, E_ActOk x = E_ActOk y → x = y := by
  rintro ⟨xa, xb, xc⟩ ⟨xa', xb', xc'⟩ h
  simpa [E_ActOk] using h
theorem F_ActOk_elim {P : List V → List V → Prop} (h : ∀ (x : T3), P [.int .i64 x.a, .int .i64 x.b, .int .i64 x.c] [.bool (actOk x)]) : ∀ ds outs, F_ActOk ds = some outs → P ds outs := by
  intro ds outs hh
  obtain ⟨x, rfl, -, rfl⟩ := mkF_inv hh
  exact h x
@[simp] theorem p_ActOk {x_a : Int} {x_b : Int} {x_c : Int} {nr_ : Nat} {kk_ : V → Prop} : P1 (.call F_ActOk 0 nr_) [.int .i64 x_a, .int .i64 x_b, .int .i64 x_c] kk_ ↔ kk_ (.bool (actOk (⟨x_a, x_b, x_c⟩ : T3))) :=
  P1_callF (by unfold F_ActOk; exact mkF_eq F_ActOk_inj ((⟨x_a, x_b, x_c⟩ : T3)) trivial)


/-! lists of pairs -/
end Go.Mw

/- Functions of the program, as small pure programs (printed by a program of ours). -/
namespace Go.Mw
noncomputable section
def spec_l01In_L : L := .seq (.rg []) (.seq (.rg [⟨[], .bin .geq, [.v 0, .v 1], 1⟩, ⟨[(.v 3, true)], .bin .leq, [.v 0, .v 2], 1⟩, ⟨[], .pick, [.v 3, .v 4, .k (.bool false)], 1⟩]) (.ret [.v 5]))
theorem spec_l01In_L_sh (Q : QT) (x0 x1 x2 : V) : shL spec_l01In_L Q [x0, x1, x2] = (
  P1 (.bin .geq) [x0, x1] fun v0 =>
  ifB v0 (
    P1 (.bin .leq) [x0, x2] fun v1 =>
    Q .ret [v1]) (
    Q .ret [.bool false])) := by kernel_rfl
def spec_l01In_S : Sig := ⟨[.val false [.sc], .val false [.sc], .val false [.sc]], [(false, [.sc])], F_l01In⟩
def spec_l01In_hs : List NF := []

def impl_within_L : L := .seq (.rg []) (.seq (.rg [⟨[], .bin .geq, [.v 0, .v 1], 1⟩, ⟨[(.v 3, true)], .bin .leq, [.v 0, .v 2], 1⟩, ⟨[], .pick, [.v 3, .v 4, .k (.bool false)], 1⟩]) (.ret [.v 5]))
theorem impl_within_L_sh (Q : QT) (x0 x1 x2 : V) : shL impl_within_L Q [x0, x1, x2] = (
  P1 (.bin .geq) [x0, x1] fun v0 =>
  ifB v0 (
    P1 (.bin .leq) [x0, x2] fun v1 =>
    Q .ret [v1]) (
    Q .ret [.bool false])) := by kernel_rfl
def impl_within_S : Sig := ⟨[.val false [.sc], .val false [.sc], .val false [.sc]], [(false, [.sc])], F_within⟩
def impl_within_hs : List NF := []

def spec_ActOk_L : L := .seq (.rg []) (.seq (.seq (.rg []) (.block 0 (.seq (.seq (.rg [⟨[], .bin .eql, [.v 0, .k (.int .i64 1)], 1⟩]) (.ite (.v 3) (.seq (.rg [⟨[], .call F_l01In 0 1, [.v 1, .k (.int .i64 0), .k (.int .i64 99)], 1⟩, ⟨[(.v 4, true)], .call F_l01In 0 1, [.v 2, .k (.int .i64 0), .k (.int .i64 95)], 1⟩, ⟨[], .pick, [.v 4, .v 5, .k (.bool false)], 1⟩]) (.ret [.v 6])) (.seq (.rg [⟨[], .bin .eql, [.v 0, .k (.int .i64 2)], 1⟩]) (.ite (.v 4) (.seq (.rg [⟨[], .call F_l01In 0 1, [.v 1, .k (.int .i64 0), .k (.int .i64 99)], 1⟩, ⟨[(.v 5, true)], .bin .eql, [.v 2, .k (.int .i64 0)], 1⟩, ⟨[], .pick, [.v 5, .v 6, .k (.bool false)], 1⟩]) (.ret [.v 7])) (.seq (.rg [⟨[], .bin .eql, [.v 0, .k (.int .i64 4)], 1⟩]) (.ite (.v 5) (.seq (.rg [⟨[], .call F_l01In 0 1, [.v 1, .k (.int .i64 0), .k (.int .i64 100)], 1⟩, ⟨[(.v 6, true)], .bin .eql, [.v 2, .k (.int .i64 0)], 1⟩, ⟨[], .pick, [.v 6, .v 7, .k (.bool false)], 1⟩]) (.ret [.v 8])) (.seq (.seq (.rg [⟨[], .bin .eql, [.v 0, .k (.int .i64 3)], 1⟩]) (.ite (.v 6) (.seq (.skip) (.tup [.v 6, .v 0, .v 1, .v 2])) (.seq (.seq (.rg [⟨[], .bin .eql, [.v 0, .k (.int .i64 5)], 1⟩]) (.ite (.v 7) (.seq (.skip) (.tup [.v 7, .v 0, .v 1, .v 2])) (.seq (.rg [⟨[], .bin .eql, [.v 0, .k (.int .i64 6)], 1⟩]) (.tup [.v 8, .v 0, .v 1, .v 2])))) (.tup [.v 0, .v 1, .v 2, .v 3])))) (.ite (.v 0) (.seq (.rg [⟨[], .bin .eql, [.v 2, .k (.int .i64 0)], 1⟩, ⟨[(.v 4, true)], .bin .eql, [.v 3, .k (.int .i64 0)], 1⟩, ⟨[], .pick, [.v 4, .v 5, .k (.bool false)], 1⟩]) (.ret [.v 6])) (.skip))))))))) (.tup [])))) (.seq (.rg []) (.ret [.k (.bool false)])))
theorem spec_ActOk_L_sh (Q : QT) (x0 x1 x2 : V) : shL spec_ActOk_L Q [x0, x1, x2] = (
  P1 (.bin .eql) [x0, .int .i64 1] fun v0 =>
  ifB v0 (
    P1 (.call F_l01In 0 1) [x1, .int .i64 0, .int .i64 99] fun v1 =>
    ifB v1 (
      P1 (.call F_l01In 0 1) [x2, .int .i64 0, .int .i64 95] fun v2 =>
      Q .ret [v2]) (
      Q .ret [.bool false])) (
    P1 (.bin .eql) [x0, .int .i64 2] fun v3 =>
    ifB v3 (
      P1 (.call F_l01In 0 1) [x1, .int .i64 0, .int .i64 99] fun v4 =>
      ifB v4 (
        P1 (.bin .eql) [x2, .int .i64 0] fun v5 =>
        Q .ret [v5]) (
        Q .ret [.bool false])) (
      P1 (.bin .eql) [x0, .int .i64 4] fun v6 =>
      ifB v6 (
        P1 (.call F_l01In 0 1) [x1, .int .i64 0, .int .i64 100] fun v7 =>
        ifB v7 (
          P1 (.bin .eql) [x2, .int .i64 0] fun v8 =>
          Q .ret [v8]) (
          Q .ret [.bool false])) (
        P1 (.bin .eql) [x0, .int .i64 3] fun v9 =>
        ifB v9 (
          P1 (.bin .eql) [x1, .int .i64 0] fun v10 =>
          ifB v10 (
            P1 (.bin .eql) [x2, .int .i64 0] fun v11 =>
            Q .ret [v11]) (
            Q .ret [.bool false])) (
          P1 (.bin .eql) [x0, .int .i64 5] fun v12 =>
          ifB v12 (
            P1 (.bin .eql) [x1, .int .i64 0] fun v13 =>
            ifB v13 (
              P1 (.bin .eql) [x2, .int .i64 0] fun v14 =>
              Q .ret [v14]) (
              Q .ret [.bool false])) (
            P1 (.bin .eql) [x0, .int .i64 6] fun v15 =>
            ifB v15 (
              P1 (.bin .eql) [x1, .int .i64 0] fun v16 =>
              ifB v16 (
                P1 (.bin .eql) [x2, .int .i64 0] fun v17 =>
                Q .ret [v17]) (
                Q .ret [.bool false])) (
              Q .ret [.bool false]))))))) := by kernel_rfl
def spec_ActOk_S : Sig := ⟨[.val true [.sc, .sc, .sc]], [(false, [.sc])], F_ActOk⟩
def spec_ActOk_hs : List NF := [⟨[], [], [], 64⟩, ⟨[(1, .ptr 64 0), (35, .sc false [.sc])], [], [(64, [.sc, .sc, .sc])], 65⟩, ⟨[(1, .ptr 64 0), (35, .sc false [.sc])], [], [(64, [.sc, .sc, .sc])], 65⟩]

def impl_ActOk_L : L := .seq (.rg []) (.seq (.seq (.rg []) (.block 0 (.seq (.seq (.rg [⟨[], .bin .eql, [.v 0, .k (.int .i64 1)], 1⟩]) (.ite (.v 3) (.seq (.rg [⟨[], .call F_within 0 1, [.v 1, .k (.int .i64 0), .k (.int .i64 99)], 1⟩, ⟨[(.v 4, true)], .call F_within 0 1, [.v 2, .k (.int .i64 0), .k (.int .i64 95)], 1⟩, ⟨[], .pick, [.v 4, .v 5, .k (.bool false)], 1⟩]) (.ret [.v 6])) (.seq (.rg [⟨[], .bin .eql, [.v 0, .k (.int .i64 2)], 1⟩]) (.ite (.v 4) (.seq (.rg [⟨[], .call F_within 0 1, [.v 1, .k (.int .i64 0), .k (.int .i64 99)], 1⟩, ⟨[(.v 5, true)], .bin .eql, [.v 2, .k (.int .i64 0)], 1⟩, ⟨[], .pick, [.v 5, .v 6, .k (.bool false)], 1⟩]) (.ret [.v 7])) (.seq (.rg [⟨[], .bin .eql, [.v 0, .k (.int .i64 4)], 1⟩]) (.ite (.v 5) (.seq (.rg [⟨[], .call F_within 0 1, [.v 1, .k (.int .i64 0), .k (.int .i64 100)], 1⟩, ⟨[(.v 6, true)], .bin .eql, [.v 2, .k (.int .i64 0)], 1⟩, ⟨[], .pick, [.v 6, .v 7, .k (.bool false)], 1⟩]) (.ret [.v 8])) (.seq (.seq (.rg [⟨[], .bin .eql, [.v 0, .k (.int .i64 3)], 1⟩]) (.ite (.v 6) (.seq (.skip) (.tup [.v 6, .v 0, .v 1, .v 2])) (.seq (.seq (.rg [⟨[], .bin .eql, [.v 0, .k (.int .i64 5)], 1⟩]) (.ite (.v 7) (.seq (.skip) (.tup [.v 7, .v 0, .v 1, .v 2])) (.seq (.rg [⟨[], .bin .eql, [.v 0, .k (.int .i64 6)], 1⟩]) (.tup [.v 8, .v 0, .v 1, .v 2])))) (.tup [.v 0, .v 1, .v 2, .v 3])))) (.ite (.v 0) (.seq (.rg [⟨[], .bin .eql, [.v 2, .k (.int .i64 0)], 1⟩, ⟨[(.v 4, true)], .bin .eql, [.v 3, .k (.int .i64 0)], 1⟩, ⟨[], .pick, [.v 4, .v 5, .k (.bool false)], 1⟩]) (.ret [.v 6])) (.skip))))))))) (.tup [])))) (.seq (.rg []) (.ret [.k (.bool false)])))
theorem impl_ActOk_L_sh (Q : QT) (x0 x1 x2 : V) : shL impl_ActOk_L Q [x0, x1, x2] = (
  P1 (.bin .eql) [x0, .int .i64 1] fun v0 =>
  ifB v0 (
    P1 (.call F_within 0 1) [x1, .int .i64 0, .int .i64 99] fun v1 =>
    ifB v1 (
      P1 (.call F_within 0 1) [x2, .int .i64 0, .int .i64 95] fun v2 =>
      Q .ret [v2]) (
      Q .ret [.bool false])) (
    P1 (.bin .eql) [x0, .int .i64 2] fun v3 =>
    ifB v3 (
      P1 (.call F_within 0 1) [x1, .int .i64 0, .int .i64 99] fun v4 =>
      ifB v4 (
        P1 (.bin .eql) [x2, .int .i64 0] fun v5 =>
        Q .ret [v5]) (
        Q .ret [.bool false])) (
      P1 (.bin .eql) [x0, .int .i64 4] fun v6 =>
      ifB v6 (
        P1 (.call F_within 0 1) [x1, .int .i64 0, .int .i64 100] fun v7 =>
        ifB v7 (
          P1 (.bin .eql) [x2, .int .i64 0] fun v8 =>
          Q .ret [v8]) (
          Q .ret [.bool false])) (
        P1 (.bin .eql) [x0, .int .i64 3] fun v9 =>
        ifB v9 (
          P1 (.bin .eql) [x1, .int .i64 0] fun v10 =>
          ifB v10 (
            P1 (.bin .eql) [x2, .int .i64 0] fun v11 =>
            Q .ret [v11]) (
            Q .ret [.bool false])) (
          P1 (.bin .eql) [x0, .int .i64 5] fun v12 =>
          ifB v12 (
            P1 (.bin .eql) [x1, .int .i64 0] fun v13 =>
            ifB v13 (
              P1 (.bin .eql) [x2, .int .i64 0] fun v14 =>
              Q .ret [v14]) (
              Q .ret [.bool false])) (
            P1 (.bin .eql) [x0, .int .i64 6] fun v15 =>
            ifB v15 (
              P1 (.bin .eql) [x1, .int .i64 0] fun v16 =>
              ifB v16 (
                P1 (.bin .eql) [x2, .int .i64 0] fun v17 =>
                Q .ret [v17]) (
                Q .ret [.bool false])) (
              Q .ret [.bool false]))))))) := by kernel_rfl
def impl_ActOk_S : Sig := ⟨[.val true [.sc, .sc, .sc]], [(false, [.sc])], F_ActOk⟩
def impl_ActOk_hs : List NF := [⟨[], [], [], 64⟩, ⟨[(1, .ptr 64 0), (35, .sc false [.sc])], [], [(64, [.sc, .sc, .sc])], 65⟩, ⟨[(1, .ptr 64 0), (35, .sc false [.sc])], [], [(64, [.sc, .sc, .sc])], 65⟩]

end
end Go.Mw

/- The functions of the first rows compute what was said. -/
namespace Go.Mw
theorem spec_l01In_ok : ∀ ds outs, F_l01In ds = some outs → shL spec_l01In_L (qRet outs) ds := F_within_elim fun a b c => by
  rw [spec_l01In_L_sh]; simp [within]; grind
theorem impl_within_ok : ∀ ds outs, F_within ds = some outs → shL impl_within_L (qRet outs) ds := F_within_elim fun a b c => by
  rw [impl_within_L_sh]; simp [within]; grind
theorem impl_ActOk_ok : ∀ ds outs, F_ActOk ds = some outs → shL impl_ActOk_L (qRet outs) ds := F_ActOk_elim fun x => by
  rw [impl_ActOk_L_sh]; simp [actOk]; grind
theorem spec_ActOk_ok : ∀ ds outs, F_ActOk ds = some outs → shL spec_ActOk_L (qRet outs) ds := F_ActOk_elim fun x => by
  rw [spec_ActOk_L_sh]; simp [actOk]; grind
end Go.Mw

/- The structs of the program, flat. -/
namespace Go.Mw
/-- A cylinder: steps, tracks, pins (track, angle). -/
structure Cyl where
  s : Int
  t : Int
  p : List T2
/-- A state: angle, on, played. -/
structure Stt where
  a : Int
  n : Bool
  p : Int
  deriving DecidableEq
/-- A bench: its cylinder, and the former pins. -/
structure Bench where
  s : Int
  t : Int
  p : List T2
  o : List (List T2)
/-- A workshop: its bench; comb; spring (turns, most, force); money; played. -/
structure Shop where
  s : Int
  t : Int
  p : List T2
  o : List (List T2)
  c : List Int
  u : Int
  m : Int
  f : Int
  y : Int
  d : Int
  deriving DecidableEq
@[simp] theorem Cyl.eta (x : Cyl) : Cyl.mk x.s x.t x.p = x := rfl
@[simp] theorem Stt.eta (x : Stt) : Stt.mk x.a x.n x.p = x := rfl
@[simp] theorem P1_eqa22 {a b c d : Int} {k : V → Prop} : P1 (.eqa false [.i, .i]) [.int .i64 a, .int .i64 b, .int .i64 c, .int .i64 d] k ↔ k (.bool (decide (a = c ∧ b = d))) := P1_of (by simp only [Prim.run, eqVs, eqV1, List.length_cons, List.length_nil, List.take, List.drop, if_true]; cases h1 : a == c <;> cases h2 : b == d <;> simp_all) k
@[simp] theorem P1_nea22 {a b c d : Int} {k : V → Prop} : P1 (.eqa true [.i, .i]) [.int .i64 a, .int .i64 b, .int .i64 c, .int .i64 d] k ↔ k (.bool (!decide (a = c ∧ b = d))) := P1_of (by simp only [Prim.run, eqVs, eqV1, List.length_cons, List.length_nil, List.take, List.drop, if_true]; cases h1 : a == c <;> cases h2 : b == d <;> simp_all) k
@[simp] theorem P1_eqaX {a c e g : Int} {b f : Bool} {k : V → Prop} : P1 (.eqa false [.i, .b, .i]) [.int .i64 a, .bool b, .int .i64 c, .int .i64 e, .bool f, .int .i64 g] k ↔ k (.bool (decide (a = e ∧ b = f ∧ c = g))) := P1_of (by simp only [Prim.run, eqVs, eqV1, List.length_cons, List.length_nil, List.take, List.drop, if_true]; cases h1 : a == e <;> cases h2 : b == f <;> cases h3 : c == g <;> simp_all) k
theorem P1_lsub2 {α : Type} {ks : List AK} {f : α → V} {l : List α} {κ κ' : IntKind} {i j : Int} {k : V → Prop} : P1 (.lsub ks) [vL ks f l, .int κ i, .int κ' j] k ↔ (0 ≤ i ∧ i ≤ j ∧ j ≤ l.length) ∧ k (vL ks f ((l.take j.toNat).drop i.toNat)) :=
  P1_opt (by simp only [Prim.run, vL, AK.eqs_refl, if_true, subB, List.length_map]; split <;> simp_all [List.map_drop, List.map_take]) k
theorem P1_lsub1 {α : Type} {ks : List AK} {f : α → V} {l : List α} {κ : IntKind} {i : Int} {k : V → Prop} : P1 (.lsub ks) [vL ks f l, .int κ i] k ↔ (0 ≤ i ∧ i ≤ l.length) ∧ k (vL ks f (l.drop i.toNat)) :=
  P1_opt (by simp only [Prim.run, vL, AK.eqs_refl, if_true, subB, List.length_map]; split <;> simp_all [List.map_drop, List.take_of_length_le]) k
@[simp] theorem P1_lsubI_2 {l : List Int} {κ κ' : IntKind} {i j : Int} {k : V → Prop} : P1 (.lsub [.sc]) [vL I1 v1 l, .int κ i, .int κ' j] k ↔ (0 ≤ i ∧ i ≤ j ∧ j ≤ l.length) ∧ k (vL I1 v1 ((l.take j.toNat).drop i.toNat)) := P1_lsub2
@[simp] theorem P1_lsubI_1 {l : List Int} {κ : IntKind} {i : Int} {k : V → Prop} : P1 (.lsub [.sc]) [vL I1 v1 l, .int κ i] k ↔ (0 ≤ i ∧ i ≤ l.length) ∧ k (vL I1 v1 (l.drop i.toNat)) := P1_lsub1
@[simp] theorem P1_appI_ {l m : List Int} {b : Nat} {k : V → Prop} : P1 (.app [.sc] b) [vL I1 v1 l, vL I1 v1 m] k ↔ ((l.length + m.length) * b ≤ 140737488355328 ∧ l.length + m.length ≤ 140737488355328) ∧ k (vL I1 v1 (l ++ m)) := P1_app
@[simp] theorem P1_appI_0 {m : List Int} {b : Nat} {k : V → Prop} : P1 (.app [.sc] b) [.list [.sc] [], vL I1 v1 m] k ↔ (m.length * b ≤ 140737488355328 ∧ m.length ≤ 140737488355328) ∧ k (vL I1 v1 m) := P1_app0
@[simp] theorem P1_appI_1 {l : List Int} {b : Nat} {k : V → Prop} : P1 (.app [.sc] b) [vL I1 v1 l, .list [.sc] []] k ↔ (l.length * b ≤ 140737488355328 ∧ l.length ≤ 140737488355328) ∧ k (vL I1 v1 l) := P1_app1
@[simp] theorem P1_lsubY_2 {l : List UInt8} {κ κ' : IntKind} {i j : Int} {k : V → Prop} : P1 (.lsub [.sc]) [vL I1 vY l, .int κ i, .int κ' j] k ↔ (0 ≤ i ∧ i ≤ j ∧ j ≤ l.length) ∧ k (vL I1 vY ((l.take j.toNat).drop i.toNat)) := P1_lsub2
@[simp] theorem P1_lsubY_1 {l : List UInt8} {κ : IntKind} {i : Int} {k : V → Prop} : P1 (.lsub [.sc]) [vL I1 vY l, .int κ i] k ↔ (0 ≤ i ∧ i ≤ l.length) ∧ k (vL I1 vY (l.drop i.toNat)) := P1_lsub1
@[simp] theorem P1_appY_ {l m : List UInt8} {b : Nat} {k : V → Prop} : P1 (.app [.sc] b) [vL I1 vY l, vL I1 vY m] k ↔ ((l.length + m.length) * b ≤ 140737488355328 ∧ l.length + m.length ≤ 140737488355328) ∧ k (vL I1 vY (l ++ m)) := P1_app
@[simp] theorem P1_appY_0 {m : List UInt8} {b : Nat} {k : V → Prop} : P1 (.app [.sc] b) [.list [.sc] [], vL I1 vY m] k ↔ (m.length * b ≤ 140737488355328 ∧ m.length ≤ 140737488355328) ∧ k (vL I1 vY m) := P1_app0
@[simp] theorem P1_appY_1 {l : List UInt8} {b : Nat} {k : V → Prop} : P1 (.app [.sc] b) [vL I1 vY l, .list [.sc] []] k ↔ (l.length * b ≤ 140737488355328 ∧ l.length ≤ 140737488355328) ∧ k (vL I1 vY l) := P1_app1
@[simp] theorem P1_lsubS_2 {l : List (List UInt8)} {κ κ' : IntKind} {i j : Int} {k : V → Prop} : P1 (.lsub [.sc]) [vL I1 vS l, .int κ i, .int κ' j] k ↔ (0 ≤ i ∧ i ≤ j ∧ j ≤ l.length) ∧ k (vL I1 vS ((l.take j.toNat).drop i.toNat)) := P1_lsub2
@[simp] theorem P1_lsubS_1 {l : List (List UInt8)} {κ : IntKind} {i : Int} {k : V → Prop} : P1 (.lsub [.sc]) [vL I1 vS l, .int κ i] k ↔ (0 ≤ i ∧ i ≤ l.length) ∧ k (vL I1 vS (l.drop i.toNat)) := P1_lsub1
@[simp] theorem P1_appS_ {l m : List (List UInt8)} {b : Nat} {k : V → Prop} : P1 (.app [.sc] b) [vL I1 vS l, vL I1 vS m] k ↔ ((l.length + m.length) * b ≤ 140737488355328 ∧ l.length + m.length ≤ 140737488355328) ∧ k (vL I1 vS (l ++ m)) := P1_app
@[simp] theorem P1_appS_0 {m : List (List UInt8)} {b : Nat} {k : V → Prop} : P1 (.app [.sc] b) [.list [.sc] [], vL I1 vS m] k ↔ (m.length * b ≤ 140737488355328 ∧ m.length ≤ 140737488355328) ∧ k (vL I1 vS m) := P1_app0
@[simp] theorem P1_appS_1 {l : List (List UInt8)} {b : Nat} {k : V → Prop} : P1 (.app [.sc] b) [vL I1 vS l, .list [.sc] []] k ↔ (l.length * b ≤ 140737488355328 ∧ l.length ≤ 140737488355328) ∧ k (vL I1 vS l) := P1_app1
@[simp] theorem P1_lsub2_2 {l : List T2} {κ κ' : IntKind} {i j : Int} {k : V → Prop} : P1 (.lsub [.sc, .sc]) [vL I2 v2 l, .int κ i, .int κ' j] k ↔ (0 ≤ i ∧ i ≤ j ∧ j ≤ l.length) ∧ k (vL I2 v2 ((l.take j.toNat).drop i.toNat)) := P1_lsub2
@[simp] theorem P1_lsub2_1 {l : List T2} {κ : IntKind} {i : Int} {k : V → Prop} : P1 (.lsub [.sc, .sc]) [vL I2 v2 l, .int κ i] k ↔ (0 ≤ i ∧ i ≤ l.length) ∧ k (vL I2 v2 (l.drop i.toNat)) := P1_lsub1
@[simp] theorem P1_app2_ {l m : List T2} {b : Nat} {k : V → Prop} : P1 (.app [.sc, .sc] b) [vL I2 v2 l, vL I2 v2 m] k ↔ ((l.length + m.length) * b ≤ 140737488355328 ∧ l.length + m.length ≤ 140737488355328) ∧ k (vL I2 v2 (l ++ m)) := P1_app
@[simp] theorem P1_app2_0 {m : List T2} {b : Nat} {k : V → Prop} : P1 (.app [.sc, .sc] b) [.list [.sc, .sc] [], vL I2 v2 m] k ↔ (m.length * b ≤ 140737488355328 ∧ m.length ≤ 140737488355328) ∧ k (vL I2 v2 m) := P1_app0
@[simp] theorem P1_app2_1 {l : List T2} {b : Nat} {k : V → Prop} : P1 (.app [.sc, .sc] b) [vL I2 v2 l, .list [.sc, .sc] []] k ↔ (l.length * b ≤ 140737488355328 ∧ l.length ≤ 140737488355328) ∧ k (vL I2 v2 l) := P1_app1
@[simp] theorem P1_lsub3_2 {l : List T3} {κ κ' : IntKind} {i j : Int} {k : V → Prop} : P1 (.lsub [.sc, .sc, .sc]) [vL I3 v3 l, .int κ i, .int κ' j] k ↔ (0 ≤ i ∧ i ≤ j ∧ j ≤ l.length) ∧ k (vL I3 v3 ((l.take j.toNat).drop i.toNat)) := P1_lsub2
@[simp] theorem P1_lsub3_1 {l : List T3} {κ : IntKind} {i : Int} {k : V → Prop} : P1 (.lsub [.sc, .sc, .sc]) [vL I3 v3 l, .int κ i] k ↔ (0 ≤ i ∧ i ≤ l.length) ∧ k (vL I3 v3 (l.drop i.toNat)) := P1_lsub1
@[simp] theorem P1_app3_ {l m : List T3} {b : Nat} {k : V → Prop} : P1 (.app [.sc, .sc, .sc] b) [vL I3 v3 l, vL I3 v3 m] k ↔ ((l.length + m.length) * b ≤ 140737488355328 ∧ l.length + m.length ≤ 140737488355328) ∧ k (vL I3 v3 (l ++ m)) := P1_app
@[simp] theorem P1_app3_0 {m : List T3} {b : Nat} {k : V → Prop} : P1 (.app [.sc, .sc, .sc] b) [.list [.sc, .sc, .sc] [], vL I3 v3 m] k ↔ (m.length * b ≤ 140737488355328 ∧ m.length ≤ 140737488355328) ∧ k (vL I3 v3 m) := P1_app0
@[simp] theorem P1_app3_1 {l : List T3} {b : Nat} {k : V → Prop} : P1 (.app [.sc, .sc, .sc] b) [vL I3 v3 l, .list [.sc, .sc, .sc] []] k ↔ (l.length * b ≤ 140737488355328 ∧ l.length ≤ 140737488355328) ∧ k (vL I3 v3 l) := P1_app1
@[simp] theorem P1_lsubL2_2 {l : List (List T2)} {κ κ' : IntKind} {i j : Int} {k : V → Prop} : P1 (.lsub [.sl [.sc, .sc]]) [vL IL2 vLL2 l, .int κ i, .int κ' j] k ↔ (0 ≤ i ∧ i ≤ j ∧ j ≤ l.length) ∧ k (vL IL2 vLL2 ((l.take j.toNat).drop i.toNat)) := P1_lsub2
@[simp] theorem P1_lsubL2_1 {l : List (List T2)} {κ : IntKind} {i : Int} {k : V → Prop} : P1 (.lsub [.sl [.sc, .sc]]) [vL IL2 vLL2 l, .int κ i] k ↔ (0 ≤ i ∧ i ≤ l.length) ∧ k (vL IL2 vLL2 (l.drop i.toNat)) := P1_lsub1
@[simp] theorem P1_appL2_ {l m : List (List T2)} {b : Nat} {k : V → Prop} : P1 (.app [.sl [.sc, .sc]] b) [vL IL2 vLL2 l, vL IL2 vLL2 m] k ↔ ((l.length + m.length) * b ≤ 140737488355328 ∧ l.length + m.length ≤ 140737488355328) ∧ k (vL IL2 vLL2 (l ++ m)) := P1_app
@[simp] theorem P1_appL2_0 {m : List (List T2)} {b : Nat} {k : V → Prop} : P1 (.app [.sl [.sc, .sc]] b) [.list [.sl [.sc, .sc]] [], vL IL2 vLL2 m] k ↔ (m.length * b ≤ 140737488355328 ∧ m.length ≤ 140737488355328) ∧ k (vL IL2 vLL2 m) := P1_app0
@[simp] theorem P1_appL2_1 {l : List (List T2)} {b : Nat} {k : V → Prop} : P1 (.app [.sl [.sc, .sc]] b) [vL IL2 vLL2 l, .list [.sl [.sc, .sc]] []] k ↔ (l.length * b ≤ 140737488355328 ∧ l.length ≤ 140737488355328) ∧ k (vL IL2 vLL2 l) := P1_app1
end Go.Mw

/- What functions compute, in plain terms: pieces, pins, cylinders, states, digits, boxes. -/
namespace Go.Mw
/-! memory -/
/-! pieces -/
/-! pins -/
def pinLess (p q : T2) : Bool := decide (p.b < q.b ∨ p.b = q.b ∧ p.a < q.a)
def E_l06Less : T2 × T2 → List V := fun (x, y) => [.int .i64 x.a, .int .i64 x.b, .int .i64 y.a, .int .i64 y.b]
noncomputable def F_l06Less : List V → Option (List V) := mkF E_l06Less (fun (_, _) => True) (fun (x, y) => [.bool (pinLess x y)])
theorem F_l06Less_inj : ∀ x y, E_l06Less x = E_l06Less y → x = y := by
  rintro ⟨⟨xa, xb⟩, ⟨ya, yb⟩⟩ ⟨⟨xa', xb'⟩, ⟨ya', yb'⟩⟩ h
  simpa [E_l06Less, and_assoc] using h
theorem F_l06Less_elim {P : List V → List V → Prop} (h : ∀ (x : T2) (y : T2), P [.int .i64 x.a, .int .i64 x.b, .int .i64 y.a, .int .i64 y.b] [.bool (pinLess x y)]) : ∀ ds outs, F_l06Less ds = some outs → P ds outs := by
  intro ds outs hh
  obtain ⟨⟨x, y⟩, rfl, -, rfl⟩ := mkF_inv hh
  exact h x y
@[simp] theorem p_l06Less {x_a : Int} {x_b : Int} {y_a : Int} {y_b : Int} {nr_ : Nat} {kk_ : V → Prop} : P1 (.call F_l06Less 0 nr_) [.int .i64 x_a, .int .i64 x_b, .int .i64 y_a, .int .i64 y_b] kk_ ↔ kk_ (.bool (pinLess (⟨x_a, x_b⟩ : T2) (⟨y_a, y_b⟩ : T2))) :=
  P1_callF (by unfold F_l06Less; exact mkF_eq F_l06Less_inj ((⟨x_a, x_b⟩ : T2), (⟨y_a, y_b⟩ : T2)) trivial)

def rising : List T2 → Bool
  | [] => true
  | [_] => true
  | a :: b :: r => pinLess a b && rising (b :: r)
def pinIn (s t : Int) (p : T2) : Bool := within p.a 0 (t - 1) && within p.b 0 (s - 1)
def cylOk (c : Cyl) : Bool := within c.s 4 96 && within c.t 1 100 && decide (c.p.length ≤ 100) && (c.p.all (pinIn c.s c.t) && rising c.p)
def E_CylinderOk (x : Cyl) : List V := [.int .i64 x.s, .int .i64 x.t, vL I2 v2 x.p]
noncomputable def F_CylinderOk : List V → Option (List V) := mkF E_CylinderOk (fun x => x.p.length ≤ 1048576) (fun x => [.bool (cylOk x)])
theorem F_CylinderOk_inj : ∀ x y, E_CylinderOk x = E_CylinderOk y → x = y := by
  rintro ⟨xs, xt, xp⟩ ⟨xs', xt', xp'⟩ h
  simpa [E_CylinderOk] using h
theorem F_CylinderOk_elim {P : List V → List V → Prop} (h : ∀ (x : Cyl), (x.p.length ≤ 1048576) → P [.int .i64 x.s, .int .i64 x.t, vL I2 v2 x.p] [.bool (cylOk x)]) : ∀ ds outs, F_CylinderOk ds = some outs → P ds outs := by
  intro ds outs hh
  obtain ⟨x, rfl, hp, rfl⟩ := mkF_inv hh
  exact h x hp
theorem p_CylinderOk {x_s : Int} {x_t : Int} {x_p : List T2} {nr_ : Nat} {kk_ : V → Prop} (hp : (⟨x_s, x_t, x_p⟩ : Cyl).p.length ≤ 1048576) : P1 (.call F_CylinderOk 0 nr_) [.int .i64 x_s, .int .i64 x_t, vL I2 v2 x_p] kk_ ↔ kk_ (.bool (cylOk (⟨x_s, x_t, x_p⟩ : Cyl))) :=
  P1_callF (by unfold F_CylinderOk; exact mkF_eq F_CylinderOk_inj ((⟨x_s, x_t, x_p⟩ : Cyl)) hp)

def sttOk (c : Cyl) (x : Stt) : Bool := cylOk c && (within x.a 0 (c.s - 1) && within x.p 0 100000)
def pinsAt (c : Cyl) (a : Int) : List Int := if cylOk c && within a (-1000000) 1000000 then (c.p.filter fun p => p.b == a % c.s).map (·.a) else []
/-! states -/
def stepsLeft (c : Cyl) (x : Stt) : Int := if sttOk c x then (if x.n then c.s - x.a else 0) else -1
def nextStt (c : Cyl) (x : Stt) : Stt := ⟨(x.a + 1) % c.s, decide ((x.a + 1) % c.s ≠ 0), x.p + (pinsAt c x.a).length⟩
def canStep (c : Cyl) (x : Stt) : Bool := sttOk c x && x.n && sttOk c (nextStt c x)
/-- The run: so many steps from x. -/
def itS (c : Cyl) (x : Stt) : Nat → Stt
  | 0 => x
  | k + 1 => nextStt c (itS c x k)
def itL (c : Cyl) (x : Stt) : Nat → List Int
  | 0 => []
  | k + 1 => itL c x k ++ pinsAt c (itS c x k).a
def runN (c : Cyl) (x : Stt) : Nat := (c.s - x.a).toNat
def runOk (c : Cyl) (x : Stt) : Bool := sttOk c x && (x.n && (List.range (runN c x)).all fun k => canStep c (itS c x k))
def runBox (c : Cyl) (x : Stt) : Stt × List Int := if runOk c x then (itS c x (runN c x), itL c x (runN c x)) else (x, [])
/-! digits -/
def areDigits (l : List Int) (a b : Int) : Bool := within l.length a b && l.all (within · 0 9)
/-! boxes -/
end Go.Mw

/- Functions of the program, as small pure programs (printed by a program of ours). -/
namespace Go.Mw
noncomputable section
def spec_l06Less_L : L := .seq (.rg []) (.seq (.rg [⟨[], .bin .lss, [.v 1, .v 3], 1⟩, ⟨[(.v 4, false)], .bin .eql, [.v 1, .v 3], 1⟩, ⟨[(.v 4, false), (.v 5, true)], .bin .lss, [.v 0, .v 2], 1⟩, ⟨[(.v 4, false)], .pick, [.v 5, .v 6, .k (.bool false)], 1⟩, ⟨[], .pick, [.v 4, .k (.bool true), .v 7], 1⟩]) (.ret [.v 8]))
theorem spec_l06Less_L_sh (Q : QT) (x0 x1 x2 x3 : V) : shL spec_l06Less_L Q [x0, x1, x2, x3] = (
  P1 (.bin .lss) [x1, x3] fun v0 =>
  ifB v0 (
    Q .ret [.bool true]) (
    P1 (.bin .eql) [x1, x3] fun v1 =>
    ifB v1 (
      P1 (.bin .lss) [x0, x2] fun v2 =>
      Q .ret [v2]) (
      Q .ret [.bool false]))) := by kernel_rfl
def spec_l06Less_S : Sig := ⟨[.val true [.sc, .sc], .val true [.sc, .sc]], [(false, [.sc])], F_l06Less⟩
def spec_l06Less_hs : List NF := []

def spec_CylinderOk_b0 : L := .seq (.seq (.seq (.rg [⟨[], .len, [.v 3], 1⟩, ⟨[], .bin .lss, [.v 0, .v 4], 1⟩]) (.ite (.v 5) (.skip) (.seq (.tup []) (.exit 0)))) (.seq (.block 1 (.seq (.seq (.rg [⟨[], .idx [.sc, .sc], [.v 3, .v 0], 2⟩]) (.seq (.rg [⟨[], .bin .sub, [.v 2, .k (.int .i64 1)], 1⟩, ⟨[], .call F_l01In 0 1, [.v 6, .k (.int .i64 0), .v 8], 1⟩, ⟨[], .un .not, [.v 9], 1⟩, ⟨[(.v 10, false)], .bin .sub, [.v 1, .k (.int .i64 1)], 1⟩, ⟨[(.v 10, false)], .call F_l01In 0 1, [.v 7, .k (.int .i64 0), .v 11], 1⟩, ⟨[(.v 10, false)], .un .not, [.v 12], 1⟩, ⟨[], .pick, [.v 10, .k (.bool true), .v 13], 1⟩, ⟨[(.v 14, false)], .bin .gtr, [.v 0, .k (.int .i64 0)], 1⟩, ⟨[(.v 14, false), (.v 15, true)], .bin .sub, [.v 0, .k (.int .i64 1)], 1⟩, ⟨[(.v 14, false), (.v 15, true)], .idx [.sc, .sc], [.v 3, .v 16], 2⟩, ⟨[(.v 14, false), (.v 15, true)], .call F_l06Less 0 1, [.v 17, .v 18, .v 6, .v 7], 1⟩, ⟨[(.v 14, false), (.v 15, true)], .un .not, [.v 19], 1⟩, ⟨[(.v 14, false)], .pick, [.v 15, .v 20, .k (.bool false)], 1⟩, ⟨[], .pick, [.v 14, .k (.bool true), .v 21], 1⟩]) (.ite (.v 22) (.seq (.rg []) (.ret [.k (.bool false)])) (.skip)))) (.tup [.v 0, .v 1, .v 2, .v 3]))) (.rg [⟨[], .bin .add, [.v 0, .k (.int .i64 1)], 1⟩]))) (.tup [.v 4, .v 1, .v 2, .v 3])
theorem spec_CylinderOk_b0_sh (Q : QT) (x0 x1 x2 x3 : V) : shL spec_CylinderOk_b0 Q [x0, x1, x2, x3] = (
  P1 (.len) [x3] fun v0 =>
  P1 (.bin .lss) [x0, v0] fun v1 =>
  ifB v1 (
    P2 (.idx [.sc, .sc]) [x3, x0] fun v2 v3 =>
    P1 (.bin .sub) [x2, .int .i64 1] fun v4 =>
    P1 (.call F_l01In 0 1) [v2, .int .i64 0, v4] fun v5 =>
    P1 (.un .not) [v5] fun v6 =>
    ifB v6 (
      Q .ret [.bool false]) (
      P1 (.bin .sub) [x1, .int .i64 1] fun v7 =>
      P1 (.call F_l01In 0 1) [v3, .int .i64 0, v7] fun v8 =>
      P1 (.un .not) [v8] fun v9 =>
      ifB v9 (
        Q .ret [.bool false]) (
        P1 (.bin .gtr) [x0, .int .i64 0] fun v10 =>
        ifB v10 (
          P1 (.bin .sub) [x0, .int .i64 1] fun v11 =>
          P2 (.idx [.sc, .sc]) [x3, v11] fun v12 v13 =>
          P1 (.call F_l06Less 0 1) [v12, v13, v2, v3] fun v14 =>
          P1 (.un .not) [v14] fun v15 =>
          ifB v15 (
            Q .ret [.bool false]) (
            P1 (.bin .add) [x0, .int .i64 1] fun v16 =>
            Q .normal [v16, x1, x2, x3])) (
          P1 (.bin .add) [x0, .int .i64 1] fun v17 =>
          Q .normal [v17, x1, x2, x3])))) (
    Q (.exit 0) [])) := by kernel_rfl

def spec_CylinderOk_r1 : L := .seq (.rg []) (.ret [.k (.bool true)])
theorem spec_CylinderOk_r1_sh (Q : QT) : shL spec_CylinderOk_r1 Q [] = (
  Q .ret [.bool true]) := by kernel_rfl

def spec_CylinderOk_L : L := .seq (.rg []) (.seq (.seq (.rg [⟨[], .call F_l01In 0 1, [.v 0, .k (.int .i64 4), .k (.int .i64 96)], 1⟩, ⟨[], .un .not, [.v 3], 1⟩, ⟨[(.v 4, false)], .call F_l01In 0 1, [.v 1, .k (.int .i64 1), .k (.int .i64 100)], 1⟩, ⟨[(.v 4, false)], .un .not, [.v 5], 1⟩, ⟨[], .pick, [.v 4, .k (.bool true), .v 6], 1⟩, ⟨[(.v 7, false)], .len, [.v 2], 1⟩, ⟨[(.v 7, false)], .bin .gtr, [.v 8, .k (.int .i64 100)], 1⟩, ⟨[], .pick, [.v 7, .k (.bool true), .v 9], 1⟩]) (.ite (.v 10) (.seq (.rg []) (.ret [.k (.bool false)])) (.skip))) (.seq (.seq (.rg []) (.block 0 (.seq (.tup [.k (.int .i64 0), .v 0, .v 1, .v 2]) (.loop (spec_CylinderOk_b0))))) (spec_CylinderOk_r1)))
theorem spec_CylinderOk_L_sh (Q : QT) (x0 x1 x2 : V) : shL spec_CylinderOk_L Q [x0, x1, x2] = (
  P1 (.call F_l01In 0 1) [x0, .int .i64 4, .int .i64 96] fun v0 =>
  P1 (.un .not) [v0] fun v1 =>
  ifB v1 (
    Q .ret [.bool false]) (
    P1 (.call F_l01In 0 1) [x1, .int .i64 1, .int .i64 100] fun v2 =>
    P1 (.un .not) [v2] fun v3 =>
    ifB v3 (
      Q .ret [.bool false]) (
      P1 (.len) [x2] fun v4 =>
      P1 (.bin .gtr) [v4, .int .i64 100] fun v5 =>
      ifB v5 (
        Q .ret [.bool false]) (
        shL (.loop spec_CylinderOk_b0) (qB 0 (qS (shL spec_CylinderOk_r1 Q) Q)) [.int .i64 0, x0, x1, x2])))) := by kernel_rfl
def spec_CylinderOk_S : Sig := ⟨[.val true [.sc, .sc, .sl [.sc, .sc]]], [(false, [.sc])], F_CylinderOk⟩
def spec_CylinderOk_hs : List NF := [⟨[], [], [], 64⟩, ⟨[(1, .ptr 64 0), (3, .sc false [.sc])], [], [(64, [.sc, .sc, .ro [.sc, .sc]])], 65⟩, ⟨[(1, .ptr 64 0), (3, .sc false [.sc])], [], [(64, [.sc, .sc, .ro [.sc, .sc]])], 65⟩]

end
end Go.Mw

/- Laws' helpers on memory, and the plain functions of pieces, pins, cylinders, states. -/
namespace Go.Mw
end Go.Mw

/- Pieces, pins, cylinders, states: the functions compute what was said. -/
namespace Go.Mw
/-! show time -/
/-! cylinders -/
theorem spec_l06Less_ok : ∀ ds outs, F_l06Less ds = some outs → shL spec_l06Less_L (qRet outs) ds := F_l06Less_elim fun x y => by
  rw [spec_l06Less_L_sh]; simp [pinLess]; grind
end Go.Mw

/- Cylinders and their pins. -/
namespace Go.Mw
theorem rising_iff : ∀ l : List T2, rising l = true ↔ ∀ j (_ : j < l.length), 0 < j → pinLess l[j - 1] l[j] = true
  | [] => by simp [rising]
  | [a] => by simp [rising]
  | a :: b :: r => by
    simp only [rising, Bool.and_eq_true, rising_iff (b :: r)]
    constructor
    · rintro ⟨h1, h2⟩ j hj h0
      rcases j with _ | _ | j
      · omega
      · exact h1
      · exact h2 (j + 1) (by simp at hj ⊢; omega) (by omega)
    · intro h
      refine ⟨h 1 (by simp) (by omega), fun j hj h0 => ?_⟩
      have := h (j + 1) (by simp at hj ⊢; omega) (by omega)
      rcases j with _ | j
      · omega
      · exact this

def goodPin (x : Cyl) (j : Nat) (hj : j < x.p.length) : Prop := pinIn x.s x.t x.p[j] = true ∧ (0 < j → pinLess x.p[j - 1] x.p[j] = true)
theorem cylOk_iff (x : Cyl) : cylOk x = true ↔ within x.s 4 96 = true ∧ within x.t 1 100 = true ∧ x.p.length ≤ 100 ∧ ∀ j (hj : j < x.p.length), goodPin x j hj := by
  simp only [cylOk, Bool.and_eq_true, decide_eq_true_eq, rising_iff, List.all_eq_true, goodPin, and_assoc]
  refine and_congr_right fun _ => and_congr_right fun _ => and_congr_right fun _ => ?_
  constructor
  · rintro ⟨h1, h2⟩ j hj
    exact ⟨h1 _ (List.getElem_mem hj), h2 j hj⟩
  · intro h
    refine ⟨fun p hp => ?_, fun j hj h0 => (h j hj).2 h0⟩
    obtain ⟨j, hj, rfl⟩ := List.getElem_of_mem hp
    exact (h j hj).1

theorem spec_CylinderOk_ok : ∀ ds outs, F_CylinderOk ds = some outs → shL spec_CylinderOk_L (qRet outs) ds := F_CylinderOk_elim fun x hp => by
  rw [spec_CylinderOk_L_sh]
  cases h1 : within x.s 4 96 with
  | false => simp [h1, cylOk]
  | true =>
  cases h2 : within x.t 1 100 with
  | false => simp [h1, h2, cylOk]
  | true =>
  have hs : 4 ≤ x.s ∧ x.s ≤ 96 := by simpa [within] using h1
  have ht : 1 ≤ x.t ∧ x.t ≤ 100 := by simpa [within] using h2
  simp [h1, h2]
  refine ⟨fun h => ?_, fun h3 => ?_⟩
  · cases hc : cylOk x with
    | false => rfl
    | true => have := ((cylOk_iff x).1 hc).2.2.1; omega
  have hc : cylOk x = true ↔ ∀ j (hj : j < x.p.length), goodPin x j hj := by
    rw [cylOk_iff, h1, h2]; simp; intro _; omega
  refine loop_upto x.p.length (fun k => [.int .i64 k, .int .i64 x.s, .int .i64 x.t, vL I2 v2 x.p]) (by intro i j _ _ h; simp at h; omega) (fun k => ∀ j (hj : j < x.p.length), j < k → goodPin x j hj) (by simp) (by simp) ?_
  intro k hk hP
  rw [spec_CylinderOk_b0_sh]
  simp
  refine ⟨fun h => ?_, fun h => ?_⟩
  · have hbad : ¬ goodPin x k h → cylOk x = false := fun hn => by
      cases hcc : cylOk x with
      | false => rfl
      | true => exact absurd (hc.1 hcc k h) hn
    have hgood : goodPin x k h → ∀ j (hj : j < x.p.length), j < k + 1 → goodPin x j hj := fun hg j hj hjk => by
      by_cases hjk2 : j = k
      · subst hjk2; exact hg
      · exact hP j hj (by omega)
    simp (disch := omega) only [h, List.getElem?_eq_getElem, Option.some.injEq, exists_eq_left', wrap_id]
    cases e1 : within x.p[k].a 0 (x.t - 1) with
    | false => simp; exact hbad (by simp [goodPin, pinIn, e1])
    | true =>
    cases e2 : within x.p[k].b 0 (x.s - 1) with
    | false => simp; exact hbad (by simp [goodPin, pinIn, e1, e2])
    | true =>
    have hk1 : ((k : Int) - 1).toNat = k - 1 := by omega
    have hk2 : k - 1 < x.p.length := by omega
    simp (disch := omega) [hk1]
    refine ⟨fun hk0 => ⟨by omega, fun e3 => hbad (by simp [goodPin, e3, hk0]), fun e3 => ?_⟩, fun hk0 => ?_⟩
    · exact hgood (by simp [goodPin, pinIn, e1, e2, e3])
    · exact hgood ⟨by simp [pinIn, e1, e2], fun hh => by omega⟩
  · obtain rfl : k = x.p.length := by omega
    simp [spec_CylinderOk_r1_sh]
    exact (hc.2 fun j hj => hP j hj hj)
end Go.Mw

/- Sums, steps, states. -/
namespace Go.Mw
theorem cylOk_bounds {x : Cyl} (h : cylOk x = true) : (4 ≤ x.s ∧ x.s ≤ 96) ∧ (1 ≤ x.t ∧ x.t ≤ 100) ∧ x.p.length ≤ 100 := by
  have h := (cylOk_iff x).1 h
  exact ⟨by simpa [within] using h.1, by simpa [within] using h.2.1, h.2.2.1⟩
end Go.Mw

/- States: around, pins at an angle, start, stop, step. -/
namespace Go.Mw
theorem sttOk_iff (x : Cyl) (y : Stt) : sttOk x y = true ↔ cylOk x = true ∧ (0 ≤ y.a ∧ y.a ≤ x.s - 1) ∧ (0 ≤ y.p ∧ y.p ≤ 100000) := by
  simp [sttOk, within]
end Go.Mw

/- Steps and runs. -/
namespace Go.Mw
theorem canStep_iff (x : Cyl) (y : Stt) : canStep x y = true ↔ sttOk x y = true ∧ y.n = true ∧ sttOk x (nextStt x y) = true := by
  simp [canStep, and_assoc]
theorem itS_on {x : Cyl} {y : Stt} (h : sttOk x y = true) (hn : y.n = true) : ∀ k, k < runN x y → (itS x y k).a = y.a + k ∧ (itS x y k).n = true
  | 0, _ => by simp [itS, hn]
  | k + 1, hk => by
    have ih := itS_on h hn k (by omega)
    have hs := (sttOk_iff x y).1 h
    unfold runN at hk
    have e : (y.a + k + 1) % x.s = y.a + k + 1 := Int.emod_eq_of_lt (by omega) (by omega)
    simp only [itS, nextStt, ih.1, e]
    simp; omega
theorem itS_off {x : Cyl} {y : Stt} (h : sttOk x y = true) (hn : y.n = true) : (itS x y (runN x y)).a = 0 ∧ (itS x y (runN x y)).n = false := by
  have hs := (sttOk_iff x y).1 h
  obtain ⟨k, hk⟩ : ∃ k, runN x y = k + 1 := ⟨runN x y - 1, by unfold runN; omega⟩
  have ih := itS_on h hn k (by omega)
  rw [hk]
  have e : (y.a + k + 1) % x.s = 0 := by
    rw [show y.a + k + 1 = x.s by unfold runN at hk; omega, Int.emod_self]
  simp only [itS, nextStt, ih.1, e]
  simp
end Go.Mw

/- Digits; boxes. -/
namespace Go.Mw
theorem areDigits_iff {l : List Int} {a b : Int} : areDigits l a b = true ↔ within l.length a b = true ∧ ∀ x ∈ l, within x 0 9 = true := by
  simp [areDigits]
end Go.Mw

/- Checked digits. -/
namespace Go.Mw
end Go.Mw

/- Boxes; moods. -/
namespace Go.Mw
end Go.Mw

/- Moods. -/
namespace Go.Mw
/-- Which of the numbers below n stand in the list. -/
def seenOf (l : List Int) (n : Nat) : List Bool := (List.range n).map fun j : Nat => decide ((j : Int) ∈ l)
@[simp] theorem seenOf_len {l : List Int} {n : Nat} : (seenOf l n).length = n := by simp [seenOf]
end Go.Mw

/- What functions compute, in plain terms: benches and workshops. -/
namespace Go.Mw
/-! memory -/
def sum2 (l : List (List T2)) : Nat := (l.map List.length).sum
def fitLL (l : List (List T2)) : Prop := l.length ≤ 1048576 ∧ ∀ x ∈ l, x.length ≤ 1048576
/-! benches -/
def benchOk (b : Bench) : Bool := cylOk ⟨b.s, b.t, b.p⟩ && (decide (b.o.length ≤ 30) && b.o.all fun p => cylOk ⟨b.s, b.t, p⟩)
def E_BenchOk (x : Bench) : List V := [.int .i64 x.s, .int .i64 x.t, vL I2 v2 x.p, vL IL2 vLL2 x.o]
noncomputable def F_BenchOk : List V → Option (List V) := mkF E_BenchOk (fun x => x.p.length ≤ 1048576 ∧ fitLL x.o) (fun x => [.bool (benchOk x)])
theorem F_BenchOk_inj : ∀ x y, E_BenchOk x = E_BenchOk y → x = y := by
  rintro ⟨xs, xt, xp, xo⟩ ⟨xs', xt', xp', xo'⟩ h
  simpa [E_BenchOk] using h
theorem F_BenchOk_elim {P : List V → List V → Prop} (h : ∀ (x : Bench), (x.p.length ≤ 1048576 ∧ fitLL x.o) → P [.int .i64 x.s, .int .i64 x.t, vL I2 v2 x.p, vL IL2 vLL2 x.o] [.bool (benchOk x)]) : ∀ ds outs, F_BenchOk ds = some outs → P ds outs := by
  intro ds outs hh
  obtain ⟨x, rfl, hp, rfl⟩ := mkF_inv hh
  exact h x hp
theorem p_BenchOk {x_s : Int} {x_t : Int} {x_p : List T2} {x_o : List (List T2)} {nr_ : Nat} {kk_ : V → Prop} (hp : (⟨x_s, x_t, x_p, x_o⟩ : Bench).p.length ≤ 1048576 ∧ fitLL (⟨x_s, x_t, x_p, x_o⟩ : Bench).o) : P1 (.call F_BenchOk 0 nr_) [.int .i64 x_s, .int .i64 x_t, vL I2 v2 x_p, vL IL2 vLL2 x_o] kk_ ↔ kk_ (.bool (benchOk (⟨x_s, x_t, x_p, x_o⟩ : Bench))) :=
  P1_callF (by unfold F_BenchOk; exact mkF_eq F_BenchOk_inj ((⟨x_s, x_t, x_p, x_o⟩ : Bench)) hp)

def newBench (s t : Int) : Bench := if benchOk ⟨s, t, [], []⟩ then ⟨s, t, [], []⟩ else ⟨0, 0, [], []⟩
def E_NewBench : Int × Int → List V := fun (s, t) => [.int .i64 s, .int .i64 t]
noncomputable def F_NewBench : List V → Option (List V) := mkF E_NewBench (fun (_, _) => True) (fun (s, t) => [.int .i64 (newBench s t).s, .int .i64 (newBench s t).t, vL I2 v2 (newBench s t).p, vL IL2 vLL2 (newBench s t).o, .bool (benchOk ⟨s, t, [], []⟩)])
theorem F_NewBench_inj : ∀ x y, E_NewBench x = E_NewBench y → x = y := by
  rintro ⟨s, t⟩ ⟨s', t'⟩ h
  simpa [E_NewBench] using h
theorem F_NewBench_elim {P : List V → List V → Prop} (h : ∀ (s : Int) (t : Int), P [.int .i64 s, .int .i64 t] [.int .i64 (newBench s t).s, .int .i64 (newBench s t).t, vL I2 v2 (newBench s t).p, vL IL2 vLL2 (newBench s t).o, .bool (benchOk ⟨s, t, [], []⟩)]) : ∀ ds outs, F_NewBench ds = some outs → P ds outs := by
  intro ds outs hh
  obtain ⟨⟨s, t⟩, rfl, -, rfl⟩ := mkF_inv hh
  exact h s t
@[simp] theorem p_NewBench {s : Int} {t : Int} {nr_ : Nat} {kk_ : V → V → V → V → V → Prop} : P5 (.call F_NewBench 0 nr_) [.int .i64 s, .int .i64 t] kk_ ↔ kk_ (.int .i64 (newBench s t).s) (.int .i64 (newBench s t).t) (vL I2 v2 (newBench s t).p) (vL IL2 vLL2 (newBench s t).o) (.bool (benchOk ⟨s, t, [], []⟩)) :=
  P5_callF (by unfold F_NewBench; exact mkF_eq F_NewBench_inj (s, t) trivial)

def E_l06Copy (x : Cyl) : List V := [.int .i64 x.s, .int .i64 x.t, vL I2 v2 x.p]
noncomputable def F_l06Copy : List V → Option (List V) := mkF E_l06Copy (fun x => x.p.length ≤ 4194304) (fun x => [.int .i64 x.s, .int .i64 x.t, vL I2 v2 x.p])
theorem F_l06Copy_inj : ∀ x y, E_l06Copy x = E_l06Copy y → x = y := by
  rintro ⟨xs, xt, xp⟩ ⟨xs', xt', xp'⟩ h
  simpa [E_l06Copy] using h
theorem F_l06Copy_elim {P : List V → List V → Prop} (h : ∀ (x : Cyl), (x.p.length ≤ 4194304) → P [.int .i64 x.s, .int .i64 x.t, vL I2 v2 x.p] [.int .i64 x.s, .int .i64 x.t, vL I2 v2 x.p]) : ∀ ds outs, F_l06Copy ds = some outs → P ds outs := by
  intro ds outs hh
  obtain ⟨x, rfl, hp, rfl⟩ := mkF_inv hh
  exact h x hp
theorem p_l06Copy {x_s : Int} {x_t : Int} {x_p : List T2} {nr_ : Nat} {kk_ : V → V → V → Prop} (hp : (⟨x_s, x_t, x_p⟩ : Cyl).p.length ≤ 4194304) : P3 (.call F_l06Copy 0 nr_) [.int .i64 x_s, .int .i64 x_t, vL I2 v2 x_p] kk_ ↔ kk_ (.int .i64 ((⟨x_s, x_t, x_p⟩ : Cyl)).s) (.int .i64 ((⟨x_s, x_t, x_p⟩ : Cyl)).t) (vL I2 v2 ((⟨x_s, x_t, x_p⟩ : Cyl)).p) :=
  P3_callF (by unfold F_l06Copy; exact mkF_eq F_l06Copy_inj ((⟨x_s, x_t, x_p⟩ : Cyl)) hp)

def E_l37Copy (x : Bench) : List V := [.int .i64 x.s, .int .i64 x.t, vL I2 v2 x.p, vL IL2 vLL2 x.o]
noncomputable def F_l37Copy : List V → Option (List V) := mkF E_l37Copy (fun x => x.p.length ≤ 1048576 ∧ fitLL x.o) (fun x => [.int .i64 x.s, .int .i64 x.t, vL I2 v2 x.p, vL IL2 vLL2 x.o])
theorem F_l37Copy_inj : ∀ x y, E_l37Copy x = E_l37Copy y → x = y := by
  rintro ⟨xs, xt, xp, xo⟩ ⟨xs', xt', xp', xo'⟩ h
  simpa [E_l37Copy] using h
theorem F_l37Copy_elim {P : List V → List V → Prop} (h : ∀ (x : Bench), (x.p.length ≤ 1048576 ∧ fitLL x.o) → P [.int .i64 x.s, .int .i64 x.t, vL I2 v2 x.p, vL IL2 vLL2 x.o] [.int .i64 x.s, .int .i64 x.t, vL I2 v2 x.p, vL IL2 vLL2 x.o]) : ∀ ds outs, F_l37Copy ds = some outs → P ds outs := by
  intro ds outs hh
  obtain ⟨x, rfl, hp, rfl⟩ := mkF_inv hh
  exact h x hp
theorem p_l37Copy {x_s : Int} {x_t : Int} {x_p : List T2} {x_o : List (List T2)} {nr_ : Nat} {kk_ : V → V → V → V → Prop} (hp : (⟨x_s, x_t, x_p, x_o⟩ : Bench).p.length ≤ 1048576 ∧ fitLL (⟨x_s, x_t, x_p, x_o⟩ : Bench).o) : P4 (.call F_l37Copy 0 nr_) [.int .i64 x_s, .int .i64 x_t, vL I2 v2 x_p, vL IL2 vLL2 x_o] kk_ ↔ kk_ (.int .i64 ((⟨x_s, x_t, x_p, x_o⟩ : Bench)).s) (.int .i64 ((⟨x_s, x_t, x_p, x_o⟩ : Bench)).t) (vL I2 v2 ((⟨x_s, x_t, x_p, x_o⟩ : Bench)).p) (vL IL2 vLL2 ((⟨x_s, x_t, x_p, x_o⟩ : Bench)).o) :=
  P4_callF (by unfold F_l37Copy; exact mkF_eq F_l37Copy_inj ((⟨x_s, x_t, x_p, x_o⟩ : Bench)) hp)

def missing (a b : List T2) : Int := (a.filter fun p => decide (p ∉ b)).length
def pullPin (c : Cyl) (k : Int) : List T2 := if cylOk c && (decide (0 ≤ k) && decide (k < c.p.length)) then c.p.take k.toNat ++ c.p.drop (k.toNat + 1) else c.p
def E_PullPin : Cyl × Int → List V := fun (x, k) => [.int .i64 x.s, .int .i64 x.t, vL I2 v2 x.p, .int .i64 k]
noncomputable def F_PullPin : List V → Option (List V) := mkF E_PullPin (fun (x, _) => x.p.length ≤ 1048576) (fun (x, k) => [.int .i64 ((⟨x.s, x.t, pullPin x k⟩ : Cyl)).s, .int .i64 ((⟨x.s, x.t, pullPin x k⟩ : Cyl)).t, vL I2 v2 ((⟨x.s, x.t, pullPin x k⟩ : Cyl)).p, .bool (cylOk x && (decide (0 ≤ k) && decide (k < x.p.length)))])
theorem F_PullPin_inj : ∀ x y, E_PullPin x = E_PullPin y → x = y := by
  rintro ⟨⟨xs, xt, xp⟩, k⟩ ⟨⟨xs', xt', xp'⟩, k'⟩ h
  simpa [E_PullPin, and_assoc] using h
theorem F_PullPin_elim {P : List V → List V → Prop} (h : ∀ (x : Cyl) (k : Int), (x.p.length ≤ 1048576) → P [.int .i64 x.s, .int .i64 x.t, vL I2 v2 x.p, .int .i64 k] [.int .i64 ((⟨x.s, x.t, pullPin x k⟩ : Cyl)).s, .int .i64 ((⟨x.s, x.t, pullPin x k⟩ : Cyl)).t, vL I2 v2 ((⟨x.s, x.t, pullPin x k⟩ : Cyl)).p, .bool (cylOk x && (decide (0 ≤ k) && decide (k < x.p.length)))]) : ∀ ds outs, F_PullPin ds = some outs → P ds outs := by
  intro ds outs hh
  obtain ⟨⟨x, k⟩, rfl, hp, rfl⟩ := mkF_inv hh
  exact h x k hp
theorem p_PullPin {x_s : Int} {x_t : Int} {x_p : List T2} {k : Int} {nr_ : Nat} {kk_ : V → V → V → V → Prop} (hp : (⟨x_s, x_t, x_p⟩ : Cyl).p.length ≤ 1048576) : P4 (.call F_PullPin 0 nr_) [.int .i64 x_s, .int .i64 x_t, vL I2 v2 x_p, .int .i64 k] kk_ ↔ kk_ (.int .i64 ((⟨(⟨x_s, x_t, x_p⟩ : Cyl).s, (⟨x_s, x_t, x_p⟩ : Cyl).t, pullPin (⟨x_s, x_t, x_p⟩ : Cyl) k⟩ : Cyl)).s) (.int .i64 ((⟨(⟨x_s, x_t, x_p⟩ : Cyl).s, (⟨x_s, x_t, x_p⟩ : Cyl).t, pullPin (⟨x_s, x_t, x_p⟩ : Cyl) k⟩ : Cyl)).t) (vL I2 v2 ((⟨(⟨x_s, x_t, x_p⟩ : Cyl).s, (⟨x_s, x_t, x_p⟩ : Cyl).t, pullPin (⟨x_s, x_t, x_p⟩ : Cyl) k⟩ : Cyl)).p) (.bool (cylOk (⟨x_s, x_t, x_p⟩ : Cyl) && (decide (0 ≤ k) && decide (k < (⟨x_s, x_t, x_p⟩ : Cyl).p.length)))) :=
  P4_callF (by unfold F_PullPin; exact mkF_eq F_PullPin_inj ((⟨x_s, x_t, x_p⟩ : Cyl), k) hp)


/-! workshops -/
def upward : List Int → Bool
  | [] => true
  | [_] => true
  | a :: b :: r => decide (a ≤ b) && upward (b :: r)
def combOk (l : List Int) : Bool := within l.length 1 24 && (l.all (within · 0 60) && upward l)
def E_CombOk (l : List Int) : List V := [vL I1 v1 l]
noncomputable def F_CombOk : List V → Option (List V) := mkF E_CombOk (fun l => l.length ≤ 1048576) (fun l => [.bool (combOk l)])
theorem F_CombOk_inj : ∀ x y, E_CombOk x = E_CombOk y → x = y := by
  rintro l l' h
  simpa [E_CombOk] using h
theorem F_CombOk_elim {P : List V → List V → Prop} (h : ∀ (l : List Int), (l.length ≤ 1048576) → P [vL I1 v1 l] [.bool (combOk l)]) : ∀ ds outs, F_CombOk ds = some outs → P ds outs := by
  intro ds outs hh
  obtain ⟨l, rfl, hp, rfl⟩ := mkF_inv hh
  exact h l hp
theorem p_CombOk {l : List Int} {nr_ : Nat} {kk_ : V → Prop} (hp : l.length ≤ 1048576) : P1 (.call F_CombOk 0 nr_) [vL I1 v1 l] kk_ ↔ kk_ (.bool (combOk l)) :=
  P1_callF (by unfold F_CombOk; exact mkF_eq F_CombOk_inj (l) hp)

def springOk (s : T3) : Bool := within s.b 1 50 && (within s.a 0 s.b && within s.c 1 10000)
def E_SpringOk (x : T3) : List V := [.int .i64 x.a, .int .i64 x.b, .int .i64 x.c]
noncomputable def F_SpringOk : List V → Option (List V) := mkF E_SpringOk (fun _ => True) (fun x => [.bool (springOk x)])
theorem F_SpringOk_inj : ∀ x y, E_SpringOk x = E_SpringOk y → x = y := by
  rintro ⟨xa, xb, xc⟩ ⟨xa', xb', xc'⟩ h
  simpa [E_SpringOk] using h
theorem F_SpringOk_elim {P : List V → List V → Prop} (h : ∀ (x : T3), P [.int .i64 x.a, .int .i64 x.b, .int .i64 x.c] [.bool (springOk x)]) : ∀ ds outs, F_SpringOk ds = some outs → P ds outs := by
  intro ds outs hh
  obtain ⟨x, rfl, -, rfl⟩ := mkF_inv hh
  exact h x
@[simp] theorem p_SpringOk {x_a : Int} {x_b : Int} {x_c : Int} {nr_ : Nat} {kk_ : V → Prop} : P1 (.call F_SpringOk 0 nr_) [.int .i64 x_a, .int .i64 x_b, .int .i64 x_c] kk_ ↔ kk_ (.bool (springOk (⟨x_a, x_b, x_c⟩ : T3))) :=
  P1_callF (by unfold F_SpringOk; exact mkF_eq F_SpringOk_inj ((⟨x_a, x_b, x_c⟩ : T3)) trivial)

def Shop.bench (w : Shop) : Bench := ⟨w.s, w.t, w.p, w.o⟩
def shopOk (w : Shop) : Bool := benchOk w.bench && (combOk w.c && (springOk ⟨w.u, w.m, w.f⟩ && (decide (w.t = w.c.length) && (within w.y 0 1000000 && within w.d 0 1000000))))
def E_WorkshopOk (x : Shop) : List V := [.int .i64 x.s, .int .i64 x.t, vL I2 v2 x.p, vL IL2 vLL2 x.o, vL I1 v1 x.c, .int .i64 x.u, .int .i64 x.m, .int .i64 x.f, .int .i64 x.y, .int .i64 x.d]
noncomputable def F_WorkshopOk : List V → Option (List V) := mkF E_WorkshopOk (fun x => x.p.length ≤ 1048576 ∧ fitLL x.o ∧ x.c.length ≤ 1048576) (fun x => [.bool (shopOk x)])
theorem F_WorkshopOk_inj : ∀ x y, E_WorkshopOk x = E_WorkshopOk y → x = y := by
  rintro ⟨xs, xt, xp, xo, xc, xu, xm, xf, xy, xd⟩ ⟨xs', xt', xp', xo', xc', xu', xm', xf', xy', xd'⟩ h
  simpa [E_WorkshopOk] using h
theorem F_WorkshopOk_elim {P : List V → List V → Prop} (h : ∀ (x : Shop), (x.p.length ≤ 1048576 ∧ fitLL x.o ∧ x.c.length ≤ 1048576) → P [.int .i64 x.s, .int .i64 x.t, vL I2 v2 x.p, vL IL2 vLL2 x.o, vL I1 v1 x.c, .int .i64 x.u, .int .i64 x.m, .int .i64 x.f, .int .i64 x.y, .int .i64 x.d] [.bool (shopOk x)]) : ∀ ds outs, F_WorkshopOk ds = some outs → P ds outs := by
  intro ds outs hh
  obtain ⟨x, rfl, hp, rfl⟩ := mkF_inv hh
  exact h x hp
theorem p_WorkshopOk {x_s : Int} {x_t : Int} {x_p : List T2} {x_o : List (List T2)} {x_c : List Int} {x_u : Int} {x_m : Int} {x_f : Int} {x_y : Int} {x_d : Int} {nr_ : Nat} {kk_ : V → Prop} (hp : (⟨x_s, x_t, x_p, x_o, x_c, x_u, x_m, x_f, x_y, x_d⟩ : Shop).p.length ≤ 1048576 ∧ fitLL (⟨x_s, x_t, x_p, x_o, x_c, x_u, x_m, x_f, x_y, x_d⟩ : Shop).o ∧ (⟨x_s, x_t, x_p, x_o, x_c, x_u, x_m, x_f, x_y, x_d⟩ : Shop).c.length ≤ 1048576) : P1 (.call F_WorkshopOk 0 nr_) [.int .i64 x_s, .int .i64 x_t, vL I2 v2 x_p, vL IL2 vLL2 x_o, vL I1 v1 x_c, .int .i64 x_u, .int .i64 x_m, .int .i64 x_f, .int .i64 x_y, .int .i64 x_d] kk_ ↔ kk_ (.bool (shopOk (⟨x_s, x_t, x_p, x_o, x_c, x_u, x_m, x_f, x_y, x_d⟩ : Shop))) :=
  P1_callF (by unfold F_WorkshopOk; exact mkF_eq F_WorkshopOk_inj ((⟨x_s, x_t, x_p, x_o, x_c, x_u, x_m, x_f, x_y, x_d⟩ : Shop)) hp)

def opened (s : Int) (c : List Int) (m : Int) : Shop := ⟨(newBench s c.length).s, (newBench s c.length).t, [], [], c, 0, 10, 100, m, 0⟩
def openShop (s : Int) (c : List Int) (m : Int) : Shop := if shopOk (opened s c m) then opened s c m else ⟨0, 0, [], [], [], 0, 0, 0, 0, 0⟩
def E_OpenWorkshop : Int × List Int × Int → List V := fun (s, l, m) => [.int .i64 s, vL I1 v1 l, .int .i64 m]
noncomputable def F_OpenWorkshop : List V → Option (List V) := mkF E_OpenWorkshop (fun (_, l, _) => l.length ≤ 1048576) (fun (s, l, m) => [.int .i64 (openShop s l m).s, .int .i64 (openShop s l m).t, vL I2 v2 (openShop s l m).p, vL IL2 vLL2 (openShop s l m).o, vL I1 v1 (openShop s l m).c, .int .i64 (openShop s l m).u, .int .i64 (openShop s l m).m, .int .i64 (openShop s l m).f, .int .i64 (openShop s l m).y, .int .i64 (openShop s l m).d, .bool (shopOk (opened s l m))])
theorem F_OpenWorkshop_inj : ∀ x y, E_OpenWorkshop x = E_OpenWorkshop y → x = y := by
  rintro ⟨s, l, m⟩ ⟨s', l', m'⟩ h
  simpa [E_OpenWorkshop] using h
theorem F_OpenWorkshop_elim {P : List V → List V → Prop} (h : ∀ (s : Int) (l : List Int) (m : Int), (l.length ≤ 1048576) → P [.int .i64 s, vL I1 v1 l, .int .i64 m] [.int .i64 (openShop s l m).s, .int .i64 (openShop s l m).t, vL I2 v2 (openShop s l m).p, vL IL2 vLL2 (openShop s l m).o, vL I1 v1 (openShop s l m).c, .int .i64 (openShop s l m).u, .int .i64 (openShop s l m).m, .int .i64 (openShop s l m).f, .int .i64 (openShop s l m).y, .int .i64 (openShop s l m).d, .bool (shopOk (opened s l m))]) : ∀ ds outs, F_OpenWorkshop ds = some outs → P ds outs := by
  intro ds outs hh
  obtain ⟨⟨s, l, m⟩, rfl, hp, rfl⟩ := mkF_inv hh
  exact h s l m hp
theorem p_OpenWorkshop {s : Int} {l : List Int} {m : Int} {nr_ : Nat} {kk_ : V → V → V → V → V → V → V → V → V → V → V → Prop} (hp : l.length ≤ 1048576) : P11 (.call F_OpenWorkshop 0 nr_) [.int .i64 s, vL I1 v1 l, .int .i64 m] kk_ ↔ kk_ (.int .i64 (openShop s l m).s) (.int .i64 (openShop s l m).t) (vL I2 v2 (openShop s l m).p) (vL IL2 vLL2 (openShop s l m).o) (vL I1 v1 (openShop s l m).c) (.int .i64 (openShop s l m).u) (.int .i64 (openShop s l m).m) (.int .i64 (openShop s l m).f) (.int .i64 (openShop s l m).y) (.int .i64 (openShop s l m).d) (.bool (shopOk (opened s l m))) :=
  P11_callF (by unfold F_OpenWorkshop; exact mkF_eq F_OpenWorkshop_inj (s, l, m) hp)

def E_SampleWorkshop (_ : Unit) : List V := []
noncomputable def F_SampleWorkshop : List V → Option (List V) := mkF E_SampleWorkshop (fun _ => True) (fun _ => [.int .i64 (openShop 16 [12, 12, 16, 19] 40).s, .int .i64 (openShop 16 [12, 12, 16, 19] 40).t, vL I2 v2 (openShop 16 [12, 12, 16, 19] 40).p, vL IL2 vLL2 (openShop 16 [12, 12, 16, 19] 40).o, vL I1 v1 (openShop 16 [12, 12, 16, 19] 40).c, .int .i64 (openShop 16 [12, 12, 16, 19] 40).u, .int .i64 (openShop 16 [12, 12, 16, 19] 40).m, .int .i64 (openShop 16 [12, 12, 16, 19] 40).f, .int .i64 (openShop 16 [12, 12, 16, 19] 40).y, .int .i64 (openShop 16 [12, 12, 16, 19] 40).d])
theorem F_SampleWorkshop_inj : ∀ x y, E_SampleWorkshop x = E_SampleWorkshop y → x = y := fun _ _ _ => rfl
theorem F_SampleWorkshop_elim {P : List V → List V → Prop} (h : ∀ _u : Unit, P [] [.int .i64 (openShop 16 [12, 12, 16, 19] 40).s, .int .i64 (openShop 16 [12, 12, 16, 19] 40).t, vL I2 v2 (openShop 16 [12, 12, 16, 19] 40).p, vL IL2 vLL2 (openShop 16 [12, 12, 16, 19] 40).o, vL I1 v1 (openShop 16 [12, 12, 16, 19] 40).c, .int .i64 (openShop 16 [12, 12, 16, 19] 40).u, .int .i64 (openShop 16 [12, 12, 16, 19] 40).m, .int .i64 (openShop 16 [12, 12, 16, 19] 40).f, .int .i64 (openShop 16 [12, 12, 16, 19] 40).y, .int .i64 (openShop 16 [12, 12, 16, 19] 40).d]) : ∀ ds outs, F_SampleWorkshop ds = some outs → P ds outs := by
  intro ds outs hh
  obtain ⟨x, rfl, -, rfl⟩ := mkF_inv hh
  exact h ()
@[simp] theorem p_SampleWorkshop  {nr_ : Nat} {kk_ : V → V → V → V → V → V → V → V → V → V → Prop} : P10 (.call F_SampleWorkshop 0 nr_) [] kk_ ↔ kk_ (.int .i64 (openShop 16 [12, 12, 16, 19] 40).s) (.int .i64 (openShop 16 [12, 12, 16, 19] 40).t) (vL I2 v2 (openShop 16 [12, 12, 16, 19] 40).p) (vL IL2 vLL2 (openShop 16 [12, 12, 16, 19] 40).o) (vL I1 v1 (openShop 16 [12, 12, 16, 19] 40).c) (.int .i64 (openShop 16 [12, 12, 16, 19] 40).u) (.int .i64 (openShop 16 [12, 12, 16, 19] 40).m) (.int .i64 (openShop 16 [12, 12, 16, 19] 40).f) (.int .i64 (openShop 16 [12, 12, 16, 19] 40).y) (.int .i64 (openShop 16 [12, 12, 16, 19] 40).d) :=
  P10_callF (by unfold F_SampleWorkshop; exact mkF_eq F_SampleWorkshop_inj () trivial)


end Go.Mw

/- Functions of the program, as small pure programs (printed by a program of ours). -/
namespace Go.Mw
noncomputable section
def spec_BenchOk_b0 : L := .seq (.seq (.seq (.rg [⟨[], .len, [.v 4], 1⟩, ⟨[], .bin .lss, [.v 0, .v 5], 1⟩]) (.ite (.v 6) (.skip) (.seq (.tup [.v 1, .v 2, .v 3, .v 4]) (.exit 0)))) (.seq (.block 1 (.seq (.seq (.rg [⟨[], .idx [.sl [.sc, .sc]], [.v 4, .v 0], 1⟩, ⟨[], .call F_CylinderOk 0 1, [.v 1, .v 2, .v 7], 1⟩, ⟨[], .un .not, [.v 8], 1⟩]) (.ite (.v 9) (.seq (.rg []) (.ret [.k (.bool false)])) (.skip))) (.tup [.v 0, .v 1, .v 2, .v 3, .v 4]))) (.rg [⟨[], .bin .add, [.v 0, .k (.int .i64 1)], 1⟩]))) (.tup [.v 5, .v 1, .v 2, .v 3, .v 4])
theorem spec_BenchOk_b0_sh (Q : QT) (x0 x1 x2 x3 x4 : V) : shL spec_BenchOk_b0 Q [x0, x1, x2, x3, x4] = (
  P1 (.len) [x4] fun v0 =>
  P1 (.bin .lss) [x0, v0] fun v1 =>
  ifB v1 (
    P1 (.idx [.sl [.sc, .sc]]) [x4, x0] fun v2 =>
    P1 (.call F_CylinderOk 0 1) [x1, x2, v2] fun v3 =>
    P1 (.un .not) [v3] fun v4 =>
    ifB v4 (
      Q .ret [.bool false]) (
      P1 (.bin .add) [x0, .int .i64 1] fun v5 =>
      Q .normal [v5, x1, x2, x3, x4])) (
    Q (.exit 0) [x1, x2, x3, x4])) := by kernel_rfl

def spec_BenchOk_r1 : L := .seq (.rg [⟨[], .call F_CylinderOk 0 1, [.v 0, .v 1, .v 2], 1⟩, ⟨[(.v 4, true)], .len, [.v 3], 1⟩, ⟨[(.v 4, true)], .bin .leq, [.v 5, .k (.int .i64 30)], 1⟩, ⟨[], .pick, [.v 4, .v 6, .k (.bool false)], 1⟩]) (.ret [.v 7])
theorem spec_BenchOk_r1_sh (Q : QT) (x0 x1 x2 x3 : V) : shL spec_BenchOk_r1 Q [x0, x1, x2, x3] = (
  P1 (.call F_CylinderOk 0 1) [x0, x1, x2] fun v0 =>
  ifB v0 (
    P1 (.len) [x3] fun v1 =>
    P1 (.bin .leq) [v1, .int .i64 30] fun v2 =>
    Q .ret [v2]) (
    Q .ret [.bool false])) := by kernel_rfl

def spec_BenchOk_L : L := .seq (.rg []) (.seq (.seq (.rg []) (.block 0 (.seq (.tup [.k (.int .i64 0), .v 0, .v 1, .v 2, .v 3]) (.loop (spec_BenchOk_b0))))) (spec_BenchOk_r1))
theorem spec_BenchOk_L_sh (Q : QT) (x0 x1 x2 x3 : V) : shL spec_BenchOk_L Q [x0, x1, x2, x3] = (
  shL (.loop spec_BenchOk_b0) (qB 0 (qS (shL spec_BenchOk_r1 Q) Q)) [.int .i64 0, x0, x1, x2, x3]) := by kernel_rfl
def spec_BenchOk_S : Sig := ⟨[.val true [.sc, .sc, .sl [.sc, .sc], .sl [.sl [.sc, .sc]]]], [(false, [.sc])], F_BenchOk⟩
def spec_BenchOk_hs : List NF := [⟨[(1, .ptr 64 0)], [], [(64, [.sc, .sc, .ro [.sc, .sc], .ro [.sl [.sc, .sc]]])], 65⟩, ⟨[(1, .ptr 64 0), (3, .sc false [.sc])], [], [(64, [.sc, .sc, .ro [.sc, .sc], .ro [.sl [.sc, .sc]]])], 65⟩, ⟨[(1, .ptr 64 0), (3, .sc false [.sc])], [], [(64, [.sc, .sc, .ro [.sc, .sc], .ro [.sl [.sc, .sc]]])], 65⟩]

def spec_NewBench_L : L := .seq (.rg []) (.seq (.rg []) (.seq (.seq (.rg [⟨[], .call F_BenchOk 0 1, [.v 0, .v 1, .k (.list [.sc, .sc] []), .k (.list [.sl [.sc, .sc]] [])], 1⟩, ⟨[], .un .not, [.v 2], 1⟩]) (.ite (.v 3) (.seq (.rg []) (.ret [.k (.int .i64 0), .k (.int .i64 0), .k (.list [.sc, .sc] []), .k (.list [.sl [.sc, .sc]] []), .k (.bool false)])) (.skip))) (.seq (.rg []) (.ret [.v 0, .v 1, .k (.list [.sc, .sc] []), .k (.list [.sl [.sc, .sc]] []), .k (.bool true)]))))
theorem spec_NewBench_L_sh (Q : QT) (x0 x1 : V) : shL spec_NewBench_L Q [x0, x1] = (
  P1 (.call F_BenchOk 0 1) [x0, x1, .list [.sc, .sc] [], .list [.sl [.sc, .sc]] []] fun v0 =>
  P1 (.un .not) [v0] fun v1 =>
  ifB v1 (
    Q .ret [.int .i64 0, .int .i64 0, .list [.sc, .sc] [], .list [.sl [.sc, .sc]] [], .bool false]) (
    Q .ret [x0, x1, .list [.sc, .sc] [], .list [.sl [.sc, .sc]] [], .bool true])) := by kernel_rfl
def spec_NewBench_S : Sig := ⟨[.val false [.sc], .val false [.sc]], [(true, [.sc, .sc, .sl [.sc, .sc], .sl [.sl [.sc, .sc]]]), (false, [.sc])], F_NewBench⟩
def spec_NewBench_hs : List NF := []

def spec_l06Copy_L : L := .seq (.rg []) (.seq (.rg [⟨[], .lst [.sc, .sc] true 0, [], 1⟩, ⟨[], .app [.sc, .sc] 16, [.v 3, .v 2], 1⟩]) (.ret [.v 0, .v 1, .v 4]))
theorem spec_l06Copy_L_sh (Q : QT) (x0 x1 x2 : V) : shL spec_l06Copy_L Q [x0, x1, x2] = (
  P1 (.lst [.sc, .sc] true 0) [] fun v0 =>
  P1 (.app [.sc, .sc] 16) [v0, x2] fun v1 =>
  Q .ret [x0, x1, v1]) := by kernel_rfl
def spec_l06Copy_S : Sig := ⟨[.val true [.sc, .sc, .sl [.sc, .sc]]], [(true, [.sc, .sc, .sl [.sc, .sc]])], F_l06Copy⟩
def spec_l06Copy_hs : List NF := []

def spec_l37Copy_b0 : L := .seq (.seq (.seq (.rg [⟨[], .len, [.v 6], 1⟩, ⟨[], .bin .lss, [.v 0, .v 11], 1⟩]) (.ite (.v 12) (.skip) (.seq (.tup [.v 1, .v 2, .v 7, .v 8, .v 9, .v 10]) (.exit 0)))) (.seq (.block 1 (.seq (.rg [⟨[], .lst [.sc, .sc] true 0, [], 1⟩, ⟨[], .idx [.sl [.sc, .sc]], [.v 6, .v 0], 1⟩, ⟨[], .app [.sc, .sc] 16, [.v 13, .v 14], 1⟩, ⟨[], .lst [.sl [.sc, .sc]] false 1, [.v 15], 1⟩, ⟨[], .app [.sl [.sc, .sc]] 24, [.v 2, .v 16], 1⟩]) (.tup [.v 0, .v 1, .v 17, .v 3, .v 4, .v 5, .v 6, .v 7, .v 8, .v 9, .v 10]))) (.rg [⟨[], .bin .add, [.v 0, .k (.int .i64 1)], 1⟩]))) (.tup [.v 11, .v 1, .v 2, .v 3, .v 4, .v 5, .v 6, .v 7, .v 8, .v 9, .v 10])
theorem spec_l37Copy_b0_sh (Q : QT) (x0 x1 x2 x3 x4 x5 x6 x7 x8 x9 x10 : V) : shL spec_l37Copy_b0 Q [x0, x1, x2, x3, x4, x5, x6, x7, x8, x9, x10] = (
  P1 (.len) [x6] fun v0 =>
  P1 (.bin .lss) [x0, v0] fun v1 =>
  ifB v1 (
    P1 (.lst [.sc, .sc] true 0) [] fun v2 =>
    P1 (.idx [.sl [.sc, .sc]]) [x6, x0] fun v3 =>
    P1 (.app [.sc, .sc] 16) [v2, v3] fun v4 =>
    P1 (.lst [.sl [.sc, .sc]] false 1) [v4] fun v5 =>
    P1 (.app [.sl [.sc, .sc]] 24) [x2, v5] fun v6 =>
    P1 (.bin .add) [x0, .int .i64 1] fun v7 =>
    Q .normal [v7, x1, v6, x3, x4, x5, x6, x7, x8, x9, x10]) (
    Q (.exit 0) [x1, x2, x7, x8, x9, x10])) := by kernel_rfl

def spec_l37Copy_r1 : L := .seq (.rg []) (.ret [.v 4, .v 5, .v 0, .v 1])
theorem spec_l37Copy_r1_sh (Q : QT) (x0 x1 x2 x3 x4 x5 : V) : shL spec_l37Copy_r1 Q [x0, x1, x2, x3, x4, x5] = (
  Q .ret [x4, x5, x0, x1]) := by kernel_rfl

def spec_l37Copy_L : L := .seq (.rg []) (.seq (.rg [⟨[], .call F_l06Copy 0 3, [.v 0, .v 1, .v 2], 3⟩]) (.seq (.seq (.rg []) (.block 0 (.seq (.tup [.k (.int .i64 0), .v 6, .k (.list [.sl [.sc, .sc]] []), .v 0, .v 1, .v 2, .v 3, .k (.int .i64 0), .k (.int .i64 0), .v 4, .v 5]) (.loop (spec_l37Copy_b0))))) (spec_l37Copy_r1)))
theorem spec_l37Copy_L_sh (Q : QT) (x0 x1 x2 x3 : V) : shL spec_l37Copy_L Q [x0, x1, x2, x3] = (
  P3 (.call F_l06Copy 0 3) [x0, x1, x2] fun v0 v1 v2 =>
  shL (.loop spec_l37Copy_b0) (qB 0 (qS (shL spec_l37Copy_r1 Q) Q)) [.int .i64 0, v2, .list [.sl [.sc, .sc]] [], x0, x1, x2, x3, .int .i64 0, .int .i64 0, v0, v1]) := by kernel_rfl
def spec_l37Copy_S : Sig := ⟨[.val true [.sc, .sc, .sl [.sc, .sc], .sl [.sl [.sc, .sc]]]], [(true, [.sc, .sc, .sl [.sc, .sc], .sl [.sl [.sc, .sc]]])], F_l37Copy⟩
def spec_l37Copy_hs : List NF := [⟨[(2, .ptr 64 0), (3, .ptr 65 0)], [(66, true, []), (67, true, [.sl [.sc, .sc]])], [(64, [.sc, .sc, .nil, .nil]), (65, [.sc, .sc, .own 66, .own 67])], 68⟩, ⟨[(1, .ptr 64 0), (2, .ptr 65 0), (3, .ptr 66 0), (4, .sc false [.sc])], [(67, true, []), (68, true, [.sl [.sc, .sc]])], [(64, [.sc, .sc, .ro [.sc, .sc], .ro [.sl [.sc, .sc]]]), (65, [.sc, .sc, .nil, .nil]), (66, [.sc, .sc, .own 67, .own 68])], 69⟩, ⟨[(1, .ptr 64 0), (2, .ptr 65 0), (3, .ptr 66 0), (4, .sc false [.sc])], [(67, true, []), (68, true, [.sl [.sc, .sc]])], [(64, [.sc, .sc, .ro [.sc, .sc], .ro [.sl [.sc, .sc]]]), (65, [.sc, .sc, .nil, .nil]), (66, [.sc, .sc, .own 67, .own 68])], 69⟩]

def spec_CombOk_b0 : L := .seq (.seq (.seq (.rg [⟨[], .len, [.v 0], 1⟩, ⟨[], .bin .lss, [.v 1, .v 2], 1⟩]) (.ite (.v 3) (.skip) (.seq (.tup [.v 0]) (.exit 0)))) (.seq (.block 1 (.seq (.seq (.rg [⟨[], .idx [.sc], [.v 0, .v 1], 1⟩, ⟨[], .call F_l01In 0 1, [.v 4, .k (.int .i64 0), .k (.int .i64 60)], 1⟩, ⟨[], .un .not, [.v 5], 1⟩, ⟨[(.v 6, false)], .bin .gtr, [.v 1, .k (.int .i64 0)], 1⟩, ⟨[(.v 6, false), (.v 7, true)], .idx [.sc], [.v 0, .v 1], 1⟩, ⟨[(.v 6, false), (.v 7, true)], .bin .sub, [.v 1, .k (.int .i64 1)], 1⟩, ⟨[(.v 6, false), (.v 7, true)], .idx [.sc], [.v 0, .v 9], 1⟩, ⟨[(.v 6, false), (.v 7, true)], .bin .lss, [.v 8, .v 10], 1⟩, ⟨[(.v 6, false)], .pick, [.v 7, .v 11, .k (.bool false)], 1⟩, ⟨[], .pick, [.v 6, .k (.bool true), .v 12], 1⟩]) (.ite (.v 13) (.seq (.rg []) (.ret [.k (.bool false)])) (.skip))) (.tup [.v 0, .v 1]))) (.rg [⟨[], .bin .add, [.v 1, .k (.int .i64 1)], 1⟩]))) (.tup [.v 0, .v 2])
theorem spec_CombOk_b0_sh (Q : QT) (x0 x1 : V) : shL spec_CombOk_b0 Q [x0, x1] = (
  P1 (.len) [x0] fun v0 =>
  P1 (.bin .lss) [x1, v0] fun v1 =>
  ifB v1 (
    P1 (.idx [.sc]) [x0, x1] fun v2 =>
    P1 (.call F_l01In 0 1) [v2, .int .i64 0, .int .i64 60] fun v3 =>
    P1 (.un .not) [v3] fun v4 =>
    ifB v4 (
      Q .ret [.bool false]) (
      P1 (.bin .gtr) [x1, .int .i64 0] fun v5 =>
      ifB v5 (
        P1 (.idx [.sc]) [x0, x1] fun v6 =>
        P1 (.bin .sub) [x1, .int .i64 1] fun v7 =>
        P1 (.idx [.sc]) [x0, v7] fun v8 =>
        P1 (.bin .lss) [v6, v8] fun v9 =>
        ifB v9 (
          Q .ret [.bool false]) (
          P1 (.bin .add) [x1, .int .i64 1] fun v10 =>
          Q .normal [x0, v10])) (
        P1 (.bin .add) [x1, .int .i64 1] fun v11 =>
        Q .normal [x0, v11]))) (
    Q (.exit 0) [x0])) := by kernel_rfl

def spec_CombOk_r1 : L := .seq (.rg [⟨[], .len, [.v 0], 1⟩, ⟨[], .call F_l01In 0 1, [.v 1, .k (.int .i64 1), .k (.int .i64 24)], 1⟩]) (.ret [.v 2])
theorem spec_CombOk_r1_sh (Q : QT) (x0 : V) : shL spec_CombOk_r1 Q [x0] = (
  P1 (.len) [x0] fun v0 =>
  P1 (.call F_l01In 0 1) [v0, .int .i64 1, .int .i64 24] fun v1 =>
  Q .ret [v1]) := by kernel_rfl

def spec_CombOk_L : L := .seq (.rg []) (.seq (.seq (.rg []) (.block 0 (.seq (.tup [.v 0, .k (.int .i64 0)]) (.loop (spec_CombOk_b0))))) (spec_CombOk_r1))
theorem spec_CombOk_L_sh (Q : QT) (x0 : V) : shL spec_CombOk_L Q [x0] = (
  shL (.loop spec_CombOk_b0) (qB 0 (qS (shL spec_CombOk_r1 Q) Q)) [x0, .int .i64 0]) := by kernel_rfl
def spec_CombOk_S : Sig := ⟨[.val false [.sl [.sc]]], [(false, [.sc])], F_CombOk⟩
def spec_CombOk_hs : List NF := [⟨[(0, .sc false [.ro [.sc]])], [], [], 64⟩, ⟨[(0, .sc false [.ro [.sc]]), (3, .sc false [.sc])], [], [], 64⟩, ⟨[(0, .sc false [.ro [.sc]]), (3, .sc false [.sc])], [], [], 64⟩]

def spec_SpringOk_L : L := .seq (.rg []) (.seq (.rg [⟨[], .call F_l01In 0 1, [.v 1, .k (.int .i64 1), .k (.int .i64 50)], 1⟩, ⟨[(.v 3, true)], .call F_l01In 0 1, [.v 0, .k (.int .i64 0), .v 1], 1⟩, ⟨[], .pick, [.v 3, .v 4, .k (.bool false)], 1⟩, ⟨[(.v 5, true)], .call F_l01In 0 1, [.v 2, .k (.int .i64 1), .k (.int .i64 10000)], 1⟩, ⟨[], .pick, [.v 5, .v 6, .k (.bool false)], 1⟩]) (.ret [.v 7]))
theorem spec_SpringOk_L_sh (Q : QT) (x0 x1 x2 : V) : shL spec_SpringOk_L Q [x0, x1, x2] = (
  P1 (.call F_l01In 0 1) [x1, .int .i64 1, .int .i64 50] fun v0 =>
  ifB v0 (
    P1 (.call F_l01In 0 1) [x0, .int .i64 0, x1] fun v1 =>
    ifB v1 (
      P1 (.call F_l01In 0 1) [x2, .int .i64 1, .int .i64 10000] fun v2 =>
      Q .ret [v2]) (
      Q .ret [.bool false])) (
    Q .ret [.bool false])) := by kernel_rfl
def spec_SpringOk_S : Sig := ⟨[.val true [.sc, .sc, .sc]], [(false, [.sc])], F_SpringOk⟩
def spec_SpringOk_hs : List NF := []

def spec_WorkshopOk_L : L := .seq (.rg []) (.seq (.rg [⟨[], .call F_BenchOk 0 1, [.v 0, .v 1, .v 2, .v 3], 1⟩, ⟨[(.v 10, true)], .call F_CombOk 0 1, [.v 4], 1⟩, ⟨[], .pick, [.v 10, .v 11, .k (.bool false)], 1⟩, ⟨[(.v 12, true)], .call F_SpringOk 0 1, [.v 5, .v 6, .v 7], 1⟩, ⟨[], .pick, [.v 12, .v 13, .k (.bool false)], 1⟩, ⟨[(.v 14, true)], .len, [.v 4], 1⟩, ⟨[(.v 14, true)], .bin .eql, [.v 1, .v 15], 1⟩, ⟨[], .pick, [.v 14, .v 16, .k (.bool false)], 1⟩, ⟨[(.v 17, true)], .call F_l01In 0 1, [.v 8, .k (.int .i64 0), .k (.int .i64 1000000)], 1⟩, ⟨[], .pick, [.v 17, .v 18, .k (.bool false)], 1⟩, ⟨[(.v 19, true)], .call F_l01In 0 1, [.v 9, .k (.int .i64 0), .k (.int .i64 1000000)], 1⟩, ⟨[], .pick, [.v 19, .v 20, .k (.bool false)], 1⟩]) (.ret [.v 21]))
theorem spec_WorkshopOk_L_sh (Q : QT) (x0 x1 x2 x3 x4 x5 x6 x7 x8 x9 : V) : shL spec_WorkshopOk_L Q [x0, x1, x2, x3, x4, x5, x6, x7, x8, x9] = (
  P1 (.call F_BenchOk 0 1) [x0, x1, x2, x3] fun v0 =>
  ifB v0 (
    P1 (.call F_CombOk 0 1) [x4] fun v1 =>
    ifB v1 (
      P1 (.call F_SpringOk 0 1) [x5, x6, x7] fun v2 =>
      ifB v2 (
        P1 (.len) [x4] fun v3 =>
        P1 (.bin .eql) [x1, v3] fun v4 =>
        ifB v4 (
          P1 (.call F_l01In 0 1) [x8, .int .i64 0, .int .i64 1000000] fun v5 =>
          ifB v5 (
            P1 (.call F_l01In 0 1) [x9, .int .i64 0, .int .i64 1000000] fun v6 =>
            Q .ret [v6]) (
            Q .ret [.bool false])) (
          Q .ret [.bool false])) (
        Q .ret [.bool false])) (
      Q .ret [.bool false])) (
    Q .ret [.bool false])) := by kernel_rfl
def spec_WorkshopOk_S : Sig := ⟨[.val true [.sc, .sc, .sl [.sc, .sc], .sl [.sl [.sc, .sc]], .sl [.sc], .sc, .sc, .sc, .sc, .sc]], [(false, [.sc])], F_WorkshopOk⟩
def spec_WorkshopOk_hs : List NF := []

def spec_PullPin_L : L := .seq (.rg []) (.seq (.rg [⟨[], .call F_l06Copy 0 3, [.v 0, .v 1, .v 2], 3⟩]) (.seq (.seq (.rg [⟨[], .call F_CylinderOk 0 1, [.v 0, .v 1, .v 2], 1⟩, ⟨[], .un .not, [.v 7], 1⟩, ⟨[(.v 8, false)], .len, [.v 2], 1⟩, ⟨[(.v 8, false)], .bin .sub, [.v 9, .k (.int .i64 1)], 1⟩, ⟨[(.v 8, false)], .call F_l01In 0 1, [.v 3, .k (.int .i64 0), .v 10], 1⟩, ⟨[(.v 8, false)], .un .not, [.v 11], 1⟩, ⟨[], .pick, [.v 8, .k (.bool true), .v 12], 1⟩]) (.ite (.v 13) (.seq (.rg []) (.ret [.v 4, .v 5, .v 6, .k (.bool false)])) (.skip))) (.seq (.rg [⟨[], .lst [.sc, .sc] true 0, [], 1⟩, ⟨[], .lsub [.sc, .sc], [.v 2, .k (.int .i64 0), .v 3], 1⟩, ⟨[], .app [.sc, .sc] 16, [.v 14, .v 15], 1⟩, ⟨[], .bin .add, [.v 3, .k (.int .i64 1)], 1⟩, ⟨[], .lsub [.sc, .sc], [.v 2, .v 17], 1⟩, ⟨[], .app [.sc, .sc] 16, [.v 16, .v 18], 1⟩]) (.seq (.rg []) (.ret [.v 4, .v 5, .v 19, .k (.bool true)])))))
theorem spec_PullPin_L_sh (Q : QT) (x0 x1 x2 x3 : V) : shL spec_PullPin_L Q [x0, x1, x2, x3] = (
  P3 (.call F_l06Copy 0 3) [x0, x1, x2] fun v0 v1 v2 =>
  P1 (.call F_CylinderOk 0 1) [x0, x1, x2] fun v3 =>
  P1 (.un .not) [v3] fun v4 =>
  ifB v4 (
    Q .ret [v0, v1, v2, .bool false]) (
    P1 (.len) [x2] fun v5 =>
    P1 (.bin .sub) [v5, .int .i64 1] fun v6 =>
    P1 (.call F_l01In 0 1) [x3, .int .i64 0, v6] fun v7 =>
    P1 (.un .not) [v7] fun v8 =>
    ifB v8 (
      Q .ret [v0, v1, v2, .bool false]) (
      P1 (.lst [.sc, .sc] true 0) [] fun v9 =>
      P1 (.lsub [.sc, .sc]) [x2, .int .i64 0, x3] fun v10 =>
      P1 (.app [.sc, .sc] 16) [v9, v10] fun v11 =>
      P1 (.bin .add) [x3, .int .i64 1] fun v12 =>
      P1 (.lsub [.sc, .sc]) [x2, v12] fun v13 =>
      P1 (.app [.sc, .sc] 16) [v11, v13] fun v14 =>
      Q .ret [v0, v1, v14, .bool true]))) := by kernel_rfl
def spec_PullPin_S : Sig := ⟨[.val true [.sc, .sc, .sl [.sc, .sc]], .val false [.sc]], [(true, [.sc, .sc, .sl [.sc, .sc]]), (false, [.sc])], F_PullPin⟩
def spec_PullPin_hs : List NF := []

def spec_OpenWorkshop_L : L := .seq (.rg []) (.seq (.rg [⟨[], .len, [.v 1], 1⟩, ⟨[], .call F_NewBench 0 5, [.v 0, .v 3], 5⟩]) (.seq (.rg [⟨[], .lst [.sc] false 0, [], 1⟩, ⟨[], .app [.sc] 8, [.v 9, .v 1], 1⟩]) (.seq (.seq (.rg [⟨[], .un .not, [.v 8], 1⟩, ⟨[(.v 11, false)], .call F_WorkshopOk 0 1, [.v 4, .v 5, .v 6, .v 7, .v 10, .k (.int .i64 0), .k (.int .i64 10), .k (.int .i64 100), .v 2, .k (.int .i64 0)], 1⟩, ⟨[(.v 11, false)], .un .not, [.v 12], 1⟩, ⟨[], .pick, [.v 11, .k (.bool true), .v 13], 1⟩]) (.ite (.v 14) (.seq (.rg []) (.ret [.k (.int .i64 0), .k (.int .i64 0), .k (.list [.sc, .sc] []), .k (.list [.sl [.sc, .sc]] []), .k (.list [.sc] []), .k (.int .i64 0), .k (.int .i64 0), .k (.int .i64 0), .k (.int .i64 0), .k (.int .i64 0), .k (.bool false)])) (.skip))) (.seq (.rg []) (.ret [.v 4, .v 5, .v 6, .v 7, .v 10, .k (.int .i64 0), .k (.int .i64 10), .k (.int .i64 100), .v 2, .k (.int .i64 0), .k (.bool true)])))))
theorem spec_OpenWorkshop_L_sh (Q : QT) (x0 x1 x2 : V) : shL spec_OpenWorkshop_L Q [x0, x1, x2] = (
  P1 (.len) [x1] fun v0 =>
  P5 (.call F_NewBench 0 5) [x0, v0] fun v1 v2 v3 v4 v5 =>
  P1 (.lst [.sc] false 0) [] fun v6 =>
  P1 (.app [.sc] 8) [v6, x1] fun v7 =>
  P1 (.un .not) [v5] fun v8 =>
  ifB v8 (
    Q .ret [.int .i64 0, .int .i64 0, .list [.sc, .sc] [], .list [.sl [.sc, .sc]] [], .list [.sc] [], .int .i64 0, .int .i64 0, .int .i64 0, .int .i64 0, .int .i64 0, .bool false]) (
    P1 (.call F_WorkshopOk 0 1) [v1, v2, v3, v4, v7, .int .i64 0, .int .i64 10, .int .i64 100, x2, .int .i64 0] fun v9 =>
    P1 (.un .not) [v9] fun v10 =>
    ifB v10 (
      Q .ret [.int .i64 0, .int .i64 0, .list [.sc, .sc] [], .list [.sl [.sc, .sc]] [], .list [.sc] [], .int .i64 0, .int .i64 0, .int .i64 0, .int .i64 0, .int .i64 0, .bool false]) (
      Q .ret [v1, v2, v3, v4, v7, .int .i64 0, .int .i64 10, .int .i64 100, x2, .int .i64 0, .bool true]))) := by kernel_rfl
def spec_OpenWorkshop_S : Sig := ⟨[.val false [.sc], .val false [.sl [.sc]], .val false [.sc]], [(true, [.sc, .sc, .sl [.sc, .sc], .sl [.sl [.sc, .sc]], .sl [.sc], .sc, .sc, .sc, .sc, .sc]), (false, [.sc])], F_OpenWorkshop⟩
def spec_OpenWorkshop_hs : List NF := []

def spec_SampleWorkshop_L : L := .seq (.rg []) (.seq (.rg [⟨[], .lst [.sc] false 4, [.k (.int .i64 12), .k (.int .i64 12), .k (.int .i64 16), .k (.int .i64 19)], 1⟩, ⟨[], .call F_OpenWorkshop 0 11, [.k (.int .i64 16), .v 0, .k (.int .i64 40)], 11⟩]) (.seq (.rg []) (.ret [.v 1, .v 2, .v 3, .v 4, .v 5, .v 6, .v 7, .v 8, .v 9, .v 10])))
theorem spec_SampleWorkshop_L_sh (Q : QT) : shL spec_SampleWorkshop_L Q [] = (
  P1 (.lst [.sc] false 4) [.int .i64 12, .int .i64 12, .int .i64 16, .int .i64 19] fun v0 =>
  P11 (.call F_OpenWorkshop 0 11) [.int .i64 16, v0, .int .i64 40] fun v1 v2 v3 v4 v5 v6 v7 v8 v9 v10 _ =>
  Q .ret [v1, v2, v3, v4, v5, v6, v7, v8, v9, v10]) := by kernel_rfl
def spec_SampleWorkshop_S : Sig := ⟨[], [(true, [.sc, .sc, .sl [.sc, .sc], .sl [.sl [.sc, .sc]], .sl [.sc], .sc, .sc, .sc, .sc, .sc])], F_SampleWorkshop⟩
def spec_SampleWorkshop_hs : List NF := []

end
end Go.Mw

/- Benches: memory. -/
namespace Go.Mw
end Go.Mw

/- Benches: memory that is marked. -/
namespace Go.Mw
end Go.Mw

/- Benches: memory; what is a fine bench. -/
namespace Go.Mw
theorem benchOk_iff (b : Bench) : benchOk b = true ↔ cylOk ⟨b.s, b.t, b.p⟩ = true ∧ b.o.length ≤ 30 ∧ ∀ p ∈ b.o, cylOk ⟨b.s, b.t, p⟩ = true := by
  simp [benchOk]
theorem spec_BenchOk_ok : ∀ ds outs, F_BenchOk ds = some outs → shL spec_BenchOk_L (qRet outs) ds := F_BenchOk_elim fun b hp => by
  rw [spec_BenchOk_L_sh]
  have hl := hp.2.1
  refine loop_upto b.o.length (fun k => [.int .i64 k, .int .i64 b.s, .int .i64 b.t, vL I2 v2 b.p, vL IL2 vLL2 b.o]) (by intro i j _ _ h; simp at h; omega) (fun k => ∀ p ∈ b.o.take k, cylOk ⟨b.s, b.t, p⟩ = true) (by simp) (by simp) ?_
  intro k hk hP
  rw [spec_BenchOk_b0_sh]
  simp
  refine ⟨fun h => ?_, fun h => ?_⟩
  · have hx := hp.2.2 b.o[k] (by simp)
    have hno : cylOk ⟨b.s, b.t, b.o[k]⟩ = false → benchOk b = false := by
      intro hf
      cases hc : benchOk b with
      | false => rfl
      | true => have := ((benchOk_iff b).1 hc).2.2 b.o[k] (by simp); simp [hf] at this
    simp (disch := omega) only [h, List.getElem?_eq_getElem, Option.some.injEq, exists_eq_left', wrap_id, all_take_succ h]
    rw [p_CylinderOk (x_p := b.o[k]) hx]
    cases h1 : cylOk ⟨b.s, b.t, b.o[k]⟩ <;> simp_all
  · obtain rfl : k = b.o.length := by omega
    rw [List.take_length] at hP
    rw [spec_BenchOk_r1_sh, p_CylinderOk (x_p := b.p) hp.1]
    cases h1 : cylOk ⟨b.s, b.t, b.p⟩ with
    | false => simp [benchOk, h1]
    | true =>
      have h2 : (b.o.all fun p => cylOk ⟨b.s, b.t, p⟩) = true := List.all_eq_true.2 hP
      simp [benchOk, h1, h2]
      omega
end Go.Mw

/- Benches: laws, copies, changed pins. -/
namespace Go.Mw
theorem fit_nil : fitLL [] := ⟨by simp, by simp⟩
theorem spec_NewBench_ok : ∀ ds outs, F_NewBench ds = some outs → shL spec_NewBench_L (qRet outs) ds := F_NewBench_elim fun s t => by
  rw [spec_NewBench_L_sh]
  have hb := p_BenchOk (x_s := s) (x_t := t) (x_p := []) (x_o := []) (nr_ := 1) (kk_ := fun v0 => P1 (.un .not) [v0] fun v1 => ifB v1 (qRet [.int .i64 (newBench s t).s, .int .i64 (newBench s t).t, vL I2 v2 (newBench s t).p, vL IL2 vLL2 (newBench s t).o, .bool (benchOk ⟨s, t, [], []⟩)] .ret [.int .i64 0, .int .i64 0, .list [.sc, .sc] [], .list [.sl [.sc, .sc]] [], .bool false]) (qRet [.int .i64 (newBench s t).s, .int .i64 (newBench s t).t, vL I2 v2 (newBench s t).p, vL IL2 vLL2 (newBench s t).o, .bool (benchOk ⟨s, t, [], []⟩)] .ret [.int .i64 s, .int .i64 t, .list [.sc, .sc] [], .list [.sl [.sc, .sc]] [], .bool true])) ⟨by simp, fit_nil⟩
  refine hb.2 ?_
  cases h : benchOk ⟨s, t, [], []⟩ <;> simp [newBench, h] <;> rfl
theorem newBench_p (s t : Int) : (newBench s t).p = [] := by unfold newBench; split <;> rfl
theorem newBench_o (s t : Int) : (newBench s t).o = [] := by unfold newBench; split <;> rfl
theorem spec_l06Copy_ok : ∀ ds outs, F_l06Copy ds = some outs → shL spec_l06Copy_L (qRet outs) ds := F_l06Copy_elim fun x hp => by
  rw [spec_l06Copy_L_sh]
  simp; omega
end Go.Mw

/- Benches: changed pins, copies, new benches. -/
namespace Go.Mw
theorem benchOk_len {b : Bench} (h : benchOk b = true) : b.p.length ≤ 100 ∧ ∀ q ∈ b.o, q.length ≤ 100 := by
  have h := (benchOk_iff b).1 h
  exact ⟨(cylOk_bounds h.1).2.2, fun q hq => (cylOk_bounds (h.2.2 q hq)).2.2⟩
end Go.Mw

/- New benches; combs, springs, workshops. -/
namespace Go.Mw
@[simp] theorem P1_lstL2 {a : List T2} {k : V → Prop} : P1 (.lst [.sl [.sc, .sc]] false 1) [vL I2 v2 a] k ↔ k (vL IL2 vLL2 [a]) := P1_of (by simp [Prim.run, aksOk, akOk, chunk, V.pack, vL, vLL2, AK.eqs_refl, IL2]) k
theorem spec_SpringOk_ok : ∀ ds outs, F_SpringOk ds = some outs → shL spec_SpringOk_L (qRet outs) ds := F_SpringOk_elim fun x => by
  rw [spec_SpringOk_L_sh]; simp [springOk]; grind
end Go.Mw

/- Combs, workshops. -/
namespace Go.Mw
theorem upward_iff : ∀ l : List Int, upward l = true ↔ ∀ j (_ : j < l.length), 0 < j → l[j - 1] ≤ l[j]
  | [] => by simp [upward]
  | [a] => by simp [upward]
  | a :: b :: r => by
    simp only [upward, Bool.and_eq_true, upward_iff (b :: r), decide_eq_true_eq]
    constructor
    · rintro ⟨h1, h2⟩ j hj h0
      rcases j with _ | _ | j
      · omega
      · exact h1
      · exact h2 (j + 1) (by simp at hj ⊢; omega) (by omega)
    · intro h
      refine ⟨h 1 (by simp) (by omega), fun j hj h0 => ?_⟩
      have := h (j + 1) (by simp at hj ⊢; omega) (by omega)
      rcases j with _ | j
      · omega
      · exact this
def goodTooth (l : List Int) (j : Nat) (hj : j < l.length) : Prop := within l[j] 0 60 = true ∧ (0 < j → l[j - 1] ≤ l[j])
theorem combOk_iff (l : List Int) : combOk l = true ↔ within l.length 1 24 = true ∧ ∀ j (hj : j < l.length), goodTooth l j hj := by
  simp only [combOk, Bool.and_eq_true, upward_iff, List.all_eq_true, goodTooth]
  refine and_congr_right fun _ => ?_
  constructor
  · rintro ⟨h1, h2⟩ j hj
    exact ⟨h1 _ (List.getElem_mem hj), h2 j hj⟩
  · intro h
    refine ⟨fun p hp => ?_, fun j hj h0 => (h j hj).2 h0⟩
    obtain ⟨j, hj, rfl⟩ := List.getElem_of_mem hp
    exact (h j hj).1
theorem spec_CombOk_ok : ∀ ds outs, F_CombOk ds = some outs → shL spec_CombOk_L (qRet outs) ds := F_CombOk_elim fun l hp => by
  rw [spec_CombOk_L_sh]
  refine loop_upto l.length (fun k => [vL I1 v1 l, .int .i64 k]) (by intro i j _ _ h; simp at h; omega) (fun k => ∀ j (hj : j < l.length), j < k → goodTooth l j hj) (by simp) (by simp) ?_
  intro k hk hP
  rw [spec_CombOk_b0_sh]
  simp
  refine ⟨fun h => ?_, fun h => ?_⟩
  · have hbad : ¬ goodTooth l k h → combOk l = false := fun hn => by
      cases hcc : combOk l with
      | false => rfl
      | true => exact absurd (((combOk_iff l).1 hcc).2 k h) hn
    have hgood : goodTooth l k h → ∀ j (hj : j < l.length), j < k + 1 → goodTooth l j hj := fun hg j hj hjk => by
      by_cases hjk2 : j = k
      · subst hjk2; exact hg
      · exact hP j hj (by omega)
    have hw : IntKind.i64.wrap ((k : Int) + 1) = k + 1 := wrap_id (by omega) (by omega)
    have hw2 : IntKind.i64.wrap ((k : Int) - 1) = k - 1 := wrap_id (by omega) (by omega)
    have hk1 : ((k : Int) - 1).toNat = k - 1 := by omega
    have hk2 : k - 1 < l.length := by omega
    simp only [List.getElem?_eq_getElem h, Option.some.injEq, exists_eq_left', hw, hw2, hk1, List.getElem?_eq_getElem hk2]
    cases e1 : within l[k] 0 60 with
    | false => simp; exact hbad (by simp [goodTooth, e1])
    | true =>
    simp [h]
    refine ⟨fun hk0 => ⟨by omega, fun e3 => hbad (by simp [goodTooth, hk0]; intro _; omega), fun e3 => ?_⟩, fun hk0 => ?_⟩
    · exact hgood ⟨e1, fun _ => e3⟩
    · exact hgood ⟨e1, fun hh => by omega⟩
  · obtain rfl : k = l.length := by omega
    simp [spec_CombOk_r1_sh]
    have hall : ∀ j (hj : j < l.length), goodTooth l j hj := fun j hj => hP j hj hj
    cases hw : within l.length 1 24 with
    | false => cases hc : combOk l with
      | false => rfl
      | true => simp [((combOk_iff l).1 hc).1] at hw
    | true => exact ((combOk_iff l).2 ⟨hw, hall⟩).symm
end Go.Mw

/- Workshops. -/
namespace Go.Mw
theorem spec_WorkshopOk_ok : ∀ ds outs, F_WorkshopOk ds = some outs → shL spec_WorkshopOk_L (qRet outs) ds := F_WorkshopOk_elim fun x hp => by
  rw [spec_WorkshopOk_L_sh, p_BenchOk (x_p := x.p) (x_o := x.o) ⟨hp.1, hp.2.1⟩]
  simp only [shopOk, Shop.bench]
  cases h1 : benchOk ⟨x.s, x.t, x.p, x.o⟩ with
  | false => simp
  | true =>
  simp [p_CombOk hp.2.2]
  cases h2 : combOk x.c <;> cases h3 : springOk ⟨x.u, x.m, x.f⟩ <;> cases h5 : within x.y 0 1000000 <;> simp_all
end Go.Mw

/- Workshops: memory, opening. -/
namespace Go.Mw
theorem newBench_ok (s t : Int) (h : benchOk ⟨s, t, [], []⟩ = false) : newBench s t = ⟨0, 0, [], []⟩ := by simp [newBench, h]
theorem opened_no {s : Int} {c : List Int} {m : Int} (h : benchOk ⟨s, c.length, [], []⟩ = false) : shopOk (opened s c m) = false := by
  have : benchOk (opened s c m).bench = false := by
    simp only [opened, Shop.bench, newBench_ok _ _ h]
    simp [benchOk, cylOk, within]
  simp [shopOk, this]
theorem spec_OpenWorkshop_ok : ∀ ds outs, F_OpenWorkshop ds = some outs → shL spec_OpenWorkshop_L (qRet outs) ds := F_OpenWorkshop_elim fun s l m hp => by
  rw [spec_OpenWorkshop_L_sh]
  have h1 := newBench_p s l.length
  have h2 := newBench_o s l.length
  have h3 : (newBench s l.length).p.length ≤ 1048576 := by rw [h1]; simp
  have h4 : fitLL (newBench s l.length).o := by rw [h2]; exact fit_nil
  have e : opened s l m = ⟨(newBench s l.length).s, (newBench s l.length).t, (newBench s l.length).p, (newBench s l.length).o, l, 0, 10, 100, m, 0⟩ := by rw [h1, h2]; rfl
  simp only [P1_len, p_NewBench, P1_lst0, P1_appI_0, P1_not, ifB_bool]
  refine ⟨by omega, fun hb => ?_, fun hb => ?_⟩
  · have hno := opened_no (m := m) (by simpa using hb)
    simp [openShop, hno]; rfl
  rw [p_WorkshopOk ⟨h3, h4, hp⟩, ← e]
  cases h : shopOk (opened s l m) with
  | false => simp [openShop, h]; rfl
  | true => simp [openShop, h]; simp [e]
@[simp] theorem P1_lst14 {a b c d : Int} {k : V → Prop} : P1 (.lst [.sc] false 4) [.int .i64 a, .int .i64 b, .int .i64 c, .int .i64 d] k ↔ k (vL I1 v1 [a, b, c, d]) := P1_of (by simp [Prim.run, aksOk, akOk, chunk, V.pack, vL, v1]) k
theorem spec_SampleWorkshop_ok : ∀ ds outs, F_SampleWorkshop ds = some outs → shL spec_SampleWorkshop_L (qRet outs) ds := F_SampleWorkshop_elim fun _ => by
  rw [spec_SampleWorkshop_L_sh]
  rw [P1_lst14, p_OpenWorkshop (by simp)]
  simp
end Go.Mw

/- The sample workshop: the law. -/
namespace Go.Mw
noncomputable section
end
end Go.Mw

/- What functions compute, in plain terms: the bench's steps. -/
namespace Go.Mw
def Bench.cyl (b : Bench) : Cyl := ⟨b.s, b.t, b.p⟩
def stepped (b : Bench) (c : Cyl) : Bench := ⟨c.s, c.t, c.p, b.o ++ [b.p]⟩
def stepOk (b : Bench) (c : Cyl) : Bool := benchOk b && benchOk (stepped b c)
def stepTo (b : Bench) (c : Cyl) (done : Bool) : Bench := if done && stepOk b c then stepped b c else b
def E_l37Step : Bench × Cyl → List V := fun (x, y) => [.int .i64 x.s, .int .i64 x.t, vL I2 v2 x.p, vL IL2 vLL2 x.o, .int .i64 y.s, .int .i64 y.t, vL I2 v2 y.p]
noncomputable def F_l37Step : List V → Option (List V) := mkF E_l37Step (fun (x, y) => x.p.length ≤ 1048576 ∧ fitLL x.o ∧ y.p.length ≤ 1048576) (fun (x, y) => [.int .i64 (stepTo x y true).s, .int .i64 (stepTo x y true).t, vL I2 v2 (stepTo x y true).p, vL IL2 vLL2 (stepTo x y true).o, .bool (stepOk x y)])
theorem F_l37Step_inj : ∀ x y, E_l37Step x = E_l37Step y → x = y := by
  rintro ⟨⟨xs, xt, xp, xo⟩, ⟨ys, yt, yp⟩⟩ ⟨⟨xs', xt', xp', xo'⟩, ⟨ys', yt', yp'⟩⟩ h
  simpa [E_l37Step, and_assoc] using h
theorem F_l37Step_elim {P : List V → List V → Prop} (h : ∀ (x : Bench) (y : Cyl), (x.p.length ≤ 1048576 ∧ fitLL x.o ∧ y.p.length ≤ 1048576) → P [.int .i64 x.s, .int .i64 x.t, vL I2 v2 x.p, vL IL2 vLL2 x.o, .int .i64 y.s, .int .i64 y.t, vL I2 v2 y.p] [.int .i64 (stepTo x y true).s, .int .i64 (stepTo x y true).t, vL I2 v2 (stepTo x y true).p, vL IL2 vLL2 (stepTo x y true).o, .bool (stepOk x y)]) : ∀ ds outs, F_l37Step ds = some outs → P ds outs := by
  intro ds outs hh
  obtain ⟨⟨x, y⟩, rfl, hp, rfl⟩ := mkF_inv hh
  exact h x y hp
theorem p_l37Step {x_s : Int} {x_t : Int} {x_p : List T2} {x_o : List (List T2)} {y_s : Int} {y_t : Int} {y_p : List T2} {nr_ : Nat} {kk_ : V → V → V → V → V → Prop} (hp : (⟨x_s, x_t, x_p, x_o⟩ : Bench).p.length ≤ 1048576 ∧ fitLL (⟨x_s, x_t, x_p, x_o⟩ : Bench).o ∧ (⟨y_s, y_t, y_p⟩ : Cyl).p.length ≤ 1048576) : P5 (.call F_l37Step 0 nr_) [.int .i64 x_s, .int .i64 x_t, vL I2 v2 x_p, vL IL2 vLL2 x_o, .int .i64 y_s, .int .i64 y_t, vL I2 v2 y_p] kk_ ↔ kk_ (.int .i64 (stepTo (⟨x_s, x_t, x_p, x_o⟩ : Bench) (⟨y_s, y_t, y_p⟩ : Cyl) true).s) (.int .i64 (stepTo (⟨x_s, x_t, x_p, x_o⟩ : Bench) (⟨y_s, y_t, y_p⟩ : Cyl) true).t) (vL I2 v2 (stepTo (⟨x_s, x_t, x_p, x_o⟩ : Bench) (⟨y_s, y_t, y_p⟩ : Cyl) true).p) (vL IL2 vLL2 (stepTo (⟨x_s, x_t, x_p, x_o⟩ : Bench) (⟨y_s, y_t, y_p⟩ : Cyl) true).o) (.bool (stepOk (⟨x_s, x_t, x_p, x_o⟩ : Bench) (⟨y_s, y_t, y_p⟩ : Cyl))) :=
  P5_callF (by unfold F_l37Step; exact mkF_eq F_l37Step_inj ((⟨x_s, x_t, x_p, x_o⟩ : Bench), (⟨y_s, y_t, y_p⟩ : Cyl)) hp)

def pullOk (c : Cyl) (k : Int) : Bool := cylOk c && (decide (0 ≤ k) && decide (k < c.p.length))
def pulled (b : Bench) (k : Int) : Cyl := ⟨b.s, b.t, pullPin b.cyl k⟩
def takePin (b : Bench) (k : Int) : Bench := stepTo b (pulled b k) (pullOk b.cyl k)
def E_TakePin : Bench × Int → List V := fun (x, k) => [.int .i64 x.s, .int .i64 x.t, vL I2 v2 x.p, vL IL2 vLL2 x.o, .int .i64 k]
noncomputable def F_TakePin : List V → Option (List V) := mkF E_TakePin (fun (x, _) => x.p.length ≤ 1048576 ∧ fitLL x.o) (fun (x, k) => [.int .i64 (takePin x k).s, .int .i64 (takePin x k).t, vL I2 v2 (takePin x k).p, vL IL2 vLL2 (takePin x k).o, .bool (pullOk x.cyl k && stepOk x (pulled x k))])
theorem F_TakePin_inj : ∀ x y, E_TakePin x = E_TakePin y → x = y := by
  rintro ⟨⟨xs, xt, xp, xo⟩, k⟩ ⟨⟨xs', xt', xp', xo'⟩, k'⟩ h
  simpa [E_TakePin, and_assoc] using h
theorem F_TakePin_elim {P : List V → List V → Prop} (h : ∀ (x : Bench) (k : Int), (x.p.length ≤ 1048576 ∧ fitLL x.o) → P [.int .i64 x.s, .int .i64 x.t, vL I2 v2 x.p, vL IL2 vLL2 x.o, .int .i64 k] [.int .i64 (takePin x k).s, .int .i64 (takePin x k).t, vL I2 v2 (takePin x k).p, vL IL2 vLL2 (takePin x k).o, .bool (pullOk x.cyl k && stepOk x (pulled x k))]) : ∀ ds outs, F_TakePin ds = some outs → P ds outs := by
  intro ds outs hh
  obtain ⟨⟨x, k⟩, rfl, hp, rfl⟩ := mkF_inv hh
  exact h x k hp
theorem p_TakePin {x_s : Int} {x_t : Int} {x_p : List T2} {x_o : List (List T2)} {k : Int} {nr_ : Nat} {kk_ : V → V → V → V → V → Prop} (hp : (⟨x_s, x_t, x_p, x_o⟩ : Bench).p.length ≤ 1048576 ∧ fitLL (⟨x_s, x_t, x_p, x_o⟩ : Bench).o) : P5 (.call F_TakePin 0 nr_) [.int .i64 x_s, .int .i64 x_t, vL I2 v2 x_p, vL IL2 vLL2 x_o, .int .i64 k] kk_ ↔ kk_ (.int .i64 (takePin (⟨x_s, x_t, x_p, x_o⟩ : Bench) k).s) (.int .i64 (takePin (⟨x_s, x_t, x_p, x_o⟩ : Bench) k).t) (vL I2 v2 (takePin (⟨x_s, x_t, x_p, x_o⟩ : Bench) k).p) (vL IL2 vLL2 (takePin (⟨x_s, x_t, x_p, x_o⟩ : Bench) k).o) (.bool (pullOk (⟨x_s, x_t, x_p, x_o⟩ : Bench).cyl k && stepOk (⟨x_s, x_t, x_p, x_o⟩ : Bench) (pulled (⟨x_s, x_t, x_p, x_o⟩ : Bench) k))) :=
  P5_callF (by unfold F_TakePin; exact mkF_eq F_TakePin_inj ((⟨x_s, x_t, x_p, x_o⟩ : Bench), k) hp)


end Go.Mw

/- Functions of the program, as small pure programs (printed by a program of ours). -/
namespace Go.Mw
noncomputable section
def spec_l37Step_L : L := .seq (.rg []) (.seq (.rg [⟨[], .call F_l37Copy 0 4, [.v 0, .v 1, .v 2, .v 3], 4⟩]) (.seq (.rg [⟨[], .lst [.sc, .sc] true 0, [], 1⟩, ⟨[], .app [.sc, .sc] 16, [.v 11, .v 2], 1⟩, ⟨[], .lst [.sl [.sc, .sc]] false 1, [.v 12], 1⟩, ⟨[], .app [.sl [.sc, .sc]] 24, [.v 10, .v 13], 1⟩]) (.seq (.rg []) (.seq (.seq (.rg [⟨[], .call F_BenchOk 0 1, [.v 0, .v 1, .v 2, .v 3], 1⟩, ⟨[], .un .not, [.v 15], 1⟩, ⟨[(.v 16, false)], .call F_BenchOk 0 1, [.v 4, .v 5, .v 6, .v 14], 1⟩, ⟨[(.v 16, false)], .un .not, [.v 17], 1⟩, ⟨[], .pick, [.v 16, .k (.bool true), .v 18], 1⟩]) (.ite (.v 19) (.seq (.rg [⟨[], .call F_l37Copy 0 4, [.v 0, .v 1, .v 2, .v 3], 4⟩]) (.ret [.v 20, .v 21, .v 22, .v 23, .k (.bool false)])) (.skip))) (.seq (.rg []) (.ret [.v 4, .v 5, .v 6, .v 14, .k (.bool true)]))))))
theorem spec_l37Step_L_sh (Q : QT) (x0 x1 x2 x3 x4 x5 x6 : V) : shL spec_l37Step_L Q [x0, x1, x2, x3, x4, x5, x6] = (
  P4 (.call F_l37Copy 0 4) [x0, x1, x2, x3] fun _ _ _ v3 =>
  P1 (.lst [.sc, .sc] true 0) [] fun v4 =>
  P1 (.app [.sc, .sc] 16) [v4, x2] fun v5 =>
  P1 (.lst [.sl [.sc, .sc]] false 1) [v5] fun v6 =>
  P1 (.app [.sl [.sc, .sc]] 24) [v3, v6] fun v7 =>
  P1 (.call F_BenchOk 0 1) [x0, x1, x2, x3] fun v8 =>
  P1 (.un .not) [v8] fun v9 =>
  ifB v9 (
    P4 (.call F_l37Copy 0 4) [x0, x1, x2, x3] fun v10 v11 v12 v13 =>
    Q .ret [v10, v11, v12, v13, .bool false]) (
    P1 (.call F_BenchOk 0 1) [x4, x5, x6, v7] fun v14 =>
    P1 (.un .not) [v14] fun v15 =>
    ifB v15 (
      P4 (.call F_l37Copy 0 4) [x0, x1, x2, x3] fun v16 v17 v18 v19 =>
      Q .ret [v16, v17, v18, v19, .bool false]) (
      Q .ret [x4, x5, x6, v7, .bool true]))) := by kernel_rfl
def spec_l37Step_S : Sig := ⟨[.val true [.sc, .sc, .sl [.sc, .sc], .sl [.sl [.sc, .sc]]], .tk true [.sc, .sc, .sl [.sc, .sc]]], [(true, [.sc, .sc, .sl [.sc, .sc], .sl [.sl [.sc, .sc]]]), (false, [.sc])], F_l37Step⟩
def spec_l37Step_hs : List NF := []

def spec_TakePin_L : L := .seq (.rg []) (.seq (.rg [⟨[], .call F_PullPin 0 4, [.v 0, .v 1, .v 2, .v 4], 4⟩]) (.seq (.seq (.rg [⟨[], .un .not, [.v 8], 1⟩]) (.ite (.v 9) (.seq (.rg [⟨[], .call F_l37Copy 0 4, [.v 0, .v 1, .v 2, .v 3], 4⟩]) (.ret [.v 10, .v 11, .v 12, .v 13, .k (.bool false)])) (.skip))) (.seq (.rg [⟨[], .call F_l37Step 0 5, [.v 0, .v 1, .v 2, .v 3, .v 5, .v 6, .v 7], 5⟩]) (.seq (.rg []) (.ret [.v 10, .v 11, .v 12, .v 13, .v 14])))))
theorem spec_TakePin_L_sh (Q : QT) (x0 x1 x2 x3 x4 : V) : shL spec_TakePin_L Q [x0, x1, x2, x3, x4] = (
  P4 (.call F_PullPin 0 4) [x0, x1, x2, x4] fun v0 v1 v2 v3 =>
  P1 (.un .not) [v3] fun v4 =>
  ifB v4 (
    P4 (.call F_l37Copy 0 4) [x0, x1, x2, x3] fun v5 v6 v7 v8 =>
    Q .ret [v5, v6, v7, v8, .bool false]) (
    P5 (.call F_l37Step 0 5) [x0, x1, x2, x3, v0, v1, v2] fun v9 v10 v11 v12 v13 =>
    Q .ret [v9, v10, v11, v12, v13])) := by kernel_rfl
def spec_TakePin_S : Sig := ⟨[.val true [.sc, .sc, .sl [.sc, .sc], .sl [.sl [.sc, .sc]]], .val false [.sc]], [(true, [.sc, .sc, .sl [.sc, .sc], .sl [.sl [.sc, .sc]]]), (false, [.sc])], F_TakePin⟩
def spec_TakePin_hs : List NF := []

end
end Go.Mw

/- Taking back; a step of the bench; pulling a pin. -/
namespace Go.Mw
/-- A bench whose memory is within bounds. -/
def bSmall (b : Bench) : Prop := b.p.length ≤ 1048576 ∧ fitLL b.o ∧ 1 + 2 * (b.p.length : Int) + 2 * sum2 b.o ≤ 1099511627776
theorem sum2_le {l : List (List T2)} {n m : Nat} (h1 : l.length ≤ n) (h2 : ∀ x ∈ l, x.length ≤ m) : sum2 l ≤ n * m := by
  induction l generalizing n with
  | nil => simp [sum2]
  | cons x l ih =>
    obtain ⟨n, rfl⟩ : ∃ k, n = k + 1 := ⟨n - 1, by simp at h1; omega⟩
    have h3 := ih (n := n) (by simpa using h1) (fun y hy => h2 y (by simp [hy]))
    have h4 := h2 x (by simp)
    simp only [sum2, List.map_cons, List.sum_cons, Nat.add_mul] at h3 ⊢
    omega
theorem bSmall_of_ok {b : Bench} (h : benchOk b = true) : bSmall b := by
  have h1 := benchOk_len h
  have h2 := ((benchOk_iff b).1 h).2.1
  have h3 := sum2_le h2 h1.2
  exact ⟨by omega, ⟨by omega, fun x hx => by have := h1.2 x hx; omega⟩, by omega⟩
theorem P1_appLL2_1 {l : List (List T2)} {a : List T2} {b : Nat} {k : V → Prop} : P1 (.app [.sl [.sc, .sc]] b) [vL IL2 vLL2 l, vL IL2 vLL2 [a]] k ↔ ((l.length + 1) * b ≤ 140737488355328 ∧ l.length + 1 ≤ 140737488355328) ∧ k (vL IL2 vLL2 (l ++ [a])) := P1_appL2_
theorem step_fit {b : Bench} {c : Cyl} (h : benchOk b = true) (hc : c.p.length ≤ 1048576) : (stepped b c).p.length ≤ 1048576 ∧ fitLL (stepped b c).o := by
  have h1 := bSmall_of_ok h
  have h2 := ((benchOk_iff b).1 h).2.1
  refine ⟨hc, by simp [stepped]; omega, fun x hx => ?_⟩
  simp only [stepped, List.mem_append, List.mem_singleton] at hx
  rcases hx with hx | rfl
  · exact h1.2.1.2 x hx
  · exact h1.1
theorem spec_l37Step_ok : ∀ ds outs, F_l37Step ds = some outs → shL spec_l37Step_L (qRet outs) ds := F_l37Step_elim fun b c hp => by
  have hb := And.intro hp.1 hp.2.1
  have hl := hp.2.1.1
  rw [spec_l37Step_L_sh, p_l37Copy (x_p := b.p) (x_o := b.o) hb]
  simp only [P1_lst0, P1_app2_0, P1_lstL2, P1_appLL2_1, p_l37Copy (x_p := b.p) (x_o := b.o) hb, p_BenchOk (x_p := b.p) (x_o := b.o) hb]
  refine ⟨by omega, by omega, ?_⟩
  cases h : benchOk b with
  | false => simp [stepTo, stepOk, h]
  | true =>
    have hs := step_fit h hp.2.2
    have e := p_BenchOk (x_s := c.s) (x_t := c.t) (x_p := c.p) (x_o := b.o ++ [b.p]) (nr_ := 1) (kk_ := fun v => v = v) hs
    simp only [P1_not, ifB_bool, Bool.not_true, Bool.false_eq_true, false_implies, true_and, true_implies]
    rw [p_BenchOk (x_s := c.s) (x_t := c.t) (x_p := c.p) (x_o := b.o ++ [b.p]) hs]
    cases h2 : benchOk (stepped b c) with
    | false =>
      have h3 : benchOk ⟨c.s, c.t, c.p, b.o ++ [b.p]⟩ = false := h2
      simp [stepTo, stepOk, h, h2, h3]
    | true =>
      have h3 : benchOk ⟨c.s, c.t, c.p, b.o ++ [b.p]⟩ = true := h2
      simp [stepTo, stepOk, h, h3, stepped]
theorem pullPin_len (c : Cyl) (k : Int) : (pullPin c k).length ≤ c.p.length := by
  unfold pullPin
  split
  · simp; omega
  · exact Nat.le_refl _
theorem spec_TakePin_ok : ∀ ds outs, F_TakePin ds = some outs → shL spec_TakePin_L (qRet outs) ds := F_TakePin_elim fun b k hp => by
  have hl : (pullPin b.cyl k).length ≤ 1048576 := Nat.le_trans (pullPin_len b.cyl k) hp.1
  rw [spec_TakePin_L_sh, p_PullPin (x_p := b.p) hp.1]
  simp only [p_l37Copy (x_p := b.p) (x_o := b.o) hp]
  cases h : pullOk b.cyl k with
  | false =>
    have h' : (cylOk ⟨b.s, b.t, b.p⟩ && (decide (0 ≤ k) && decide (k < b.p.length))) = false := h
    simp [takePin, stepTo, h, h']
  | true =>
    have h' : (cylOk ⟨b.s, b.t, b.p⟩ && (decide (0 ≤ k) && decide (k < b.p.length))) = true := h
    simp only [h', P1_not, ifB_bool, Bool.not_true, Bool.false_eq_true, false_implies, true_and, true_implies]
    rw [p_l37Step (x_p := b.p) (x_o := b.o) (y_p := pullPin ⟨b.s, b.t, b.p⟩ k) ⟨hp.1, hp.2, hl⟩]
    simp only [takePin, h, Bool.true_and]
    exact ⟨rfl, rfl⟩
end Go.Mw

/- Copies of a bench (spec); pulling a pin. -/
namespace Go.Mw
theorem spec_l37Copy_ok : ∀ ds outs, F_l37Copy ds = some outs → shL spec_l37Copy_L (qRet outs) ds := F_l37Copy_elim fun b hp => by
  rw [spec_l37Copy_L_sh]
  have hl := hp.2.1
  rw [p_l06Copy (x_p := b.p) (by show b.p.length ≤ _; omega)]
  simp
  refine loop_upto b.o.length (fun k => [.int .i64 k, vL I2 v2 b.p, vL IL2 vLL2 (b.o.take k), .int .i64 b.s, .int .i64 b.t, vL I2 v2 b.p, vL IL2 vLL2 b.o, .int .i64 0, .int .i64 0, .int .i64 b.s, .int .i64 b.t]) (by intro i j _ _ h; simp at h; omega) (fun _ => True) (by simp; rfl) trivial ?_
  intro k hk _
  rw [spec_l37Copy_b0_sh]
  simp
  refine ⟨fun h => ?_, fun h => ?_⟩
  · have hx := hp.2.2 b.o[k] (by simp)
    have hw : IntKind.i64.wrap ((k : Int) + 1) = k + 1 := wrap_id (by omega) (by omega)
    simp only [List.getElem?_eq_getElem h, Option.some.injEq, exists_eq_left']
    simp [h, hw]
    omega
  · obtain rfl : k = b.o.length := by omega
    simp [spec_l37Copy_r1_sh]

theorem spec_PullPin_ok : ∀ ds outs, F_PullPin ds = some outs → shL spec_PullPin_L (qRet outs) ds := F_PullPin_elim fun x k hp => by
  rw [spec_PullPin_L_sh, p_l06Copy (x_p := x.p) (by show x.p.length ≤ _; omega), p_CylinderOk (x_p := x.p) hp]
  have hw : IntKind.i64.wrap ((x.p.length : Int) - 1) = x.p.length - 1 := wrap_id (by omega) (by omega)
  have hc : cylOk ⟨x.s, x.t, x.p⟩ = cylOk x := rfl
  simp only [hc]
  by_cases h : cylOk x = true
  · by_cases h2 : 0 ≤ k ∧ k < x.p.length
    · have hw2 : IntKind.i64.wrap (k + 1) = k + 1 := wrap_id (by omega) (by omega)
      have h3 : (k + 1).toNat = k.toNat + 1 := by omega
      simp [h, hw, within, pullPin, h2.1, h2.2, hw2, h3]
      grind
    · simp [h, hw, within, pullPin]
      grind
  · simp only [Bool.not_eq_true] at h
    simp [h, pullPin]

end Go.Mw

/- What functions compute, in plain terms: the workshop's steps. -/
namespace Go.Mw
@[simp] theorem P1_lstLL1 {x : List Int} {k : V → Prop} : P1 (.lst [.sl [.sc]] false 1) [vL I1 v1 x] k ↔ k (vL IL1 vLL1 [x]) := P1_of (by simp [Prim.run, aksOk, akOk, chunk, V.pack, vL, vLL1, IL1, I1, AK.eqs_refl]) k
@[simp] theorem P1_lstI2 {a b : Int} {k : V → Prop} : P1 (.lst [.sc] false 2) [.int .i64 a, .int .i64 b] k ↔ k (vL I1 v1 [a, b]) := P1_of (by simp [Prim.run, aksOk, akOk, chunk, V.pack, vL, v1]) k
@[simp] theorem P1_appLL1 {l m : List (List Int)} {b : Nat} {k : V → Prop} : P1 (.app [.sl [.sc]] b) [vL IL1 vLL1 l, vL IL1 vLL1 m] k ↔ ((l.length + m.length) * b ≤ 140737488355328 ∧ l.length + m.length ≤ 140737488355328) ∧ k (vL IL1 vLL1 (l ++ m)) := P1_app
@[simp] theorem P1_appLL1_0 {m : List (List Int)} {b : Nat} {k : V → Prop} : P1 (.app [.sl [.sc]] b) [.list [.sl [.sc]] [], vL IL1 vLL1 m] k ↔ (m.length * b ≤ 140737488355328 ∧ m.length ≤ 140737488355328) ∧ k (vL IL1 vLL1 m) := P1_app0

def Shop.spring (w : Shop) : T3 := ⟨w.u, w.m, w.f⟩
def gap (a b n : Int) : Int := if within n 1 1000 && (within a 0 (n - 1) && within b 0 (n - 1)) then min (max (a - b) (b - a)) (n - max (a - b) (b - a)) else -1
def closeAt (c : Cyl) (r : Int) (i j : Nat) : Bool := match c.p[i]?, c.p[j]? with | some x, some y => decide (x.a = y.a ∧ gap x.b y.b c.s < r) | _, _ => false
/-- The pairs of the i-th pin with those from the (i+1)-th on, below the k-th. -/
def closeRow (c : Cyl) (r : Int) (i : Nat) : Nat → List (List Int)
  | 0 => []
  | k + 1 => closeRow c r i k ++ (if i < k ∧ closeAt c r i k then [[(i : Int), (k : Int)]] else [])
def closeTo (c : Cyl) (r : Int) : Nat → List (List Int)
  | 0 => []
  | k + 1 => closeTo c r k ++ closeRow c r k c.p.length
def tooClose (c : Cyl) (r : Int) : List (List Int) := if cylOk c && within r 1 96 then closeTo c r c.p.length else []
def played (w : Shop) : Shop := ⟨w.s, w.t, w.p, w.o, w.c, w.u - 1, w.m, w.f, w.y, w.d + w.p.length⟩
end Go.Mw

/- Functions of the program, as small pure programs (printed by a program of ours). -/
namespace Go.Mw
noncomputable section
end
end Go.Mw

/- Crank, RemovePin, the gap. -/
namespace Go.Mw
end Go.Mw

/- RemovePin; the law. -/
namespace Go.Mw
end Go.Mw

/- The gap; pins that stand too close. -/
namespace Go.Mw
end Go.Mw

/- What functions compute, in plain terms: draws; stops and sums. -/
namespace Go.Mw
/-- A bitwise operation of the machine. -/
def land (a b : Int) : Int := IntKind.i64.wrap (BitVec.ofInt IntKind.i64.bits a &&& BitVec.ofInt IntKind.i64.bits b).toNat
def lxor (a b : Int) : Int := IntKind.i64.wrap (BitVec.ofInt IntKind.i64.bits a ^^^ BitVec.ofInt IntKind.i64.bits b).toNat
@[simp] theorem P1_and {a b : Int} {k : V → Prop} : P1 (.bin .and) [.int .i64 a, .int .i64 b] k ↔ k (.int .i64 (land a b)) := P1_of (by simp [Prim.run, binV, binI, land]) k
@[simp] theorem P1_xor {a b : Int} {k : V → Prop} : P1 (.bin .xor) [.int .i64 a, .int .i64 b] k ↔ k (.int .i64 (lxor a b)) := P1_of (by simp [Prim.run, binV, binI, lxor]) k
theorem P1_shr {a b : Int} {κ' : IntKind} {k : V → Prop} (hb : 0 ≤ b) : P1 (.bin .shr) [.int .i64 a, .int κ' b] k ↔ k (.int .i64 (a.fdiv (2 ^ (min b.toNat IntKind.i64.bits)))) := P1_of (by simp [Prim.run, binV]; omega) k
/-- A cursor: its bytes, the place, the hash. -/
structure Cur where
  b : List UInt8
  i : Int
  h : Int
def E_big (l : List UInt8) : List V := [vL I1 vY l]
noncomputable def F_big : List V → Option (List V) := mkF E_big (fun l => l.length ≤ 9223372036854775807) (fun l => [.bool (decide (1048576 < l.length))])
theorem F_big_inj : ∀ x y, E_big x = E_big y → x = y := by
  rintro l l' h
  simpa [E_big] using h
theorem F_big_elim {P : List V → List V → Prop} (h : ∀ (l : List UInt8), (l.length ≤ 9223372036854775807) → P [vL I1 vY l] [.bool (decide (1048576 < l.length))]) : ∀ ds outs, F_big ds = some outs → P ds outs := by
  intro ds outs hh
  obtain ⟨l, rfl, hp, rfl⟩ := mkF_inv hh
  exact h l hp
theorem p_big {l : List UInt8} {nr_ : Nat} {kk_ : V → Prop} (hp : l.length ≤ 9223372036854775807) : P1 (.call F_big 0 nr_) [vL I1 vY l] kk_ ↔ kk_ (.bool (decide (1048576 < l.length))) :=
  P1_callF (by unfold F_big; exact mkF_eq F_big_inj (l) hp)

def seedTo (l : List UInt8) : Nat → Int
  | 0 => 33091 + l.length
  | k + 1 => land (IntKind.i64.wrap (IntKind.i64.wrap (IntKind.i64.wrap (seedTo l k * 131) + (match l[k]? with | some x => (x.toNat : Int) | none => 0)) + 7)) 1073741823
def seedOf (l : List UInt8) : Int := seedTo l (min l.length 4000)
def E_l01New (l : List UInt8) : List V := [vL I1 vY l]
noncomputable def F_l01New : List V → Option (List V) := mkF E_l01New (fun l => l.length ≤ 1048576) (fun l => [vL I1 vY l, .int .i64 0, .int .i64 (seedOf l)])
theorem F_l01New_inj : ∀ x y, E_l01New x = E_l01New y → x = y := by
  rintro l l' h
  simpa [E_l01New] using h
theorem F_l01New_elim {P : List V → List V → Prop} (h : ∀ (l : List UInt8), (l.length ≤ 1048576) → P [vL I1 vY l] [vL I1 vY l, .int .i64 0, .int .i64 (seedOf l)]) : ∀ ds outs, F_l01New ds = some outs → P ds outs := by
  intro ds outs hh
  obtain ⟨l, rfl, hp, rfl⟩ := mkF_inv hh
  exact h l hp
theorem p_l01New {l : List UInt8} {nr_ : Nat} {kk_ : V → V → V → Prop} (hp : l.length ≤ 1048576) : P3 (.call F_l01New 0 nr_) [vL I1 vY l] kk_ ↔ kk_ (vL I1 vY l) (.int .i64 0) (.int .i64 (seedOf l)) :=
  P3_callF (by unfold F_l01New; exact mkF_eq F_l01New_inj (l) hp)

def hNext (h : Int) : Int := IntKind.i64.wrap (IntKind.i64.wrap (h * 6364136223846793005) + 1442695040888963407)
def hByte (h : Int) : Int := land (lxor (h.fdiv (2 ^ 33)) (h.fdiv (2 ^ 45))) 255
def cByte (x : Cur) : Int := match x.b[x.i.toNat]? with | some y => land (IntKind.i64.wrap (hByte (hNext x.h) + y.toNat)) 255 | none => hByte (hNext x.h)
def cStep (x : Cur) : Cur := ⟨x.b, if x.i < x.b.length then x.i + 1 else x.i, hNext x.h⟩
def E_l01Byte (x : Cur) : List V := [vL I1 vY x.b, .int .i64 x.i, .int .i64 x.h]
noncomputable def F_l01Byte : List V → Option (List V) := mkF E_l01Byte (fun x => 0 ≤ x.i ∧ x.b.length ≤ 1048576) (fun x => [.int .i64 (cByte x), .int .i64 ((cStep x).i), .int .i64 ((cStep x).h)])
theorem F_l01Byte_inj : ∀ x y, E_l01Byte x = E_l01Byte y → x = y := by
  rintro ⟨xb, xi, xh⟩ ⟨xb', xi', xh'⟩ h
  simpa [E_l01Byte] using h
theorem F_l01Byte_elim {P : List V → List V → Prop} (h : ∀ (x : Cur), (0 ≤ x.i ∧ x.b.length ≤ 1048576) → P [vL I1 vY x.b, .int .i64 x.i, .int .i64 x.h] [.int .i64 (cByte x), .int .i64 ((cStep x).i), .int .i64 ((cStep x).h)]) : ∀ ds outs, F_l01Byte ds = some outs → P ds outs := by
  intro ds outs hh
  obtain ⟨x, rfl, hp, rfl⟩ := mkF_inv hh
  exact h x hp
theorem p_l01Byte {x_b : List UInt8} {x_i : Int} {x_h : Int} {nr_ : Nat} {kk_ : V → V → V → Prop} (hp : 0 ≤ (⟨x_b, x_i, x_h⟩ : Cur).i ∧ (⟨x_b, x_i, x_h⟩ : Cur).b.length ≤ 1048576) : P3 (.call F_l01Byte 0 nr_) [vL I1 vY x_b, .int .i64 x_i, .int .i64 x_h] kk_ ↔ kk_ (.int .i64 (cByte (⟨x_b, x_i, x_h⟩ : Cur))) (.int .i64 ((cStep (⟨x_b, x_i, x_h⟩ : Cur)).i)) (.int .i64 ((cStep (⟨x_b, x_i, x_h⟩ : Cur)).h)) :=
  P3_callF (by unfold F_l01Byte; exact mkF_eq F_l01Byte_inj ((⟨x_b, x_i, x_h⟩ : Cur)) hp)

def cBelow (x : Cur) (n : Int) : Int := if n ≤ 0 then 0 else if n ≤ 256 then (cByte x).tmod n else
  (cByte x * 16777216 + cByte (cStep x) * 65536 + cByte (cStep (cStep x)) * 256 + cByte (cStep (cStep (cStep x)))).tmod n
def cAfter (x : Cur) (n : Int) : Cur := if n ≤ 0 then x else if n ≤ 256 then cStep x else cStep (cStep (cStep (cStep x)))
def E_l01Below : Cur × Int → List V := fun (x, n) => [vL I1 vY x.b, .int .i64 x.i, .int .i64 x.h, .int .i64 n]
noncomputable def F_l01Below : List V → Option (List V) := mkF E_l01Below (fun (x, _) => 0 ≤ x.i ∧ x.b.length ≤ 1048576) (fun (x, n) => [.int .i64 (cBelow x n), .int .i64 ((cAfter x n).i), .int .i64 ((cAfter x n).h)])
theorem F_l01Below_inj : ∀ x y, E_l01Below x = E_l01Below y → x = y := by
  rintro ⟨⟨xb, xi, xh⟩, n⟩ ⟨⟨xb', xi', xh'⟩, n'⟩ h
  simpa [E_l01Below, and_assoc] using h
theorem F_l01Below_elim {P : List V → List V → Prop} (h : ∀ (x : Cur) (n : Int), (0 ≤ x.i ∧ x.b.length ≤ 1048576) → P [vL I1 vY x.b, .int .i64 x.i, .int .i64 x.h, .int .i64 n] [.int .i64 (cBelow x n), .int .i64 ((cAfter x n).i), .int .i64 ((cAfter x n).h)]) : ∀ ds outs, F_l01Below ds = some outs → P ds outs := by
  intro ds outs hh
  obtain ⟨⟨x, n⟩, rfl, hp, rfl⟩ := mkF_inv hh
  exact h x n hp
theorem p_l01Below {x_b : List UInt8} {x_i : Int} {x_h : Int} {n : Int} {nr_ : Nat} {kk_ : V → V → V → Prop} (hp : 0 ≤ (⟨x_b, x_i, x_h⟩ : Cur).i ∧ (⟨x_b, x_i, x_h⟩ : Cur).b.length ≤ 1048576) : P3 (.call F_l01Below 0 nr_) [vL I1 vY x_b, .int .i64 x_i, .int .i64 x_h, .int .i64 n] kk_ ↔ kk_ (.int .i64 (cBelow (⟨x_b, x_i, x_h⟩ : Cur) n)) (.int .i64 ((cAfter (⟨x_b, x_i, x_h⟩ : Cur) n).i)) (.int .i64 ((cAfter (⟨x_b, x_i, x_h⟩ : Cur) n).h)) :=
  P3_callF (by unfold F_l01Below; exact mkF_eq F_l01Below_inj ((⟨x_b, x_i, x_h⟩ : Cur), n) hp)


def putPin : List T2 → T2 → List T2
  | [], p => [p]
  | a :: r, p => if pinLess a p then a :: putPin r p else if a = p then a :: r else p :: a :: r
def putNew : List T2 → T2 → Bool
  | [], _ => true
  | a :: r, p => if pinLess a p then putNew r p else decide (a ≠ p)
def E_l06Put : List T2 × T2 → List V := fun (l, y) => [vL I2 v2 l, .int .i64 y.a, .int .i64 y.b]
noncomputable def F_l06Put : List V → Option (List V) := mkF E_l06Put (fun (l, _) => l.length ≤ 1048576) (fun (l, y) => [vL I2 v2 (putPin l y), .bool (putNew l y)])
theorem F_l06Put_inj : ∀ x y, E_l06Put x = E_l06Put y → x = y := by
  rintro ⟨l, ⟨ya, yb⟩⟩ ⟨l', ⟨ya', yb'⟩⟩ h
  simpa [E_l06Put, and_assoc] using h
theorem F_l06Put_elim {P : List V → List V → Prop} (h : ∀ (l : List T2) (y : T2), (l.length ≤ 1048576) → P [vL I2 v2 l, .int .i64 y.a, .int .i64 y.b] [vL I2 v2 (putPin l y), .bool (putNew l y)]) : ∀ ds outs, F_l06Put ds = some outs → P ds outs := by
  intro ds outs hh
  obtain ⟨⟨l, y⟩, rfl, hp, rfl⟩ := mkF_inv hh
  exact h l y hp
theorem p_l06Put {l : List T2} {y_a : Int} {y_b : Int} {nr_ : Nat} {kk_ : V → V → Prop} (hp : l.length ≤ 1048576) : P2 (.call F_l06Put 0 nr_) [vL I2 v2 l, .int .i64 y_a, .int .i64 y_b] kk_ ↔ kk_ (vL I2 v2 (putPin l (⟨y_a, y_b⟩ : T2))) (.bool (putNew l (⟨y_a, y_b⟩ : T2))) :=
  P2_callF (by unfold F_l06Put; exact mkF_eq F_l06Put_inj (l, (⟨y_a, y_b⟩ : T2)) hp)

def cylTo (s t : Int) (x : Cur) : Nat → List T2 × Cur
  | 0 => ([], x)
  | k + 1 => (putPin (cylTo s t x k).1 ⟨cBelow (cylTo s t x k).2 t, cBelow (cAfter (cylTo s t x k).2 t) s⟩, cAfter (cAfter (cylTo s t x k).2 t) s)
def cylS (x : Cur) : Int := 4 + cBelow x 21
def cylT (x : Cur) : Int := 1 + cBelow (cAfter x 21) 8
def cylX (x : Cur) : Cur := cAfter (cAfter (cAfter x 21) 8) 10
def cylN (x : Cur) : Int := cBelow (cAfter (cAfter x 21) 8) 10
def cylOf (x : Cur) : Cyl := ⟨cylS x, cylT x, (cylTo (cylS x) (cylT x) (cylX x) (cylN x).toNat).1⟩
def cylEnd (x : Cur) : Cur := (cylTo (cylS x) (cylT x) (cylX x) (cylN x).toNat).2
def E_l06Cylinder (x : Cur) : List V := [vL I1 vY x.b, .int .i64 x.i, .int .i64 x.h]
noncomputable def F_l06Cylinder : List V → Option (List V) := mkF E_l06Cylinder (fun x => 0 ≤ x.i ∧ x.b.length ≤ 1048576) (fun x => [.int .i64 (cylOf x).s, .int .i64 (cylOf x).t, vL I2 v2 (cylOf x).p, .int .i64 ((cylEnd x).i), .int .i64 ((cylEnd x).h)])
theorem F_l06Cylinder_inj : ∀ x y, E_l06Cylinder x = E_l06Cylinder y → x = y := by
  rintro ⟨xb, xi, xh⟩ ⟨xb', xi', xh'⟩ h
  simpa [E_l06Cylinder] using h
theorem F_l06Cylinder_elim {P : List V → List V → Prop} (h : ∀ (x : Cur), (0 ≤ x.i ∧ x.b.length ≤ 1048576) → P [vL I1 vY x.b, .int .i64 x.i, .int .i64 x.h] [.int .i64 (cylOf x).s, .int .i64 (cylOf x).t, vL I2 v2 (cylOf x).p, .int .i64 ((cylEnd x).i), .int .i64 ((cylEnd x).h)]) : ∀ ds outs, F_l06Cylinder ds = some outs → P ds outs := by
  intro ds outs hh
  obtain ⟨x, rfl, hp, rfl⟩ := mkF_inv hh
  exact h x hp
theorem p_l06Cylinder {x_b : List UInt8} {x_i : Int} {x_h : Int} {nr_ : Nat} {kk_ : V → V → V → V → V → Prop} (hp : 0 ≤ (⟨x_b, x_i, x_h⟩ : Cur).i ∧ (⟨x_b, x_i, x_h⟩ : Cur).b.length ≤ 1048576) : P5 (.call F_l06Cylinder 0 nr_) [vL I1 vY x_b, .int .i64 x_i, .int .i64 x_h] kk_ ↔ kk_ (.int .i64 (cylOf (⟨x_b, x_i, x_h⟩ : Cur)).s) (.int .i64 (cylOf (⟨x_b, x_i, x_h⟩ : Cur)).t) (vL I2 v2 (cylOf (⟨x_b, x_i, x_h⟩ : Cur)).p) (.int .i64 ((cylEnd (⟨x_b, x_i, x_h⟩ : Cur)).i)) (.int .i64 ((cylEnd (⟨x_b, x_i, x_h⟩ : Cur)).h)) :=
  P5_callF (by unfold F_l06Cylinder; exact mkF_eq F_l06Cylinder_inj ((⟨x_b, x_i, x_h⟩ : Cur)) hp)

def E_l01PickInt : Cur × List Int → List V := fun (x, l) => [vL I1 vY x.b, .int .i64 x.i, .int .i64 x.h, vL I1 v1 l]
noncomputable def F_l01PickInt : List V → Option (List V) := mkF E_l01PickInt (fun (x, l) => 0 ≤ x.i ∧ x.b.length ≤ 1048576 ∧ 1 ≤ l.length ∧ l.length ≤ 1048576) (fun (x, l) => [.int .i64 ((l[(cBelow x l.length).toNat]?.getD 0)), .int .i64 ((cAfter x l.length).i), .int .i64 ((cAfter x l.length).h)])
theorem F_l01PickInt_inj : ∀ x y, E_l01PickInt x = E_l01PickInt y → x = y := by
  rintro ⟨⟨xb, xi, xh⟩, l⟩ ⟨⟨xb', xi', xh'⟩, l'⟩ h
  simpa [E_l01PickInt, and_assoc] using h
theorem F_l01PickInt_elim {P : List V → List V → Prop} (h : ∀ (x : Cur) (l : List Int), (0 ≤ x.i ∧ x.b.length ≤ 1048576 ∧ 1 ≤ l.length ∧ l.length ≤ 1048576) → P [vL I1 vY x.b, .int .i64 x.i, .int .i64 x.h, vL I1 v1 l] [.int .i64 ((l[(cBelow x l.length).toNat]?.getD 0)), .int .i64 ((cAfter x l.length).i), .int .i64 ((cAfter x l.length).h)]) : ∀ ds outs, F_l01PickInt ds = some outs → P ds outs := by
  intro ds outs hh
  obtain ⟨⟨x, l⟩, rfl, hp, rfl⟩ := mkF_inv hh
  exact h x l hp
theorem p_l01PickInt {x_b : List UInt8} {x_i : Int} {x_h : Int} {l : List Int} {nr_ : Nat} {kk_ : V → V → V → Prop} (hp : 0 ≤ (⟨x_b, x_i, x_h⟩ : Cur).i ∧ (⟨x_b, x_i, x_h⟩ : Cur).b.length ≤ 1048576 ∧ 1 ≤ l.length ∧ l.length ≤ 1048576) : P3 (.call F_l01PickInt 0 nr_) [vL I1 vY x_b, .int .i64 x_i, .int .i64 x_h, vL I1 v1 l] kk_ ↔ kk_ (.int .i64 ((l[(cBelow (⟨x_b, x_i, x_h⟩ : Cur) l.length).toNat]?.getD 0))) (.int .i64 ((cAfter (⟨x_b, x_i, x_h⟩ : Cur) l.length).i)) (.int .i64 ((cAfter (⟨x_b, x_i, x_h⟩ : Cur) l.length).h)) :=
  P3_callF (by unfold F_l01PickInt; exact mkF_eq F_l01PickInt_inj ((⟨x_b, x_i, x_h⟩ : Cur), l) hp)

def cur0 (l : List UInt8) : Cur := ⟨l, 0, seedOf l⟩
end Go.Mw

/- Functions of the program, as small pure programs (printed by a program of ours). -/
namespace Go.Mw
noncomputable section
def laws_big_L : L := .seq (.rg []) (.seq (.rg [⟨[], .len, [.v 0], 1⟩, ⟨[], .bin .gtr, [.v 1, .k (.int .i64 1048576)], 1⟩]) (.ret [.v 2]))
theorem laws_big_L_sh (Q : QT) (x0 : V) : shL laws_big_L Q [x0] = (
  P1 (.len) [x0] fun v0 =>
  P1 (.bin .gtr) [v0, .int .i64 1048576] fun v1 =>
  Q .ret [v1]) := by kernel_rfl
def laws_big_S : Sig := ⟨[.val false [.sl [.sc]]], [(false, [.sc])], F_big⟩
def laws_big_hs : List NF := []

def spec_l01New_b0 : L := .seq (.seq (.seq (.rg [⟨[], .len, [.v 0], 1⟩, ⟨[], .bin .lss, [.v 2, .v 3], 1⟩, ⟨[(.v 4, true)], .bin .lss, [.v 2, .k (.int .i64 4000)], 1⟩, ⟨[], .pick, [.v 4, .v 5, .k (.bool false)], 1⟩]) (.ite (.v 6) (.skip) (.seq (.tup [.v 0, .v 1]) (.exit 0)))) (.seq (.block 1 (.seq (.rg [⟨[], .bin .mul, [.v 1, .k (.int .i64 131)], 1⟩, ⟨[], .idx [.sc], [.v 0, .v 2], 1⟩, ⟨[], .conv .i64, [.v 8], 1⟩, ⟨[], .bin .add, [.v 7, .v 9], 1⟩, ⟨[], .bin .add, [.v 10, .k (.int .i64 7)], 1⟩, ⟨[], .bin .and, [.v 11, .k (.int .i64 1073741823)], 1⟩]) (.tup [.v 0, .v 12, .v 2]))) (.rg [⟨[], .bin .add, [.v 2, .k (.int .i64 1)], 1⟩]))) (.tup [.v 0, .v 1, .v 3])
theorem spec_l01New_b0_sh (Q : QT) (x0 x1 x2 : V) : shL spec_l01New_b0 Q [x0, x1, x2] = (
  P1 (.len) [x0] fun v0 =>
  P1 (.bin .lss) [x2, v0] fun v1 =>
  ifB v1 (
    P1 (.bin .lss) [x2, .int .i64 4000] fun v2 =>
    ifB v2 (
      P1 (.bin .mul) [x1, .int .i64 131] fun v3 =>
      P1 (.idx [.sc]) [x0, x2] fun v4 =>
      P1 (.conv .i64) [v4] fun v5 =>
      P1 (.bin .add) [v3, v5] fun v6 =>
      P1 (.bin .add) [v6, .int .i64 7] fun v7 =>
      P1 (.bin .and) [v7, .int .i64 1073741823] fun v8 =>
      P1 (.bin .add) [x2, .int .i64 1] fun v9 =>
      Q .normal [x0, v8, v9]) (
      Q (.exit 0) [x0, x1])) (
    Q (.exit 0) [x0, x1])) := by kernel_rfl

def spec_l01New_r1 : L := .seq (.rg []) (.ret [.v 0, .k (.int .i64 0), .v 1])
theorem spec_l01New_r1_sh (Q : QT) (x0 x1 : V) : shL spec_l01New_r1 Q [x0, x1] = (
  Q .ret [x0, .int .i64 0, x1]) := by kernel_rfl

def spec_l01New_L : L := .seq (.rg []) (.seq (.rg [⟨[], .len, [.v 0], 1⟩, ⟨[], .bin .add, [.k (.int .i64 33091), .v 1], 1⟩]) (.seq (.seq (.rg []) (.block 0 (.seq (.tup [.v 0, .v 2, .k (.int .i64 0)]) (.loop (spec_l01New_b0))))) (spec_l01New_r1)))
theorem spec_l01New_L_sh (Q : QT) (x0 : V) : shL spec_l01New_L Q [x0] = (
  P1 (.len) [x0] fun v0 =>
  P1 (.bin .add) [.int .i64 33091, v0] fun v1 =>
  shL (.loop spec_l01New_b0) (qB 0 (qS (shL spec_l01New_r1 Q) Q)) [x0, v1, .int .i64 0]) := by kernel_rfl
def spec_l01New_S : Sig := ⟨[.new [.sl [.sc], .sc, .sc], .val false [.sl [.sc]]], [], F_l01New⟩
def spec_l01New_hs : List NF := [⟨[(0, .sc false [.ro [.sc]]), (3, .sc false [.sc])], [], [], 64⟩, ⟨[(0, .sc false [.ro [.sc]]), (3, .sc false [.sc]), (4, .sc false [.sc])], [], [], 64⟩, ⟨[(0, .sc false [.ro [.sc]]), (3, .sc false [.sc]), (4, .sc false [.sc])], [], [], 64⟩]

def spec_l01Byte_L : L := .seq (.rg []) (.seq (.rg [⟨[], .bin .mul, [.v 2, .k (.int .i64 6364136223846793005)], 1⟩, ⟨[], .bin .add, [.v 3, .k (.int .i64 1442695040888963407)], 1⟩]) (.seq (.rg [⟨[], .bin .shr, [.v 4, .k (.int .u64 33)], 1⟩, ⟨[], .bin .shr, [.v 4, .k (.int .u64 45)], 1⟩, ⟨[], .bin .xor, [.v 5, .v 6], 1⟩, ⟨[], .bin .and, [.v 7, .k (.int .i64 255)], 1⟩]) (.seq (.seq (.rg [⟨[], .len, [.v 0], 1⟩, ⟨[], .bin .lss, [.v 1, .v 9], 1⟩]) (.ite (.v 10) (.seq (.seq (.rg [⟨[], .idx [.sc], [.v 0, .v 1], 1⟩, ⟨[], .conv .i64, [.v 11], 1⟩, ⟨[], .bin .add, [.v 8, .v 12], 1⟩, ⟨[], .bin .and, [.v 13, .k (.int .i64 255)], 1⟩]) (.rg [⟨[], .bin .add, [.v 1, .k (.int .i64 1)], 1⟩])) (.tup [.v 14, .v 0, .v 15, .v 4])) (.seq (.skip) (.tup [.v 8, .v 0, .v 1, .v 4])))) (.seq (.rg []) (.ret [.v 0, .v 2, .v 3])))))
theorem spec_l01Byte_L_sh (Q : QT) (x0 x1 x2 : V) : shL spec_l01Byte_L Q [x0, x1, x2] = (
  P1 (.bin .mul) [x2, .int .i64 6364136223846793005] fun v0 =>
  P1 (.bin .add) [v0, .int .i64 1442695040888963407] fun v1 =>
  P1 (.bin .shr) [v1, .int .u64 33] fun v2 =>
  P1 (.bin .shr) [v1, .int .u64 45] fun v3 =>
  P1 (.bin .xor) [v2, v3] fun v4 =>
  P1 (.bin .and) [v4, .int .i64 255] fun v5 =>
  P1 (.len) [x0] fun v6 =>
  P1 (.bin .lss) [x1, v6] fun v7 =>
  ifB v7 (
    P1 (.idx [.sc]) [x0, x1] fun v8 =>
    P1 (.conv .i64) [v8] fun v9 =>
    P1 (.bin .add) [v5, v9] fun v10 =>
    P1 (.bin .and) [v10, .int .i64 255] fun v11 =>
    P1 (.bin .add) [x1, .int .i64 1] fun v12 =>
    Q .ret [v11, v12, v1]) (
    Q .ret [v5, x1, v1])) := by kernel_rfl
def spec_l01Byte_S : Sig := ⟨[.ptr [.sl [.sc], .sc, .sc]], [(false, [.sc])], F_l01Byte⟩
def spec_l01Byte_hs : List NF := [⟨[(3, .sc false [.sc])], [], [(0, [.ro [.sc], .sc, .sc])], 64⟩]

def spec_l01Below_L : L := .seq (.rg []) (.seq (.seq (.rg [⟨[], .bin .leq, [.v 3, .k (.int .i64 0)], 1⟩]) (.ite (.v 4) (.seq (.rg []) (.ret [.k (.int .i64 0), .v 1, .v 2])) (.skip))) (.seq (.seq (.rg [⟨[], .bin .leq, [.v 3, .k (.int .i64 256)], 1⟩]) (.ite (.v 5) (.seq (.rg [⟨[], .call F_l01Byte 0 1, [.v 0, .v 1, .v 2], 3⟩, ⟨[], .bin .rem, [.v 6, .v 3], 1⟩]) (.ret [.v 9, .v 7, .v 8])) (.skip))) (.seq (.rg [⟨[], .call F_l01Byte 0 1, [.v 0, .v 1, .v 2], 3⟩]) (.seq (.rg [⟨[], .call F_l01Byte 0 1, [.v 0, .v 7, .v 8], 3⟩]) (.seq (.rg [⟨[], .call F_l01Byte 0 1, [.v 0, .v 10, .v 11], 3⟩]) (.seq (.rg [⟨[], .call F_l01Byte 0 1, [.v 0, .v 13, .v 14], 3⟩]) (.seq (.rg [⟨[], .bin .mul, [.v 6, .k (.int .i64 16777216)], 1⟩, ⟨[], .bin .mul, [.v 9, .k (.int .i64 65536)], 1⟩, ⟨[], .bin .add, [.v 18, .v 19], 1⟩, ⟨[], .bin .mul, [.v 12, .k (.int .i64 256)], 1⟩, ⟨[], .bin .add, [.v 20, .v 21], 1⟩, ⟨[], .bin .add, [.v 22, .v 15], 1⟩, ⟨[], .bin .rem, [.v 23, .v 3], 1⟩]) (.ret [.v 24, .v 16, .v 17]))))))))
theorem spec_l01Below_L_sh (Q : QT) (x0 x1 x2 x3 : V) : shL spec_l01Below_L Q [x0, x1, x2, x3] = (
  P1 (.bin .leq) [x3, .int .i64 0] fun v0 =>
  ifB v0 (
    Q .ret [.int .i64 0, x1, x2]) (
    P1 (.bin .leq) [x3, .int .i64 256] fun v1 =>
    ifB v1 (
      P3 (.call F_l01Byte 0 1) [x0, x1, x2] fun v2 v3 v4 =>
      P1 (.bin .rem) [v2, x3] fun v5 =>
      Q .ret [v5, v3, v4]) (
      P3 (.call F_l01Byte 0 1) [x0, x1, x2] fun v6 v7 v8 =>
      P3 (.call F_l01Byte 0 1) [x0, v7, v8] fun v9 v10 v11 =>
      P3 (.call F_l01Byte 0 1) [x0, v10, v11] fun v12 v13 v14 =>
      P3 (.call F_l01Byte 0 1) [x0, v13, v14] fun v15 v16 v17 =>
      P1 (.bin .mul) [v6, .int .i64 16777216] fun v18 =>
      P1 (.bin .mul) [v9, .int .i64 65536] fun v19 =>
      P1 (.bin .add) [v18, v19] fun v20 =>
      P1 (.bin .mul) [v12, .int .i64 256] fun v21 =>
      P1 (.bin .add) [v20, v21] fun v22 =>
      P1 (.bin .add) [v22, v15] fun v23 =>
      P1 (.bin .rem) [v23, x3] fun v24 =>
      Q .ret [v24, v16, v17]))) := by kernel_rfl
def spec_l01Below_S : Sig := ⟨[.ptr [.sl [.sc], .sc, .sc], .val false [.sc]], [(false, [.sc])], F_l01Below⟩
def spec_l01Below_hs : List NF := []

def spec_l06Put_b0 : L := .seq (.seq (.seq (.rg [⟨[], .len, [.v 0], 1⟩, ⟨[], .bin .lss, [.v 1, .v 4], 1⟩, ⟨[(.v 5, true)], .idx [.sc, .sc], [.v 0, .v 1], 2⟩, ⟨[(.v 5, true)], .call F_l06Less 0 1, [.v 6, .v 7, .v 2, .v 3], 1⟩, ⟨[], .pick, [.v 5, .v 8, .k (.bool false)], 1⟩]) (.ite (.v 9) (.skip) (.seq (.tup [.v 0, .v 1, .v 2, .v 3]) (.exit 0)))) (.block 1 (.seq (.rg [⟨[], .bin .add, [.v 1, .k (.int .i64 1)], 1⟩]) (.tup [.v 0, .v 10, .v 2, .v 3])))) (.tup [.v 0, .v 1, .v 2, .v 3])
theorem spec_l06Put_b0_sh (Q : QT) (x0 x1 x2 x3 : V) : shL spec_l06Put_b0 Q [x0, x1, x2, x3] = (
  P1 (.len) [x0] fun v0 =>
  P1 (.bin .lss) [x1, v0] fun v1 =>
  ifB v1 (
    P2 (.idx [.sc, .sc]) [x0, x1] fun v2 v3 =>
    P1 (.call F_l06Less 0 1) [v2, v3, x2, x3] fun v4 =>
    ifB v4 (
      P1 (.bin .add) [x1, .int .i64 1] fun v5 =>
      Q .normal [x0, v5, x2, x3]) (
      Q (.exit 0) [x0, x1, x2, x3])) (
    Q (.exit 0) [x0, x1, x2, x3])) := by kernel_rfl

def spec_l06Put_r1 : L := .seq (.seq (.rg [⟨[], .len, [.v 0], 1⟩, ⟨[], .bin .lss, [.v 1, .v 4], 1⟩, ⟨[(.v 5, true)], .idx [.sc, .sc], [.v 0, .v 1], 2⟩, ⟨[(.v 5, true)], .eqa false [.i, .i], [.v 6, .v 7, .v 2, .v 3], 1⟩, ⟨[], .pick, [.v 5, .v 8, .k (.bool false)], 1⟩]) (.ite (.v 9) (.seq (.rg [⟨[], .lst [.sc, .sc] true 0, [], 1⟩, ⟨[], .app [.sc, .sc] 16, [.v 10, .v 0], 1⟩]) (.ret [.v 11, .k (.bool false)])) (.skip))) (.seq (.rg [⟨[], .lst [.sc, .sc] true 0, [], 1⟩, ⟨[], .lsub [.sc, .sc], [.v 0, .k (.int .i64 0), .v 1], 1⟩, ⟨[], .app [.sc, .sc] 16, [.v 10, .v 11], 1⟩, ⟨[], .lst [.sc, .sc] true 1, [.v 2, .v 3], 1⟩, ⟨[], .app [.sc, .sc] 16, [.v 12, .v 13], 1⟩, ⟨[], .lsub [.sc, .sc], [.v 0, .v 1], 1⟩, ⟨[], .app [.sc, .sc] 16, [.v 14, .v 15], 1⟩]) (.ret [.v 16, .k (.bool true)]))
theorem spec_l06Put_r1_sh (Q : QT) (x0 x1 x2 x3 : V) : shL spec_l06Put_r1 Q [x0, x1, x2, x3] = (
  P1 (.len) [x0] fun v0 =>
  P1 (.bin .lss) [x1, v0] fun v1 =>
  ifB v1 (
    P2 (.idx [.sc, .sc]) [x0, x1] fun v2 v3 =>
    P1 (.eqa false [.i, .i]) [v2, v3, x2, x3] fun v4 =>
    ifB v4 (
      P1 (.lst [.sc, .sc] true 0) [] fun v5 =>
      P1 (.app [.sc, .sc] 16) [v5, x0] fun v6 =>
      Q .ret [v6, .bool false]) (
      P1 (.lst [.sc, .sc] true 0) [] fun v7 =>
      P1 (.lsub [.sc, .sc]) [x0, .int .i64 0, x1] fun v8 =>
      P1 (.app [.sc, .sc] 16) [v7, v8] fun v9 =>
      P1 (.lst [.sc, .sc] true 1) [x2, x3] fun v10 =>
      P1 (.app [.sc, .sc] 16) [v9, v10] fun v11 =>
      P1 (.lsub [.sc, .sc]) [x0, x1] fun v12 =>
      P1 (.app [.sc, .sc] 16) [v11, v12] fun v13 =>
      Q .ret [v13, .bool true])) (
    P1 (.lst [.sc, .sc] true 0) [] fun v14 =>
    P1 (.lsub [.sc, .sc]) [x0, .int .i64 0, x1] fun v15 =>
    P1 (.app [.sc, .sc] 16) [v14, v15] fun v16 =>
    P1 (.lst [.sc, .sc] true 1) [x2, x3] fun v17 =>
    P1 (.app [.sc, .sc] 16) [v16, v17] fun v18 =>
    P1 (.lsub [.sc, .sc]) [x0, x1] fun v19 =>
    P1 (.app [.sc, .sc] 16) [v18, v19] fun v20 =>
    Q .ret [v20, .bool true])) := by kernel_rfl

def spec_l06Put_L : L := .seq (.rg []) (.seq (.rg []) (.seq (.block 0 (.seq (.tup [.v 0, .k (.int .i64 0), .v 1, .v 2]) (.loop (spec_l06Put_b0)))) (spec_l06Put_r1)))
theorem spec_l06Put_L_sh (Q : QT) (x0 x1 x2 : V) : shL spec_l06Put_L Q [x0, x1, x2] = (
  shL (.loop spec_l06Put_b0) (qB 0 (qS (shL spec_l06Put_r1 Q) Q)) [x0, .int .i64 0, x1, x2]) := by kernel_rfl
def spec_l06Put_S : Sig := ⟨[.val false [.sl [.sc, .sc]], .val true [.sc, .sc]], [(false, [.sl [.sc, .sc]]), (false, [.sc])], F_l06Put⟩
def spec_l06Put_hs : List NF := [⟨[(0, .sc false [.ro [.sc, .sc]]), (3, .ptr 64 0), (6, .sc false [.sc])], [], [(64, [.sc, .sc])], 65⟩, ⟨[(0, .sc false [.ro [.sc, .sc]]), (3, .ptr 64 0), (6, .sc false [.sc])], [], [(64, [.sc, .sc])], 65⟩, ⟨[(0, .sc false [.ro [.sc, .sc]]), (3, .ptr 64 0), (6, .sc false [.sc])], [], [(64, [.sc, .sc])], 65⟩]

def spec_l06Cylinder_b0 : L := .seq (.seq (.seq (.rg [⟨[], .bin .gtr, [.v 0, .k (.int .i64 0)], 1⟩]) (.ite (.v 9) (.skip) (.seq (.tup [.v 1, .v 2, .v 3, .v 4, .v 5, .v 6, .v 7, .v 8]) (.exit 0)))) (.seq (.block 1 (.seq (.rg [⟨[], .call F_l01Below 0 1, [.v 2, .v 3, .v 4, .v 8], 3⟩, ⟨[], .call F_l01Below 0 1, [.v 2, .v 11, .v 12, .v 7], 3⟩, ⟨[], .call F_l06Put 0 2, [.v 1, .v 10, .v 13], 2⟩]) (.tup [.v 0, .v 16, .v 2, .v 14, .v 15, .v 5, .v 6, .v 7, .v 8]))) (.rg [⟨[], .bin .sub, [.v 0, .k (.int .i64 1)], 1⟩]))) (.tup [.v 9, .v 1, .v 2, .v 3, .v 4, .v 5, .v 6, .v 7, .v 8])
theorem spec_l06Cylinder_b0_sh (Q : QT) (x0 x1 x2 x3 x4 x5 x6 x7 x8 : V) : shL spec_l06Cylinder_b0 Q [x0, x1, x2, x3, x4, x5, x6, x7, x8] = (
  P1 (.bin .gtr) [x0, .int .i64 0] fun v0 =>
  ifB v0 (
    P3 (.call F_l01Below 0 1) [x2, x3, x4, x8] fun v1 v2 v3 =>
    P3 (.call F_l01Below 0 1) [x2, v2, v3, x7] fun v4 v5 v6 =>
    P2 (.call F_l06Put 0 2) [x1, v1, v4] fun v7 _ =>
    P1 (.bin .sub) [x0, .int .i64 1] fun v9 =>
    Q .normal [v9, v7, x2, v5, v6, x5, x6, x7, x8]) (
    Q (.exit 0) [x1, x2, x3, x4, x5, x6, x7, x8])) := by kernel_rfl

def spec_l06Cylinder_r1 : L := .seq (.rg []) (.ret [.v 6, .v 7, .v 0, .v 2, .v 3])
theorem spec_l06Cylinder_r1_sh (Q : QT) (x0 x1 x2 x3 x4 x5 x6 x7 : V) : shL spec_l06Cylinder_r1 Q [x0, x1, x2, x3, x4, x5, x6, x7] = (
  Q .ret [x6, x7, x0, x2, x3]) := by kernel_rfl

def spec_l06Cylinder_L : L := .seq (.rg []) (.seq (.rg [⟨[], .call F_l01Below 0 1, [.v 0, .v 1, .v 2, .k (.int .i64 21)], 3⟩, ⟨[], .bin .add, [.k (.int .i64 4), .v 3], 1⟩, ⟨[], .call F_l01Below 0 1, [.v 0, .v 4, .v 5, .k (.int .i64 8)], 3⟩, ⟨[], .bin .add, [.k (.int .i64 1), .v 7], 1⟩]) (.seq (.seq (.rg [⟨[], .call F_l01Below 0 1, [.v 0, .v 8, .v 9, .k (.int .i64 10)], 3⟩]) (.block 0 (.seq (.tup [.v 11, .k (.list [.sc, .sc] []), .v 0, .v 12, .v 13, .k (.int .i64 0), .k (.int .i64 0), .v 6, .v 10]) (.loop (spec_l06Cylinder_b0))))) (spec_l06Cylinder_r1)))
theorem spec_l06Cylinder_L_sh (Q : QT) (x0 x1 x2 : V) : shL spec_l06Cylinder_L Q [x0, x1, x2] = (
  P3 (.call F_l01Below 0 1) [x0, x1, x2, .int .i64 21] fun v0 v1 v2 =>
  P1 (.bin .add) [.int .i64 4, v0] fun v3 =>
  P3 (.call F_l01Below 0 1) [x0, v1, v2, .int .i64 8] fun v4 v5 v6 =>
  P1 (.bin .add) [.int .i64 1, v4] fun v7 =>
  P3 (.call F_l01Below 0 1) [x0, v5, v6, .int .i64 10] fun v8 v9 v10 =>
  shL (.loop spec_l06Cylinder_b0) (qB 0 (qS (shL spec_l06Cylinder_r1 Q) Q)) [v8, .list [.sc, .sc] [], x0, v9, v10, .int .i64 0, .int .i64 0, v3, v7]) := by kernel_rfl
def spec_l06Cylinder_S : Sig := ⟨[.ptr [.sl [.sc], .sc, .sc]], [(true, [.sc, .sc, .sl [.sc, .sc]])], F_l06Cylinder⟩
def spec_l06Cylinder_hs : List NF := [⟨[(2, .ptr 64 0), (3, .ptr 65 0)], [(66, true, [.sc, .sc])], [(0, [.ro [.sc], .sc, .sc]), (64, [.sc, .sc, .nil]), (65, [.sc, .sc, .own 66])], 67⟩, ⟨[(0, .ptr 0 0), (2, .ptr 64 0), (3, .ptr 65 0), (4, .sc false [.sc])], [(66, true, [.sc, .sc])], [(0, [.ro [.sc], .sc, .sc]), (64, [.sc, .sc, .nil]), (65, [.sc, .sc, .own 66])], 67⟩, ⟨[(0, .ptr 0 0), (2, .ptr 64 0), (3, .ptr 65 0), (4, .sc false [.sc])], [(66, true, [.sc, .sc])], [(0, [.ro [.sc], .sc, .sc]), (64, [.sc, .sc, .nil]), (65, [.sc, .sc, .own 66])], 67⟩]

def spec_l01PickInt_L : L := .seq (.rg []) (.seq (.rg [⟨[], .len, [.v 3], 1⟩, ⟨[], .call F_l01Below 0 1, [.v 0, .v 1, .v 2, .v 4], 3⟩, ⟨[], .idx [.sc], [.v 3, .v 5], 1⟩]) (.ret [.v 8, .v 6, .v 7]))
theorem spec_l01PickInt_L_sh (Q : QT) (x0 x1 x2 x3 : V) : shL spec_l01PickInt_L Q [x0, x1, x2, x3] = (
  P1 (.len) [x3] fun v0 =>
  P3 (.call F_l01Below 0 1) [x0, x1, x2, v0] fun v1 v2 v3 =>
  P1 (.idx [.sc]) [x3, v1] fun v4 =>
  Q .ret [v4, v2, v3]) := by kernel_rfl
def spec_l01PickInt_S : Sig := ⟨[.ptr [.sl [.sc], .sc, .sc], .val false [.sl [.sc]]], [(false, [.sc])], F_l01PickInt⟩
def spec_l01PickInt_hs : List NF := []

end
end Go.Mw

/- Draws. -/
namespace Go.Mw
theorem land_range (a : Int) (m : Nat) (hm : m < 4611686018427387904) : 0 ≤ land a m ∧ land a m ≤ m := by
  have h : (BitVec.ofInt IntKind.i64.bits a &&& BitVec.ofInt IntKind.i64.bits (m : Int)).toNat ≤ m := by
    rw [BitVec.toNat_and]
    refine Nat.le_trans Nat.and_le_right ?_
    simp [IntKind.bits]
    omega
  unfold land
  rw [wrap_id (by omega) (by omega)]
  omega
theorem land255 (a : Int) : 0 ≤ land a 255 ∧ land a 255 ≤ 255 := land_range a 255 (by omega)
theorem hByte_range (h : Int) : 0 ≤ hByte h ∧ hByte h ≤ 255 := land255 _
theorem cByte_range (x : Cur) : 0 ≤ cByte x ∧ cByte x ≤ 255 := by
  unfold cByte
  split
  · exact land255 _
  · exact hByte_range _
@[simp] theorem cStep_b (x : Cur) : (cStep x).b = x.b := rfl
theorem cStep_i {x : Cur} (h : 0 ≤ x.i) : 0 ≤ (cStep x).i := by unfold cStep; dsimp only; split <;> omega
@[simp] theorem cAfter_b (x : Cur) (n : Int) : (cAfter x n).b = x.b := by unfold cAfter; split <;> (try split) <;> simp
theorem cAfter_i {x : Cur} {n : Int} (h : 0 ≤ x.i) : 0 ≤ (cAfter x n).i := by
  unfold cAfter
  split
  · exact h
  · split
    · exact cStep_i h
    · exact cStep_i (cStep_i (cStep_i (cStep_i h)))
theorem tmod_range {a n : Int} (ha : 0 ≤ a) (hn : 0 < n) : 0 ≤ a.tmod n ∧ a.tmod n < n := ⟨Int.tmod_nonneg _ ha, Int.tmod_lt_of_pos _ hn⟩
theorem cBelow_range (x : Cur) {n : Int} (hn : 0 < n) : 0 ≤ cBelow x n ∧ cBelow x n < n := by
  unfold cBelow
  rw [if_neg (by omega)]
  have h1 := cByte_range x
  have h2 := cByte_range (cStep x)
  have h3 := cByte_range (cStep (cStep x))
  have h4 := cByte_range (cStep (cStep (cStep x)))
  split
  · exact tmod_range (by omega) hn
  · exact tmod_range (by omega) hn

theorem laws_big_ok : ∀ ds outs, F_big ds = some outs → shL laws_big_L (qRet outs) ds := F_big_elim fun l hp => by
  rw [laws_big_L_sh]; simp; omega
theorem spec_l01New_ok : ∀ ds outs, F_l01New ds = some outs → shL spec_l01New_L (qRet outs) ds := F_l01New_elim fun l hp => by
  rw [spec_l01New_L_sh]
  have hw : IntKind.i64.wrap (33091 + (l.length : Int)) = 33091 + l.length := wrap_id (by omega) (by omega)
  simp only [P1_len, P1_add, hw]
  refine loop_upto (min l.length 4000) (fun k => [vL I1 vY l, .int .i64 (seedTo l k), .int .i64 k]) (by intro i j _ _ h; simp at h; omega) (fun _ => True) (by simp [seedTo]) trivial ?_
  intro k hk _
  rw [spec_l01New_b0_sh]
  simp
  refine ⟨fun h => ⟨fun h2 => ?_, fun h2 => ?_⟩, fun h => ?_⟩
  · have hw2 : IntKind.i64.wrap ((k : Int) + 1) = k + 1 := wrap_id (by omega) (by omega)
    have hw3 : IntKind.i64.wrap (l[k].toNat : Int) = l[k].toNat := by have := l[k].toNat_lt; exact wrap_id (by omega) (by omega)
    simp [h, hw2, hw3, seedTo]
    omega
  · obtain rfl : k = min l.length 4000 := by omega
    simp [spec_l01New_r1_sh, seedOf]
  · obtain rfl : k = min l.length 4000 := by omega
    simp [spec_l01New_r1_sh, seedOf]
theorem spec_l01Byte_ok : ∀ ds outs, F_l01Byte ds = some outs → shL spec_l01Byte_L (qRet outs) ds := F_l01Byte_elim fun x hp => by
  rw [spec_l01Byte_L_sh]
  have e33 : min (33 : Int).toNat IntKind.i64.bits = 33 := by decide
  have e45 : min (45 : Int).toNat IntKind.i64.bits = 45 := by decide
  simp only [P1_mul, P1_add, P1_shr (show (0 : Int) ≤ 33 by omega), P1_shr (show (0 : Int) ≤ 45 by omega), e33, e45, P1_xor, P1_and, P1_len, P1_lss, ifB_bool, decide_eq_true_eq, decide_eq_false_iff_not]
  have eh : IntKind.i64.wrap (IntKind.i64.wrap (x.h * 6364136223846793005) + 1442695040888963407) = hNext x.h := rfl
  have eb : land (lxor ((hNext x.h).fdiv (2 ^ 33)) ((hNext x.h).fdiv (2 ^ 45))) 255 = hByte (hNext x.h) := rfl
  simp only [eh, eb]
  refine ⟨fun h => ?_, fun h => ?_⟩
  · have hi : x.i.toNat < x.b.length := by omega
    have hw2 : IntKind.i64.wrap (x.i + 1) = x.i + 1 := wrap_id (by omega) (by omega)
    have hw3 : IntKind.i64.wrap (x.b[x.i.toNat].toNat : Int) = x.b[x.i.toNat].toNat := by have := x.b[x.i.toNat].toNat_lt; exact wrap_id (by omega) (by omega)
    simp [hp.1, hi, h, hw2, hw3, cByte, cStep]
  · have hi : x.b[x.i.toNat]? = none := by rw [List.getElem?_eq_none_iff]; omega
    simp [hi, h, cByte, cStep]
theorem q_byte {b : List UInt8} (c : Cur) {n : Nat} {k : V → V → V → Prop} (hb : c.b = b) (h : 0 ≤ c.i) (hl : b.length ≤ 1048576) : P3 (.call F_l01Byte 0 n) [vL I1 vY b, .int .i64 c.i, .int .i64 c.h] k ↔ k (.int .i64 (cByte c)) (.int .i64 (cStep c).i) (.int .i64 (cStep c).h) := by
  subst hb; exact p_l01Byte ⟨h, hl⟩
theorem spec_l01Below_ok : ∀ ds outs, F_l01Below ds = some outs → shL spec_l01Below_L (qRet outs) ds := F_l01Below_elim fun x n hp => by
  rw [spec_l01Below_L_sh]
  have hb := hp.2
  have i0 := hp.1
  have i1 := cStep_i i0
  have i2 := cStep_i i1
  have i3 := cStep_i i2
  have h1 := cByte_range x
  have h2 := cByte_range (cStep x)
  have h3 := cByte_range (cStep (cStep x))
  have h4 := cByte_range (cStep (cStep (cStep x)))
  by_cases hn : n ≤ 0
  · simp [hn, cBelow, cAfter]
  · by_cases hn2 : n ≤ 256
    · simp [hn, hn2, cBelow, cAfter, q_byte x, i0, hb]; omega
    · have w1 : IntKind.i64.wrap (cByte x * 16777216) = cByte x * 16777216 := wrap_id (by omega) (by omega)
      have w2 : IntKind.i64.wrap (cByte (cStep x) * 65536) = cByte (cStep x) * 65536 := wrap_id (by omega) (by omega)
      have w3 : IntKind.i64.wrap (cByte x * 16777216 + cByte (cStep x) * 65536) = cByte x * 16777216 + cByte (cStep x) * 65536 := wrap_id (by omega) (by omega)
      have w4 : IntKind.i64.wrap (cByte (cStep (cStep x)) * 256) = cByte (cStep (cStep x)) * 256 := wrap_id (by omega) (by omega)
      have w5 : IntKind.i64.wrap (cByte x * 16777216 + cByte (cStep x) * 65536 + cByte (cStep (cStep x)) * 256) = cByte x * 16777216 + cByte (cStep x) * 65536 + cByte (cStep (cStep x)) * 256 := wrap_id (by omega) (by omega)
      have w6 : IntKind.i64.wrap (cByte x * 16777216 + cByte (cStep x) * 65536 + cByte (cStep (cStep x)) * 256 + cByte (cStep (cStep (cStep x)))) = cByte x * 16777216 + cByte (cStep x) * 65536 + cByte (cStep (cStep x)) * 256 + cByte (cStep (cStep (cStep x))) := wrap_id (by omega) (by omega)
      simp only [P1_leq, ifB_bool, decide_eq_true_eq, decide_eq_false_iff_not]
      refine ⟨fun h => absurd h hn, fun _ => ⟨fun h => absurd h hn2, fun _ => ?_⟩⟩
      rw [q_byte (b := x.b) x rfl i0 hb, q_byte (b := x.b) (cStep x) rfl i1 hb, q_byte (b := x.b) (cStep (cStep x)) rfl i2 hb, q_byte (b := x.b) (cStep (cStep (cStep x))) rfl i3 hb]
      simp [hn, hn2, cBelow, cAfter, w1, w2, w3, w4, w5, w6]; omega
theorem q_below {b : List UInt8} (c : Cur) {n : Int} {m : Nat} {k : V → V → V → Prop} (hb : c.b = b) (h : 0 ≤ c.i) (hl : b.length ≤ 1048576) : P3 (.call F_l01Below 0 m) [vL I1 vY b, .int .i64 c.i, .int .i64 c.h, .int .i64 n] k ↔ k (.int .i64 (cBelow c n)) (.int .i64 (cAfter c n).i) (.int .i64 (cAfter c n).h) := by
  subst hb; exact p_l01Below ⟨h, hl⟩

/-! putting a pin -/
theorem put_at : ∀ (l : List T2) (y : T2) (i : Nat), (∀ j (h : j < l.length), j < i → pinLess l[j] y = true) → i ≤ l.length → (∀ (h : i < l.length), pinLess l[i] y = false) →
    putPin l y = (if l[i]? = some y then l else l.take i ++ [y] ++ l.drop i) ∧ putNew l y = !decide (l[i]? = some y)
  | [], y, i, _, hi, _ => by
    obtain rfl : i = 0 := by simpa using hi
    simp [putPin, putNew]
  | a :: r, y, 0, _, _, h => by
    have h := h (by simp)
    simp only [List.getElem_cons_zero] at h
    by_cases e : a = y
    · subst e; simp [putPin, putNew, h]
    · simp [putPin, putNew, h, e]
  | a :: r, y, i + 1, h1, h2, h3 => by
    have ha := h1 0 (by simp) (by omega)
    simp only [List.getElem_cons_zero] at ha
    have ih := put_at r y i (fun j hj hji => by have := h1 (j + 1) (by simp; omega) (by omega); simpa using this) (by simpa using h2) (fun h => by have := h3 (by simp; omega); simpa using this)
    simp only [putPin, putNew, ha, if_true, List.getElem?_cons_succ, ih.1, ih.2, List.take_succ_cons, List.drop_succ_cons]
    refine ⟨?_, trivial⟩
    split <;> simp
theorem spec_l06Put_ok : ∀ ds outs, F_l06Put ds = some outs → shL spec_l06Put_L (qRet outs) ds := F_l06Put_elim fun l y hp => by
  rw [spec_l06Put_L_sh]
  refine loop_upto l.length (fun k => [vL I2 v2 l, .int .i64 k, .int .i64 y.a, .int .i64 y.b]) (by intro i j _ _ h; simp at h; omega) (fun k => ∀ j (h : j < l.length), j < k → pinLess l[j] y = true) (by simp) (by simp) ?_
  intro k hk hP
  have fin : (∀ (h : k < l.length), pinLess l[k] y = false) → shL spec_l06Put_r1 (qRet [vL I2 v2 (putPin l y), .bool (putNew l y)]) [vL I2 v2 l, .int .i64 k, .int .i64 y.a, .int .i64 y.b] := by
    intro h
    obtain ⟨e1, e2⟩ := put_at l y k hP hk h
    rw [spec_l06Put_r1_sh, e1, e2]
    by_cases hl : k < l.length
    · by_cases hy : l[k] = y
      · have h5 : l[k].a = y.a ∧ l[k].b = y.b := by rw [hy]; exact ⟨rfl, rfl⟩
        simp [hl, hy]; omega
      · have h5 : ¬ (l[k].a = y.a ∧ l[k].b = y.b) := fun h => hy (by cases hh : l[k]; rw [hh] at h; cases y; simp_all)
        simp [hl, hy]; omega
    · have h6 : k = l.length := by omega
      subst h6
      simp; omega
  rw [spec_l06Put_b0_sh]
  simp
  refine ⟨fun h => ?_, fun h => fin (fun h2 => absurd h2 (by omega))⟩
  simp only [List.getElem?_eq_getElem h, Option.some.injEq, exists_eq_left']
  cases hl : pinLess l[k] y with
  | false =>
    simp
    exact fin (fun _ => hl)
  | true =>
    have hw : IntKind.i64.wrap ((k : Int) + 1) = k + 1 := wrap_id (by omega) (by omega)
    simp [hw, h]
    intro j hj hjk
    by_cases e : j = k
    · subst e; exact hl
    · exact hP j hj (by omega)
theorem putPin_len (l : List T2) (y : T2) : (putPin l y).length ≤ l.length + 1 := by
  induction l with
  | nil => simp [putPin]
  | cons a r ih => unfold putPin; split <;> (try split) <;> simp <;> omega
end Go.Mw

/- Drawn cylinders and states. -/
namespace Go.Mw
theorem within_iff' {a b c : Int} : within a b c = true ↔ b ≤ a ∧ a ≤ c := by simp [within]
@[simp] theorem P1_lstI3 {a b c : Int} {k : V → Prop} : P1 (.lst [.sc] false 3) [.int .i64 a, .int .i64 b, .int .i64 c] k ↔ k (vL I1 v1 [a, b, c]) := P1_of (by simp [Prim.run, aksOk, akOk, chunk, V.pack, vL, v1]) k

theorem pinLess_or {a b : T2} (h : pinLess a b = false) (hne : a ≠ b) : pinLess b a = true := by
  cases a; cases b
  simp only [pinLess, decide_eq_false_iff_not, decide_eq_true_eq, ne_eq, T2.mk.injEq] at *
  omega
theorem rising_cons {a : T2} {r : List T2} : rising (a :: r) = true ↔ (∀ h, r.head? = some h → pinLess a h = true) ∧ rising r = true := by
  cases r <;> simp [rising]
theorem putPin_head {l : List T2} {y h : T2} (hh : (putPin l y).head? = some h) : h = y ∨ l.head? = some h := by
  cases l with
  | nil => simp [putPin] at hh; exact .inl hh.symm
  | cons a r =>
    unfold putPin at hh
    split at hh
    · simp at hh; exact .inr (by simp [hh])
    · split at hh
      · simp at hh; exact .inr (by simp [hh])
      · simp at hh; exact .inl hh.symm
theorem putPin_rising {l : List T2} {y : T2} (h : rising l = true) : rising (putPin l y) = true := by
  induction l with
  | nil => simp [putPin, rising]
  | cons a r ih =>
    have hr := rising_cons.1 h
    unfold putPin
    by_cases h1 : pinLess a y = true
    · rw [if_pos h1, rising_cons]
      refine ⟨fun b hb => ?_, ih hr.2⟩
      rcases putPin_head hb with rfl | hb
      · exact h1
      · exact hr.1 b hb
    · rw [if_neg h1]
      by_cases h2 : a = y
      · rw [if_pos h2]; exact h
      · rw [if_neg h2, rising_cons]
        refine ⟨fun b hb => ?_, h⟩
        simp only [List.head?_cons, Option.some.injEq] at hb
        subst hb
        exact pinLess_or (by simpa using h1) h2
theorem putPin_mem {l : List T2} {y p : T2} (h : p ∈ putPin l y) : p = y ∨ p ∈ l := by
  induction l with
  | nil => simpa [putPin] using h
  | cons a r ih =>
    unfold putPin at h
    split at h
    · rcases List.mem_cons.1 h with rfl | h
      · simp
      · rcases ih h with h | h
        · exact .inl h
        · exact .inr (by simp [h])
    · split at h
      · exact .inr h
      · rcases List.mem_cons.1 h with h | h
        · exact .inl h
        · exact .inr h

theorem cyl_inv (s t : Int) (x : Cur) (hs : 0 < s) (ht : 0 < t) (hi : 0 ≤ x.i) (k : Nat) :
    (cylTo s t x k).2.b = x.b ∧ 0 ≤ (cylTo s t x k).2.i ∧ (cylTo s t x k).1.length ≤ k ∧ rising (cylTo s t x k).1 = true ∧ ∀ p ∈ (cylTo s t x k).1, pinIn s t p = true := by
  induction k with
  | zero => exact ⟨rfl, hi, by simp [cylTo], by simp [cylTo, rising], by simp [cylTo]⟩
  | succ k ih =>
    obtain ⟨h1, h2, h3, h4, h5⟩ := ih
    refine ⟨by simp [cylTo, h1], cAfter_i (cAfter_i h2), ?_, putPin_rising h4, fun p hp => ?_⟩
    · exact Nat.le_trans (putPin_len _ _) (by omega)
    · rcases putPin_mem hp with rfl | hp
      · have g1 := cBelow_range (cylTo s t x k).2 ht
        have g2 := cBelow_range (cAfter (cylTo s t x k).2 t) hs
        simp only [pinIn, Bool.and_eq_true, within_iff']
        omega
      · exact h5 p hp
theorem cylX_i {x : Cur} (hi : 0 ≤ x.i) : 0 ≤ (cylX x).i := cAfter_i (cAfter_i (cAfter_i hi))
@[simp] theorem cylX_b (x : Cur) : (cylX x).b = x.b := by simp [cylX]
theorem cyl_r (x : Cur) : (4 ≤ cylS x ∧ cylS x ≤ 24) ∧ (1 ≤ cylT x ∧ cylT x ≤ 8) ∧ (0 ≤ cylN x ∧ cylN x ≤ 9) := by
  have h1 := cBelow_range x (show (0 : Int) < 21 by omega)
  have h2 := cBelow_range (cAfter x 21) (show (0 : Int) < 8 by omega)
  have h3 := cBelow_range (cAfter (cAfter x 21) 8) (show (0 : Int) < 10 by omega)
  simp only [cylS, cylT, cylN]; omega
theorem cylOf_ok {x : Cur} (hi : 0 ≤ x.i) : cylOk (cylOf x) = true ∧ (cylOf x).p.length ≤ 9 := by
  obtain ⟨r1, r2, r3⟩ := cyl_r x
  obtain ⟨-, -, h3, h4, h5⟩ := cyl_inv (cylS x) (cylT x) (cylX x) (by omega) (by omega) (cylX_i hi) (cylN x).toNat
  refine ⟨?_, by simp only [cylOf]; omega⟩
  simp only [cylOk, cylOf, Bool.and_eq_true, within_iff', List.all_eq_true]
  have h6 : (cylTo (cylS x) (cylT x) (cylX x) (cylN x).toNat).1.length ≤ 100 := by omega
  exact ⟨⟨⟨by omega, by omega⟩, decide_eq_true h6⟩, h5, h4⟩
theorem spec_l06Cylinder_ok : ∀ ds outs, F_l06Cylinder ds = some outs → shL spec_l06Cylinder_L (qRet outs) ds := F_l06Cylinder_elim fun x hp => by
  obtain ⟨i0, hb⟩ := hp
  have i1 : 0 ≤ (cAfter x 21).i := cAfter_i i0
  have i2 : 0 ≤ (cAfter (cAfter x 21) 8).i := cAfter_i i1
  obtain ⟨r1, r2, r3⟩ := cyl_r x
  have w1 : IntKind.i64.wrap (4 + cBelow x 21) = cylS x := by have : 4 + cBelow x 21 = cylS x := rfl; rw [this]; exact wrap_id (by omega) (by omega)
  have w2 : IntKind.i64.wrap (1 + cBelow (cAfter x 21) 8) = cylT x := by have : 1 + cBelow (cAfter x 21) 8 = cylT x := rfl; rw [this]; exact wrap_id (by omega) (by omega)
  rw [spec_l06Cylinder_L_sh, q_below (b := x.b) x rfl i0 hb]
  simp only [P1_add, w1]
  rw [q_below (b := x.b) (cAfter x 21) (by simp) i1 hb]
  simp only [P1_add, w2]
  rw [q_below (b := x.b) (cAfter (cAfter x 21) 8) (by simp) i2 hb]
  refine loop_upto (cylN x).toNat (fun k => [.int .i64 (cylN x - k), vL I2 v2 (cylTo (cylS x) (cylT x) (cylX x) k).1, vL I1 vY x.b, .int .i64 (cylTo (cylS x) (cylT x) (cylX x) k).2.i, .int .i64 (cylTo (cylS x) (cylT x) (cylX x) k).2.h, .int .i64 0, .int .i64 0, .int .i64 (cylS x), .int .i64 (cylT x)]) (by intro i j _ _ h; simp at h; omega) (fun _ => True) (by simp [cylTo, cylN, cylX]) trivial ?_
  intro k hk _
  obtain ⟨g1, g2, g3, -, -⟩ := cyl_inv (cylS x) (cylT x) (cylX x) (by omega) (by omega) (cylX_i i0) k
  rw [cylX_b] at g1
  rw [spec_l06Cylinder_b0_sh]
  simp only [P1_gtr, ifB_bool, decide_eq_true_eq, decide_eq_false_iff_not]
  refine ⟨fun h => ?_, fun h => ?_⟩
  · rw [q_below (b := x.b) _ g1 g2 hb, q_below (b := x.b) (cAfter _ _) (by simp [g1]) (cAfter_i g2) hb]
    have hw : IntKind.i64.wrap (cylN x - (k : Int) - 1) = cylN x - ((k + 1 : Nat) : Int) := by rw [wrap_id (by omega) (by omega)]; omega
    have hl : (cylTo (cylS x) (cylT x) (cylX x) k).1.length ≤ 1048576 := by omega
    rw [p_l06Put (l := (cylTo (cylS x) (cylT x) (cylX x) k).1) hl]
    simp only [P1_sub, hw]
    exact ⟨by omega, rfl, trivial⟩
  · have e : k = (cylN x).toNat := by omega
    subst e
    simp [spec_l06Cylinder_r1_sh, cylOf, cylEnd]
theorem cylEnd_b {x : Cur} (hi : 0 ≤ x.i) : (cylEnd x).b = x.b ∧ 0 ≤ (cylEnd x).i := by
  obtain ⟨r1, r2, r3⟩ := cyl_r x
  obtain ⟨g1, g2, -⟩ := cyl_inv (cylS x) (cylT x) (cylX x) (by omega) (by omega) (cylX_i hi) (cylN x).toNat
  exact ⟨by rw [cylX_b] at g1; exact g1, g2⟩
theorem spec_l01PickInt_ok : ∀ ds outs, F_l01PickInt ds = some outs → shL spec_l01PickInt_L (qRet outs) ds := F_l01PickInt_elim fun x l hp => by
  obtain ⟨i0, hb, h1, h2⟩ := hp
  rw [spec_l01PickInt_L_sh]
  simp only [P1_len]
  rw [q_below (b := x.b) x rfl i0 hb]
  have hr := cBelow_range x (show (0 : Int) < l.length by omega)
  have h3 : (cBelow x l.length).toNat < l.length := by omega
  simp [h3, hr.1]
theorem q_pick {b : List UInt8} (c : Cur) {l : List Int} {m : Nat} {k : V → V → V → Prop} (hb : c.b = b) (h : 0 ≤ c.i) (hl : b.length ≤ 1048576) (h1 : 1 ≤ l.length) (h2 : l.length ≤ 1048576) : P3 (.call F_l01PickInt 0 m) [vL I1 vY b, .int .i64 c.i, .int .i64 c.h, vL I1 v1 l] k ↔ k (.int .i64 (l[(cBelow c l.length).toNat]?.getD 0)) (.int .i64 (cAfter c l.length).i) (.int .i64 (cAfter c l.length).h) := by
  subst hb; exact p_l01PickInt ⟨h, hl, h1, h2⟩
end Go.Mw

/- Stops. -/
namespace Go.Mw
@[simp] theorem P1_neaX {a c e g : Int} {b f : Bool} {k : V → Prop} : P1 (.eqa true [.i, .b, .i]) [.int .i64 a, .bool b, .int .i64 c, .int .i64 e, .bool f, .int .i64 g] k ↔ k (.bool (!decide (a = e ∧ b = f ∧ c = g))) := P1_of (by simp only [Prim.run, eqVs, eqV1, List.length_cons, List.length_nil, List.take, List.drop, if_true]; cases b <;> cases f <;> simp <;> grind) k
theorem pinsAt_le (c : Cyl) (a : Int) : (pinsAt c a).length ≤ c.p.length := by
  unfold pinsAt
  split
  · simpa using List.length_filter_le _ _
  · simp
theorem it_p (c : Cyl) (x : Stt) : ∀ k, (itS c x k).p = x.p + (itL c x k).length ∧ (itL c x k).length ≤ k * c.p.length
  | 0 => by simp [itS, itL]
  | k + 1 => by
    obtain ⟨h1, h2⟩ := it_p c x k
    have h3 := pinsAt_le c (itS c x k).a
    simp only [itS, itL, nextStt, List.length_append, h1, Nat.add_mul]
    omega
/-- A state of a small cylinder. -/
structure Small (c : Cyl) (x : Stt) : Prop where
  ok : sttOk c x = true
  len : c.p.length ≤ 9
  p : x.p ≤ 77
theorem Small.it {c : Cyl} {x : Stt} (h : Small c x) (hn : x.n = true) {k : Nat} (hk : k ≤ runN c x) : sttOk c (itS c x k) = true := by
  have h0 := (sttOk_iff c x).1 h.ok
  have hb := cylOk_bounds h0.1
  have h1 := it_p c x k
  have h77 := h.p
  have h2 : k * c.p.length ≤ 96 * 9 := Nat.mul_le_mul (by simp only [runN] at hk; omega) h.len
  rw [sttOk_iff]
  refine ⟨h0.1, ?_, by omega⟩
  by_cases e : k < runN c x
  · have := (itS_on h.ok hn k e).1
    simp only [runN] at e
    omega
  · obtain rfl : k = runN c x := by omega
    have := (itS_off h.ok hn).1
    omega
theorem Small.can {c : Cyl} {x : Stt} (h : Small c x) (hn : x.n = true) {k : Nat} (hk : k < runN c x) : canStep c (itS c x k) = true := by
  rw [canStep_iff]
  exact ⟨h.it hn (by omega), (itS_on h.ok hn k hk).2, h.it hn (k := k + 1) hk⟩
def runM (c : Cyl) (x : Stt) : Nat := if x.n then runN c x else 0
theorem Small.steps {c : Cyl} {x : Stt} (h : Small c x) : stepsLeft c x = runM c x := by
  have h0 := (sttOk_iff c x).1 h.ok
  unfold stepsLeft runM
  rw [if_pos h.ok]
  cases x.n
  · simp
  · simp only [if_true, runN]; omega
theorem Small.run {c : Cyl} {x : Stt} (h : Small c x) : runBox c x = (itS c x (runM c x), itL c x (runM c x)) := by
  unfold runBox runM
  cases hn : x.n with
  | false =>
    have : runOk c x = false := by simp [runOk, hn]
    simp [this, itS, itL]
  | true =>
    have : runOk c x = true := by
      simp only [runOk, h.ok, hn, Bool.true_and, List.all_eq_true, List.mem_range]
      intro k hk; exact h.can hn hk
    simp [this]
end Go.Mw

/- The law on stops. -/
namespace Go.Mw
end Go.Mw

/- What functions compute, in plain terms: sums. -/
namespace Go.Mw
end Go.Mw

/- Functions of the program, as small pure programs (printed by a program of ours). -/
namespace Go.Mw
noncomputable section
end
end Go.Mw

/- Drawn digits; swaps. -/
namespace Go.Mw
end Go.Mw

/- Words of digits with a check; the law on sums. -/
namespace Go.Mw
/-- A word of digits. -/
structure Word (w : List Int) : Prop where
  lo : 2 ≤ w.length
  hi : w.length ≤ 21
  dig : ∀ x ∈ w, 0 ≤ x ∧ x ≤ 9
theorem Word.are {w : List Int} (h : Word w) : areDigits w 2 21 = true := by
  rw [areDigits_iff]
  have h1 := h.lo; have h2 := h.hi
  exact ⟨within_iff'.2 (by omega), fun x hx => within_iff'.2 (h.dig x hx)⟩
theorem Word.set {w : List Int} (h : Word w) {k : Nat} {e : Int} (he : 0 ≤ e ∧ e ≤ 9) : Word (w.set k e) := by
  refine ⟨by simpa using h.lo, by simpa using h.hi, fun x hx => ?_⟩
  rcases List.mem_or_eq_of_mem_set hx with hx | rfl
  · exact h.dig x hx
  · exact he
end Go.Mw

/- The law on sums. -/
namespace Go.Mw
end Go.Mw

/- What functions compute, in plain terms: sorted pins; setting a pin. -/
namespace Go.Mw
def addOk (c : Cyl) (p : T2) : Bool := cylOk c && (!decide (p ∈ c.p) && cylOk ⟨c.s, c.t, putPin c.p p⟩)
def addTo (c : Cyl) (p : T2) : Cyl := if addOk c p then ⟨c.s, c.t, putPin c.p p⟩ else c
def E_AddPin : Cyl × T2 → List V := fun (x, y) => [.int .i64 x.s, .int .i64 x.t, vL I2 v2 x.p, .int .i64 y.a, .int .i64 y.b]
noncomputable def F_AddPin : List V → Option (List V) := mkF E_AddPin (fun (x, _) => x.p.length ≤ 1048576) (fun (x, y) => [.int .i64 (addTo x y).s, .int .i64 (addTo x y).t, vL I2 v2 (addTo x y).p, .bool (addOk x y)])
theorem F_AddPin_inj : ∀ x y, E_AddPin x = E_AddPin y → x = y := by
  rintro ⟨⟨xs, xt, xp⟩, ⟨ya, yb⟩⟩ ⟨⟨xs', xt', xp'⟩, ⟨ya', yb'⟩⟩ h
  simpa [E_AddPin, and_assoc] using h
theorem F_AddPin_elim {P : List V → List V → Prop} (h : ∀ (x : Cyl) (y : T2), (x.p.length ≤ 1048576) → P [.int .i64 x.s, .int .i64 x.t, vL I2 v2 x.p, .int .i64 y.a, .int .i64 y.b] [.int .i64 (addTo x y).s, .int .i64 (addTo x y).t, vL I2 v2 (addTo x y).p, .bool (addOk x y)]) : ∀ ds outs, F_AddPin ds = some outs → P ds outs := by
  intro ds outs hh
  obtain ⟨⟨x, y⟩, rfl, hp, rfl⟩ := mkF_inv hh
  exact h x y hp
theorem p_AddPin {x_s : Int} {x_t : Int} {x_p : List T2} {y_a : Int} {y_b : Int} {nr_ : Nat} {kk_ : V → V → V → V → Prop} (hp : (⟨x_s, x_t, x_p⟩ : Cyl).p.length ≤ 1048576) : P4 (.call F_AddPin 0 nr_) [.int .i64 x_s, .int .i64 x_t, vL I2 v2 x_p, .int .i64 y_a, .int .i64 y_b] kk_ ↔ kk_ (.int .i64 (addTo (⟨x_s, x_t, x_p⟩ : Cyl) (⟨y_a, y_b⟩ : T2)).s) (.int .i64 (addTo (⟨x_s, x_t, x_p⟩ : Cyl) (⟨y_a, y_b⟩ : T2)).t) (vL I2 v2 (addTo (⟨x_s, x_t, x_p⟩ : Cyl) (⟨y_a, y_b⟩ : T2)).p) (.bool (addOk (⟨x_s, x_t, x_p⟩ : Cyl) (⟨y_a, y_b⟩ : T2))) :=
  P4_callF (by unfold F_AddPin; exact mkF_eq F_AddPin_inj ((⟨x_s, x_t, x_p⟩ : Cyl), (⟨y_a, y_b⟩ : T2)) hp)

def setPin (b : Bench) (p : T2) : Bench := stepTo b (addTo b.cyl p) (addOk b.cyl p)
def E_SetPin : Bench × T2 → List V := fun (x, y) => [.int .i64 x.s, .int .i64 x.t, vL I2 v2 x.p, vL IL2 vLL2 x.o, .int .i64 y.a, .int .i64 y.b]
noncomputable def F_SetPin : List V → Option (List V) := mkF E_SetPin (fun (x, _) => x.p.length ≤ 1048576 ∧ fitLL x.o) (fun (x, y) => [.int .i64 (setPin x y).s, .int .i64 (setPin x y).t, vL I2 v2 (setPin x y).p, vL IL2 vLL2 (setPin x y).o, .bool (addOk x.cyl y && stepOk x (addTo x.cyl y))])
theorem F_SetPin_inj : ∀ x y, E_SetPin x = E_SetPin y → x = y := by
  rintro ⟨⟨xs, xt, xp, xo⟩, ⟨ya, yb⟩⟩ ⟨⟨xs', xt', xp', xo'⟩, ⟨ya', yb'⟩⟩ h
  simpa [E_SetPin, and_assoc] using h
theorem F_SetPin_elim {P : List V → List V → Prop} (h : ∀ (x : Bench) (y : T2), (x.p.length ≤ 1048576 ∧ fitLL x.o) → P [.int .i64 x.s, .int .i64 x.t, vL I2 v2 x.p, vL IL2 vLL2 x.o, .int .i64 y.a, .int .i64 y.b] [.int .i64 (setPin x y).s, .int .i64 (setPin x y).t, vL I2 v2 (setPin x y).p, vL IL2 vLL2 (setPin x y).o, .bool (addOk x.cyl y && stepOk x (addTo x.cyl y))]) : ∀ ds outs, F_SetPin ds = some outs → P ds outs := by
  intro ds outs hh
  obtain ⟨⟨x, y⟩, rfl, hp, rfl⟩ := mkF_inv hh
  exact h x y hp
theorem p_SetPin {x_s : Int} {x_t : Int} {x_p : List T2} {x_o : List (List T2)} {y_a : Int} {y_b : Int} {nr_ : Nat} {kk_ : V → V → V → V → V → Prop} (hp : (⟨x_s, x_t, x_p, x_o⟩ : Bench).p.length ≤ 1048576 ∧ fitLL (⟨x_s, x_t, x_p, x_o⟩ : Bench).o) : P5 (.call F_SetPin 0 nr_) [.int .i64 x_s, .int .i64 x_t, vL I2 v2 x_p, vL IL2 vLL2 x_o, .int .i64 y_a, .int .i64 y_b] kk_ ↔ kk_ (.int .i64 (setPin (⟨x_s, x_t, x_p, x_o⟩ : Bench) (⟨y_a, y_b⟩ : T2)).s) (.int .i64 (setPin (⟨x_s, x_t, x_p, x_o⟩ : Bench) (⟨y_a, y_b⟩ : T2)).t) (vL I2 v2 (setPin (⟨x_s, x_t, x_p, x_o⟩ : Bench) (⟨y_a, y_b⟩ : T2)).p) (vL IL2 vLL2 (setPin (⟨x_s, x_t, x_p, x_o⟩ : Bench) (⟨y_a, y_b⟩ : T2)).o) (.bool (addOk (⟨x_s, x_t, x_p, x_o⟩ : Bench).cyl (⟨y_a, y_b⟩ : T2) && stepOk (⟨x_s, x_t, x_p, x_o⟩ : Bench) (addTo (⟨x_s, x_t, x_p, x_o⟩ : Bench).cyl (⟨y_a, y_b⟩ : T2)))) :=
  P5_callF (by unfold F_SetPin; exact mkF_eq F_SetPin_inj ((⟨x_s, x_t, x_p, x_o⟩ : Bench), (⟨y_a, y_b⟩ : T2)) hp)

end Go.Mw

/- Functions of the program, as small pure programs (printed by a program of ours). -/
namespace Go.Mw
noncomputable section
def spec_AddPin_L : L := .seq (.rg []) (.seq (.rg [⟨[], .call F_l06Copy 0 3, [.v 0, .v 1, .v 2], 3⟩]) (.seq (.seq (.rg [⟨[], .call F_CylinderOk 0 1, [.v 0, .v 1, .v 2], 1⟩, ⟨[], .un .not, [.v 8], 1⟩]) (.ite (.v 9) (.seq (.rg []) (.ret [.v 5, .v 6, .v 7, .k (.bool false)])) (.skip))) (.seq (.rg [⟨[], .call F_l06Put 0 2, [.v 2, .v 3, .v 4], 2⟩]) (.seq (.rg []) (.seq (.seq (.rg [⟨[], .un .not, [.v 11], 1⟩, ⟨[(.v 12, false)], .call F_CylinderOk 0 1, [.v 5, .v 6, .v 10], 1⟩, ⟨[(.v 12, false)], .un .not, [.v 13], 1⟩, ⟨[], .pick, [.v 12, .k (.bool true), .v 14], 1⟩]) (.ite (.v 15) (.seq (.rg [⟨[], .call F_l06Copy 0 3, [.v 0, .v 1, .v 2], 3⟩]) (.ret [.v 16, .v 17, .v 18, .k (.bool false)])) (.skip))) (.seq (.rg []) (.ret [.v 5, .v 6, .v 10, .k (.bool true)])))))))
theorem spec_AddPin_L_sh (Q : QT) (x0 x1 x2 x3 x4 : V) : shL spec_AddPin_L Q [x0, x1, x2, x3, x4] = (
  P3 (.call F_l06Copy 0 3) [x0, x1, x2] fun v0 v1 v2 =>
  P1 (.call F_CylinderOk 0 1) [x0, x1, x2] fun v3 =>
  P1 (.un .not) [v3] fun v4 =>
  ifB v4 (
    Q .ret [v0, v1, v2, .bool false]) (
    P2 (.call F_l06Put 0 2) [x2, x3, x4] fun v5 v6 =>
    P1 (.un .not) [v6] fun v7 =>
    ifB v7 (
      P3 (.call F_l06Copy 0 3) [x0, x1, x2] fun v8 v9 v10 =>
      Q .ret [v8, v9, v10, .bool false]) (
      P1 (.call F_CylinderOk 0 1) [v0, v1, v5] fun v11 =>
      P1 (.un .not) [v11] fun v12 =>
      ifB v12 (
        P3 (.call F_l06Copy 0 3) [x0, x1, x2] fun v13 v14 v15 =>
        Q .ret [v13, v14, v15, .bool false]) (
        Q .ret [v0, v1, v5, .bool true])))) := by kernel_rfl
def spec_AddPin_S : Sig := ⟨[.val true [.sc, .sc, .sl [.sc, .sc]], .val true [.sc, .sc]], [(true, [.sc, .sc, .sl [.sc, .sc]]), (false, [.sc])], F_AddPin⟩
def spec_AddPin_hs : List NF := []

def spec_SetPin_L : L := .seq (.rg []) (.seq (.rg [⟨[], .call F_AddPin 0 4, [.v 0, .v 1, .v 2, .v 4, .v 5], 4⟩]) (.seq (.seq (.rg [⟨[], .un .not, [.v 9], 1⟩]) (.ite (.v 10) (.seq (.rg [⟨[], .call F_l37Copy 0 4, [.v 0, .v 1, .v 2, .v 3], 4⟩]) (.ret [.v 11, .v 12, .v 13, .v 14, .k (.bool false)])) (.skip))) (.seq (.rg [⟨[], .call F_l37Step 0 5, [.v 0, .v 1, .v 2, .v 3, .v 6, .v 7, .v 8], 5⟩]) (.seq (.rg []) (.ret [.v 11, .v 12, .v 13, .v 14, .v 15])))))
theorem spec_SetPin_L_sh (Q : QT) (x0 x1 x2 x3 x4 x5 : V) : shL spec_SetPin_L Q [x0, x1, x2, x3, x4, x5] = (
  P4 (.call F_AddPin 0 4) [x0, x1, x2, x4, x5] fun v0 v1 v2 v3 =>
  P1 (.un .not) [v3] fun v4 =>
  ifB v4 (
    P4 (.call F_l37Copy 0 4) [x0, x1, x2, x3] fun v5 v6 v7 v8 =>
    Q .ret [v5, v6, v7, v8, .bool false]) (
    P5 (.call F_l37Step 0 5) [x0, x1, x2, x3, v0, v1, v2] fun v9 v10 v11 v12 v13 =>
    Q .ret [v9, v10, v11, v12, v13])) := by kernel_rfl
def spec_SetPin_S : Sig := ⟨[.val true [.sc, .sc, .sl [.sc, .sc], .sl [.sl [.sc, .sc]]], .val true [.sc, .sc]], [(true, [.sc, .sc, .sl [.sc, .sc], .sl [.sl [.sc, .sc]]]), (false, [.sc])], F_SetPin⟩
def spec_SetPin_hs : List NF := []

end
end Go.Mw

/- Sorting pins; setting a pin. -/
namespace Go.Mw
theorem pinLess_trans {a b c : T2} (h1 : pinLess a b = true) (h2 : pinLess b c = true) : pinLess a c = true := by
  simp only [pinLess, decide_eq_true_eq] at *; omega
theorem pinLess_irrefl (a : T2) : pinLess a a = false := by simp [pinLess]
theorem rising_less {a : T2} : ∀ {l : List T2}, rising (a :: l) = true → ∀ b ∈ l, pinLess a b = true
  | [], _, b, hb => by simp at hb
  | c :: r, h, b, hb => by
    have h1 := rising_cons.1 h
    have h2 : pinLess a c = true := h1.1 c rfl
    rcases List.mem_cons.1 hb with rfl | hb
    · exact h2
    · exact pinLess_trans h2 (rising_less h1.2 b hb)
theorem putPin_perm : ∀ {l : List T2} {y : T2}, y ∉ l → (putPin l y).Perm (l ++ [y])
  | [], y, _ => by simp [putPin]
  | a :: r, y, h => by
    simp only [List.mem_cons, not_or] at h
    unfold putPin
    split
    · exact .cons _ (putPin_perm h.2)
    · rw [if_neg (fun e => h.1 e.symm)]
      exact (List.perm_append_singleton y (a :: r)).symm
theorem putNew_iff : ∀ {l : List T2} {y : T2}, rising l = true → putNew l y = !decide (y ∈ l)
  | [], y, _ => by simp [putNew]
  | a :: r, y, h => by
    have h1 := rising_cons.1 h
    unfold putNew
    by_cases h2 : pinLess a y = true
    · rw [if_pos h2, putNew_iff h1.2]
      have : y ≠ a := by rintro rfl; rw [pinLess_irrefl] at h2; cases h2
      simp [this]
    · rw [if_neg h2]
      by_cases h3 : a = y
      · simp [h3]
      · have h4 : y ∉ r := fun hr => h2 (rising_less h y hr)
        have h5 : ¬ y = a := fun e => h3 e.symm
        simp [h3, h4, h5]
theorem cylOk_rising {c : Cyl} (h : cylOk c = true) : rising c.p = true := by
  simp only [cylOk, Bool.and_eq_true] at h; exact h.2.2

theorem spec_AddPin_ok : ∀ ds outs, F_AddPin ds = some outs → shL spec_AddPin_L (qRet outs) ds := F_AddPin_elim fun x y hp => by
  have hp4 : x.p.length ≤ 4194304 := by omega
  rw [spec_AddPin_L_sh, p_l06Copy (x_p := x.p) hp4]
  simp only [p_CylinderOk (x_p := x.p) hp, Cyl.eta, p_l06Copy (x_p := x.p) hp4]
  cases h : cylOk x with
  | false => simp [h, addTo, addOk]
  | true =>
    have hl := (cylOk_bounds h).2.2
    have h1 := putPin_len x.p y
    rw [P1_not, p_l06Put hp, putNew_iff (cylOk_rising h)]
    simp only [p_CylinderOk (x_p := putPin x.p y) (show _ ≤ 1048576 by show (putPin x.p y).length ≤ _; omega)]
    by_cases h2 : y ∈ x.p
    · simp [h, h2, addTo, addOk]
    · cases h3 : cylOk ⟨x.s, x.t, putPin x.p y⟩ <;> simp [h, h2, h3, addTo, addOk]
theorem addTo_len {c : Cyl} {p : T2} (h : c.p.length ≤ 1048576) : (addTo c p).p.length ≤ 1048576 := by
  unfold addTo
  cases h2 : addOk c p with
  | false => simpa using h
  | true =>
    simp only [addOk, Bool.and_eq_true] at h2
    have := (cylOk_bounds h2.2.2).2.2
    simp only [if_true]
    dsimp only at this ⊢
    omega
theorem spec_SetPin_ok : ∀ ds outs, F_SetPin ds = some outs → shL spec_SetPin_L (qRet outs) ds := F_SetPin_elim fun x y hp => by
  rw [spec_SetPin_L_sh, p_AddPin (x_p := x.p) hp.1]
  have e0 : (⟨x.s, x.t, x.p⟩ : Cyl) = x.cyl := rfl
  have e1 : (⟨x.s, x.t, x.p, x.o⟩ : Bench) = x := rfl
  have e2 : (⟨y.a, y.b⟩ : T2) = y := rfl
  have hl := addTo_len (p := y) (show x.cyl.p.length ≤ 1048576 from hp.1)
  simp only [e0, e2]
  cases h : addOk x.cyl y with
  | false =>
    simp only [p_l37Copy (x_p := x.p) (x_o := x.o) hp]
    simp [setPin, stepTo, h]
  | true =>
    unfold setPin
    rw [h]
    generalize addTo x.cyl y = c at *
    simp only [p_l37Step (x_p := x.p) (x_o := x.o) (y_p := c.p) ⟨hp.1, hp.2, hl⟩]
    simp
end Go.Mw

/- What functions compute, in plain terms: acts. -/
namespace Go.Mw
/-- The least gap of the i-th pin to those before it, below the k-th. -/
def cmRow (c : Cyl) (i : Nat) : Nat → Int → Int
  | 0, b => b
  | k + 1, b => match c.p[i]?, c.p[k]? with
    | some x, some y => if x.a = y.a then min (cmRow c i k b) (gap x.b y.b c.s) else cmRow c i k b
    | _, _ => cmRow c i k b
def cmTo (c : Cyl) : Nat → Int
  | 0 => c.s
  | i + 1 => cmRow c i i (cmTo c i)
def closest (c : Cyl) : Int := if cylOk c then cmTo c c.p.length else -1
end Go.Mw

/- Functions of the program, as small pure programs (printed by a program of ours). -/
namespace Go.Mw
noncomputable section
end
end Go.Mw

/- Putting a pin into a workshop. -/
namespace Go.Mw
end Go.Mw

/- What functions compute, in plain terms: runs of acts. -/
namespace Go.Mw
def E_eqAct : T3 × T3 → List V := fun (x, y) => [.int .i64 x.a, .int .i64 x.b, .int .i64 x.c, .int .i64 y.a, .int .i64 y.b, .int .i64 y.c]
noncomputable def F_eqAct : List V → Option (List V) := mkF E_eqAct (fun (_, _) => True) (fun (x, y) => [.bool (decide (x = y))])
theorem F_eqAct_inj : ∀ x y, E_eqAct x = E_eqAct y → x = y := by
  rintro ⟨⟨xa, xb, xc⟩, ⟨ya, yb, yc⟩⟩ ⟨⟨xa', xb', xc'⟩, ⟨ya', yb', yc'⟩⟩ h
  simpa [E_eqAct, and_assoc] using h
theorem F_eqAct_elim {P : List V → List V → Prop} (h : ∀ (x : T3) (y : T3), P [.int .i64 x.a, .int .i64 x.b, .int .i64 x.c, .int .i64 y.a, .int .i64 y.b, .int .i64 y.c] [.bool (decide (x = y))]) : ∀ ds outs, F_eqAct ds = some outs → P ds outs := by
  intro ds outs hh
  obtain ⟨⟨x, y⟩, rfl, -, rfl⟩ := mkF_inv hh
  exact h x y
@[simp] theorem p_eqAct {x_a : Int} {x_b : Int} {x_c : Int} {y_a : Int} {y_b : Int} {y_c : Int} {nr_ : Nat} {kk_ : V → Prop} : P1 (.call F_eqAct 0 nr_) [.int .i64 x_a, .int .i64 x_b, .int .i64 x_c, .int .i64 y_a, .int .i64 y_b, .int .i64 y_c] kk_ ↔ kk_ (.bool (decide ((⟨x_a, x_b, x_c⟩ : T3) = (⟨y_a, y_b, y_c⟩ : T3)))) :=
  P1_callF (by unfold F_eqAct; exact mkF_eq F_eqAct_inj ((⟨x_a, x_b, x_c⟩ : T3), (⟨y_a, y_b, y_c⟩ : T3)) trivial)

end Go.Mw

/- Functions of the program, as small pure programs (printed by a program of ours). -/
namespace Go.Mw
noncomputable section
def laws_eqAct_L : L := .seq (.rg []) (.seq (.seq (.rg [⟨[], .bin .neq, [.v 0, .v 3], 1⟩]) (.ite (.v 6) (.seq (.rg []) (.ret [.k (.bool false)])) (.skip))) (.seq (.seq (.rg [⟨[], .bin .neq, [.v 1, .v 4], 1⟩]) (.ite (.v 7) (.seq (.rg []) (.ret [.k (.bool false)])) (.skip))) (.seq (.seq (.rg [⟨[], .bin .neq, [.v 2, .v 5], 1⟩]) (.ite (.v 8) (.seq (.rg []) (.ret [.k (.bool false)])) (.skip))) (.seq (.rg []) (.ret [.k (.bool true)])))))
theorem laws_eqAct_L_sh (Q : QT) (x0 x1 x2 x3 x4 x5 : V) : shL laws_eqAct_L Q [x0, x1, x2, x3, x4, x5] = (
  P1 (.bin .neq) [x0, x3] fun v0 =>
  ifB v0 (
    Q .ret [.bool false]) (
    P1 (.bin .neq) [x1, x4] fun v1 =>
    ifB v1 (
      Q .ret [.bool false]) (
      P1 (.bin .neq) [x2, x5] fun v2 =>
      ifB v2 (
        Q .ret [.bool false]) (
        Q .ret [.bool true])))) := by kernel_rfl
def laws_eqAct_S : Sig := ⟨[.val true [.sc, .sc, .sc], .val true [.sc, .sc, .sc]], [(false, [.sc])], F_eqAct⟩
def laws_eqAct_hs : List NF := []

end
end Go.Mw

/- Acts: memory. -/
namespace Go.Mw
end Go.Mw

/- Acts. -/
namespace Go.Mw
end Go.Mw

/- Runs of acts; the laws. -/
namespace Go.Mw
end Go.Mw

/- Replays; the laws on runs. -/
namespace Go.Mw
end Go.Mw

/- The law on runs of acts. -/
namespace Go.Mw
theorem laws_eqAct_ok : ∀ ds outs, F_eqAct ds = some outs → shL laws_eqAct_L (qRet outs) ds := F_eqAct_elim fun x y => by
  rw [laws_eqAct_L_sh]
  cases x; cases y
  simp
  grind
end Go.Mw

/- What functions compute, in plain terms: drawn benches, workshops and acts; laws on scenarios. -/
namespace Go.Mw
def E_l01Once : Cur × Int → List V := fun (x, n) => [vL I1 vY x.b, .int .i64 x.i, .int .i64 x.h, .int .i64 n]
noncomputable def F_l01Once : List V → Option (List V) := mkF E_l01Once (fun (x, _) => 0 ≤ x.i ∧ x.b.length ≤ 1048576) (fun (x, n) => [.bool (decide (cBelow x n = 0)), .int .i64 ((cAfter x n).i), .int .i64 ((cAfter x n).h)])
theorem F_l01Once_inj : ∀ x y, E_l01Once x = E_l01Once y → x = y := by
  rintro ⟨⟨xb, xi, xh⟩, n⟩ ⟨⟨xb', xi', xh'⟩, n'⟩ h
  simpa [E_l01Once, and_assoc] using h
theorem F_l01Once_elim {P : List V → List V → Prop} (h : ∀ (x : Cur) (n : Int), (0 ≤ x.i ∧ x.b.length ≤ 1048576) → P [vL I1 vY x.b, .int .i64 x.i, .int .i64 x.h, .int .i64 n] [.bool (decide (cBelow x n = 0)), .int .i64 ((cAfter x n).i), .int .i64 ((cAfter x n).h)]) : ∀ ds outs, F_l01Once ds = some outs → P ds outs := by
  intro ds outs hh
  obtain ⟨⟨x, n⟩, rfl, hp, rfl⟩ := mkF_inv hh
  exact h x n hp
theorem p_l01Once {x_b : List UInt8} {x_i : Int} {x_h : Int} {n : Int} {nr_ : Nat} {kk_ : V → V → V → Prop} (hp : 0 ≤ (⟨x_b, x_i, x_h⟩ : Cur).i ∧ (⟨x_b, x_i, x_h⟩ : Cur).b.length ≤ 1048576) : P3 (.call F_l01Once 0 nr_) [vL I1 vY x_b, .int .i64 x_i, .int .i64 x_h, .int .i64 n] kk_ ↔ kk_ (.bool (decide (cBelow (⟨x_b, x_i, x_h⟩ : Cur) n = 0))) (.int .i64 ((cAfter (⟨x_b, x_i, x_h⟩ : Cur) n).i)) (.int .i64 ((cAfter (⟨x_b, x_i, x_h⟩ : Cur) n).h)) :=
  P3_callF (by unfold F_l01Once; exact mkF_eq F_l01Once_inj ((⟨x_b, x_i, x_h⟩ : Cur), n) hp)

def benchStep (b : Bench) (x : Cur) : Bench × Cur :=
  if cBelow x 3 = 0 then (takePin b (cBelow (cAfter x 3) 6), cAfter (cAfter x 3) 6)
  else (setPin b ⟨cBelow (cAfter x 3) b.t, cBelow (cAfter (cAfter x 3) b.t) b.s⟩, cAfter (cAfter (cAfter x 3) b.t) b.s)
def benchTo (x : Cur) : Nat → Bench × Cur
  | 0 => (⟨(cylOf x).s, (cylOf x).t, (cylOf x).p, []⟩, cAfter (cylEnd x) 7)
  | k + 1 => benchStep (benchTo x k).1 (benchTo x k).2
def benchN (x : Cur) : Nat := (cBelow (cylEnd x) 7).toNat
def benchOf (x : Cur) : Bench := (benchTo x (benchN x)).1
def benchEnd (x : Cur) : Cur := (benchTo x (benchN x)).2
def E_l37Bench (x : Cur) : List V := [vL I1 vY x.b, .int .i64 x.i, .int .i64 x.h]
noncomputable def F_l37Bench : List V → Option (List V) := mkF E_l37Bench (fun x => 0 ≤ x.i ∧ x.b.length ≤ 1048576) (fun x => [.int .i64 (benchOf x).s, .int .i64 (benchOf x).t, vL I2 v2 (benchOf x).p, vL IL2 vLL2 (benchOf x).o, .int .i64 ((benchEnd x).i), .int .i64 ((benchEnd x).h)])
theorem F_l37Bench_inj : ∀ x y, E_l37Bench x = E_l37Bench y → x = y := by
  rintro ⟨xb, xi, xh⟩ ⟨xb', xi', xh'⟩ h
  simpa [E_l37Bench] using h
theorem F_l37Bench_elim {P : List V → List V → Prop} (h : ∀ (x : Cur), (0 ≤ x.i ∧ x.b.length ≤ 1048576) → P [vL I1 vY x.b, .int .i64 x.i, .int .i64 x.h] [.int .i64 (benchOf x).s, .int .i64 (benchOf x).t, vL I2 v2 (benchOf x).p, vL IL2 vLL2 (benchOf x).o, .int .i64 ((benchEnd x).i), .int .i64 ((benchEnd x).h)]) : ∀ ds outs, F_l37Bench ds = some outs → P ds outs := by
  intro ds outs hh
  obtain ⟨x, rfl, hp, rfl⟩ := mkF_inv hh
  exact h x hp
theorem p_l37Bench {x_b : List UInt8} {x_i : Int} {x_h : Int} {nr_ : Nat} {kk_ : V → V → V → V → V → V → Prop} (hp : 0 ≤ (⟨x_b, x_i, x_h⟩ : Cur).i ∧ (⟨x_b, x_i, x_h⟩ : Cur).b.length ≤ 1048576) : P6 (.call F_l37Bench 0 nr_) [vL I1 vY x_b, .int .i64 x_i, .int .i64 x_h] kk_ ↔ kk_ (.int .i64 (benchOf (⟨x_b, x_i, x_h⟩ : Cur)).s) (.int .i64 (benchOf (⟨x_b, x_i, x_h⟩ : Cur)).t) (vL I2 v2 (benchOf (⟨x_b, x_i, x_h⟩ : Cur)).p) (vL IL2 vLL2 (benchOf (⟨x_b, x_i, x_h⟩ : Cur)).o) (.int .i64 ((benchEnd (⟨x_b, x_i, x_h⟩ : Cur)).i)) (.int .i64 ((benchEnd (⟨x_b, x_i, x_h⟩ : Cur)).h)) :=
  P6_callF (by unfold F_l37Bench; exact mkF_eq F_l37Bench_inj ((⟨x_b, x_i, x_h⟩ : Cur)) hp)

def springMost (x : Cur) : Int := 1 + cBelow x 20
def springOf (x : Cur) : T3 := ⟨cBelow (cAfter x 20) (springMost x + 1), springMost x, 1 + 3 * cBelow (cAfter (cAfter x 20) (springMost x + 1)) 200⟩
def springEnd (x : Cur) : Cur := cAfter (cAfter (cAfter x 20) (springMost x + 1)) 200
def E_l12Spring (x : Cur) : List V := [vL I1 vY x.b, .int .i64 x.i, .int .i64 x.h]
noncomputable def F_l12Spring : List V → Option (List V) := mkF E_l12Spring (fun x => 0 ≤ x.i ∧ x.b.length ≤ 1048576) (fun x => [.int .i64 (springOf x).a, .int .i64 (springOf x).b, .int .i64 (springOf x).c, .int .i64 ((springEnd x).i), .int .i64 ((springEnd x).h)])
theorem F_l12Spring_inj : ∀ x y, E_l12Spring x = E_l12Spring y → x = y := by
  rintro ⟨xb, xi, xh⟩ ⟨xb', xi', xh'⟩ h
  simpa [E_l12Spring] using h
theorem F_l12Spring_elim {P : List V → List V → Prop} (h : ∀ (x : Cur), (0 ≤ x.i ∧ x.b.length ≤ 1048576) → P [vL I1 vY x.b, .int .i64 x.i, .int .i64 x.h] [.int .i64 (springOf x).a, .int .i64 (springOf x).b, .int .i64 (springOf x).c, .int .i64 ((springEnd x).i), .int .i64 ((springEnd x).h)]) : ∀ ds outs, F_l12Spring ds = some outs → P ds outs := by
  intro ds outs hh
  obtain ⟨x, rfl, hp, rfl⟩ := mkF_inv hh
  exact h x hp
theorem p_l12Spring {x_b : List UInt8} {x_i : Int} {x_h : Int} {nr_ : Nat} {kk_ : V → V → V → V → V → Prop} (hp : 0 ≤ (⟨x_b, x_i, x_h⟩ : Cur).i ∧ (⟨x_b, x_i, x_h⟩ : Cur).b.length ≤ 1048576) : P5 (.call F_l12Spring 0 nr_) [vL I1 vY x_b, .int .i64 x_i, .int .i64 x_h] kk_ ↔ kk_ (.int .i64 (springOf (⟨x_b, x_i, x_h⟩ : Cur)).a) (.int .i64 (springOf (⟨x_b, x_i, x_h⟩ : Cur)).b) (.int .i64 (springOf (⟨x_b, x_i, x_h⟩ : Cur)).c) (.int .i64 ((springEnd (⟨x_b, x_i, x_h⟩ : Cur)).i)) (.int .i64 ((springEnd (⟨x_b, x_i, x_h⟩ : Cur)).h)) :=
  P5_callF (by unfold F_l12Spring; exact mkF_eq F_l12Spring_inj ((⟨x_b, x_i, x_h⟩ : Cur)) hp)

def combTo (x : Cur) : Nat → (List Int × Int) × Cur
  | 0 => (([], 10), x)
  | k + 1 => (((combTo x k).1.1 ++ [(combTo x k).1.2], (combTo x k).1.2 + (([0, 1, 2, 4] : List Int)[(cBelow (combTo x k).2 4).toNat]?).getD 0), cAfter (combTo x k).2 4)
def shopMoney (x : Cur) : Int := (([0, 1, 30, 999] : List Int)[(cBelow (springEnd (benchEnd x)) 4).toNat]?).getD 0
def shopPlayed (x : Cur) : Int := (([0, 12, 999999] : List Int)[(cBelow (cAfter (springEnd (benchEnd x)) 4) 3).toNat]?).getD 0
def shopCur (x : Cur) : Cur := cAfter (cAfter (springEnd (benchEnd x)) 4) 3
def shopOf (x : Cur) : Shop := ⟨(benchOf x).s, (benchOf x).t, (benchOf x).p, (benchOf x).o, (combTo (shopCur x) (benchOf x).t.toNat).1.1,
  (springOf (benchEnd x)).a, (springOf (benchEnd x)).b, (springOf (benchEnd x)).c, shopMoney x, shopPlayed x⟩
def shopEnd (x : Cur) : Cur := (combTo (shopCur x) (benchOf x).t.toNat).2
def E_l38Workshop (x : Cur) : List V := [vL I1 vY x.b, .int .i64 x.i, .int .i64 x.h]
noncomputable def F_l38Workshop : List V → Option (List V) := mkF E_l38Workshop (fun x => 0 ≤ x.i ∧ x.b.length ≤ 1048576) (fun x => [.int .i64 (shopOf x).s, .int .i64 (shopOf x).t, vL I2 v2 (shopOf x).p, vL IL2 vLL2 (shopOf x).o, vL I1 v1 (shopOf x).c, .int .i64 (shopOf x).u, .int .i64 (shopOf x).m, .int .i64 (shopOf x).f, .int .i64 (shopOf x).y, .int .i64 (shopOf x).d, .int .i64 ((shopEnd x).i), .int .i64 ((shopEnd x).h)])
theorem F_l38Workshop_inj : ∀ x y, E_l38Workshop x = E_l38Workshop y → x = y := by
  rintro ⟨xb, xi, xh⟩ ⟨xb', xi', xh'⟩ h
  simpa [E_l38Workshop] using h
theorem F_l38Workshop_elim {P : List V → List V → Prop} (h : ∀ (x : Cur), (0 ≤ x.i ∧ x.b.length ≤ 1048576) → P [vL I1 vY x.b, .int .i64 x.i, .int .i64 x.h] [.int .i64 (shopOf x).s, .int .i64 (shopOf x).t, vL I2 v2 (shopOf x).p, vL IL2 vLL2 (shopOf x).o, vL I1 v1 (shopOf x).c, .int .i64 (shopOf x).u, .int .i64 (shopOf x).m, .int .i64 (shopOf x).f, .int .i64 (shopOf x).y, .int .i64 (shopOf x).d, .int .i64 ((shopEnd x).i), .int .i64 ((shopEnd x).h)]) : ∀ ds outs, F_l38Workshop ds = some outs → P ds outs := by
  intro ds outs hh
  obtain ⟨x, rfl, hp, rfl⟩ := mkF_inv hh
  exact h x hp
theorem p_l38Workshop {x_b : List UInt8} {x_i : Int} {x_h : Int} {nr_ : Nat} {kk_ : V → V → V → V → V → V → V → V → V → V → V → V → Prop} (hp : 0 ≤ (⟨x_b, x_i, x_h⟩ : Cur).i ∧ (⟨x_b, x_i, x_h⟩ : Cur).b.length ≤ 1048576) : P12 (.call F_l38Workshop 0 nr_) [vL I1 vY x_b, .int .i64 x_i, .int .i64 x_h] kk_ ↔ kk_ (.int .i64 (shopOf (⟨x_b, x_i, x_h⟩ : Cur)).s) (.int .i64 (shopOf (⟨x_b, x_i, x_h⟩ : Cur)).t) (vL I2 v2 (shopOf (⟨x_b, x_i, x_h⟩ : Cur)).p) (vL IL2 vLL2 (shopOf (⟨x_b, x_i, x_h⟩ : Cur)).o) (vL I1 v1 (shopOf (⟨x_b, x_i, x_h⟩ : Cur)).c) (.int .i64 (shopOf (⟨x_b, x_i, x_h⟩ : Cur)).u) (.int .i64 (shopOf (⟨x_b, x_i, x_h⟩ : Cur)).m) (.int .i64 (shopOf (⟨x_b, x_i, x_h⟩ : Cur)).f) (.int .i64 (shopOf (⟨x_b, x_i, x_h⟩ : Cur)).y) (.int .i64 (shopOf (⟨x_b, x_i, x_h⟩ : Cur)).d) (.int .i64 ((shopEnd (⟨x_b, x_i, x_h⟩ : Cur)).i)) (.int .i64 ((shopEnd (⟨x_b, x_i, x_h⟩ : Cur)).h)) :=
  P12_callF (by unfold F_l38Workshop; exact mkF_eq F_l38Workshop_inj ((⟨x_b, x_i, x_h⟩ : Cur)) hp)

def actDraw (x : Cur) : T3 × Cur :=
  if cBelow x 9 ≤ 2 then (⟨1, cBelow (cAfter x 9) 4, cBelow (cAfter (cAfter x 9) 4) 16⟩, cAfter (cAfter (cAfter x 9) 4) 16)
  else if cBelow x 9 = 3 then (⟨2, cBelow (cAfter x 9) 5, 0⟩, cAfter (cAfter x 9) 5)
  else if cBelow x 9 = 4 then (⟨3, 0, 0⟩, cAfter x 9)
  else if cBelow x 9 = 5 then (⟨4, cBelow (cAfter x 9) 8, 0⟩, cAfter (cAfter x 9) 8)
  else if cBelow x 9 ≤ 7 then (⟨5, 0, 0⟩, cAfter x 9)
  else (⟨6, 0, 0⟩, cAfter x 9)
def E_l39Act (x : Cur) : List V := [vL I1 vY x.b, .int .i64 x.i, .int .i64 x.h]
noncomputable def F_l39Act : List V → Option (List V) := mkF E_l39Act (fun x => 0 ≤ x.i ∧ x.b.length ≤ 1048576) (fun x => [.int .i64 ((actDraw x).1).a, .int .i64 ((actDraw x).1).b, .int .i64 ((actDraw x).1).c, .int .i64 ((actDraw x).2.i), .int .i64 ((actDraw x).2.h)])
theorem F_l39Act_inj : ∀ x y, E_l39Act x = E_l39Act y → x = y := by
  rintro ⟨xb, xi, xh⟩ ⟨xb', xi', xh'⟩ h
  simpa [E_l39Act] using h
theorem F_l39Act_elim {P : List V → List V → Prop} (h : ∀ (x : Cur), (0 ≤ x.i ∧ x.b.length ≤ 1048576) → P [vL I1 vY x.b, .int .i64 x.i, .int .i64 x.h] [.int .i64 ((actDraw x).1).a, .int .i64 ((actDraw x).1).b, .int .i64 ((actDraw x).1).c, .int .i64 ((actDraw x).2.i), .int .i64 ((actDraw x).2.h)]) : ∀ ds outs, F_l39Act ds = some outs → P ds outs := by
  intro ds outs hh
  obtain ⟨x, rfl, hp, rfl⟩ := mkF_inv hh
  exact h x hp
theorem p_l39Act {x_b : List UInt8} {x_i : Int} {x_h : Int} {nr_ : Nat} {kk_ : V → V → V → V → V → Prop} (hp : 0 ≤ (⟨x_b, x_i, x_h⟩ : Cur).i ∧ (⟨x_b, x_i, x_h⟩ : Cur).b.length ≤ 1048576) : P5 (.call F_l39Act 0 nr_) [vL I1 vY x_b, .int .i64 x_i, .int .i64 x_h] kk_ ↔ kk_ (.int .i64 ((actDraw (⟨x_b, x_i, x_h⟩ : Cur)).1).a) (.int .i64 ((actDraw (⟨x_b, x_i, x_h⟩ : Cur)).1).b) (.int .i64 ((actDraw (⟨x_b, x_i, x_h⟩ : Cur)).1).c) (.int .i64 ((actDraw (⟨x_b, x_i, x_h⟩ : Cur)).2.i)) (.int .i64 ((actDraw (⟨x_b, x_i, x_h⟩ : Cur)).2.h)) :=
  P5_callF (by unfold F_l39Act; exact mkF_eq F_l39Act_inj ((⟨x_b, x_i, x_h⟩ : Cur)) hp)

def actTo (x : Cur) : Nat → List T3 × Cur
  | 0 => ([], x)
  | k + 1 => ((actTo x k).1 ++ [(actDraw (actTo x k).2).1], (actDraw (actTo x k).2).2)
def actCnt (x : Cur) : Nat := (cBelow x 14).toNat
def actsOf (x : Cur) : List T3 := (actTo (cAfter x 14) (actCnt x)).1
def actsEnd (x : Cur) : Cur := (actTo (cAfter x 14) (actCnt x)).2
def E_l39List (x : Cur) : List V := [vL I1 vY x.b, .int .i64 x.i, .int .i64 x.h]
noncomputable def F_l39List : List V → Option (List V) := mkF E_l39List (fun x => 0 ≤ x.i ∧ x.b.length ≤ 1048576) (fun x => [vL I3 v3 (actsOf x), .int .i64 ((actsEnd x).i), .int .i64 ((actsEnd x).h)])
theorem F_l39List_inj : ∀ x y, E_l39List x = E_l39List y → x = y := by
  rintro ⟨xb, xi, xh⟩ ⟨xb', xi', xh'⟩ h
  simpa [E_l39List] using h
theorem F_l39List_elim {P : List V → List V → Prop} (h : ∀ (x : Cur), (0 ≤ x.i ∧ x.b.length ≤ 1048576) → P [vL I1 vY x.b, .int .i64 x.i, .int .i64 x.h] [vL I3 v3 (actsOf x), .int .i64 ((actsEnd x).i), .int .i64 ((actsEnd x).h)]) : ∀ ds outs, F_l39List ds = some outs → P ds outs := by
  intro ds outs hh
  obtain ⟨x, rfl, hp, rfl⟩ := mkF_inv hh
  exact h x hp
theorem p_l39List {x_b : List UInt8} {x_i : Int} {x_h : Int} {nr_ : Nat} {kk_ : V → V → V → Prop} (hp : 0 ≤ (⟨x_b, x_i, x_h⟩ : Cur).i ∧ (⟨x_b, x_i, x_h⟩ : Cur).b.length ≤ 1048576) : P3 (.call F_l39List 0 nr_) [vL I1 vY x_b, .int .i64 x_i, .int .i64 x_h] kk_ ↔ kk_ (vL I3 v3 (actsOf (⟨x_b, x_i, x_h⟩ : Cur))) (.int .i64 ((actsEnd (⟨x_b, x_i, x_h⟩ : Cur)).i)) (.int .i64 ((actsEnd (⟨x_b, x_i, x_h⟩ : Cur)).h)) :=
  P3_callF (by unfold F_l39List; exact mkF_eq F_l39List_inj ((⟨x_b, x_i, x_h⟩ : Cur)) hp)

def sample : Shop := openShop 16 [12, 12, 16, 19] 40
def sceneOf (x : Cur) : Shop := if cBelow x 2 = 0 then sample else shopOf (cAfter x 2)
def sceneEnd (x : Cur) : Cur := if cBelow x 2 = 0 then cAfter x 2 else shopEnd (cAfter x 2)
def E_l39Workshop (x : Cur) : List V := [vL I1 vY x.b, .int .i64 x.i, .int .i64 x.h]
noncomputable def F_l39Workshop : List V → Option (List V) := mkF E_l39Workshop (fun x => 0 ≤ x.i ∧ x.b.length ≤ 1048576) (fun x => [.int .i64 (sceneOf x).s, .int .i64 (sceneOf x).t, vL I2 v2 (sceneOf x).p, vL IL2 vLL2 (sceneOf x).o, vL I1 v1 (sceneOf x).c, .int .i64 (sceneOf x).u, .int .i64 (sceneOf x).m, .int .i64 (sceneOf x).f, .int .i64 (sceneOf x).y, .int .i64 (sceneOf x).d, .int .i64 ((sceneEnd x).i), .int .i64 ((sceneEnd x).h)])
theorem F_l39Workshop_inj : ∀ x y, E_l39Workshop x = E_l39Workshop y → x = y := by
  rintro ⟨xb, xi, xh⟩ ⟨xb', xi', xh'⟩ h
  simpa [E_l39Workshop] using h
theorem F_l39Workshop_elim {P : List V → List V → Prop} (h : ∀ (x : Cur), (0 ≤ x.i ∧ x.b.length ≤ 1048576) → P [vL I1 vY x.b, .int .i64 x.i, .int .i64 x.h] [.int .i64 (sceneOf x).s, .int .i64 (sceneOf x).t, vL I2 v2 (sceneOf x).p, vL IL2 vLL2 (sceneOf x).o, vL I1 v1 (sceneOf x).c, .int .i64 (sceneOf x).u, .int .i64 (sceneOf x).m, .int .i64 (sceneOf x).f, .int .i64 (sceneOf x).y, .int .i64 (sceneOf x).d, .int .i64 ((sceneEnd x).i), .int .i64 ((sceneEnd x).h)]) : ∀ ds outs, F_l39Workshop ds = some outs → P ds outs := by
  intro ds outs hh
  obtain ⟨x, rfl, hp, rfl⟩ := mkF_inv hh
  exact h x hp
theorem p_l39Workshop {x_b : List UInt8} {x_i : Int} {x_h : Int} {nr_ : Nat} {kk_ : V → V → V → V → V → V → V → V → V → V → V → V → Prop} (hp : 0 ≤ (⟨x_b, x_i, x_h⟩ : Cur).i ∧ (⟨x_b, x_i, x_h⟩ : Cur).b.length ≤ 1048576) : P12 (.call F_l39Workshop 0 nr_) [vL I1 vY x_b, .int .i64 x_i, .int .i64 x_h] kk_ ↔ kk_ (.int .i64 (sceneOf (⟨x_b, x_i, x_h⟩ : Cur)).s) (.int .i64 (sceneOf (⟨x_b, x_i, x_h⟩ : Cur)).t) (vL I2 v2 (sceneOf (⟨x_b, x_i, x_h⟩ : Cur)).p) (vL IL2 vLL2 (sceneOf (⟨x_b, x_i, x_h⟩ : Cur)).o) (vL I1 v1 (sceneOf (⟨x_b, x_i, x_h⟩ : Cur)).c) (.int .i64 (sceneOf (⟨x_b, x_i, x_h⟩ : Cur)).u) (.int .i64 (sceneOf (⟨x_b, x_i, x_h⟩ : Cur)).m) (.int .i64 (sceneOf (⟨x_b, x_i, x_h⟩ : Cur)).f) (.int .i64 (sceneOf (⟨x_b, x_i, x_h⟩ : Cur)).y) (.int .i64 (sceneOf (⟨x_b, x_i, x_h⟩ : Cur)).d) (.int .i64 ((sceneEnd (⟨x_b, x_i, x_h⟩ : Cur)).i)) (.int .i64 ((sceneEnd (⟨x_b, x_i, x_h⟩ : Cur)).h)) :=
  P12_callF (by unfold F_l39Workshop; exact mkF_eq F_l39Workshop_inj ((⟨x_b, x_i, x_h⟩ : Cur)) hp)

def drawW (l : List UInt8) : Shop := sceneOf (cur0 l)
def drawA (l : List UInt8) : List T3 := actsOf (sceneEnd (cur0 l))
def E_DrawActs (l : List UInt8) : List V := [vL I1 vY l]
noncomputable def F_DrawActs : List V → Option (List V) := mkF E_DrawActs (fun l => l.length ≤ 1048576) (fun l => [.int .i64 (drawW l).s, .int .i64 (drawW l).t, vL I2 v2 (drawW l).p, vL IL2 vLL2 (drawW l).o, vL I1 v1 (drawW l).c, .int .i64 (drawW l).u, .int .i64 (drawW l).m, .int .i64 (drawW l).f, .int .i64 (drawW l).y, .int .i64 (drawW l).d, vL I3 v3 (drawA l)])
theorem F_DrawActs_inj : ∀ x y, E_DrawActs x = E_DrawActs y → x = y := by
  rintro l l' h
  simpa [E_DrawActs] using h
theorem F_DrawActs_elim {P : List V → List V → Prop} (h : ∀ (l : List UInt8), (l.length ≤ 1048576) → P [vL I1 vY l] [.int .i64 (drawW l).s, .int .i64 (drawW l).t, vL I2 v2 (drawW l).p, vL IL2 vLL2 (drawW l).o, vL I1 v1 (drawW l).c, .int .i64 (drawW l).u, .int .i64 (drawW l).m, .int .i64 (drawW l).f, .int .i64 (drawW l).y, .int .i64 (drawW l).d, vL I3 v3 (drawA l)]) : ∀ ds outs, F_DrawActs ds = some outs → P ds outs := by
  intro ds outs hh
  obtain ⟨l, rfl, hp, rfl⟩ := mkF_inv hh
  exact h l hp
theorem p_DrawActs {l : List UInt8} {nr_ : Nat} {kk_ : V → V → V → V → V → V → V → V → V → V → V → Prop} (hp : l.length ≤ 1048576) : P11 (.call F_DrawActs 0 nr_) [vL I1 vY l] kk_ ↔ kk_ (.int .i64 (drawW l).s) (.int .i64 (drawW l).t) (vL I2 v2 (drawW l).p) (vL IL2 vLL2 (drawW l).o) (vL I1 v1 (drawW l).c) (.int .i64 (drawW l).u) (.int .i64 (drawW l).m) (.int .i64 (drawW l).f) (.int .i64 (drawW l).y) (.int .i64 (drawW l).d) (vL I3 v3 (drawA l)) :=
  P11_callF (by unfold F_DrawActs; exact mkF_eq F_DrawActs_inj (l) hp)

end Go.Mw

/- Functions of the program, as small pure programs (printed by a program of ours). -/
namespace Go.Mw
noncomputable section
def spec_l01Once_L : L := .seq (.rg []) (.seq (.rg [⟨[], .call F_l01Below 0 1, [.v 0, .v 1, .v 2, .v 3], 3⟩, ⟨[], .bin .eql, [.v 4, .k (.int .i64 0)], 1⟩]) (.ret [.v 7, .v 5, .v 6]))
theorem spec_l01Once_L_sh (Q : QT) (x0 x1 x2 x3 : V) : shL spec_l01Once_L Q [x0, x1, x2, x3] = (
  P3 (.call F_l01Below 0 1) [x0, x1, x2, x3] fun v0 v1 v2 =>
  P1 (.bin .eql) [v0, .int .i64 0] fun v3 =>
  Q .ret [v3, v1, v2]) := by kernel_rfl
def spec_l01Once_S : Sig := ⟨[.ptr [.sl [.sc], .sc, .sc], .val false [.sc]], [(false, [.sc])], F_l01Once⟩
def spec_l01Once_hs : List NF := []

def spec_l37Bench_b0 : L := .seq (.seq (.seq (.rg [⟨[], .bin .gtr, [.v 0, .k (.int .i64 0)], 1⟩]) (.ite (.v 10) (.skip) (.seq (.tup [.v 1, .v 2, .v 3, .v 4, .v 5, .v 6, .v 7, .v 8, .v 9]) (.exit 0)))) (.seq (.block 1 (.seq (.seq (.rg [⟨[], .call F_l01Once 0 1, [.v 3, .v 4, .v 5, .k (.int .i64 3)], 3⟩]) (.ite (.v 11) (.seq (.rg [⟨[], .call F_l01Below 0 1, [.v 3, .v 12, .v 13, .k (.int .i64 6)], 3⟩, ⟨[], .call F_TakePin 0 5, [.v 8, .v 9, .v 1, .v 2, .v 14], 5⟩]) (.tup [.v 0, .v 19, .v 20, .v 3, .v 15, .v 16, .v 6, .v 7, .v 17, .v 18])) (.seq (.rg [⟨[], .call F_l01Below 0 1, [.v 3, .v 12, .v 13, .v 9], 3⟩, ⟨[], .call F_l01Below 0 1, [.v 3, .v 15, .v 16, .v 8], 3⟩, ⟨[], .call F_SetPin 0 5, [.v 8, .v 9, .v 1, .v 2, .v 14, .v 17], 5⟩]) (.tup [.v 0, .v 22, .v 23, .v 3, .v 18, .v 19, .v 6, .v 7, .v 20, .v 21])))) (.tup [.v 0, .v 1, .v 2, .v 3, .v 4, .v 5, .v 6, .v 7, .v 8, .v 9]))) (.rg [⟨[], .bin .sub, [.v 0, .k (.int .i64 1)], 1⟩]))) (.tup [.v 10, .v 1, .v 2, .v 3, .v 4, .v 5, .v 6, .v 7, .v 8, .v 9])
theorem spec_l37Bench_b0_sh (Q : QT) (x0 x1 x2 x3 x4 x5 x6 x7 x8 x9 : V) : shL spec_l37Bench_b0 Q [x0, x1, x2, x3, x4, x5, x6, x7, x8, x9] = (
  P1 (.bin .gtr) [x0, .int .i64 0] fun v0 =>
  ifB v0 (
    P3 (.call F_l01Once 0 1) [x3, x4, x5, .int .i64 3] fun v1 v2 v3 =>
    ifB v1 (
      P3 (.call F_l01Below 0 1) [x3, v2, v3, .int .i64 6] fun v4 v5 v6 =>
      P5 (.call F_TakePin 0 5) [x8, x9, x1, x2, v4] fun v7 v8 v9 v10 _ =>
      P1 (.bin .sub) [x0, .int .i64 1] fun v12 =>
      Q .normal [v12, v9, v10, x3, v5, v6, x6, x7, v7, v8]) (
      P3 (.call F_l01Below 0 1) [x3, v2, v3, x9] fun v13 v14 v15 =>
      P3 (.call F_l01Below 0 1) [x3, v14, v15, x8] fun v16 v17 v18 =>
      P5 (.call F_SetPin 0 5) [x8, x9, x1, x2, v13, v16] fun v19 v20 v21 v22 _ =>
      P1 (.bin .sub) [x0, .int .i64 1] fun v24 =>
      Q .normal [v24, v21, v22, x3, v17, v18, x6, x7, v19, v20])) (
    Q (.exit 0) [x1, x2, x3, x4, x5, x6, x7, x8, x9])) := by kernel_rfl

def spec_l37Bench_r1 : L := .seq (.rg []) (.ret [.v 7, .v 8, .v 0, .v 1, .v 3, .v 4])
theorem spec_l37Bench_r1_sh (Q : QT) (x0 x1 x2 x3 x4 x5 x6 x7 x8 : V) : shL spec_l37Bench_r1 Q [x0, x1, x2, x3, x4, x5, x6, x7, x8] = (
  Q .ret [x7, x8, x0, x1, x3, x4]) := by kernel_rfl

def spec_l37Bench_L : L := .seq (.rg []) (.seq (.rg [⟨[], .call F_l06Cylinder 0 3, [.v 0, .v 1, .v 2], 5⟩]) (.seq (.seq (.rg [⟨[], .call F_l01Below 0 1, [.v 0, .v 6, .v 7, .k (.int .i64 7)], 3⟩]) (.block 0 (.seq (.tup [.v 8, .v 5, .k (.list [.sl [.sc, .sc]] []), .v 0, .v 9, .v 10, .k (.int .i64 0), .k (.int .i64 0), .v 3, .v 4]) (.loop (spec_l37Bench_b0))))) (spec_l37Bench_r1)))
theorem spec_l37Bench_L_sh (Q : QT) (x0 x1 x2 : V) : shL spec_l37Bench_L Q [x0, x1, x2] = (
  P5 (.call F_l06Cylinder 0 3) [x0, x1, x2] fun v0 v1 v2 v3 v4 =>
  P3 (.call F_l01Below 0 1) [x0, v3, v4, .int .i64 7] fun v5 v6 v7 =>
  shL (.loop spec_l37Bench_b0) (qB 0 (qS (shL spec_l37Bench_r1 Q) Q)) [v5, v2, .list [.sl [.sc, .sc]] [], x0, v6, v7, .int .i64 0, .int .i64 0, v0, v1]) := by kernel_rfl
def spec_l37Bench_S : Sig := ⟨[.ptr [.sl [.sc], .sc, .sc]], [(true, [.sc, .sc, .sl [.sc, .sc], .sl [.sl [.sc, .sc]]])], F_l37Bench⟩
def spec_l37Bench_hs : List NF := [⟨[(2, .ptr 64 0), (3, .ptr 65 0)], [(66, true, [.sc, .sc]), (67, true, [.sl [.sc, .sc]])], [(0, [.ro [.sc], .sc, .sc]), (64, [.sc, .sc, .nil, .nil]), (65, [.sc, .sc, .own 66, .own 67])], 68⟩, ⟨[(0, .ptr 0 0), (2, .ptr 64 0), (3, .ptr 65 0), (4, .sc false [.sc])], [(66, true, [.sc, .sc]), (67, true, [.sl [.sc, .sc]])], [(0, [.ro [.sc], .sc, .sc]), (64, [.sc, .sc, .nil, .nil]), (65, [.sc, .sc, .own 66, .own 67])], 68⟩, ⟨[(0, .ptr 0 0), (2, .ptr 64 0), (3, .ptr 65 0), (4, .sc false [.sc])], [(66, true, [.sc, .sc]), (67, true, [.sl [.sc, .sc]])], [(0, [.ro [.sc], .sc, .sc]), (64, [.sc, .sc, .nil, .nil]), (65, [.sc, .sc, .own 66, .own 67])], 68⟩, ⟨[(0, .ptr 0 0), (2, .ptr 64 0), (3, .ptr 65 0), (4, .sc false [.sc])], [(66, true, [.sc, .sc]), (67, true, [.sl [.sc, .sc]])], [(0, [.ro [.sc], .sc, .sc]), (64, [.sc, .sc, .nil, .nil]), (65, [.sc, .sc, .own 66, .own 67])], 68⟩]

def spec_l12Spring_L : L := .seq (.rg []) (.seq (.rg [⟨[], .call F_l01Below 0 1, [.v 0, .v 1, .v 2, .k (.int .i64 20)], 3⟩, ⟨[], .bin .add, [.k (.int .i64 1), .v 3], 1⟩]) (.seq (.rg [⟨[], .bin .add, [.v 6, .k (.int .i64 1)], 1⟩, ⟨[], .call F_l01Below 0 1, [.v 0, .v 4, .v 5, .v 7], 3⟩, ⟨[], .call F_l01Below 0 1, [.v 0, .v 9, .v 10, .k (.int .i64 200)], 3⟩, ⟨[], .bin .mul, [.k (.int .i64 3), .v 11], 1⟩, ⟨[], .bin .add, [.k (.int .i64 1), .v 14], 1⟩]) (.ret [.v 8, .v 6, .v 15, .v 12, .v 13])))
theorem spec_l12Spring_L_sh (Q : QT) (x0 x1 x2 : V) : shL spec_l12Spring_L Q [x0, x1, x2] = (
  P3 (.call F_l01Below 0 1) [x0, x1, x2, .int .i64 20] fun v0 v1 v2 =>
  P1 (.bin .add) [.int .i64 1, v0] fun v3 =>
  P1 (.bin .add) [v3, .int .i64 1] fun v4 =>
  P3 (.call F_l01Below 0 1) [x0, v1, v2, v4] fun v5 v6 v7 =>
  P3 (.call F_l01Below 0 1) [x0, v6, v7, .int .i64 200] fun v8 v9 v10 =>
  P1 (.bin .mul) [.int .i64 3, v8] fun v11 =>
  P1 (.bin .add) [.int .i64 1, v11] fun v12 =>
  Q .ret [v5, v3, v12, v9, v10]) := by kernel_rfl
def spec_l12Spring_S : Sig := ⟨[.ptr [.sl [.sc], .sc, .sc]], [(true, [.sc, .sc, .sc])], F_l12Spring⟩
def spec_l12Spring_hs : List NF := []

def spec_l38Workshop_b0 : L := .seq (.seq (.seq (.rg [⟨[], .bin .lss, [.v 1, .v 16], 1⟩]) (.ite (.v 22) (.skip) (.seq (.tup [.v 2, .v 3, .v 4, .v 5, .v 6, .v 7, .v 8, .v 9, .v 10, .v 11, .v 12, .v 13, .v 14, .v 15, .v 16, .v 17, .v 18, .v 19, .v 20, .v 21]) (.exit 0)))) (.seq (.block 1 (.seq (.seq (.rg [⟨[], .lst [.sc] false 1, [.v 0], 1⟩, ⟨[], .app [.sc] 8, [.v 4, .v 23], 1⟩]) (.rg [⟨[], .lst [.sc] false 4, [.k (.int .i64 0), .k (.int .i64 1), .k (.int .i64 2), .k (.int .i64 4)], 1⟩, ⟨[], .call F_l01PickInt 0 1, [.v 5, .v 6, .v 7, .v 25], 3⟩, ⟨[], .bin .add, [.v 0, .v 26], 1⟩])) (.tup [.v 29, .v 1, .v 2, .v 3, .v 24, .v 5, .v 27, .v 28, .v 8, .v 9, .v 10, .v 11, .v 12, .v 13, .v 14, .v 15, .v 16, .v 17, .v 18, .v 19, .v 20, .v 21]))) (.rg [⟨[], .bin .add, [.v 1, .k (.int .i64 1)], 1⟩]))) (.tup [.v 0, .v 22, .v 2, .v 3, .v 4, .v 5, .v 6, .v 7, .v 8, .v 9, .v 10, .v 11, .v 12, .v 13, .v 14, .v 15, .v 16, .v 17, .v 18, .v 19, .v 20, .v 21])
theorem spec_l38Workshop_b0_sh (Q : QT) (x0 x1 x2 x3 x4 x5 x6 x7 x8 x9 x10 x11 x12 x13 x14 x15 x16 x17 x18 x19 x20 x21 : V) : shL spec_l38Workshop_b0 Q [x0, x1, x2, x3, x4, x5, x6, x7, x8, x9, x10, x11, x12, x13, x14, x15, x16, x17, x18, x19, x20, x21] = (
  P1 (.bin .lss) [x1, x16] fun v0 =>
  ifB v0 (
    P1 (.lst [.sc] false 1) [x0] fun v1 =>
    P1 (.app [.sc] 8) [x4, v1] fun v2 =>
    P1 (.lst [.sc] false 4) [.int .i64 0, .int .i64 1, .int .i64 2, .int .i64 4] fun v3 =>
    P3 (.call F_l01PickInt 0 1) [x5, x6, x7, v3] fun v4 v5 v6 =>
    P1 (.bin .add) [x0, v4] fun v7 =>
    P1 (.bin .add) [x1, .int .i64 1] fun v8 =>
    Q .normal [v7, v8, x2, x3, v2, x5, v5, v6, x8, x9, x10, x11, x12, x13, x14, x15, x16, x17, x18, x19, x20, x21]) (
    Q (.exit 0) [x2, x3, x4, x5, x6, x7, x8, x9, x10, x11, x12, x13, x14, x15, x16, x17, x18, x19, x20, x21])) := by kernel_rfl

def spec_l38Workshop_r1 : L := .seq (.rg []) (.ret [.v 13, .v 14, .v 0, .v 1, .v 2, .v 15, .v 16, .v 17, .v 18, .v 19, .v 4, .v 5])
theorem spec_l38Workshop_r1_sh (Q : QT) (x0 x1 x2 x3 x4 x5 x6 x7 x8 x9 x10 x11 x12 x13 x14 x15 x16 x17 x18 x19 : V) : shL spec_l38Workshop_r1 Q [x0, x1, x2, x3, x4, x5, x6, x7, x8, x9, x10, x11, x12, x13, x14, x15, x16, x17, x18, x19] = (
  Q .ret [x13, x14, x0, x1, x2, x15, x16, x17, x18, x19, x4, x5]) := by kernel_rfl

def spec_l38Workshop_L : L := .seq (.rg []) (.seq (.rg [⟨[], .call F_l37Bench 0 4, [.v 0, .v 1, .v 2], 6⟩, ⟨[], .call F_l12Spring 0 3, [.v 0, .v 7, .v 8], 5⟩, ⟨[], .lst [.sc] false 4, [.k (.int .i64 0), .k (.int .i64 1), .k (.int .i64 30), .k (.int .i64 999)], 1⟩, ⟨[], .call F_l01PickInt 0 1, [.v 0, .v 12, .v 13, .v 14], 3⟩, ⟨[], .lst [.sc] false 3, [.k (.int .i64 0), .k (.int .i64 12), .k (.int .i64 999999)], 1⟩, ⟨[], .call F_l01PickInt 0 1, [.v 0, .v 16, .v 17, .v 18], 3⟩]) (.seq (.rg []) (.seq (.seq (.rg []) (.block 0 (.seq (.tup [.k (.int .i64 10), .k (.int .i64 0), .v 5, .v 6, .k (.list [.sc] []), .v 0, .v 20, .v 21, .k (.int .i64 0), .k (.int .i64 0), .k (.int .i64 0), .k (.int .i64 0), .k (.int .i64 0), .k (.int .i64 0), .k (.int .i64 0), .v 3, .v 4, .v 9, .v 10, .v 11, .v 15, .v 19]) (.loop (spec_l38Workshop_b0))))) (spec_l38Workshop_r1))))
theorem spec_l38Workshop_L_sh (Q : QT) (x0 x1 x2 : V) : shL spec_l38Workshop_L Q [x0, x1, x2] = (
  P6 (.call F_l37Bench 0 4) [x0, x1, x2] fun v0 v1 v2 v3 v4 v5 =>
  P5 (.call F_l12Spring 0 3) [x0, v4, v5] fun v6 v7 v8 v9 v10 =>
  P1 (.lst [.sc] false 4) [.int .i64 0, .int .i64 1, .int .i64 30, .int .i64 999] fun v11 =>
  P3 (.call F_l01PickInt 0 1) [x0, v9, v10, v11] fun v12 v13 v14 =>
  P1 (.lst [.sc] false 3) [.int .i64 0, .int .i64 12, .int .i64 999999] fun v15 =>
  P3 (.call F_l01PickInt 0 1) [x0, v13, v14, v15] fun v16 v17 v18 =>
  shL (.loop spec_l38Workshop_b0) (qB 0 (qS (shL spec_l38Workshop_r1 Q) Q)) [.int .i64 10, .int .i64 0, v2, v3, .list [.sc] [], x0, v17, v18, .int .i64 0, .int .i64 0, .int .i64 0, .int .i64 0, .int .i64 0, .int .i64 0, .int .i64 0, v0, v1, v6, v7, v8, v12, v16]) := by kernel_rfl
def spec_l38Workshop_S : Sig := ⟨[.ptr [.sl [.sc], .sc, .sc]], [(true, [.sc, .sc, .sl [.sc, .sc], .sl [.sl [.sc, .sc]], .sl [.sc], .sc, .sc, .sc, .sc, .sc])], F_l38Workshop⟩
def spec_l38Workshop_hs : List NF := [⟨[(2, .ptr 64 0), (3, .ptr 65 0)], [(66, true, [.sc, .sc]), (67, true, [.sl [.sc, .sc]]), (68, true, [.sc])], [(0, [.ro [.sc], .sc, .sc]), (64, [.sc, .sc, .nil, .nil, .nil, .sc, .sc, .sc, .sc, .sc]), (65, [.sc, .sc, .own 66, .own 67, .own 68, .sc, .sc, .sc, .sc, .sc])], 69⟩, ⟨[(0, .ptr 0 0), (2, .ptr 64 0), (3, .ptr 65 0), (4, .sc false [.sc]), (5, .sc false [.sc])], [(66, true, [.sc, .sc]), (67, true, [.sl [.sc, .sc]]), (68, true, [.sc])], [(0, [.ro [.sc], .sc, .sc]), (64, [.sc, .sc, .nil, .nil, .nil, .sc, .sc, .sc, .sc, .sc]), (65, [.sc, .sc, .own 66, .own 67, .own 68, .sc, .sc, .sc, .sc, .sc])], 69⟩, ⟨[(0, .ptr 0 0), (2, .ptr 64 0), (3, .ptr 65 0), (4, .sc false [.sc]), (5, .sc false [.sc])], [(66, true, [.sc, .sc]), (67, true, [.sl [.sc, .sc]]), (68, true, [.sc])], [(0, [.ro [.sc], .sc, .sc]), (64, [.sc, .sc, .nil, .nil, .nil, .sc, .sc, .sc, .sc, .sc]), (65, [.sc, .sc, .own 66, .own 67, .own 68, .sc, .sc, .sc, .sc, .sc])], 69⟩]

def spec_l39Workshop_L : L := .seq (.rg []) (.seq (.seq (.rg [⟨[], .call F_l01Once 0 1, [.v 0, .v 1, .v 2, .k (.int .i64 2)], 3⟩]) (.ite (.v 3) (.seq (.rg [⟨[], .call F_SampleWorkshop 0 10, [], 10⟩]) (.ret [.v 6, .v 7, .v 8, .v 9, .v 10, .v 11, .v 12, .v 13, .v 14, .v 15, .v 4, .v 5])) (.skip))) (.seq (.rg [⟨[], .call F_l38Workshop 0 10, [.v 0, .v 4, .v 5], 12⟩]) (.ret [.v 6, .v 7, .v 8, .v 9, .v 10, .v 11, .v 12, .v 13, .v 14, .v 15, .v 16, .v 17])))
theorem spec_l39Workshop_L_sh (Q : QT) (x0 x1 x2 : V) : shL spec_l39Workshop_L Q [x0, x1, x2] = (
  P3 (.call F_l01Once 0 1) [x0, x1, x2, .int .i64 2] fun v0 v1 v2 =>
  ifB v0 (
    P10 (.call F_SampleWorkshop 0 10) [] fun v3 v4 v5 v6 v7 v8 v9 v10 v11 v12 =>
    Q .ret [v3, v4, v5, v6, v7, v8, v9, v10, v11, v12, v1, v2]) (
    P12 (.call F_l38Workshop 0 10) [x0, v1, v2] fun v13 v14 v15 v16 v17 v18 v19 v20 v21 v22 v23 v24 =>
    Q .ret [v13, v14, v15, v16, v17, v18, v19, v20, v21, v22, v23, v24])) := by kernel_rfl
def spec_l39Workshop_S : Sig := ⟨[.ptr [.sl [.sc], .sc, .sc]], [(true, [.sc, .sc, .sl [.sc, .sc], .sl [.sl [.sc, .sc]], .sl [.sc], .sc, .sc, .sc, .sc, .sc])], F_l39Workshop⟩
def spec_l39Workshop_hs : List NF := []

def spec_l39Act_r0 : L := .ite (.v 1) (.seq (.rg [⟨[], .call F_l01Below 0 1, [.v 2, .v 3, .v 4, .k (.int .i64 4)], 3⟩, ⟨[], .call F_l01Below 0 1, [.v 2, .v 9, .v 10, .k (.int .i64 16)], 3⟩]) (.ret [.k (.int .i64 1), .v 8, .v 11, .v 12, .v 13])) (.seq (.rg [⟨[], .bin .eql, [.v 0, .k (.int .i64 3)], 1⟩]) (.ite (.v 8) (.seq (.rg [⟨[], .call F_l01Below 0 1, [.v 2, .v 3, .v 4, .k (.int .i64 5)], 3⟩]) (.ret [.k (.int .i64 2), .v 9, .k (.int .i64 0), .v 10, .v 11])) (.seq (.rg [⟨[], .bin .eql, [.v 0, .k (.int .i64 4)], 1⟩]) (.ite (.v 9) (.seq (.rg []) (.ret [.k (.int .i64 3), .k (.int .i64 0), .k (.int .i64 0), .v 3, .v 4])) (.seq (.rg [⟨[], .bin .eql, [.v 0, .k (.int .i64 5)], 1⟩]) (.ite (.v 10) (.seq (.rg [⟨[], .call F_l01Below 0 1, [.v 2, .v 3, .v 4, .k (.int .i64 8)], 3⟩]) (.ret [.k (.int .i64 4), .v 11, .k (.int .i64 0), .v 12, .v 13])) (.seq (.seq (.rg [⟨[], .bin .eql, [.v 0, .k (.int .i64 6)], 1⟩]) (.ite (.v 11) (.seq (.skip) (.tup [.v 11, .v 2, .v 3, .v 4, .v 5, .v 6, .v 7])) (.seq (.rg [⟨[], .bin .eql, [.v 0, .k (.int .i64 7)], 1⟩]) (.tup [.v 12, .v 2, .v 3, .v 4, .v 5, .v 6, .v 7])))) (.ite (.v 0) (.seq (.rg []) (.ret [.k (.int .i64 5), .k (.int .i64 0), .k (.int .i64 0), .v 2, .v 3])) (.skip)))))))))
theorem spec_l39Act_r0_sh (Q : QT) (x0 x1 x2 x3 x4 x5 x6 x7 : V) : shL spec_l39Act_r0 Q [x0, x1, x2, x3, x4, x5, x6, x7] = (
  ifB x1 (
    P3 (.call F_l01Below 0 1) [x2, x3, x4, .int .i64 4] fun v0 v1 v2 =>
    P3 (.call F_l01Below 0 1) [x2, v1, v2, .int .i64 16] fun v3 v4 v5 =>
    Q .ret [.int .i64 1, v0, v3, v4, v5]) (
    P1 (.bin .eql) [x0, .int .i64 3] fun v6 =>
    ifB v6 (
      P3 (.call F_l01Below 0 1) [x2, x3, x4, .int .i64 5] fun v7 v8 v9 =>
      Q .ret [.int .i64 2, v7, .int .i64 0, v8, v9]) (
      P1 (.bin .eql) [x0, .int .i64 4] fun v10 =>
      ifB v10 (
        Q .ret [.int .i64 3, .int .i64 0, .int .i64 0, x3, x4]) (
        P1 (.bin .eql) [x0, .int .i64 5] fun v11 =>
        ifB v11 (
          P3 (.call F_l01Below 0 1) [x2, x3, x4, .int .i64 8] fun v12 v13 v14 =>
          Q .ret [.int .i64 4, v12, .int .i64 0, v13, v14]) (
          P1 (.bin .eql) [x0, .int .i64 6] fun v15 =>
          ifB v15 (
            Q .ret [.int .i64 5, .int .i64 0, .int .i64 0, x3, x4]) (
            P1 (.bin .eql) [x0, .int .i64 7] fun v16 =>
            ifB v16 (
              Q .ret [.int .i64 5, .int .i64 0, .int .i64 0, x3, x4]) (
              Q .normal [.bool false, x2, x3, x4, x5, x6, x7]))))))) := by kernel_rfl

def spec_l39Act_r1 : L := .tup [.v 1, .v 2, .v 3, .v 4, .v 5, .v 6]
theorem spec_l39Act_r1_sh (Q : QT) (x0 x1 x2 x3 x4 x5 x6 : V) : shL spec_l39Act_r1 Q [x0, x1, x2, x3, x4, x5, x6] = (
  Q .normal [x1, x2, x3, x4, x5, x6]) := by kernel_rfl

def spec_l39Act_r2 : L := .seq (.rg []) (.ret [.k (.int .i64 6), .k (.int .i64 0), .k (.int .i64 0), .v 1, .v 2])
theorem spec_l39Act_r2_sh (Q : QT) (x0 x1 x2 x3 x4 x5 : V) : shL spec_l39Act_r2 Q [x0, x1, x2, x3, x4, x5] = (
  Q .ret [.int .i64 6, .int .i64 0, .int .i64 0, x1, x2]) := by kernel_rfl

def spec_l39Act_L : L := .seq (.rg []) (.seq (.seq (.rg [⟨[], .call F_l01Below 0 1, [.v 0, .v 1, .v 2, .k (.int .i64 9)], 3⟩]) (.block 0 (.seq (.seq (.seq (.rg [⟨[], .bin .eql, [.v 3, .k (.int .i64 0)], 1⟩]) (.ite (.v 6) (.seq (.skip) (.tup [.v 3, .v 6, .v 0, .v 4, .v 5, .k (.int .i64 0), .k (.int .i64 0), .k (.int .i64 0)])) (.seq (.seq (.rg [⟨[], .bin .eql, [.v 3, .k (.int .i64 1)], 1⟩]) (.ite (.v 7) (.seq (.skip) (.tup [.v 3, .v 7, .v 0, .v 4, .v 5, .k (.int .i64 0), .k (.int .i64 0), .k (.int .i64 0)])) (.seq (.rg [⟨[], .bin .eql, [.v 3, .k (.int .i64 2)], 1⟩]) (.tup [.v 3, .v 8, .v 0, .v 4, .v 5, .k (.int .i64 0), .k (.int .i64 0), .k (.int .i64 0)])))) (.tup [.v 0, .v 1, .v 2, .v 3, .v 4, .v 5, .v 6, .v 7])))) (spec_l39Act_r0)) (spec_l39Act_r1)))) (spec_l39Act_r2))
theorem spec_l39Act_L_sh (Q : QT) (x0 x1 x2 : V) : shL spec_l39Act_L Q [x0, x1, x2] = (
  P3 (.call F_l01Below 0 1) [x0, x1, x2, .int .i64 9] fun v0 v1 v2 =>
  P1 (.bin .eql) [v0, .int .i64 0] fun v3 =>
  ifB v3 (
    shL spec_l39Act_r0 (qS (shL spec_l39Act_r1 (qB 0 (qS (shL spec_l39Act_r2 Q) Q))) (qB 0 (qS (shL spec_l39Act_r2 Q) Q))) [v0, .bool true, x0, v1, v2, .int .i64 0, .int .i64 0, .int .i64 0]) (
    P1 (.bin .eql) [v0, .int .i64 1] fun v4 =>
    ifB v4 (
      shL spec_l39Act_r0 (qS (shL spec_l39Act_r1 (qB 0 (qS (shL spec_l39Act_r2 Q) Q))) (qB 0 (qS (shL spec_l39Act_r2 Q) Q))) [v0, .bool true, x0, v1, v2, .int .i64 0, .int .i64 0, .int .i64 0]) (
      P1 (.bin .eql) [v0, .int .i64 2] fun v5 =>
      shL spec_l39Act_r0 (qS (shL spec_l39Act_r1 (qB 0 (qS (shL spec_l39Act_r2 Q) Q))) (qB 0 (qS (shL spec_l39Act_r2 Q) Q))) [v0, v5, x0, v1, v2, .int .i64 0, .int .i64 0, .int .i64 0]))) := by kernel_rfl
def spec_l39Act_S : Sig := ⟨[.ptr [.sl [.sc], .sc, .sc]], [(true, [.sc, .sc, .sc])], F_l39Act⟩
def spec_l39Act_hs : List NF := [⟨[(2, .ptr 64 0)], [], [(0, [.ro [.sc], .sc, .sc]), (64, [.sc, .sc, .sc])], 65⟩, ⟨[(0, .ptr 0 0), (2, .ptr 64 0), (4, .sc false [.sc]), (5, .sc false [.sc])], [], [(0, [.ro [.sc], .sc, .sc]), (64, [.sc, .sc, .sc])], 65⟩, ⟨[(0, .ptr 0 0), (2, .ptr 64 0), (4, .sc false [.sc]), (5, .sc false [.sc])], [], [(0, [.ro [.sc], .sc, .sc]), (64, [.sc, .sc, .sc])], 65⟩, ⟨[(2, .ptr 64 0), (27, .sc false [.sc])], [], [(0, [.ro [.sc], .sc, .sc]), (64, [.sc, .sc, .sc])], 65⟩]

def spec_l39List_b0 : L := .seq (.seq (.seq (.rg [⟨[], .bin .lss, [.v 1, .v 0], 1⟩]) (.ite (.v 6) (.skip) (.seq (.tup [.v 2, .v 3, .v 4, .v 5]) (.exit 0)))) (.seq (.block 1 (.seq (.seq (.rg [⟨[], .call F_l39Act 0 3, [.v 3, .v 4, .v 5], 5⟩]) (.rg [⟨[], .lst [.sc, .sc, .sc] true 1, [.v 7, .v 8, .v 9], 1⟩, ⟨[], .app [.sc, .sc, .sc] 24, [.v 2, .v 12], 1⟩])) (.tup [.v 0, .v 1, .v 13, .v 3, .v 10, .v 11]))) (.rg [⟨[], .bin .add, [.v 1, .k (.int .i64 1)], 1⟩]))) (.tup [.v 0, .v 6, .v 2, .v 3, .v 4, .v 5])
theorem spec_l39List_b0_sh (Q : QT) (x0 x1 x2 x3 x4 x5 : V) : shL spec_l39List_b0 Q [x0, x1, x2, x3, x4, x5] = (
  P1 (.bin .lss) [x1, x0] fun v0 =>
  ifB v0 (
    P5 (.call F_l39Act 0 3) [x3, x4, x5] fun v1 v2 v3 v4 v5 =>
    P1 (.lst [.sc, .sc, .sc] true 1) [v1, v2, v3] fun v6 =>
    P1 (.app [.sc, .sc, .sc] 24) [x2, v6] fun v7 =>
    P1 (.bin .add) [x1, .int .i64 1] fun v8 =>
    Q .normal [x0, v8, v7, x3, v4, v5]) (
    Q (.exit 0) [x2, x3, x4, x5])) := by kernel_rfl

def spec_l39List_r1 : L := .seq (.rg []) (.ret [.v 0, .v 2, .v 3])
theorem spec_l39List_r1_sh (Q : QT) (x0 x1 x2 x3 : V) : shL spec_l39List_r1 Q [x0, x1, x2, x3] = (
  Q .ret [x0, x2, x3]) := by kernel_rfl

def spec_l39List_L : L := .seq (.rg []) (.seq (.rg [⟨[], .lst [.sc, .sc, .sc] true 0, [], 1⟩]) (.seq (.rg [⟨[], .call F_l01Below 0 1, [.v 0, .v 1, .v 2, .k (.int .i64 14)], 3⟩]) (.seq (.seq (.rg []) (.block 0 (.seq (.tup [.v 4, .k (.int .i64 0), .v 3, .v 0, .v 5, .v 6]) (.loop (spec_l39List_b0))))) (spec_l39List_r1))))
theorem spec_l39List_L_sh (Q : QT) (x0 x1 x2 : V) : shL spec_l39List_L Q [x0, x1, x2] = (
  P1 (.lst [.sc, .sc, .sc] true 0) [] fun v0 =>
  P3 (.call F_l01Below 0 1) [x0, x1, x2, .int .i64 14] fun v1 v2 v3 =>
  shL (.loop spec_l39List_b0) (qB 0 (qS (shL spec_l39List_r1 Q) Q)) [v1, .int .i64 0, v0, x0, v2, v3]) := by kernel_rfl
def spec_l39List_S : Sig := ⟨[.ptr [.sl [.sc], .sc, .sc]], [(false, [.sl [.sc, .sc, .sc]])], F_l39List⟩
def spec_l39List_hs : List NF := [⟨[(3, .sc false [.own 64])], [(64, true, [.sc, .sc, .sc])], [(0, [.ro [.sc], .sc, .sc])], 65⟩, ⟨[(0, .ptr 0 0), (3, .sc false [.own 64]), (4, .sc false [.sc]), (5, .sc false [.sc])], [(64, true, [.sc, .sc, .sc])], [(0, [.ro [.sc], .sc, .sc])], 65⟩, ⟨[(0, .ptr 0 0), (3, .sc false [.own 64]), (4, .sc false [.sc]), (5, .sc false [.sc])], [(64, true, [.sc, .sc, .sc])], [(0, [.ro [.sc], .sc, .sc])], 65⟩]

def spec_DrawActs_L : L := .seq (.rg []) (.seq (.rg [⟨[], .call F_l01New 0 3, [.v 0], 3⟩]) (.seq (.rg [⟨[], .call F_l39Workshop 0 10, [.v 1, .v 2, .v 3], 12⟩]) (.seq (.rg [⟨[], .call F_l39List 0 1, [.v 1, .v 14, .v 15], 3⟩]) (.ret [.v 4, .v 5, .v 6, .v 7, .v 8, .v 9, .v 10, .v 11, .v 12, .v 13, .v 16]))))
theorem spec_DrawActs_L_sh (Q : QT) (x0 : V) : shL spec_DrawActs_L Q [x0] = (
  P3 (.call F_l01New 0 3) [x0] fun v0 v1 v2 =>
  P12 (.call F_l39Workshop 0 10) [v0, v1, v2] fun v3 v4 v5 v6 v7 v8 v9 v10 v11 v12 v13 v14 =>
  P3 (.call F_l39List 0 1) [v0, v13, v14] fun v15 _ _ =>
  Q .ret [v3, v4, v5, v6, v7, v8, v9, v10, v11, v12, v15]) := by kernel_rfl
def spec_DrawActs_S : Sig := ⟨[.val false [.sl [.sc]]], [(true, [.sc, .sc, .sl [.sc, .sc], .sl [.sl [.sc, .sc]], .sl [.sc], .sc, .sc, .sc, .sc, .sc]), (false, [.sl [.sc, .sc, .sc]])], F_DrawActs⟩
def spec_DrawActs_hs : List NF := []

end
end Go.Mw

/- Drawn benches, workshops, acts. -/
namespace Go.Mw
theorem spec_l01Once_ok : ∀ ds outs, F_l01Once ds = some outs → shL spec_l01Once_L (qRet outs) ds := F_l01Once_elim fun x n hp => by
  rw [spec_l01Once_L_sh, q_below (b := x.b) x rfl hp.1 hp.2]
  simp
  rfl
theorem q_once {b : List UInt8} (c : Cur) {n : Int} {m : Nat} {k : V → V → V → Prop} (hb : c.b = b) (h : 0 ≤ c.i) (hl : b.length ≤ 1048576) :
    P3 (.call F_l01Once 0 m) [vL I1 vY b, .int .i64 c.i, .int .i64 c.h, .int .i64 n] k ↔ k (.bool (decide (cBelow c n = 0))) (.int .i64 (cAfter c n).i) (.int .i64 (cAfter c n).h) := by
  subst hb; exact p_l01Once ⟨h, hl⟩

/-! benches -/
theorem stepTo_ok {b : Bench} {c : Cyl} {d : Bool} (h : benchOk b = true) : benchOk (stepTo b c d) = true := by
  unfold stepTo
  split
  · rename_i hk
    simp only [stepOk, Bool.and_eq_true] at hk
    exact hk.2.2
  · exact h
theorem stepTo_st {b : Bench} {c : Cyl} {d : Bool} (hs : c.s = b.s) (ht : c.t = b.t) : (stepTo b c d).s = b.s ∧ (stepTo b c d).t = b.t := by
  unfold stepTo
  split
  · exact ⟨hs, ht⟩
  · exact ⟨rfl, rfl⟩
theorem stepTo_len {b : Bench} {c : Cyl} {d : Bool} : (stepTo b c d).o.length ≤ b.o.length + 1 := by
  unfold stepTo
  split
  · simp [stepped]
  · omega
theorem stepTo_plen {b : Bench} {c : Cyl} {d : Bool} {n : Nat} (h1 : c.p.length ≤ n) (h2 : b.p.length ≤ n) : (stepTo b c d).p.length ≤ n := by
  unfold stepTo
  split
  · exact h1
  · exact h2
theorem addTo_eq {c : Cyl} {p : T2} : (addTo c p).s = c.s ∧ (addTo c p).t = c.t ∧ (addTo c p).p.length ≤ c.p.length + 1 := by
  unfold addTo
  split
  · exact ⟨rfl, rfl, putPin_len _ _⟩
  · exact ⟨rfl, rfl, by omega⟩

theorem missing_self (l : List T2) : missing l l = 0 := by
  unfold missing
  have : l.filter (fun p => decide (p ∉ l)) = [] := by simp
  rw [this]; rfl
theorem missing_nonneg (a b : List T2) : 0 ≤ missing a b := by unfold missing; omega
theorem missing_mono_r {q a b : List T2} (h : ∀ x ∈ a, x ∈ b) : missing q b ≤ missing q a := by
  unfold missing
  have : (q.filter fun p => decide (p ∉ b)).length ≤ (q.filter fun p => decide (p ∉ a)).length := by
    rw [← List.countP_eq_length_filter, ← List.countP_eq_length_filter]
    refine List.countP_mono_left fun x _ hx => ?_
    simp only [decide_eq_true_eq] at hx ⊢
    exact fun h2 => hx (h x h2)
  omega
theorem missing_perm {a b q : List T2} (h : a.Perm b) : missing a q = missing b q := by
  unfold missing
  rw [(h.filter _).length_eq]
theorem missing_append (a b q : List T2) : missing (a ++ b) q = missing a q + missing b q := by
  unfold missing
  rw [List.filter_append, List.length_append]; omega
theorem missing_one (x : T2) (q : List T2) : missing [x] q ≤ 1 := by
  unfold missing
  have := List.length_filter_le (fun p => decide (p ∉ q)) [x]
  simp only [List.length_singleton] at this
  omega
theorem missing_drop1 {q : List T2} (x : T2) (a b : List T2) (hq : q.Nodup) : missing q (a ++ b) ≤ missing q (a ++ x :: b) + 1 := by
  unfold missing
  induction q with
  | nil => simp
  | cons y r ih =>
    have hr := ih (List.nodup_cons.1 hq).2
    simp only [List.filter_cons]
    by_cases e : y = x
    · subst e
      have hy : y ∉ r := (List.nodup_cons.1 hq).1
      have h1 : decide (y ∉ a ++ y :: b) = false := by simp
      have h2 : r.filter (fun p => decide (p ∉ a ++ b)) = r.filter (fun p => decide (p ∉ a ++ y :: b)) := by
        refine List.filter_congr fun z hz => ?_
        have : z ≠ y := fun h => hy (h ▸ hz)
        simp [this]
      rw [h1, h2]
      simp only [Bool.false_eq_true, if_false]
      split
      · simp only [List.length_cons]; omega
      · omega
    · have h1 : decide (y ∉ a ++ x :: b) = decide (y ∉ a ++ b) := by simp [e]
      rw [h1]
      split
      · simp only [List.length_cons]; omega
      · exact hr
theorem rising_pair {l : List T2} (h : rising l = true) : l.Pairwise (fun x y => pinLess x y = true) := by
  induction l with
  | nil => exact .nil
  | cons a r ih => exact .cons (rising_less h) (ih (rising_cons.1 h).2)
theorem rising_nodup {l : List T2} (h : rising l = true) : l.Nodup :=
  (rising_pair h).imp fun {a b} h e => by subst e; rw [pinLess_irrefl] at h; cases h
/-- Two pin lists that lie one change apart. -/
def Near (c b : List T2) : Prop := ∀ q : List T2, q.Nodup → missing c q + missing q c ≤ missing b q + missing q b + 1
theorem near_put {l : List T2} {y : T2} (hy : y ∉ l) : Near (putPin l y) l := by
  intro q hq
  have hp := putPin_perm hy
  rw [missing_perm hp, missing_append]
  have h1 := missing_one y q
  have h2 : missing q (putPin l y) ≤ missing q l := missing_mono_r fun x hx => (hp.mem_iff).2 (by simp [hx])
  omega
theorem near_pull {l : List T2} {k : Nat} (hk : k < l.length) : Near (l.take k ++ l.drop (k + 1)) l := by
  intro q hq
  have e : l = l.take k ++ l[k] :: l.drop (k + 1) := by rw [List.getElem_cons_drop hk, List.take_append_drop]
  have h1 := missing_drop1 l[k] (l.take k) (l.drop (k + 1)) hq
  rw [← e] at h1
  have h2 : missing (l.take k ++ l.drop (k + 1)) q ≤ missing l q := by
    have h3 : missing l q = missing (l.take k ++ l[k] :: l.drop (k + 1)) q := by rw [← e]
    have h4 : missing (l.take k ++ l[k] :: l.drop (k + 1)) q = missing (l.take k) q + (missing [l[k]] q + missing (l.drop (k + 1)) q) := by
      rw [← missing_append, ← missing_append]; rfl
    have h5 := missing_nonneg [l[k]] q
    rw [h3, h4, missing_append]; omega
  omega
/-- The pins have changed from the oldest list by at most as many as there are steps. -/
def Chg (b : Bench) : Prop := ∀ q, b.o.head? = some q → missing b.p q + missing q b.p ≤ b.o.length
theorem chg_stepped {b : Bench} {c : Cyl} (hb : benchOk b = true) (hn : Near c.p b.p) (h : Chg b) : Chg (stepped b c) := by
  intro q hq
  obtain ⟨h1, h2, h3⟩ := (benchOk_iff b).1 hb
  simp only [stepped] at hq ⊢
  cases ho : b.o with
  | nil =>
    rw [ho] at hq
    simp only [List.nil_append, List.head?_cons, Option.some.injEq] at hq
    subst hq
    have := hn b.p (rising_nodup (cylOk_rising h1))
    rw [missing_self] at this
    simp; omega
  | cons x r =>
    rw [ho] at hq
    simp only [List.cons_append, List.head?_cons, Option.some.injEq] at hq
    subst hq
    have h4 := h x (by rw [ho]; rfl)
    have h5 := hn x (rising_nodup (cylOk_rising (h3 x (by simp [ho]))))
    rw [ho] at h4
    simp only [List.length_cons, List.length_append, List.length_nil] at h4 ⊢
    omega
theorem chg_stepTo {b : Bench} {c : Cyl} {d : Bool} (hb : benchOk b = true) (hn : d = true → Near c.p b.p) (h : Chg b) : Chg (stepTo b c d) := by
  unfold stepTo
  split
  · rename_i hk
    simp only [Bool.and_eq_true] at hk
    exact chg_stepped hb (hn hk.1) h
  · exact h
theorem chg_set {b : Bench} {p : T2} (hb : benchOk b = true) (h : Chg b) : Chg (setPin b p) := by
  refine chg_stepTo hb (fun hd => ?_) h
  have hd' := hd
  simp only [addOk, Bool.and_eq_true, Bool.not_eq_true', decide_eq_false_iff_not] at hd'
  simp only [addTo, hd, if_true]
  exact near_put hd'.2.1
theorem chg_take {b : Bench} {k : Int} (hb : benchOk b = true) (h : Chg b) : Chg (takePin b k) := by
  refine chg_stepTo hb (fun hd => ?_) h
  have hd' := hd
  simp only [pullOk, Bool.and_eq_true, decide_eq_true_eq] at hd'
  have h1 : (cylOk b.cyl && (decide (0 ≤ k) && decide (k < b.cyl.p.length))) = true := hd
  simp only [pulled, pullPin, h1, if_true]
  exact near_pull (by simp only [Bench.cyl] at hd' ⊢; omega)

/-- What is known of a drawn bench behind k steps. -/
structure BenchInv (b : Bench) (s t : Int) (k : Nat) : Prop where
  ok : benchOk b = true
  st : b.s = s ∧ b.t = t
  len : b.p.length ≤ 9 + k
  old : b.o.length ≤ k
  chg : Chg b
theorem BenchInv.step {b : Bench} {s t : Int} {k : Nat} (h : BenchInv b s t k) (x : Cur) : BenchInv (benchStep b x).1 s t (k + 1) := by
  unfold benchStep
  split
  · have e := stepTo_st (b := b) (c := pulled b (cBelow (cAfter x 3) 6)) (d := pullOk b.cyl (cBelow (cAfter x 3) 6)) rfl rfl
    have h1 := pullPin_len b.cyl (cBelow (cAfter x 3) 6)
    have h2 := h.len
    have h3 := h.old
    exact ⟨stepTo_ok h.ok, ⟨e.1.trans h.st.1, e.2.trans h.st.2⟩, stepTo_plen (Nat.le_trans h1 (by simp only [Bench.cyl]; omega)) (by omega), Nat.le_trans stepTo_len (by omega), chg_take h.ok h.chg⟩
  · generalize (⟨cBelow (cAfter x 3) b.t, cBelow (cAfter (cAfter x 3) b.t) b.s⟩ : T2) = p
    have a := addTo_eq (c := b.cyl) (p := p)
    have e := stepTo_st (b := b) (c := addTo b.cyl p) (d := addOk b.cyl p) a.1 a.2.1
    have h2 := h.len
    have h3 := h.old
    exact ⟨stepTo_ok h.ok, ⟨e.1.trans h.st.1, e.2.trans h.st.2⟩, stepTo_plen (Nat.le_trans a.2.2 (by simp only [Bench.cyl]; omega)) (by omega), Nat.le_trans stepTo_len (by omega), chg_set h.ok h.chg⟩
theorem benchStep_b (b : Bench) (x : Cur) : (benchStep b x).2.b = x.b := by unfold benchStep; split <;> simp
theorem benchStep_i {b : Bench} {x : Cur} (h : 0 ≤ x.i) : 0 ≤ (benchStep b x).2.i := by
  unfold benchStep
  split
  · exact cAfter_i (cAfter_i h)
  · exact cAfter_i (cAfter_i (cAfter_i h))
theorem bench_inv {x : Cur} (hi : 0 ≤ x.i) : ∀ k, BenchInv (benchTo x k).1 (cylS x) (cylT x) k ∧ (benchTo x k).2.b = x.b ∧ 0 ≤ (benchTo x k).2.i
  | 0 => by
    have h := cylOf_ok hi
    have h2 := cylEnd_b hi
    refine ⟨⟨(benchOk_iff _).2 ⟨h.1, by simp [benchTo], by simp [benchTo]⟩, ⟨rfl, rfl⟩, h.2, by simp [benchTo], fun q hq => by simp [benchTo] at hq⟩, ?_, cAfter_i h2.2⟩
    show (cAfter (cylEnd x) 7).b = _
    rw [cAfter_b]; exact h2.1
  | k + 1 => by
    obtain ⟨h1, h2, h3⟩ := bench_inv hi k
    exact ⟨h1.step _, (benchStep_b _ _).trans h2, benchStep_i h3⟩
theorem benchN_le (x : Cur) : benchN x ≤ 6 := by
  have := cBelow_range (cylEnd x) (show (0 : Int) < 7 by omega)
  unfold benchN; omega
theorem benchOf_inv {x : Cur} (hi : 0 ≤ x.i) : BenchInv (benchOf x) (cylS x) (cylT x) 6 := by
  have h := (bench_inv hi (benchN x)).1
  have h2 := benchN_le x
  exact ⟨h.ok, h.st, by have := h.len; simp only [benchOf]; omega, by have := h.old; simp only [benchOf]; omega, h.chg⟩
theorem benchEnd_b {x : Cur} (hi : 0 ≤ x.i) : (benchEnd x).b = x.b ∧ 0 ≤ (benchEnd x).i := (bench_inv hi (benchN x)).2
theorem q_cyl {b : List UInt8} (c : Cur) {m : Nat} {k : V → V → V → V → V → Prop} (hb : c.b = b) (h : 0 ≤ c.i) (hl : b.length ≤ 1048576) :
    P5 (.call F_l06Cylinder 0 m) [vL I1 vY b, .int .i64 c.i, .int .i64 c.h] k ↔ k (.int .i64 (cylOf c).s) (.int .i64 (cylOf c).t) (vL I2 v2 (cylOf c).p) (.int .i64 (cylEnd c).i) (.int .i64 (cylEnd c).h) := by
  subst hb; exact p_l06Cylinder ⟨h, hl⟩
theorem spec_l37Bench_ok : ∀ ds outs, F_l37Bench ds = some outs → shL spec_l37Bench_L (qRet outs) ds := F_l37Bench_elim fun x hp => by
  obtain ⟨i0, hb⟩ := hp
  have hE := cylEnd_b i0
  have hr := cBelow_range (cylEnd x) (show (0 : Int) < 7 by omega)
  rw [spec_l37Bench_L_sh, q_cyl (b := x.b) x rfl i0 hb, q_below (b := x.b) (cylEnd x) hE.1 hE.2 hb]
  refine loop_upto (benchN x) (fun k => [.int .i64 (cBelow (cylEnd x) 7 - k), vL I2 v2 (benchTo x k).1.p, vL IL2 vLL2 (benchTo x k).1.o, vL I1 vY x.b, .int .i64 (benchTo x k).2.i, .int .i64 (benchTo x k).2.h, .int .i64 0, .int .i64 0, .int .i64 (benchTo x k).1.s, .int .i64 (benchTo x k).1.t])
    (by intro i j hi hj h; simp only [List.cons.injEq, V.int.injEq, true_and] at h; omega) (fun _ => True) (by simp [benchTo]; rfl) trivial ?_
  intro k hk _
  obtain ⟨g1, g2, g3⟩ := bench_inv i0 k
  have hf : (benchTo x k).1.p.length ≤ 1048576 ∧ fitLL (benchTo x k).1.o := ⟨(bSmall_of_ok g1.ok).1, (bSmall_of_ok g1.ok).2.1⟩
  have hN : (benchN x : Int) = cBelow (cylEnd x) 7 := by unfold benchN; omega
  have e4 : benchTo x (k + 1) = benchStep (benchTo x k).1 (benchTo x k).2 := rfl
  rw [spec_l37Bench_b0_sh]
  simp only [P1_gtr, ifB_bool, decide_eq_true_eq, decide_eq_false_iff_not]
  refine ⟨fun h => ?_, fun h => ?_⟩
  · rw [q_once (b := x.b) _ g2 g3 hb]
    have hw : IntKind.i64.wrap (cBelow (cylEnd x) 7 - (k : Int) - 1) = cBelow (cylEnd x) 7 - ((k + 1 : Nat) : Int) := by rw [wrap_id (by omega) (by omega)]; omega
    simp only [ifB_bool, decide_eq_true_eq, decide_eq_false_iff_not, P1_sub, hw]
    refine ⟨fun h3 => ?_, fun h3 => ?_⟩
    · rw [q_below (b := x.b) (cAfter _ _) (by simp [g2]) (cAfter_i g3) hb]
      rw [p_TakePin (x_s := (benchTo x k).1.s) (x_t := (benchTo x k).1.t) (x_p := (benchTo x k).1.p) (x_o := (benchTo x k).1.o) hf]
      rw [e4]
      simp only [benchStep, h3, if_true]
      exact ⟨by omega, rfl, trivial⟩
    · rw [q_below (b := x.b) (cAfter _ _) (by simp [g2]) (cAfter_i g3) hb, q_below (b := x.b) (cAfter (cAfter _ _) _) (by simp [g2]) (cAfter_i (cAfter_i g3)) hb]
      rw [p_SetPin (x_s := (benchTo x k).1.s) (x_t := (benchTo x k).1.t) (x_p := (benchTo x k).1.p) (x_o := (benchTo x k).1.o) (y_a := cBelow (cAfter (benchTo x k).2 3) (benchTo x k).1.t) (y_b := cBelow (cAfter (cAfter (benchTo x k).2 3) (benchTo x k).1.t) (benchTo x k).1.s) hf]
      rw [e4]
      simp only [benchStep, h3, if_false]
      exact ⟨by omega, rfl, trivial⟩
  · have e : k = benchN x := by omega
    subst e
    simp [spec_l37Bench_r1_sh, benchOf, benchEnd]
end Go.Mw

/- Drawn springs, workshops, acts. -/
namespace Go.Mw
theorem springMost_r (x : Cur) : 1 ≤ springMost x ∧ springMost x ≤ 20 := by
  have := cBelow_range x (show (0 : Int) < 20 by omega)
  unfold springMost; omega
theorem springEnd_b (x : Cur) : (springEnd x).b = x.b := by simp [springEnd]
theorem springEnd_i {x : Cur} (h : 0 ≤ x.i) : 0 ≤ (springEnd x).i := cAfter_i (cAfter_i (cAfter_i h))
theorem spec_l12Spring_ok : ∀ ds outs, F_l12Spring ds = some outs → shL spec_l12Spring_L (qRet outs) ds := F_l12Spring_elim fun x hp => by
  obtain ⟨i0, hb⟩ := hp
  have h1 := springMost_r x
  have h3 := cBelow_range (cAfter (cAfter x 20) (springMost x + 1)) (show (0 : Int) < 200 by omega)
  have w1 : IntKind.i64.wrap (1 + cBelow x 20) = springMost x := wrap_id (by unfold springMost at h1; omega) (by unfold springMost at h1; omega)
  have w2 : IntKind.i64.wrap (springMost x + 1) = springMost x + 1 := wrap_id (by omega) (by omega)
  rw [spec_l12Spring_L_sh, q_below (b := x.b) x rfl i0 hb]
  simp only [P1_add, w1, w2]
  rw [q_below (b := x.b) (cAfter x 20) (by simp) (cAfter_i i0) hb, q_below (b := x.b) (cAfter (cAfter x 20) _) (by simp) (cAfter_i (cAfter_i i0)) hb]
  have w3 : IntKind.i64.wrap (3 * cBelow (cAfter (cAfter x 20) (springMost x + 1)) 200) = 3 * cBelow (cAfter (cAfter x 20) (springMost x + 1)) 200 := wrap_id (by omega) (by omega)
  have w4 : IntKind.i64.wrap (1 + 3 * cBelow (cAfter (cAfter x 20) (springMost x + 1)) 200) = 1 + 3 * cBelow (cAfter (cAfter x 20) (springMost x + 1)) 200 := wrap_id (by omega) (by omega)
  simp [w3, w4, springOf, springEnd]

/-! combs -/
theorem combStep_r (x : Cur) : 0 ≤ (([0, 1, 2, 4] : List Int)[(cBelow x 4).toNat]?).getD 0 ∧ (([0, 1, 2, 4] : List Int)[(cBelow x 4).toNat]?).getD 0 ≤ 4 := by
  have h := cBelow_range x (show (0 : Int) < 4 by omega)
  generalize cBelow x 4 = v at *
  obtain rfl | rfl | rfl | rfl : v = 0 ∨ v = 1 ∨ v = 2 ∨ v = 3 := by omega
  all_goals simp
theorem upward_snoc {l : List Int} {y : Int} (h : upward l = true) (hl : ∀ x ∈ l, x ≤ y) : upward (l ++ [y]) = true := by
  induction l with
  | nil => rfl
  | cons a r ih =>
    cases r with
    | nil => simp [upward, hl a (by simp)]
    | cons b s =>
      simp only [upward, Bool.and_eq_true] at h
      have := ih h.2 (fun x hx => hl x (by simp [hx]))
      simp only [List.cons_append, upward, Bool.and_eq_true]
      exact ⟨h.1, this⟩
theorem comb_inv {x : Cur} (hi : 0 ≤ x.i) : ∀ k, (combTo x k).2.b = x.b ∧ 0 ≤ (combTo x k).2.i ∧ (combTo x k).1.1.length = k ∧ 10 ≤ (combTo x k).1.2 ∧ (combTo x k).1.2 ≤ 10 + 4 * k ∧
    (∀ y ∈ (combTo x k).1.1, 0 ≤ y ∧ y ≤ (combTo x k).1.2) ∧ upward (combTo x k).1.1 = true
  | 0 => ⟨rfl, hi, rfl, by simp [combTo], by simp [combTo], by simp [combTo], rfl⟩
  | k + 1 => by
    obtain ⟨h1, h2, h3, h4, h5, h6, h7⟩ := comb_inv hi k
    have r := combStep_r (combTo x k).2
    refine ⟨by simp [combTo, h1], cAfter_i h2, by simp [combTo, h3], ?_, ?_, ?_, upward_snoc h7 fun y hy => (h6 y hy).2⟩
    · simp only [combTo]; omega
    · simp only [combTo]; omega
    · intro y hy
      simp only [combTo, List.mem_append, List.mem_singleton] at hy ⊢
      rcases hy with hy | rfl
      · have := h6 y hy; omega
      · omega
/-! workshops -/
theorem shopCur_b {x : Cur} (hi : 0 ≤ x.i) : (shopCur x).b = x.b ∧ 0 ≤ (shopCur x).i := by
  have h := benchEnd_b hi
  exact ⟨by simp [shopCur, springEnd_b, h.1], cAfter_i (cAfter_i (springEnd_i h.2))⟩
theorem benchOf_t {x : Cur} (hi : 0 ≤ x.i) : (4 ≤ (benchOf x).s ∧ (benchOf x).s ≤ 24) ∧ (1 ≤ (benchOf x).t ∧ (benchOf x).t ≤ 8) := by
  have h := (benchOf_inv hi).st
  have r := cyl_r x
  omega
theorem shopEnd_b {x : Cur} (hi : 0 ≤ x.i) : (shopEnd x).b = x.b ∧ 0 ≤ (shopEnd x).i := by
  have h := shopCur_b hi
  have h2 := comb_inv h.2 (benchOf x).t.toNat
  exact ⟨h2.1.trans h.1, h2.2.1⟩
theorem q_bench {b : List UInt8} (c : Cur) {m : Nat} {k : V → V → V → V → V → V → Prop} (hb : c.b = b) (h : 0 ≤ c.i) (hl : b.length ≤ 1048576) :
    P6 (.call F_l37Bench 0 m) [vL I1 vY b, .int .i64 c.i, .int .i64 c.h] k ↔ k (.int .i64 (benchOf c).s) (.int .i64 (benchOf c).t) (vL I2 v2 (benchOf c).p) (vL IL2 vLL2 (benchOf c).o) (.int .i64 (benchEnd c).i) (.int .i64 (benchEnd c).h) := by
  subst hb; exact p_l37Bench ⟨h, hl⟩
theorem q_spring {b : List UInt8} (c : Cur) {m : Nat} {k : V → V → V → V → V → Prop} (hb : c.b = b) (h : 0 ≤ c.i) (hl : b.length ≤ 1048576) :
    P5 (.call F_l12Spring 0 m) [vL I1 vY b, .int .i64 c.i, .int .i64 c.h] k ↔ k (.int .i64 (springOf c).a) (.int .i64 (springOf c).b) (.int .i64 (springOf c).c) (.int .i64 (springEnd c).i) (.int .i64 (springEnd c).h) := by
  subst hb; exact p_l12Spring ⟨h, hl⟩
@[simp] theorem P1_lstI4 {a b c d : Int} {k : V → Prop} : P1 (.lst [.sc] false 4) [.int .i64 a, .int .i64 b, .int .i64 c, .int .i64 d] k ↔ k (vL I1 v1 [a, b, c, d]) := P1_of (by simp [Prim.run, aksOk, akOk, chunk, V.pack, vL, v1]) k
theorem spec_l38Workshop_ok : ∀ ds outs, F_l38Workshop ds = some outs → shL spec_l38Workshop_L (qRet outs) ds := F_l38Workshop_elim fun x hp => by
  obtain ⟨i0, hb⟩ := hp
  have hE := benchEnd_b i0
  have hS := springEnd_i hE.2
  have hC := shopCur_b i0
  have ht := benchOf_t i0
  rw [spec_l38Workshop_L_sh, q_bench (b := x.b) x rfl i0 hb, q_spring (b := x.b) _ hE.1 hE.2 hb]
  simp only [P1_lstI4, P1_lstI3]
  rw [q_pick (b := x.b) (springEnd (benchEnd x)) (by rw [springEnd_b, hE.1]) hS hb (by simp) (by simp)]
  rw [q_pick (b := x.b) (cAfter (springEnd (benchEnd x)) _) (by rw [cAfter_b, springEnd_b, hE.1]) (cAfter_i hS) hb (by simp) (by simp)]
  have e4 : (([0, 1, 30, 999] : List Int).length : Int) = 4 := rfl
  have e3 : (([0, 12, 999999] : List Int).length : Int) = 3 := rfl
  simp only [e4, e3]
  refine loop_upto (benchOf x).t.toNat (fun k => [.int .i64 (combTo (shopCur x) k).1.2, .int .i64 k, vL I2 v2 (benchOf x).p, vL IL2 vLL2 (benchOf x).o, vL I1 v1 (combTo (shopCur x) k).1.1, vL I1 vY x.b, .int .i64 (combTo (shopCur x) k).2.i, .int .i64 (combTo (shopCur x) k).2.h,
      .int .i64 0, .int .i64 0, .int .i64 0, .int .i64 0, .int .i64 0, .int .i64 0, .int .i64 0, .int .i64 (benchOf x).s, .int .i64 (benchOf x).t, .int .i64 (springOf (benchEnd x)).a, .int .i64 (springOf (benchEnd x)).b, .int .i64 (springOf (benchEnd x)).c, .int .i64 (shopMoney x), .int .i64 (shopPlayed x)])
    (by intro i j hi hj h; simp only [List.cons.injEq, V.int.injEq, true_and] at h; omega) (fun _ => True) (by simp [combTo]; exact ⟨rfl, rfl, rfl, rfl⟩) trivial ?_
  intro k hk _
  obtain ⟨g1, g2, g3, g4, g5, -, -⟩ := comb_inv hC.2 k
  have r := combStep_r (combTo (shopCur x) k).2
  rw [spec_l38Workshop_b0_sh]
  simp only [P1_lss, ifB_bool, decide_eq_true_eq, decide_eq_false_iff_not]
  refine ⟨fun h => ?_, fun h => ?_⟩
  · simp only [P1_lstI4]
    have hw : IntKind.i64.wrap ((k : Int) + 1) = ((k + 1 : Nat) : Int) := by rw [wrap_id (by omega) (by omega)]; omega
    have hw2 : IntKind.i64.wrap ((combTo (shopCur x) k).1.2 + (([0, 1, 2, 4] : List Int)[(cBelow (combTo (shopCur x) k).2 4).toNat]?).getD 0) = (combTo (shopCur x) (k + 1)).1.2 := wrap_id (by omega) (by omega)
    simp only [P1_lst1, P1_appI_, g3, List.length_singleton]
    refine ⟨by omega, ?_⟩
    rw [q_pick (b := x.b) _ (g1.trans hC.1) g2 hb (by simp) (by simp)]
    have e4' : (([0, 1, 2, 4] : List Int).length : Int) = 4 := rfl
    simp only [e4', P1_add, hw, hw2]
    simp [combTo]
    omega
  · have e : k = (benchOf x).t.toNat := by omega
    subst e
    simp [spec_l38Workshop_r1_sh, shopOf, shopEnd]
end Go.Mw

/- Drawn acts and scenarios; replays. -/
namespace Go.Mw
theorem actDraw_b (x : Cur) : (actDraw x).2.b = x.b := by unfold actDraw; split <;> (try split) <;> (try split) <;> (try split) <;> (try split) <;> simp
theorem actDraw_i {x : Cur} (h : 0 ≤ x.i) : 0 ≤ (actDraw x).2.i := by
  unfold actDraw
  split
  · exact cAfter_i (cAfter_i (cAfter_i h))
  · split
    · exact cAfter_i (cAfter_i h)
    · split
      · exact cAfter_i h
      · split
        · exact cAfter_i (cAfter_i h)
        · split <;> exact cAfter_i h
theorem q_actB {b : List UInt8} (c : Cur) {n : Int} {m : Nat} {k : V → V → V → Prop} (hb : c.b = b) (h : 0 ≤ c.i) (hl : b.length ≤ 1048576) : P3 (.call F_l01Below 0 m) [vL I1 vY b, .int .i64 (cAfter c 9).i, .int .i64 (cAfter c 9).h, .int .i64 n] k ↔ k (.int .i64 (cBelow (cAfter c 9) n)) (.int .i64 (cAfter (cAfter c 9) n).i) (.int .i64 (cAfter (cAfter c 9) n).h) :=
  q_below (b := b) (cAfter c 9) (by simpa using hb) (cAfter_i h) hl
theorem spec_l39Act_ok : ∀ ds outs, F_l39Act ds = some outs → shL spec_l39Act_L (qRet outs) ds := F_l39Act_elim fun x hp => by
  obtain ⟨i0, hb⟩ := hp
  have hr := cBelow_range x (show (0 : Int) < 9 by omega)
  rw [spec_l39Act_L_sh, q_below (b := x.b) x rfl i0 hb]
  generalize hv : cBelow x 9 = v at *
  obtain h | rfl | rfl | rfl | h | rfl : (v = 0 ∨ v = 1 ∨ v = 2) ∨ v = 3 ∨ v = 4 ∨ v = 5 ∨ (v = 6 ∨ v = 7) ∨ v = 8 := by omega
  · have e : actDraw x = (⟨1, cBelow (cAfter x 9) 4, cBelow (cAfter (cAfter x 9) 4) 16⟩, cAfter (cAfter (cAfter x 9) 4) 16) := by
      unfold actDraw; rw [hv, if_pos (by omega)]
    rw [e]
    rcases h with rfl | rfl | rfl <;> simp [spec_l39Act_r0_sh, q_actB (b := x.b) x rfl i0 hb, q_below (b := x.b) (cAfter (cAfter x 9) 4) (by simp) (cAfter_i (cAfter_i i0)) hb]
  · have e : actDraw x = (⟨2, cBelow (cAfter x 9) 5, 0⟩, cAfter (cAfter x 9) 5) := by unfold actDraw; rw [hv]; rfl
    rw [e]
    simp [spec_l39Act_r0_sh, q_actB (b := x.b) x rfl i0 hb]
  · have e : actDraw x = (⟨3, 0, 0⟩, cAfter x 9) := by unfold actDraw; rw [hv]; rfl
    rw [e]
    simp [spec_l39Act_r0_sh]
  · have e : actDraw x = (⟨4, cBelow (cAfter x 9) 8, 0⟩, cAfter (cAfter x 9) 8) := by unfold actDraw; rw [hv]; rfl
    rw [e]
    simp [spec_l39Act_r0_sh, q_actB (b := x.b) x rfl i0 hb]
  · have e : actDraw x = (⟨5, 0, 0⟩, cAfter x 9) := by unfold actDraw; rw [hv]; rcases h with rfl | rfl <;> rfl
    rw [e]
    rcases h with rfl | rfl <;> simp [spec_l39Act_r0_sh]
  · have e : actDraw x = (⟨6, 0, 0⟩, cAfter x 9) := by unfold actDraw; rw [hv]; rfl
    rw [e]
    simp [spec_l39Act_r0_sh, spec_l39Act_r1_sh, spec_l39Act_r2_sh]
theorem q_act {b : List UInt8} (c : Cur) {m : Nat} {k : V → V → V → V → V → Prop} (hb : c.b = b) (h : 0 ≤ c.i) (hl : b.length ≤ 1048576) :
    P5 (.call F_l39Act 0 m) [vL I1 vY b, .int .i64 c.i, .int .i64 c.h] k ↔ k (.int .i64 (actDraw c).1.a) (.int .i64 (actDraw c).1.b) (.int .i64 (actDraw c).1.c) (.int .i64 (actDraw c).2.i) (.int .i64 (actDraw c).2.h) := by
  subst hb; exact p_l39Act ⟨h, hl⟩
theorem act_inv {x : Cur} (hi : 0 ≤ x.i) : ∀ k, (actTo x k).2.b = x.b ∧ 0 ≤ (actTo x k).2.i ∧ (actTo x k).1.length = k
  | 0 => ⟨rfl, hi, rfl⟩
  | k + 1 => by
    obtain ⟨h1, h2, h3⟩ := act_inv hi k
    exact ⟨(actDraw_b _).trans h1, actDraw_i h2, by simp [actTo, h3]⟩
theorem actCnt_le (x : Cur) : actCnt x ≤ 13 := by
  have := cBelow_range x (show (0 : Int) < 14 by omega)
  unfold actCnt; omega
theorem actsOf_len {x : Cur} (hi : 0 ≤ x.i) : (actsOf x).length ≤ 13 := by
  have h := (act_inv (x := cAfter x 14) (cAfter_i hi) (actCnt x)).2.2
  have h2 := actCnt_le x
  unfold actsOf; omega
theorem spec_l39List_ok : ∀ ds outs, F_l39List ds = some outs → shL spec_l39List_L (qRet outs) ds := F_l39List_elim fun x hp => by
  obtain ⟨i0, hb⟩ := hp
  have r := cBelow_range x (show (0 : Int) < 14 by omega)
  have w1 : cBelow x 14 = (actCnt x : Int) := by simp only [actCnt]; omega
  have hN := actCnt_le x
  rw [spec_l39List_L_sh]
  simp only [P1_lst0]
  rw [q_below (b := x.b) x rfl i0 hb, w1]
  refine loop_upto (actCnt x) (fun k => [.int .i64 (actCnt x), .int .i64 k, vL I3 v3 (actTo (cAfter x 14) k).1, vL I1 vY x.b, .int .i64 (actTo (cAfter x 14) k).2.i, .int .i64 (actTo (cAfter x 14) k).2.h]) (by intro i j _ _ h; simp at h; omega) (fun _ => True) (by simp [actTo]) trivial ?_
  intro k hk _
  obtain ⟨g1, g2, g3⟩ := act_inv (x := cAfter x 14) (cAfter_i i0) k
  rw [cAfter_b] at g1
  rw [spec_l39List_b0_sh]
  simp only [P1_lss, ifB_bool, decide_eq_true_eq, decide_eq_false_iff_not]
  refine ⟨fun h => ?_, fun h => ?_⟩
  · rw [q_act (b := x.b) _ g1 g2 hb]
    have hw : IntKind.i64.wrap ((k : Int) + 1) = ((k + 1 : Nat) : Int) := by rw [wrap_id (by omega) (by omega)]; omega
    simp only [P1_add, hw]
    simp [actTo, g3]
    omega
  · have e : k = actCnt x := by omega
    subst e
    simp [spec_l39List_r1_sh, actsOf, actsEnd]
theorem sceneEnd_b {x : Cur} (hi : 0 ≤ x.i) : (sceneEnd x).b = x.b ∧ 0 ≤ (sceneEnd x).i := by
  unfold sceneEnd
  split
  · exact ⟨by simp, cAfter_i hi⟩
  · have h := shopEnd_b (x := cAfter x 2) (cAfter_i hi)
    exact ⟨by rw [h.1]; simp, h.2⟩
theorem q_shop {b : List UInt8} (c : Cur) {m : Nat} {k : V → V → V → V → V → V → V → V → V → V → V → V → Prop} (hb : c.b = b) (h : 0 ≤ c.i) (hl : b.length ≤ 1048576) :
    P12 (.call F_l38Workshop 0 m) [vL I1 vY b, .int .i64 c.i, .int .i64 c.h] k ↔ k (.int .i64 (shopOf c).s) (.int .i64 (shopOf c).t) (vL I2 v2 (shopOf c).p) (vL IL2 vLL2 (shopOf c).o) (vL I1 v1 (shopOf c).c)
      (.int .i64 (shopOf c).u) (.int .i64 (shopOf c).m) (.int .i64 (shopOf c).f) (.int .i64 (shopOf c).y) (.int .i64 (shopOf c).d) (.int .i64 (shopEnd c).i) (.int .i64 (shopEnd c).h) := by
  subst hb; exact p_l38Workshop ⟨h, hl⟩
theorem spec_l39Workshop_ok : ∀ ds outs, F_l39Workshop ds = some outs → shL spec_l39Workshop_L (qRet outs) ds := F_l39Workshop_elim fun x hp => by
  obtain ⟨i0, hb⟩ := hp
  rw [spec_l39Workshop_L_sh, q_once (b := x.b) x rfl i0 hb]
  simp only [ifB_bool, decide_eq_true_eq, decide_eq_false_iff_not]
  refine ⟨fun h => ?_, fun h => ?_⟩
  · rw [p_SampleWorkshop]
    have e : sceneOf x = openShop 16 [12, 12, 16, 19] 40 := by unfold sceneOf; rw [if_pos h]; rfl
    have e2 : sceneEnd x = cAfter x 2 := by unfold sceneEnd; rw [if_pos h]
    rw [e, e2]
    simp
  · rw [q_shop (b := x.b) _ (by simp) (cAfter_i i0) hb]
    have e : sceneOf x = shopOf (cAfter x 2) := by unfold sceneOf; rw [if_neg h]
    have e2 : sceneEnd x = shopEnd (cAfter x 2) := by unfold sceneEnd; rw [if_neg h]
    rw [e, e2]
    simp
theorem q_scene {b : List UInt8} (c : Cur) {m : Nat} {k : V → V → V → V → V → V → V → V → V → V → V → V → Prop} (hb : c.b = b) (h : 0 ≤ c.i) (hl : b.length ≤ 1048576) :
    P12 (.call F_l39Workshop 0 m) [vL I1 vY b, .int .i64 c.i, .int .i64 c.h] k ↔ k (.int .i64 (sceneOf c).s) (.int .i64 (sceneOf c).t) (vL I2 v2 (sceneOf c).p) (vL IL2 vLL2 (sceneOf c).o) (vL I1 v1 (sceneOf c).c)
      (.int .i64 (sceneOf c).u) (.int .i64 (sceneOf c).m) (.int .i64 (sceneOf c).f) (.int .i64 (sceneOf c).y) (.int .i64 (sceneOf c).d) (.int .i64 (sceneEnd c).i) (.int .i64 (sceneEnd c).h) := by
  subst hb; exact p_l39Workshop ⟨h, hl⟩
theorem q_acts {b : List UInt8} (c : Cur) {m : Nat} {k : V → V → V → Prop} (hb : c.b = b) (h : 0 ≤ c.i) (hl : b.length ≤ 1048576) :
    P3 (.call F_l39List 0 m) [vL I1 vY b, .int .i64 c.i, .int .i64 c.h] k ↔ k (vL I3 v3 (actsOf c)) (.int .i64 (actsEnd c).i) (.int .i64 (actsEnd c).h) := by
  subst hb; exact p_l39List ⟨h, hl⟩
theorem cur0_i (l : List UInt8) : 0 ≤ (cur0 l).i := by simp [cur0]
theorem spec_DrawActs_ok : ∀ ds outs, F_DrawActs ds = some outs → shL spec_DrawActs_L (qRet outs) ds := F_DrawActs_elim fun l hp => by
  rw [spec_DrawActs_L_sh, p_l01New hp]
  have h0 := cur0_i l
  have hE := sceneEnd_b h0
  refine (q_scene (b := l) (cur0 l) rfl h0 hp).2 ?_
  rw [q_acts (b := l) _ hE.1 hE.2 hp]
  simp [drawW, drawA]
theorem drawA_len (l : List UInt8) : (drawA l).length ≤ 13 := actsOf_len (sceneEnd_b (cur0_i l)).2
end Go.Mw

/- What acts do to a valid workshop; the law on replays. -/
namespace Go.Mw
end Go.Mw

/- The law on histories. -/
namespace Go.Mw
/-- What an act does to the money, the notes and the turns. -/
structure ActDoes (w w' : Shop) (a : T3) (n : Int) : Prop where
  y : w'.y = if n = 1 ∧ a.a = 1 then w.y - 1 else w.y
  d : w'.d = if n = 1 ∧ a.a = 5 then w.d + w.p.length else w.d
  u : w'.u = if n = 1 ∧ a.a = 5 then w.u - 1 else if a.a = 4 then w.u + n else w.u
  c : a.a = 6 → n = closest w'.bench.cyl
  p : n = 1 ∧ a.a = 5 → tooClose w.bench.cyl 2 = []
theorem actDraw_ok (x : Cur) : actOk (actDraw x).1 = true := by
  unfold actDraw
  have h1 := cBelow_range (cAfter x 9) (show (0 : Int) < 4 by omega)
  have h2 := cBelow_range (cAfter (cAfter x 9) 4) (show (0 : Int) < 16 by omega)
  have h3 := cBelow_range (cAfter x 9) (show (0 : Int) < 5 by omega)
  have h4 := cBelow_range (cAfter x 9) (show (0 : Int) < 8 by omega)
  split
  · simp [actOk, within]; omega
  · split
    · simp [actOk, within]; omega
    · split
      · simp [actOk]
      · split
        · simp [actOk, within]; omega
        · split <;> simp [actOk]
end Go.Mw

/- The law on histories, whole. -/
namespace Go.Mw
theorem Shop.eta (x : Shop) : (⟨x.s, x.t, x.p, x.o, x.c, x.u, x.m, x.f, x.y, x.d⟩ : Shop) = x := rfl
theorem P1_eqa33r {a b c : Int} {k : V → Prop} : P1 (.eqa true [.i, .i, .i]) [.int .i64 a, .int .i64 b, .int .i64 c, .int .i64 a, .int .i64 b, .int .i64 c] k ↔ k (.bool false) :=
  P1_of (by simp [Prim.run, eqVs, eqV1]) k
end Go.Mw

/- The law on benches: setting, taking and taking back. -/
namespace Go.Mw
end Go.Mw

/- The law on benches, whole. -/
namespace Go.Mw
end Go.Mw

/- Functions of the program, as small pure programs (printed by a program of ours). -/
namespace Go.Mw
noncomputable section
end
end Go.Mw

/- The law on scenarios. -/
namespace Go.Mw
end Go.Mw

