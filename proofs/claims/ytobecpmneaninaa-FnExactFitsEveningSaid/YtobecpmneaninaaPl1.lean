/- What functions of the program compute, as small pure programs, shown against plain Lean functions: no condition. -/
import Derived.KernelRfl
import Derived.Test.YtobecpmneaninaaFwH
/- What the functions of the first rows compute, in plain terms. -/
namespace Go.Mw
def within (n low high : Int) : Bool := decide (low ≤ n) && decide (n ≤ high)
def E_within : Int × Int × Int → List V := fun (a, b, c) => [.int .i64 a, .int .i64 b, .int .i64 c]
noncomputable def F_within : List V → Option (List V) := mkF E_within (fun (_, _, _) => True) (fun (a, b, c) => [.bool (within a b c)])
theorem F_within_inj : ∀ x y, E_within x = E_within y → x = y := by
  rintro ⟨a, b, c⟩ ⟨a', b', c'⟩ h
  simpa [E_within] using h
theorem F_within_elim {P : List V → List V → Prop} (h : ∀ (a : Int) (b : Int) (c : Int), P [.int .i64 a, .int .i64 b, .int .i64 c] [.bool (within a b c)]) : ∀ ds outs, F_within ds = some outs → P ds outs := by
  intro ds outs hh
  obtain ⟨⟨a, b, c⟩, rfl, -, rfl⟩ := mkF_inv hh
  exact h a b c
@[simp] theorem p_within {a : Int} {b : Int} {c : Int} {nr_ : Nat} {kk_ : V → Prop} : P1 (.call F_within 0 nr_) [.int .i64 a, .int .i64 b, .int .i64 c] kk_ ↔ kk_ (.bool (within a b c)) :=
  P1_callF (by unfold F_within; exact mkF_eq F_within_inj (a, b, c) trivial)

noncomputable abbrev F_l01In := F_within

/-! lists of pairs -/
def E_szPieceS : List T2 × Int → List V := fun (l, n) => [vL I2 v2 l, .int .i64 n]
noncomputable def F_szPieceS : List V → Option (List V) := mkF E_szPieceS (fun (l, n) => l.length ≤ 9223372036854775807 ∧ 0 ≤ n ∧ n ≤ 1048576) (fun (l, n) => [.int .i64 (if (l.length : Int) ≤ n then n - l.length else -1)])
theorem F_szPieceS_inj : ∀ x y, E_szPieceS x = E_szPieceS y → x = y := by
  rintro ⟨l, n⟩ ⟨l', n'⟩ h
  simpa [E_szPieceS] using h
theorem F_szPieceS_elim {P : List V → List V → Prop} (h : ∀ (l : List T2) (n : Int), (l.length ≤ 9223372036854775807 ∧ 0 ≤ n ∧ n ≤ 1048576) → P [vL I2 v2 l, .int .i64 n] [.int .i64 (if (l.length : Int) ≤ n then n - l.length else -1)]) : ∀ ds outs, F_szPieceS ds = some outs → P ds outs := by
  intro ds outs hh
  obtain ⟨⟨l, n⟩, rfl, hp, rfl⟩ := mkF_inv hh
  exact h l n hp
theorem p_szPieceS {l : List T2} {n : Int} {nr_ : Nat} {kk_ : V → Prop} (hp : l.length ≤ 9223372036854775807 ∧ 0 ≤ n ∧ n ≤ 1048576) : P1 (.call F_szPieceS 0 nr_) [vL I2 v2 l, .int .i64 n] kk_ ↔ kk_ (.int .i64 (if (l.length : Int) ≤ n then n - l.length else -1)) :=
  P1_callF (by unfold F_szPieceS; exact mkF_eq F_szPieceS_inj (l, n) hp)

def E_toPiece (x : T2) : List V := [.int .i64 x.a, .int .i64 x.b]
noncomputable def F_toPiece : List V → Option (List V) := mkF E_toPiece (fun _ => True) (fun x => [.int .i64 x.a, .int .i64 x.b])
theorem F_toPiece_inj : ∀ x y, E_toPiece x = E_toPiece y → x = y := by
  rintro ⟨xa, xb⟩ ⟨xa', xb'⟩ h
  simpa [E_toPiece] using h
theorem F_toPiece_elim {P : List V → List V → Prop} (h : ∀ (x : T2), P [.int .i64 x.a, .int .i64 x.b] [.int .i64 x.a, .int .i64 x.b]) : ∀ ds outs, F_toPiece ds = some outs → P ds outs := by
  intro ds outs hh
  obtain ⟨x, rfl, -, rfl⟩ := mkF_inv hh
  exact h x
@[simp] theorem p_toPiece {x_a : Int} {x_b : Int} {nr_ : Nat} {kk_ : V → V → Prop} : P2 (.call F_toPiece 0 nr_) [.int .i64 x_a, .int .i64 x_b] kk_ ↔ kk_ (.int .i64 ((⟨x_a, x_b⟩ : T2)).a) (.int .i64 ((⟨x_a, x_b⟩ : T2)).b) :=
  P2_callF (by unfold F_toPiece; exact mkF_eq F_toPiece_inj ((⟨x_a, x_b⟩ : T2)) trivial)

def E_toPieceS (l : List T2) : List V := [vL I2 v2 l]
noncomputable def F_toPieceS : List V → Option (List V) := mkF E_toPieceS (fun l => l.length ≤ 1048576) (fun l => [vL I2 v2 l])
theorem F_toPieceS_inj : ∀ x y, E_toPieceS x = E_toPieceS y → x = y := by
  rintro l l' h
  simpa [E_toPieceS] using h
theorem F_toPieceS_elim {P : List V → List V → Prop} (h : ∀ (l : List T2), (l.length ≤ 1048576) → P [vL I2 v2 l] [vL I2 v2 l]) : ∀ ds outs, F_toPieceS ds = some outs → P ds outs := by
  intro ds outs hh
  obtain ⟨l, rfl, hp, rfl⟩ := mkF_inv hh
  exact h l hp
theorem p_toPieceS {l : List T2} {nr_ : Nat} {kk_ : V → Prop} (hp : l.length ≤ 1048576) : P1 (.call F_toPieceS 0 nr_) [vL I2 v2 l] kk_ ↔ kk_ (vL I2 v2 l) :=
  P1_callF (by unfold F_toPieceS; exact mkF_eq F_toPieceS_inj (l) hp)

def pieceOk (p : T2) : Bool := within p.a 1 600 && within p.b 0 9
def piecesOk (l : List T2) : Bool := decide (l.length ≤ 9) && l.all pieceOk
def E_PiecesOk (l : List T2) : List V := [vL I2 v2 l]
noncomputable def F_PiecesOk : List V → Option (List V) := mkF E_PiecesOk (fun l => l.length ≤ 1048576) (fun l => [.bool (piecesOk l)])
theorem F_PiecesOk_inj : ∀ x y, E_PiecesOk x = E_PiecesOk y → x = y := by
  rintro l l' h
  simpa [E_PiecesOk] using h
theorem F_PiecesOk_elim {P : List V → List V → Prop} (h : ∀ (l : List T2), (l.length ≤ 1048576) → P [vL I2 v2 l] [.bool (piecesOk l)]) : ∀ ds outs, F_PiecesOk ds = some outs → P ds outs := by
  intro ds outs hh
  obtain ⟨l, rfl, hp, rfl⟩ := mkF_inv hh
  exact h l hp
theorem p_PiecesOk {l : List T2} {nr_ : Nat} {kk_ : V → Prop} (hp : l.length ≤ 1048576) : P1 (.call F_PiecesOk 0 nr_) [vL I2 v2 l] kk_ ↔ kk_ (.bool (piecesOk l)) :=
  P1_callF (by unfold F_PiecesOk; exact mkF_eq F_PiecesOk_inj (l) hp)

def E_eqPiece : T2 × T2 → List V := fun (x, y) => [.int .i64 x.a, .int .i64 x.b, .int .i64 y.a, .int .i64 y.b]
noncomputable def F_eqPiece : List V → Option (List V) := mkF E_eqPiece (fun (_, _) => True) (fun (x, y) => [.bool (decide (x = y))])
theorem F_eqPiece_inj : ∀ x y, E_eqPiece x = E_eqPiece y → x = y := by
  rintro ⟨⟨xa, xb⟩, ⟨ya, yb⟩⟩ ⟨⟨xa', xb'⟩, ⟨ya', yb'⟩⟩ h
  simpa [E_eqPiece, and_assoc] using h
theorem F_eqPiece_elim {P : List V → List V → Prop} (h : ∀ (x : T2) (y : T2), P [.int .i64 x.a, .int .i64 x.b, .int .i64 y.a, .int .i64 y.b] [.bool (decide (x = y))]) : ∀ ds outs, F_eqPiece ds = some outs → P ds outs := by
  intro ds outs hh
  obtain ⟨⟨x, y⟩, rfl, -, rfl⟩ := mkF_inv hh
  exact h x y
@[simp] theorem p_eqPiece {x_a : Int} {x_b : Int} {y_a : Int} {y_b : Int} {nr_ : Nat} {kk_ : V → Prop} : P1 (.call F_eqPiece 0 nr_) [.int .i64 x_a, .int .i64 x_b, .int .i64 y_a, .int .i64 y_b] kk_ ↔ kk_ (.bool (decide ((⟨x_a, x_b⟩ : T2) = (⟨y_a, y_b⟩ : T2)))) :=
  P1_callF (by unfold F_eqPiece; exact mkF_eq F_eqPiece_inj ((⟨x_a, x_b⟩ : T2), (⟨y_a, y_b⟩ : T2)) trivial)

def E_eqPieceS : List T2 × List T2 → List V := fun (l, m) => [vL I2 v2 l, vL I2 v2 m]
noncomputable def F_eqPieceS : List V → Option (List V) := mkF E_eqPieceS (fun (l, m) => l.length ≤ 1048576 ∧ m.length ≤ 1048576) (fun (l, m) => [.bool (decide (l = m))])
theorem F_eqPieceS_inj : ∀ x y, E_eqPieceS x = E_eqPieceS y → x = y := by
  rintro ⟨l, m⟩ ⟨l', m'⟩ h
  simpa [E_eqPieceS] using h
theorem F_eqPieceS_elim {P : List V → List V → Prop} (h : ∀ (l : List T2) (m : List T2), (l.length ≤ 1048576 ∧ m.length ≤ 1048576) → P [vL I2 v2 l, vL I2 v2 m] [.bool (decide (l = m))]) : ∀ ds outs, F_eqPieceS ds = some outs → P ds outs := by
  intro ds outs hh
  obtain ⟨⟨l, m⟩, rfl, hp, rfl⟩ := mkF_inv hh
  exact h l m hp
theorem p_eqPieceS {l : List T2} {m : List T2} {nr_ : Nat} {kk_ : V → Prop} (hp : l.length ≤ 1048576 ∧ m.length ≤ 1048576) : P1 (.call F_eqPieceS 0 nr_) [vL I2 v2 l, vL I2 v2 m] kk_ ↔ kk_ (.bool (decide (l = m))) :=
  P1_callF (by unfold F_eqPieceS; exact mkF_eq F_eqPieceS_inj (l, m) hp)


end Go.Mw

/- Functions of the program, as small pure programs (printed by a program of ours). -/
namespace Go.Mw
noncomputable section
def spec_l01In_L : L := .seq (.rg []) (.seq (.rg [⟨[], .bin .geq, [.v 0, .v 1], 1⟩, ⟨[(.v 3, true)], .bin .leq, [.v 0, .v 2], 1⟩, ⟨[], .pick, [.v 3, .v 4, .k (.bool false)], 1⟩]) (.ret [.v 5]))
theorem spec_l01In_L_sh (Q : QT) (x0 x1 x2 : V) : shL spec_l01In_L Q [x0, x1, x2] = (
  P1 (.bin .geq) [x0, x1] fun v0 =>
  ifB v0 (
    P1 (.bin .leq) [x0, x2] fun v1 =>
    Q .ret [v1]) (
    Q .ret [.bool false])) := by kernel_rfl
def spec_l01In_S : Sig := ⟨[.val false [.sc], .val false [.sc], .val false [.sc]], [(false, [.sc])], F_l01In⟩
def spec_l01In_hs : List NF := []

def impl_within_L : L := .seq (.rg []) (.seq (.rg [⟨[], .bin .geq, [.v 0, .v 1], 1⟩, ⟨[(.v 3, true)], .bin .leq, [.v 0, .v 2], 1⟩, ⟨[], .pick, [.v 3, .v 4, .k (.bool false)], 1⟩]) (.ret [.v 5]))
theorem impl_within_L_sh (Q : QT) (x0 x1 x2 : V) : shL impl_within_L Q [x0, x1, x2] = (
  P1 (.bin .geq) [x0, x1] fun v0 =>
  ifB v0 (
    P1 (.bin .leq) [x0, x2] fun v1 =>
    Q .ret [v1]) (
    Q .ret [.bool false])) := by kernel_rfl
def impl_within_S : Sig := ⟨[.val false [.sc], .val false [.sc], .val false [.sc]], [(false, [.sc])], F_within⟩
def impl_within_hs : List NF := []

def laws_szPieceS_L : L := .seq (.rg []) (.seq (.rg [⟨[], .len, [.v 0], 1⟩, ⟨[], .bin .sub, [.v 1, .v 2], 1⟩]) (.seq (.seq (.rg [⟨[], .bin .lss, [.v 3, .k (.int .i64 0)], 1⟩]) (.ite (.v 4) (.seq (.rg []) (.ret [.k (.int .i64 (-1))])) (.skip))) (.seq (.rg []) (.ret [.v 3]))))
theorem laws_szPieceS_L_sh (Q : QT) (x0 x1 : V) : shL laws_szPieceS_L Q [x0, x1] = (
  P1 (.len) [x0] fun v0 =>
  P1 (.bin .sub) [x1, v0] fun v1 =>
  P1 (.bin .lss) [v1, .int .i64 0] fun v2 =>
  ifB v2 (
    Q .ret [.int .i64 (-1)]) (
    Q .ret [v1])) := by kernel_rfl
def laws_szPieceS_S : Sig := ⟨[.val false [.sl [.sc, .sc]], .val false [.sc]], [(false, [.sc])], F_szPieceS⟩
def laws_szPieceS_hs : List NF := []

def laws_toPiece_L : L := .seq (.rg []) (.seq (.rg []) (.seq (.rg []) (.seq (.rg []) (.seq (.rg []) (.ret [.v 0, .v 1])))))
theorem laws_toPiece_L_sh (Q : QT) (x0 x1 : V) : shL laws_toPiece_L Q [x0, x1] = (
  Q .ret [x0, x1]) := by kernel_rfl
def laws_toPiece_S : Sig := ⟨[.val true [.sc, .sc]], [(true, [.sc, .sc])], F_toPiece⟩
def laws_toPiece_hs : List NF := []

def laws_toPieceS_b0 : L := .seq (.seq (.seq (.rg [⟨[], .len, [.v 0], 1⟩, ⟨[], .bin .lss, [.v 1, .v 3], 1⟩]) (.ite (.v 4) (.skip) (.seq (.tup [.v 2]) (.exit 0)))) (.seq (.block 1 (.seq (.rg [⟨[], .idx [.sc, .sc], [.v 0, .v 1], 2⟩, ⟨[], .call F_toPiece 0 2, [.v 5, .v 6], 2⟩, ⟨[], .idx [.sc, .sc], [.v 2, .v 1], 2⟩, ⟨[], .set [.sc, .sc] 0, [.v 2, .v 1, .v 7, .v 8], 1⟩]) (.tup [.v 0, .v 1, .v 11]))) (.rg [⟨[], .bin .add, [.v 1, .k (.int .i64 1)], 1⟩]))) (.tup [.v 0, .v 3, .v 2])
theorem laws_toPieceS_b0_sh (Q : QT) (x0 x1 x2 : V) : shL laws_toPieceS_b0 Q [x0, x1, x2] = (
  P1 (.len) [x0] fun v0 =>
  P1 (.bin .lss) [x1, v0] fun v1 =>
  ifB v1 (
    P2 (.idx [.sc, .sc]) [x0, x1] fun v2 v3 =>
    P2 (.call F_toPiece 0 2) [v2, v3] fun v4 v5 =>
    P2 (.idx [.sc, .sc]) [x2, x1] fun _ _ =>
    P1 (.set [.sc, .sc] 0) [x2, x1, v4, v5] fun v8 =>
    P1 (.bin .add) [x1, .int .i64 1] fun v9 =>
    Q .normal [x0, v9, v8]) (
    Q (.exit 0) [x2])) := by kernel_rfl

def laws_toPieceS_r1 : L := .seq (.rg []) (.ret [.v 0])
theorem laws_toPieceS_r1_sh (Q : QT) (x0 : V) : shL laws_toPieceS_r1 Q [x0] = (
  Q .ret [x0]) := by kernel_rfl

def laws_toPieceS_L : L := .seq (.rg []) (.seq (.rg [⟨[], .len, [.v 0], 1⟩, ⟨[], .mk [.sc, .sc] (.agg [.int .i64 0, .int .i64 0]) 16, [.v 1, .v 1], 1⟩]) (.seq (.seq (.rg []) (.block 0 (.seq (.tup [.v 0, .k (.int .i64 0), .v 2]) (.loop (laws_toPieceS_b0))))) (laws_toPieceS_r1)))
theorem laws_toPieceS_L_sh (Q : QT) (x0 : V) : shL laws_toPieceS_L Q [x0] = (
  P1 (.len) [x0] fun v0 =>
  P1 (.mk [.sc, .sc] (.agg [.int .i64 0, .int .i64 0]) 16) [v0, v0] fun v1 =>
  shL (.loop laws_toPieceS_b0) (qB 0 (qS (shL laws_toPieceS_r1 Q) Q)) [x0, .int .i64 0, v1]) := by kernel_rfl
def laws_toPieceS_S : Sig := ⟨[.val false [.sl [.sc, .sc]]], [(false, [.sl [.sc, .sc]])], F_toPieceS⟩
def laws_toPieceS_hs : List NF := [⟨[(3, .sc false [.own 64])], [(64, true, [.sc, .sc])], [], 65⟩, ⟨[(0, .sc false [.ro [.sc, .sc]]), (3, .sc false [.own 64]), (4, .sc false [.sc])], [(64, true, [.sc, .sc])], [], 65⟩, ⟨[(0, .sc false [.ro [.sc, .sc]]), (3, .sc false [.own 64]), (4, .sc false [.sc])], [(64, true, [.sc, .sc])], [], 65⟩]

def spec_PiecesOk_b0 : L := .seq (.seq (.seq (.rg [⟨[], .len, [.v 0], 1⟩, ⟨[], .bin .lss, [.v 1, .v 2], 1⟩]) (.ite (.v 3) (.skip) (.seq (.tup [.v 0]) (.exit 0)))) (.seq (.block 1 (.seq (.seq (.rg [⟨[], .idx [.sc, .sc], [.v 0, .v 1], 2⟩, ⟨[], .call F_l01In 0 1, [.v 4, .k (.int .i64 1), .k (.int .i64 600)], 1⟩, ⟨[], .un .not, [.v 6], 1⟩, ⟨[(.v 7, false)], .idx [.sc, .sc], [.v 0, .v 1], 2⟩, ⟨[(.v 7, false)], .call F_l01In 0 1, [.v 9, .k (.int .i64 0), .k (.int .i64 9)], 1⟩, ⟨[(.v 7, false)], .un .not, [.v 10], 1⟩, ⟨[], .pick, [.v 7, .k (.bool true), .v 11], 1⟩]) (.ite (.v 12) (.seq (.rg []) (.ret [.k (.bool false)])) (.skip))) (.tup [.v 0, .v 1]))) (.rg [⟨[], .bin .add, [.v 1, .k (.int .i64 1)], 1⟩]))) (.tup [.v 0, .v 2])
theorem spec_PiecesOk_b0_sh (Q : QT) (x0 x1 : V) : shL spec_PiecesOk_b0 Q [x0, x1] = (
  P1 (.len) [x0] fun v0 =>
  P1 (.bin .lss) [x1, v0] fun v1 =>
  ifB v1 (
    P2 (.idx [.sc, .sc]) [x0, x1] fun v2 _ =>
    P1 (.call F_l01In 0 1) [v2, .int .i64 1, .int .i64 600] fun v4 =>
    P1 (.un .not) [v4] fun v5 =>
    ifB v5 (
      Q .ret [.bool false]) (
      P2 (.idx [.sc, .sc]) [x0, x1] fun _ v7 =>
      P1 (.call F_l01In 0 1) [v7, .int .i64 0, .int .i64 9] fun v8 =>
      P1 (.un .not) [v8] fun v9 =>
      ifB v9 (
        Q .ret [.bool false]) (
        P1 (.bin .add) [x1, .int .i64 1] fun v10 =>
        Q .normal [x0, v10]))) (
    Q (.exit 0) [x0])) := by kernel_rfl

def spec_PiecesOk_r1 : L := .seq (.rg [⟨[], .len, [.v 0], 1⟩, ⟨[], .bin .leq, [.v 1, .k (.int .i64 9)], 1⟩]) (.ret [.v 2])
theorem spec_PiecesOk_r1_sh (Q : QT) (x0 : V) : shL spec_PiecesOk_r1 Q [x0] = (
  P1 (.len) [x0] fun v0 =>
  P1 (.bin .leq) [v0, .int .i64 9] fun v1 =>
  Q .ret [v1]) := by kernel_rfl

def spec_PiecesOk_L : L := .seq (.rg []) (.seq (.seq (.rg []) (.block 0 (.seq (.tup [.v 0, .k (.int .i64 0)]) (.loop (spec_PiecesOk_b0))))) (spec_PiecesOk_r1))
theorem spec_PiecesOk_L_sh (Q : QT) (x0 : V) : shL spec_PiecesOk_L Q [x0] = (
  shL (.loop spec_PiecesOk_b0) (qB 0 (qS (shL spec_PiecesOk_r1 Q) Q)) [x0, .int .i64 0]) := by kernel_rfl
def spec_PiecesOk_S : Sig := ⟨[.val false [.sl [.sc, .sc]]], [(false, [.sc])], F_PiecesOk⟩
def spec_PiecesOk_hs : List NF := [⟨[(0, .sc false [.ro [.sc, .sc]])], [], [], 64⟩, ⟨[(0, .sc false [.ro [.sc, .sc]]), (3, .sc false [.sc])], [], [], 64⟩, ⟨[(0, .sc false [.ro [.sc, .sc]]), (3, .sc false [.sc])], [], [], 64⟩]

def impl_PiecesOk_b0 : L := .seq (.seq (.rg [⟨[], .bin .lss, [.v 2, .v 1], 1⟩]) (.seq (.ite (.v 3) (.skip) (.seq (.tup []) (.exit 0))) (.seq (.block 1 (.seq (.seq (.rg [⟨[], .idx [.sc, .sc], [.v 0, .v 2], 2⟩]) (.seq (.rg [⟨[], .call F_within 0 1, [.v 4, .k (.int .i64 1), .k (.int .i64 600)], 1⟩, ⟨[], .un .not, [.v 6], 1⟩, ⟨[(.v 7, false)], .call F_within 0 1, [.v 5, .k (.int .i64 0), .k (.int .i64 9)], 1⟩, ⟨[(.v 7, false)], .un .not, [.v 8], 1⟩, ⟨[], .pick, [.v 7, .k (.bool true), .v 9], 1⟩]) (.ite (.v 10) (.seq (.rg []) (.ret [.k (.bool false)])) (.skip)))) (.tup [.v 0, .v 1, .v 2]))) (.rg [⟨[], .bin .add, [.v 2, .k (.int .i64 1)], 1⟩])))) (.tup [.v 0, .v 1, .v 3])
theorem impl_PiecesOk_b0_sh (Q : QT) (x0 x1 x2 : V) : shL impl_PiecesOk_b0 Q [x0, x1, x2] = (
  P1 (.bin .lss) [x2, x1] fun v0 =>
  ifB v0 (
    P2 (.idx [.sc, .sc]) [x0, x2] fun v1 v2 =>
    P1 (.call F_within 0 1) [v1, .int .i64 1, .int .i64 600] fun v3 =>
    P1 (.un .not) [v3] fun v4 =>
    ifB v4 (
      Q .ret [.bool false]) (
      P1 (.call F_within 0 1) [v2, .int .i64 0, .int .i64 9] fun v5 =>
      P1 (.un .not) [v5] fun v6 =>
      ifB v6 (
        Q .ret [.bool false]) (
        P1 (.bin .add) [x2, .int .i64 1] fun v7 =>
        Q .normal [x0, x1, v7]))) (
    Q (.exit 0) [])) := by kernel_rfl

def impl_PiecesOk_r1 : L := .seq (.rg []) (.ret [.k (.bool true)])
theorem impl_PiecesOk_r1_sh (Q : QT) : shL impl_PiecesOk_r1 Q [] = (
  Q .ret [.bool true]) := by kernel_rfl

def impl_PiecesOk_L : L := .seq (.rg []) (.seq (.seq (.rg [⟨[], .len, [.v 0], 1⟩, ⟨[], .bin .gtr, [.v 1, .k (.int .i64 9)], 1⟩]) (.ite (.v 2) (.seq (.rg []) (.ret [.k (.bool false)])) (.skip))) (.seq (.seq (.rg [⟨[], .len, [.v 0], 1⟩]) (.block 0 (.seq (.tup [.v 0, .v 3, .k (.int .i64 0)]) (.loop (impl_PiecesOk_b0))))) (impl_PiecesOk_r1)))
theorem impl_PiecesOk_L_sh (Q : QT) (x0 : V) : shL impl_PiecesOk_L Q [x0] = (
  P1 (.len) [x0] fun v0 =>
  P1 (.bin .gtr) [v0, .int .i64 9] fun v1 =>
  ifB v1 (
    Q .ret [.bool false]) (
    P1 (.len) [x0] fun v2 =>
    shL (.loop impl_PiecesOk_b0) (qB 0 (qS (shL impl_PiecesOk_r1 Q) Q)) [x0, v2, .int .i64 0])) := by kernel_rfl
def impl_PiecesOk_S : Sig := ⟨[.val false [.sl [.sc, .sc]]], [(false, [.sc])], F_PiecesOk⟩
def impl_PiecesOk_hs : List NF := [⟨[], [], [], 64⟩, ⟨[(8, .sc false [.ro [.sc, .sc]]), (9, .sc false [.sc]), (10, .sc false [.sc])], [], [], 64⟩, ⟨[(8, .sc false [.ro [.sc, .sc]]), (9, .sc false [.sc]), (10, .sc false [.sc])], [], [], 64⟩]

def laws_eqPiece_L : L := .seq (.rg []) (.seq (.seq (.rg [⟨[], .bin .neq, [.v 0, .v 2], 1⟩]) (.ite (.v 4) (.seq (.rg []) (.ret [.k (.bool false)])) (.skip))) (.seq (.seq (.rg [⟨[], .bin .neq, [.v 1, .v 3], 1⟩]) (.ite (.v 5) (.seq (.rg []) (.ret [.k (.bool false)])) (.skip))) (.seq (.rg []) (.ret [.k (.bool true)]))))
theorem laws_eqPiece_L_sh (Q : QT) (x0 x1 x2 x3 : V) : shL laws_eqPiece_L Q [x0, x1, x2, x3] = (
  P1 (.bin .neq) [x0, x2] fun v0 =>
  ifB v0 (
    Q .ret [.bool false]) (
    P1 (.bin .neq) [x1, x3] fun v1 =>
    ifB v1 (
      Q .ret [.bool false]) (
      Q .ret [.bool true]))) := by kernel_rfl
def laws_eqPiece_S : Sig := ⟨[.val true [.sc, .sc], .val true [.sc, .sc]], [(false, [.sc])], F_eqPiece⟩
def laws_eqPiece_hs : List NF := []

def laws_eqPieceS_b0 : L := .seq (.seq (.seq (.rg [⟨[], .len, [.v 0], 1⟩, ⟨[], .bin .lss, [.v 2, .v 3], 1⟩]) (.ite (.v 4) (.skip) (.seq (.tup []) (.exit 0)))) (.seq (.block 1 (.seq (.seq (.rg [⟨[], .idx [.sc, .sc], [.v 0, .v 2], 2⟩, ⟨[], .idx [.sc, .sc], [.v 1, .v 2], 2⟩, ⟨[], .call F_eqPiece 0 1, [.v 5, .v 6, .v 7, .v 8], 1⟩, ⟨[], .un .not, [.v 9], 1⟩]) (.ite (.v 10) (.seq (.rg []) (.ret [.k (.bool false)])) (.skip))) (.tup [.v 0, .v 1, .v 2]))) (.rg [⟨[], .bin .add, [.v 2, .k (.int .i64 1)], 1⟩]))) (.tup [.v 0, .v 1, .v 3])
theorem laws_eqPieceS_b0_sh (Q : QT) (x0 x1 x2 : V) : shL laws_eqPieceS_b0 Q [x0, x1, x2] = (
  P1 (.len) [x0] fun v0 =>
  P1 (.bin .lss) [x2, v0] fun v1 =>
  ifB v1 (
    P2 (.idx [.sc, .sc]) [x0, x2] fun v2 v3 =>
    P2 (.idx [.sc, .sc]) [x1, x2] fun v4 v5 =>
    P1 (.call F_eqPiece 0 1) [v2, v3, v4, v5] fun v6 =>
    P1 (.un .not) [v6] fun v7 =>
    ifB v7 (
      Q .ret [.bool false]) (
      P1 (.bin .add) [x2, .int .i64 1] fun v8 =>
      Q .normal [x0, x1, v8])) (
    Q (.exit 0) [])) := by kernel_rfl

def laws_eqPieceS_r1 : L := .seq (.rg []) (.ret [.k (.bool true)])
theorem laws_eqPieceS_r1_sh (Q : QT) : shL laws_eqPieceS_r1 Q [] = (
  Q .ret [.bool true]) := by kernel_rfl

def laws_eqPieceS_L : L := .seq (.rg []) (.seq (.seq (.rg [⟨[], .len, [.v 0], 1⟩, ⟨[], .len, [.v 1], 1⟩, ⟨[], .bin .neq, [.v 2, .v 3], 1⟩]) (.ite (.v 4) (.seq (.rg []) (.ret [.k (.bool false)])) (.skip))) (.seq (.seq (.rg []) (.block 0 (.seq (.tup [.v 0, .v 1, .k (.int .i64 0)]) (.loop (laws_eqPieceS_b0))))) (laws_eqPieceS_r1)))
theorem laws_eqPieceS_L_sh (Q : QT) (x0 x1 : V) : shL laws_eqPieceS_L Q [x0, x1] = (
  P1 (.len) [x0] fun v0 =>
  P1 (.len) [x1] fun v1 =>
  P1 (.bin .neq) [v0, v1] fun v2 =>
  ifB v2 (
    Q .ret [.bool false]) (
    shL (.loop laws_eqPieceS_b0) (qB 0 (qS (shL laws_eqPieceS_r1 Q) Q)) [x0, x1, .int .i64 0])) := by kernel_rfl
def laws_eqPieceS_S : Sig := ⟨[.val false [.sl [.sc, .sc]], .val false [.sl [.sc, .sc]]], [(false, [.sc])], F_eqPieceS⟩
def laws_eqPieceS_hs : List NF := [⟨[], [], [], 64⟩, ⟨[(0, .sc false [.ro [.sc, .sc]]), (1, .sc false [.ro [.sc, .sc]]), (5, .sc false [.sc])], [], [], 64⟩, ⟨[(0, .sc false [.ro [.sc, .sc]]), (1, .sc false [.ro [.sc, .sc]]), (5, .sc false [.sc])], [], [], 64⟩]

end
end Go.Mw

/- The functions of the first rows compute what was said. -/
namespace Go.Mw
theorem spec_l01In_ok : ∀ ds outs, F_l01In ds = some outs → shL spec_l01In_L (qRet outs) ds := F_within_elim fun a b c => by
  rw [spec_l01In_L_sh]; simp [within]; grind
theorem impl_within_ok : ∀ ds outs, F_within ds = some outs → shL impl_within_L (qRet outs) ds := F_within_elim fun a b c => by
  rw [impl_within_L_sh]; simp [within]; grind
theorem laws_szPieceS_ok : ∀ ds outs, F_szPieceS ds = some outs → shL laws_szPieceS_L (qRet outs) ds := F_szPieceS_elim fun l n hp => by
  rw [laws_szPieceS_L_sh]
  simp (disch := omega) [wrap_id]
  grind
theorem laws_toPiece_ok : ∀ ds outs, F_toPiece ds = some outs → shL laws_toPiece_L (qRet outs) ds := F_toPiece_elim fun x => by
  rw [laws_toPiece_L_sh]; simp

theorem laws_toPieceS_ok : ∀ ds outs, F_toPieceS ds = some outs → shL laws_toPieceS_L (qRet outs) ds := F_toPieceS_elim fun l hp => by
  rw [laws_toPieceS_L_sh]
  simp
  refine ⟨by omega, ?_⟩
  refine loop_upto l.length (fun k => [vL I2 v2 l, .int .i64 k, vL I2 v2 (l.take k ++ List.replicate (l.length - k) ⟨0, 0⟩)]) (by intro i j _ _ h; simp at h; omega) (fun _ => True) (by simp) trivial ?_
  intro k hk _
  rw [laws_toPieceS_b0_sh]
  simp
  refine ⟨fun h => ?_, fun h => ?_⟩
  · rw [fill_get h (by omega)]
    simp (disch := omega) [h, fill_set h, wrap_id]
  · obtain rfl : k = l.length := by omega
    simp [laws_toPieceS_r1_sh]
theorem impl_PiecesOk_ok : ∀ ds outs, F_PiecesOk ds = some outs → shL impl_PiecesOk_L (qRet outs) ds := F_PiecesOk_elim fun l hp => by
  rw [impl_PiecesOk_L_sh]
  simp
  refine ⟨fun h => by simp [piecesOk]; intro h; omega, fun h9 => ?_⟩
  refine loop_upto l.length (fun k => [vL I2 v2 l, .int .i64 l.length, .int .i64 k]) (by intro i j _ _ h; simp at h; omega) (fun k => ∀ x ∈ l.take k, pieceOk x = true) (by simp) (by simp) ?_
  intro k hk hP
  rw [impl_PiecesOk_b0_sh]
  simp
  refine ⟨fun h => ?_, fun h => ?_⟩
  · have hno : pieceOk l[k] = false → piecesOk l = false := by
      intro hf
      simp only [piecesOk, Bool.and_eq_false_iff, List.all_eq_false]
      exact .inr ⟨l[k], by simp, by simp [hf]⟩
    simp (disch := omega) only [h, List.getElem?_eq_getElem, Option.some.injEq, exists_eq_left', wrap_id, all_take_succ h]
    cases h1 : within l[k].a 1 600 <;> cases h2 : within l[k].b 0 9 <;> simp_all [pieceOk]
  · obtain rfl : k = l.length := by omega
    simp [impl_PiecesOk_r1_sh, piecesOk]
    simp at hP
    exact ⟨by omega, hP⟩
theorem spec_PiecesOk_ok : ∀ ds outs, F_PiecesOk ds = some outs → shL spec_PiecesOk_L (qRet outs) ds := F_PiecesOk_elim fun l hp => by
  rw [spec_PiecesOk_L_sh]
  refine loop_upto l.length (fun k => [vL I2 v2 l, .int .i64 k]) (by intro i j _ _ h; simp at h; omega) (fun k => ∀ x ∈ l.take k, pieceOk x = true) (by simp) (by simp) ?_
  intro k hk hP
  rw [spec_PiecesOk_b0_sh]
  simp
  refine ⟨fun h => ?_, fun h => ?_⟩
  · have hno : pieceOk l[k] = false → piecesOk l = false := by
      intro hf
      simp only [piecesOk, Bool.and_eq_false_iff, List.all_eq_false]
      exact .inr ⟨l[k], by simp, by simp [hf]⟩
    simp (disch := omega) only [h, List.getElem?_eq_getElem, Option.some.injEq, exists_eq_left', wrap_id, all_take_succ h]
    cases h1 : within l[k].a 1 600 <;> cases h2 : within l[k].b 0 9 <;> simp_all [pieceOk]
  · obtain rfl : k = l.length := by omega
    simp [spec_PiecesOk_r1_sh, piecesOk]
    simp at hP
    grind
theorem laws_eqPiece_ok : ∀ ds outs, F_eqPiece ds = some outs → shL laws_eqPiece_L (qRet outs) ds := F_eqPiece_elim fun x y => by
  rw [laws_eqPiece_L_sh]
  cases x; cases y
  simp
  grind
theorem laws_eqPieceS_ok : ∀ ds outs, F_eqPieceS ds = some outs → shL laws_eqPieceS_L (qRet outs) ds := F_eqPieceS_elim fun l m hp => by
  rw [laws_eqPieceS_L_sh]
  simp
  refine ⟨fun h => ?_, fun hl => ?_⟩
  · rintro rfl; omega
  refine loop_upto l.length (fun k => [vL I2 v2 l, vL I2 v2 m, .int .i64 k]) (by intro i j _ _ h; simp at h; omega) (fun k => l.take k = m.take k) (by simp) (by simp) ?_
  intro k hk hP
  rw [laws_eqPieceS_b0_sh]
  simp
  refine ⟨fun h => ?_, fun h => ?_⟩
  · have h2 : k < m.length := by omega
    simp (disch := omega) [h, wrap_id]
    refine ⟨fun hne he => ?_, fun h3 => ?_⟩
    · subst he; exact hne rfl
    · rw [take_succ_get h, take_succ_get h2, hP, h3]
  · obtain rfl : k = l.length := by omega
    rw [List.take_length, List.take_of_length_le (by omega)] at hP
    simp [laws_eqPieceS_r1_sh, hP]
end Go.Mw

/- The structs of the program, flat. -/
namespace Go.Mw
/-- A cylinder: steps, tracks, pins (track, angle). -/
structure Cyl where
  s : Int
  t : Int
  p : List T2
/-- A state: angle, on, played. -/
structure Stt where
  a : Int
  n : Bool
  p : Int
  deriving DecidableEq
/-- A bench: its cylinder, and the former pins. -/
structure Bench where
  s : Int
  t : Int
  p : List T2
  o : List (List T2)
/-- A workshop: its bench; comb; spring (turns, most, force); money; played. -/
structure Shop where
  s : Int
  t : Int
  p : List T2
  o : List (List T2)
  c : List Int
  u : Int
  m : Int
  f : Int
  y : Int
  d : Int
  deriving DecidableEq
@[simp] theorem Cyl.eta (x : Cyl) : Cyl.mk x.s x.t x.p = x := rfl
@[simp] theorem Stt.eta (x : Stt) : Stt.mk x.a x.n x.p = x := rfl
@[simp] theorem P1_eqa22 {a b c d : Int} {k : V → Prop} : P1 (.eqa false [.i, .i]) [.int .i64 a, .int .i64 b, .int .i64 c, .int .i64 d] k ↔ k (.bool (decide (a = c ∧ b = d))) := P1_of (by simp only [Prim.run, eqVs, eqV1, List.length_cons, List.length_nil, List.take, List.drop, if_true]; cases h1 : a == c <;> cases h2 : b == d <;> simp_all) k
@[simp] theorem P1_nea22 {a b c d : Int} {k : V → Prop} : P1 (.eqa true [.i, .i]) [.int .i64 a, .int .i64 b, .int .i64 c, .int .i64 d] k ↔ k (.bool (!decide (a = c ∧ b = d))) := P1_of (by simp only [Prim.run, eqVs, eqV1, List.length_cons, List.length_nil, List.take, List.drop, if_true]; cases h1 : a == c <;> cases h2 : b == d <;> simp_all) k
@[simp] theorem P1_eqaX {a c e g : Int} {b f : Bool} {k : V → Prop} : P1 (.eqa false [.i, .b, .i]) [.int .i64 a, .bool b, .int .i64 c, .int .i64 e, .bool f, .int .i64 g] k ↔ k (.bool (decide (a = e ∧ b = f ∧ c = g))) := P1_of (by simp only [Prim.run, eqVs, eqV1, List.length_cons, List.length_nil, List.take, List.drop, if_true]; cases h1 : a == e <;> cases h2 : b == f <;> cases h3 : c == g <;> simp_all) k
theorem P1_lsub2 {α : Type} {ks : List AK} {f : α → V} {l : List α} {κ κ' : IntKind} {i j : Int} {k : V → Prop} : P1 (.lsub ks) [vL ks f l, .int κ i, .int κ' j] k ↔ (0 ≤ i ∧ i ≤ j ∧ j ≤ l.length) ∧ k (vL ks f ((l.take j.toNat).drop i.toNat)) :=
  P1_opt (by simp only [Prim.run, vL, AK.eqs_refl, if_true, subB, List.length_map]; split <;> simp_all [List.map_drop, List.map_take]) k
theorem P1_lsub1 {α : Type} {ks : List AK} {f : α → V} {l : List α} {κ : IntKind} {i : Int} {k : V → Prop} : P1 (.lsub ks) [vL ks f l, .int κ i] k ↔ (0 ≤ i ∧ i ≤ l.length) ∧ k (vL ks f (l.drop i.toNat)) :=
  P1_opt (by simp only [Prim.run, vL, AK.eqs_refl, if_true, subB, List.length_map]; split <;> simp_all [List.map_drop, List.take_of_length_le]) k
@[simp] theorem P1_lsubI_2 {l : List Int} {κ κ' : IntKind} {i j : Int} {k : V → Prop} : P1 (.lsub [.sc]) [vL I1 v1 l, .int κ i, .int κ' j] k ↔ (0 ≤ i ∧ i ≤ j ∧ j ≤ l.length) ∧ k (vL I1 v1 ((l.take j.toNat).drop i.toNat)) := P1_lsub2
@[simp] theorem P1_lsubI_1 {l : List Int} {κ : IntKind} {i : Int} {k : V → Prop} : P1 (.lsub [.sc]) [vL I1 v1 l, .int κ i] k ↔ (0 ≤ i ∧ i ≤ l.length) ∧ k (vL I1 v1 (l.drop i.toNat)) := P1_lsub1
@[simp] theorem P1_appI_ {l m : List Int} {b : Nat} {k : V → Prop} : P1 (.app [.sc] b) [vL I1 v1 l, vL I1 v1 m] k ↔ ((l.length + m.length) * b ≤ 140737488355328 ∧ l.length + m.length ≤ 140737488355328) ∧ k (vL I1 v1 (l ++ m)) := P1_app
@[simp] theorem P1_appI_0 {m : List Int} {b : Nat} {k : V → Prop} : P1 (.app [.sc] b) [.list [.sc] [], vL I1 v1 m] k ↔ (m.length * b ≤ 140737488355328 ∧ m.length ≤ 140737488355328) ∧ k (vL I1 v1 m) := P1_app0
@[simp] theorem P1_appI_1 {l : List Int} {b : Nat} {k : V → Prop} : P1 (.app [.sc] b) [vL I1 v1 l, .list [.sc] []] k ↔ (l.length * b ≤ 140737488355328 ∧ l.length ≤ 140737488355328) ∧ k (vL I1 v1 l) := P1_app1
@[simp] theorem P1_lsubY_2 {l : List UInt8} {κ κ' : IntKind} {i j : Int} {k : V → Prop} : P1 (.lsub [.sc]) [vL I1 vY l, .int κ i, .int κ' j] k ↔ (0 ≤ i ∧ i ≤ j ∧ j ≤ l.length) ∧ k (vL I1 vY ((l.take j.toNat).drop i.toNat)) := P1_lsub2
@[simp] theorem P1_lsubY_1 {l : List UInt8} {κ : IntKind} {i : Int} {k : V → Prop} : P1 (.lsub [.sc]) [vL I1 vY l, .int κ i] k ↔ (0 ≤ i ∧ i ≤ l.length) ∧ k (vL I1 vY (l.drop i.toNat)) := P1_lsub1
@[simp] theorem P1_appY_ {l m : List UInt8} {b : Nat} {k : V → Prop} : P1 (.app [.sc] b) [vL I1 vY l, vL I1 vY m] k ↔ ((l.length + m.length) * b ≤ 140737488355328 ∧ l.length + m.length ≤ 140737488355328) ∧ k (vL I1 vY (l ++ m)) := P1_app
@[simp] theorem P1_appY_0 {m : List UInt8} {b : Nat} {k : V → Prop} : P1 (.app [.sc] b) [.list [.sc] [], vL I1 vY m] k ↔ (m.length * b ≤ 140737488355328 ∧ m.length ≤ 140737488355328) ∧ k (vL I1 vY m) := P1_app0
@[simp] theorem P1_appY_1 {l : List UInt8} {b : Nat} {k : V → Prop} : P1 (.app [.sc] b) [vL I1 vY l, .list [.sc] []] k ↔ (l.length * b ≤ 140737488355328 ∧ l.length ≤ 140737488355328) ∧ k (vL I1 vY l) := P1_app1
@[simp] theorem P1_lsubS_2 {l : List (List UInt8)} {κ κ' : IntKind} {i j : Int} {k : V → Prop} : P1 (.lsub [.sc]) [vL I1 vS l, .int κ i, .int κ' j] k ↔ (0 ≤ i ∧ i ≤ j ∧ j ≤ l.length) ∧ k (vL I1 vS ((l.take j.toNat).drop i.toNat)) := P1_lsub2
@[simp] theorem P1_lsubS_1 {l : List (List UInt8)} {κ : IntKind} {i : Int} {k : V → Prop} : P1 (.lsub [.sc]) [vL I1 vS l, .int κ i] k ↔ (0 ≤ i ∧ i ≤ l.length) ∧ k (vL I1 vS (l.drop i.toNat)) := P1_lsub1
@[simp] theorem P1_appS_ {l m : List (List UInt8)} {b : Nat} {k : V → Prop} : P1 (.app [.sc] b) [vL I1 vS l, vL I1 vS m] k ↔ ((l.length + m.length) * b ≤ 140737488355328 ∧ l.length + m.length ≤ 140737488355328) ∧ k (vL I1 vS (l ++ m)) := P1_app
@[simp] theorem P1_appS_0 {m : List (List UInt8)} {b : Nat} {k : V → Prop} : P1 (.app [.sc] b) [.list [.sc] [], vL I1 vS m] k ↔ (m.length * b ≤ 140737488355328 ∧ m.length ≤ 140737488355328) ∧ k (vL I1 vS m) := P1_app0
@[simp] theorem P1_appS_1 {l : List (List UInt8)} {b : Nat} {k : V → Prop} : P1 (.app [.sc] b) [vL I1 vS l, .list [.sc] []] k ↔ (l.length * b ≤ 140737488355328 ∧ l.length ≤ 140737488355328) ∧ k (vL I1 vS l) := P1_app1
@[simp] theorem P1_lsub2_2 {l : List T2} {κ κ' : IntKind} {i j : Int} {k : V → Prop} : P1 (.lsub [.sc, .sc]) [vL I2 v2 l, .int κ i, .int κ' j] k ↔ (0 ≤ i ∧ i ≤ j ∧ j ≤ l.length) ∧ k (vL I2 v2 ((l.take j.toNat).drop i.toNat)) := P1_lsub2
@[simp] theorem P1_lsub2_1 {l : List T2} {κ : IntKind} {i : Int} {k : V → Prop} : P1 (.lsub [.sc, .sc]) [vL I2 v2 l, .int κ i] k ↔ (0 ≤ i ∧ i ≤ l.length) ∧ k (vL I2 v2 (l.drop i.toNat)) := P1_lsub1
@[simp] theorem P1_app2_ {l m : List T2} {b : Nat} {k : V → Prop} : P1 (.app [.sc, .sc] b) [vL I2 v2 l, vL I2 v2 m] k ↔ ((l.length + m.length) * b ≤ 140737488355328 ∧ l.length + m.length ≤ 140737488355328) ∧ k (vL I2 v2 (l ++ m)) := P1_app
@[simp] theorem P1_app2_0 {m : List T2} {b : Nat} {k : V → Prop} : P1 (.app [.sc, .sc] b) [.list [.sc, .sc] [], vL I2 v2 m] k ↔ (m.length * b ≤ 140737488355328 ∧ m.length ≤ 140737488355328) ∧ k (vL I2 v2 m) := P1_app0
@[simp] theorem P1_app2_1 {l : List T2} {b : Nat} {k : V → Prop} : P1 (.app [.sc, .sc] b) [vL I2 v2 l, .list [.sc, .sc] []] k ↔ (l.length * b ≤ 140737488355328 ∧ l.length ≤ 140737488355328) ∧ k (vL I2 v2 l) := P1_app1
@[simp] theorem P1_lsub3_2 {l : List T3} {κ κ' : IntKind} {i j : Int} {k : V → Prop} : P1 (.lsub [.sc, .sc, .sc]) [vL I3 v3 l, .int κ i, .int κ' j] k ↔ (0 ≤ i ∧ i ≤ j ∧ j ≤ l.length) ∧ k (vL I3 v3 ((l.take j.toNat).drop i.toNat)) := P1_lsub2
@[simp] theorem P1_lsub3_1 {l : List T3} {κ : IntKind} {i : Int} {k : V → Prop} : P1 (.lsub [.sc, .sc, .sc]) [vL I3 v3 l, .int κ i] k ↔ (0 ≤ i ∧ i ≤ l.length) ∧ k (vL I3 v3 (l.drop i.toNat)) := P1_lsub1
@[simp] theorem P1_app3_ {l m : List T3} {b : Nat} {k : V → Prop} : P1 (.app [.sc, .sc, .sc] b) [vL I3 v3 l, vL I3 v3 m] k ↔ ((l.length + m.length) * b ≤ 140737488355328 ∧ l.length + m.length ≤ 140737488355328) ∧ k (vL I3 v3 (l ++ m)) := P1_app
@[simp] theorem P1_app3_0 {m : List T3} {b : Nat} {k : V → Prop} : P1 (.app [.sc, .sc, .sc] b) [.list [.sc, .sc, .sc] [], vL I3 v3 m] k ↔ (m.length * b ≤ 140737488355328 ∧ m.length ≤ 140737488355328) ∧ k (vL I3 v3 m) := P1_app0
@[simp] theorem P1_app3_1 {l : List T3} {b : Nat} {k : V → Prop} : P1 (.app [.sc, .sc, .sc] b) [vL I3 v3 l, .list [.sc, .sc, .sc] []] k ↔ (l.length * b ≤ 140737488355328 ∧ l.length ≤ 140737488355328) ∧ k (vL I3 v3 l) := P1_app1
@[simp] theorem P1_lsubL2_2 {l : List (List T2)} {κ κ' : IntKind} {i j : Int} {k : V → Prop} : P1 (.lsub [.sl [.sc, .sc]]) [vL IL2 vLL2 l, .int κ i, .int κ' j] k ↔ (0 ≤ i ∧ i ≤ j ∧ j ≤ l.length) ∧ k (vL IL2 vLL2 ((l.take j.toNat).drop i.toNat)) := P1_lsub2
@[simp] theorem P1_lsubL2_1 {l : List (List T2)} {κ : IntKind} {i : Int} {k : V → Prop} : P1 (.lsub [.sl [.sc, .sc]]) [vL IL2 vLL2 l, .int κ i] k ↔ (0 ≤ i ∧ i ≤ l.length) ∧ k (vL IL2 vLL2 (l.drop i.toNat)) := P1_lsub1
@[simp] theorem P1_appL2_ {l m : List (List T2)} {b : Nat} {k : V → Prop} : P1 (.app [.sl [.sc, .sc]] b) [vL IL2 vLL2 l, vL IL2 vLL2 m] k ↔ ((l.length + m.length) * b ≤ 140737488355328 ∧ l.length + m.length ≤ 140737488355328) ∧ k (vL IL2 vLL2 (l ++ m)) := P1_app
@[simp] theorem P1_appL2_0 {m : List (List T2)} {b : Nat} {k : V → Prop} : P1 (.app [.sl [.sc, .sc]] b) [.list [.sl [.sc, .sc]] [], vL IL2 vLL2 m] k ↔ (m.length * b ≤ 140737488355328 ∧ m.length ≤ 140737488355328) ∧ k (vL IL2 vLL2 m) := P1_app0
@[simp] theorem P1_appL2_1 {l : List (List T2)} {b : Nat} {k : V → Prop} : P1 (.app [.sl [.sc, .sc]] b) [vL IL2 vLL2 l, .list [.sl [.sc, .sc]] []] k ↔ (l.length * b ≤ 140737488355328 ∧ l.length ≤ 140737488355328) ∧ k (vL IL2 vLL2 l) := P1_app1
end Go.Mw

/- What functions compute, in plain terms: pieces, pins, cylinders, states, digits, boxes. -/
namespace Go.Mw
/-! memory -/
def E_eqIntS : List Int × List Int → List V := fun (l, m) => [vL I1 v1 l, vL I1 v1 m]
noncomputable def F_eqIntS : List V → Option (List V) := mkF E_eqIntS (fun (l, m) => l.length ≤ 1048576 ∧ m.length ≤ 1048576) (fun (l, m) => [.bool (decide (l = m))])
theorem F_eqIntS_inj : ∀ x y, E_eqIntS x = E_eqIntS y → x = y := by
  rintro ⟨l, m⟩ ⟨l', m'⟩ h
  simpa [E_eqIntS] using h
theorem F_eqIntS_elim {P : List V → List V → Prop} (h : ∀ (l : List Int) (m : List Int), (l.length ≤ 1048576 ∧ m.length ≤ 1048576) → P [vL I1 v1 l, vL I1 v1 m] [.bool (decide (l = m))]) : ∀ ds outs, F_eqIntS ds = some outs → P ds outs := by
  intro ds outs hh
  obtain ⟨⟨l, m⟩, rfl, hp, rfl⟩ := mkF_inv hh
  exact h l m hp
theorem p_eqIntS {l : List Int} {m : List Int} {nr_ : Nat} {kk_ : V → Prop} (hp : l.length ≤ 1048576 ∧ m.length ≤ 1048576) : P1 (.call F_eqIntS 0 nr_) [vL I1 v1 l, vL I1 v1 m] kk_ ↔ kk_ (.bool (decide (l = m))) :=
  P1_callF (by unfold F_eqIntS; exact mkF_eq F_eqIntS_inj (l, m) hp)

def E_markIntS : List Int × Int → List V := fun (l, k) => [vL I1 v1 l, .int .i64 k]
noncomputable def F_markIntS : List V → Option (List V) := mkF E_markIntS (fun (l, k) => l.length ≤ 4194304 ∧ 0 ≤ k ∧ k ≤ 1099511627776) (fun (l, k) => [.int .i64 (k + 1 * l.length), vL I1 v1 (markL1 l.length k)])
theorem F_markIntS_inj : ∀ x y, E_markIntS x = E_markIntS y → x = y := by
  rintro ⟨l, k⟩ ⟨l', k'⟩ h
  simpa [E_markIntS] using h
theorem F_markIntS_elim {P : List V → List V → Prop} (h : ∀ (l : List Int) (k : Int), (l.length ≤ 4194304 ∧ 0 ≤ k ∧ k ≤ 1099511627776) → P [vL I1 v1 l, .int .i64 k] [.int .i64 (k + 1 * l.length), vL I1 v1 (markL1 l.length k)]) : ∀ ds outs, F_markIntS ds = some outs → P ds outs := by
  intro ds outs hh
  obtain ⟨⟨l, k⟩, rfl, hp, rfl⟩ := mkF_inv hh
  exact h l k hp
theorem p_markIntS {l : List Int} {k : Int} {kk_ : V → V → Prop} (hp : l.length ≤ 4194304 ∧ 0 ≤ k ∧ k ≤ 1099511627776) : P2 (.call F_markIntS 1 1) [vL I1 v1 l, .int .i64 k, vL I1 v1 l] kk_ ↔ kk_ (.int .i64 (k + 1 * l.length)) (vL I1 v1 (markL1 l.length k)) :=
  P2_of (callIo_run (as := [vL I1 v1 l, .int .i64 k]) (rs := [vL I1 v1 l]) (n := 1) (nr := 1) rfl (by simp) (by unfold F_markIntS; exact mkF_eq F_markIntS_inj (l, k) hp) (by simp [ksAll, vL, AK.eqs_refl]) rfl)

def E_heldIntS : List Int × Int → List V := fun (l, k) => [vL I1 v1 l, .int .i64 k]
noncomputable def F_heldIntS : List V → Option (List V) := mkF E_heldIntS (fun (l, k) => l.length ≤ 4194304 ∧ 0 ≤ k ∧ k ≤ 1099511627776) (fun (l, k) => [.int .i64 (if l = markL1 l.length k then k + 1 * l.length else -1)])
theorem F_heldIntS_inj : ∀ x y, E_heldIntS x = E_heldIntS y → x = y := by
  rintro ⟨l, k⟩ ⟨l', k'⟩ h
  simpa [E_heldIntS] using h
theorem F_heldIntS_elim {P : List V → List V → Prop} (h : ∀ (l : List Int) (k : Int), (l.length ≤ 4194304 ∧ 0 ≤ k ∧ k ≤ 1099511627776) → P [vL I1 v1 l, .int .i64 k] [.int .i64 (if l = markL1 l.length k then k + 1 * l.length else -1)]) : ∀ ds outs, F_heldIntS ds = some outs → P ds outs := by
  intro ds outs hh
  obtain ⟨⟨l, k⟩, rfl, hp, rfl⟩ := mkF_inv hh
  exact h l k hp
theorem p_heldIntS {l : List Int} {k : Int} {nr_ : Nat} {kk_ : V → Prop} (hp : l.length ≤ 4194304 ∧ 0 ≤ k ∧ k ≤ 1099511627776) : P1 (.call F_heldIntS 0 nr_) [vL I1 v1 l, .int .i64 k] kk_ ↔ kk_ (.int .i64 (if l = markL1 l.length k then k + 1 * l.length else -1)) :=
  P1_callF (by unfold F_heldIntS; exact mkF_eq F_heldIntS_inj (l, k) hp)

/-! pieces -/
def showSum (pause : Int) : List T2 → Nat → Int
  | _, 0 => 0
  | l, k + 1 => showSum pause l k + (match l[k]? with | some x => x.a | none => 0) + (if 0 < k then pause else 0)
def showTime (l : List T2) (pause : Int) : Int := if piecesOk l && within pause 0 600 then showSum pause l l.length else -1
def E_ShowTime : List T2 × Int → List V := fun (l, p) => [vL I2 v2 l, .int .i64 p]
noncomputable def F_ShowTime : List V → Option (List V) := mkF E_ShowTime (fun (l, _) => l.length ≤ 1048576) (fun (l, p) => [.int .i64 (showTime l p)])
theorem F_ShowTime_inj : ∀ x y, E_ShowTime x = E_ShowTime y → x = y := by
  rintro ⟨l, p⟩ ⟨l', p'⟩ h
  simpa [E_ShowTime] using h
theorem F_ShowTime_elim {P : List V → List V → Prop} (h : ∀ (l : List T2) (p : Int), (l.length ≤ 1048576) → P [vL I2 v2 l, .int .i64 p] [.int .i64 (showTime l p)]) : ∀ ds outs, F_ShowTime ds = some outs → P ds outs := by
  intro ds outs hh
  obtain ⟨⟨l, p⟩, rfl, hp, rfl⟩ := mkF_inv hh
  exact h l p hp
theorem p_ShowTime {l : List T2} {p : Int} {nr_ : Nat} {kk_ : V → Prop} (hp : l.length ≤ 1048576) : P1 (.call F_ShowTime 0 nr_) [vL I2 v2 l, .int .i64 p] kk_ ↔ kk_ (.int .i64 (showTime l p)) :=
  P1_callF (by unfold F_ShowTime; exact mkF_eq F_ShowTime_inj (l, p) hp)


/-! pins -/
/-! states -/
/-! digits -/
/-! boxes -/
end Go.Mw

/- Functions of the program, as small pure programs (printed by a program of ours). -/
namespace Go.Mw
noncomputable section
def spec_ShowTime_b0 : L := .seq (.seq (.seq (.rg [⟨[], .len, [.v 0], 1⟩, ⟨[], .bin .lss, [.v 3, .v 4], 1⟩]) (.ite (.v 5) (.skip) (.seq (.tup [.v 2]) (.exit 0)))) (.seq (.block 1 (.seq (.seq (.rg [⟨[], .idx [.sc, .sc], [.v 0, .v 3], 2⟩, ⟨[], .bin .add, [.v 2, .v 6], 1⟩]) (.seq (.rg [⟨[], .bin .gtr, [.v 3, .k (.int .i64 0)], 1⟩]) (.ite (.v 9) (.seq (.rg [⟨[], .bin .add, [.v 8, .v 1], 1⟩]) (.tup [.v 0, .v 1, .v 10, .v 3])) (.seq (.skip) (.tup [.v 0, .v 1, .v 8, .v 3]))))) (.tup [.v 0, .v 1, .v 2, .v 3]))) (.rg [⟨[], .bin .add, [.v 3, .k (.int .i64 1)], 1⟩]))) (.tup [.v 0, .v 1, .v 2, .v 4])
theorem spec_ShowTime_b0_sh (Q : QT) (x0 x1 x2 x3 : V) : shL spec_ShowTime_b0 Q [x0, x1, x2, x3] = (
  P1 (.len) [x0] fun v0 =>
  P1 (.bin .lss) [x3, v0] fun v1 =>
  ifB v1 (
    P2 (.idx [.sc, .sc]) [x0, x3] fun v2 _ =>
    P1 (.bin .add) [x2, v2] fun v4 =>
    P1 (.bin .gtr) [x3, .int .i64 0] fun v5 =>
    ifB v5 (
      P1 (.bin .add) [v4, x1] fun v6 =>
      P1 (.bin .add) [x3, .int .i64 1] fun v7 =>
      Q .normal [x0, x1, v6, v7]) (
      P1 (.bin .add) [x3, .int .i64 1] fun v8 =>
      Q .normal [x0, x1, v4, v8])) (
    Q (.exit 0) [x2])) := by kernel_rfl

def spec_ShowTime_r1 : L := .seq (.rg []) (.ret [.v 0])
theorem spec_ShowTime_r1_sh (Q : QT) (x0 : V) : shL spec_ShowTime_r1 Q [x0] = (
  Q .ret [x0]) := by kernel_rfl

def spec_ShowTime_L : L := .seq (.rg []) (.seq (.seq (.rg [⟨[], .call F_PiecesOk 0 1, [.v 0], 1⟩, ⟨[], .un .not, [.v 2], 1⟩, ⟨[(.v 3, false)], .call F_l01In 0 1, [.v 1, .k (.int .i64 0), .k (.int .i64 600)], 1⟩, ⟨[(.v 3, false)], .un .not, [.v 4], 1⟩, ⟨[], .pick, [.v 3, .k (.bool true), .v 5], 1⟩]) (.ite (.v 6) (.seq (.rg []) (.ret [.k (.int .i64 (-1))])) (.skip))) (.seq (.rg []) (.seq (.seq (.rg []) (.block 0 (.seq (.tup [.v 0, .v 1, .k (.int .i64 0), .k (.int .i64 0)]) (.loop (spec_ShowTime_b0))))) (spec_ShowTime_r1))))
theorem spec_ShowTime_L_sh (Q : QT) (x0 x1 : V) : shL spec_ShowTime_L Q [x0, x1] = (
  P1 (.call F_PiecesOk 0 1) [x0] fun v0 =>
  P1 (.un .not) [v0] fun v1 =>
  ifB v1 (
    Q .ret [.int .i64 (-1)]) (
    P1 (.call F_l01In 0 1) [x1, .int .i64 0, .int .i64 600] fun v2 =>
    P1 (.un .not) [v2] fun v3 =>
    ifB v3 (
      Q .ret [.int .i64 (-1)]) (
      shL (.loop spec_ShowTime_b0) (qB 0 (qS (shL spec_ShowTime_r1 Q) Q)) [x0, x1, .int .i64 0, .int .i64 0]))) := by kernel_rfl
def spec_ShowTime_S : Sig := ⟨[.val false [.sl [.sc, .sc]], .val false [.sc]], [(false, [.sc])], F_ShowTime⟩
def spec_ShowTime_hs : List NF := [⟨[(5, .sc false [.sc])], [], [], 64⟩, ⟨[(0, .sc false [.ro [.sc, .sc]]), (1, .sc false [.sc]), (5, .sc false [.sc]), (6, .sc false [.sc])], [], [], 64⟩, ⟨[(0, .sc false [.ro [.sc, .sc]]), (1, .sc false [.sc]), (5, .sc false [.sc]), (6, .sc false [.sc])], [], [], 64⟩, ⟨[(0, .sc false [.ro [.sc, .sc]]), (1, .sc false [.sc]), (5, .sc false [.sc]), (6, .sc false [.sc])], [], [], 64⟩]

def impl_ShowTime_b0 : L := .seq (.seq (.rg [⟨[], .bin .lss, [.v 4, .v 3], 1⟩]) (.seq (.ite (.v 5) (.skip) (.seq (.tup [.v 1]) (.exit 0))) (.seq (.block 1 (.seq (.seq (.rg [⟨[], .idx [.sc, .sc], [.v 2, .v 4], 2⟩]) (.seq (.rg [⟨[], .bin .add, [.v 1, .v 6], 1⟩]) (.seq (.rg [⟨[], .bin .gtr, [.v 4, .k (.int .i64 0)], 1⟩]) (.ite (.v 9) (.seq (.rg [⟨[], .bin .add, [.v 8, .v 0], 1⟩]) (.tup [.v 0, .v 10, .v 2, .v 3, .v 4])) (.seq (.skip) (.tup [.v 0, .v 8, .v 2, .v 3, .v 4])))))) (.tup [.v 0, .v 1, .v 2, .v 3, .v 4]))) (.rg [⟨[], .bin .add, [.v 4, .k (.int .i64 1)], 1⟩])))) (.tup [.v 0, .v 1, .v 2, .v 3, .v 5])
theorem impl_ShowTime_b0_sh (Q : QT) (x0 x1 x2 x3 x4 : V) : shL impl_ShowTime_b0 Q [x0, x1, x2, x3, x4] = (
  P1 (.bin .lss) [x4, x3] fun v0 =>
  ifB v0 (
    P2 (.idx [.sc, .sc]) [x2, x4] fun v1 _ =>
    P1 (.bin .add) [x1, v1] fun v3 =>
    P1 (.bin .gtr) [x4, .int .i64 0] fun v4 =>
    ifB v4 (
      P1 (.bin .add) [v3, x0] fun v5 =>
      P1 (.bin .add) [x4, .int .i64 1] fun v6 =>
      Q .normal [x0, v5, x2, x3, v6]) (
      P1 (.bin .add) [x4, .int .i64 1] fun v7 =>
      Q .normal [x0, v3, x2, x3, v7])) (
    Q (.exit 0) [x1])) := by kernel_rfl

def impl_ShowTime_r1 : L := .seq (.rg []) (.ret [.v 0])
theorem impl_ShowTime_r1_sh (Q : QT) (x0 : V) : shL impl_ShowTime_r1 Q [x0] = (
  Q .ret [x0]) := by kernel_rfl

def impl_ShowTime_L : L := .seq (.rg []) (.seq (.seq (.rg [⟨[], .call F_PiecesOk 0 1, [.v 0], 1⟩, ⟨[], .un .not, [.v 2], 1⟩, ⟨[(.v 3, false)], .call F_within 0 1, [.v 1, .k (.int .i64 0), .k (.int .i64 600)], 1⟩, ⟨[(.v 3, false)], .un .not, [.v 4], 1⟩, ⟨[], .pick, [.v 3, .k (.bool true), .v 5], 1⟩]) (.ite (.v 6) (.seq (.rg []) (.ret [.k (.int .i64 (-1))])) (.skip))) (.seq (.rg []) (.seq (.seq (.rg [⟨[], .len, [.v 0], 1⟩]) (.block 0 (.seq (.tup [.v 1, .k (.int .i64 0), .v 0, .v 7, .k (.int .i64 0)]) (.loop (impl_ShowTime_b0))))) (impl_ShowTime_r1))))
theorem impl_ShowTime_L_sh (Q : QT) (x0 x1 : V) : shL impl_ShowTime_L Q [x0, x1] = (
  P1 (.call F_PiecesOk 0 1) [x0] fun v0 =>
  P1 (.un .not) [v0] fun v1 =>
  ifB v1 (
    Q .ret [.int .i64 (-1)]) (
    P1 (.call F_within 0 1) [x1, .int .i64 0, .int .i64 600] fun v2 =>
    P1 (.un .not) [v2] fun v3 =>
    ifB v3 (
      Q .ret [.int .i64 (-1)]) (
      P1 (.len) [x0] fun v4 =>
      shL (.loop impl_ShowTime_b0) (qB 0 (qS (shL impl_ShowTime_r1 Q) Q)) [x1, .int .i64 0, x0, v4, .int .i64 0]))) := by kernel_rfl
def impl_ShowTime_S : Sig := ⟨[.val false [.sl [.sc, .sc]], .val false [.sc]], [(false, [.sc])], F_ShowTime⟩
def impl_ShowTime_hs : List NF := [⟨[(5, .sc false [.sc])], [], [], 64⟩, ⟨[(1, .sc false [.sc]), (5, .sc false [.sc]), (16, .sc false [.ro [.sc, .sc]]), (17, .sc false [.sc]), (18, .sc false [.sc])], [], [], 64⟩, ⟨[(1, .sc false [.sc]), (5, .sc false [.sc]), (16, .sc false [.ro [.sc, .sc]]), (17, .sc false [.sc]), (18, .sc false [.sc])], [], [], 64⟩, ⟨[(1, .sc false [.sc]), (5, .sc false [.sc]), (16, .sc false [.ro [.sc, .sc]]), (17, .sc false [.sc]), (18, .sc false [.sc])], [], [], 64⟩]

def laws_eqIntS_b0 : L := .seq (.seq (.seq (.rg [⟨[], .len, [.v 0], 1⟩, ⟨[], .bin .lss, [.v 2, .v 3], 1⟩]) (.ite (.v 4) (.skip) (.seq (.tup []) (.exit 0)))) (.seq (.block 1 (.seq (.seq (.rg [⟨[], .idx [.sc], [.v 0, .v 2], 1⟩, ⟨[], .idx [.sc], [.v 1, .v 2], 1⟩, ⟨[], .bin .neq, [.v 5, .v 6], 1⟩]) (.ite (.v 7) (.seq (.rg []) (.ret [.k (.bool false)])) (.skip))) (.tup [.v 0, .v 1, .v 2]))) (.rg [⟨[], .bin .add, [.v 2, .k (.int .i64 1)], 1⟩]))) (.tup [.v 0, .v 1, .v 3])
theorem laws_eqIntS_b0_sh (Q : QT) (x0 x1 x2 : V) : shL laws_eqIntS_b0 Q [x0, x1, x2] = (
  P1 (.len) [x0] fun v0 =>
  P1 (.bin .lss) [x2, v0] fun v1 =>
  ifB v1 (
    P1 (.idx [.sc]) [x0, x2] fun v2 =>
    P1 (.idx [.sc]) [x1, x2] fun v3 =>
    P1 (.bin .neq) [v2, v3] fun v4 =>
    ifB v4 (
      Q .ret [.bool false]) (
      P1 (.bin .add) [x2, .int .i64 1] fun v5 =>
      Q .normal [x0, x1, v5])) (
    Q (.exit 0) [])) := by kernel_rfl

def laws_eqIntS_r1 : L := .seq (.rg []) (.ret [.k (.bool true)])
theorem laws_eqIntS_r1_sh (Q : QT) : shL laws_eqIntS_r1 Q [] = (
  Q .ret [.bool true]) := by kernel_rfl

def laws_eqIntS_L : L := .seq (.rg []) (.seq (.seq (.rg [⟨[], .len, [.v 0], 1⟩, ⟨[], .len, [.v 1], 1⟩, ⟨[], .bin .neq, [.v 2, .v 3], 1⟩]) (.ite (.v 4) (.seq (.rg []) (.ret [.k (.bool false)])) (.skip))) (.seq (.seq (.rg []) (.block 0 (.seq (.tup [.v 0, .v 1, .k (.int .i64 0)]) (.loop (laws_eqIntS_b0))))) (laws_eqIntS_r1)))
theorem laws_eqIntS_L_sh (Q : QT) (x0 x1 : V) : shL laws_eqIntS_L Q [x0, x1] = (
  P1 (.len) [x0] fun v0 =>
  P1 (.len) [x1] fun v1 =>
  P1 (.bin .neq) [v0, v1] fun v2 =>
  ifB v2 (
    Q .ret [.bool false]) (
    shL (.loop laws_eqIntS_b0) (qB 0 (qS (shL laws_eqIntS_r1 Q) Q)) [x0, x1, .int .i64 0])) := by kernel_rfl
def laws_eqIntS_S : Sig := ⟨[.val false [.sl [.sc]], .val false [.sl [.sc]]], [(false, [.sc])], F_eqIntS⟩
def laws_eqIntS_hs : List NF := [⟨[], [], [], 64⟩, ⟨[(0, .sc false [.ro [.sc]]), (1, .sc false [.ro [.sc]]), (5, .sc false [.sc])], [], [], 64⟩, ⟨[(0, .sc false [.ro [.sc]]), (1, .sc false [.ro [.sc]]), (5, .sc false [.sc])], [], [], 64⟩]

def laws_markIntS_b0 : L := .seq (.seq (.seq (.rg [⟨[], .len, [.v 2], 1⟩, ⟨[], .bin .lss, [.v 1, .v 3], 1⟩]) (.ite (.v 4) (.skip) (.seq (.tup [.v 0, .v 2]) (.exit 0)))) (.seq (.block 1 (.seq (.seq (.rg [⟨[], .idx [.sc], [.v 2, .v 1], 1⟩, ⟨[], .set [.sc] 0, [.v 2, .v 1, .v 0], 1⟩]) (.rg [⟨[], .bin .add, [.v 0, .k (.int .i64 1)], 1⟩])) (.tup [.v 7, .v 1, .v 6]))) (.rg [⟨[], .bin .add, [.v 1, .k (.int .i64 1)], 1⟩]))) (.tup [.v 0, .v 3, .v 2])
theorem laws_markIntS_b0_sh (Q : QT) (x0 x1 x2 : V) : shL laws_markIntS_b0 Q [x0, x1, x2] = (
  P1 (.len) [x2] fun v0 =>
  P1 (.bin .lss) [x1, v0] fun v1 =>
  ifB v1 (
    P1 (.idx [.sc]) [x2, x1] fun _ =>
    P1 (.set [.sc] 0) [x2, x1, x0] fun v3 =>
    P1 (.bin .add) [x0, .int .i64 1] fun v4 =>
    P1 (.bin .add) [x1, .int .i64 1] fun v5 =>
    Q .normal [v4, v5, v3]) (
    Q (.exit 0) [x0, x2])) := by kernel_rfl

def laws_markIntS_r1 : L := .seq (.rg []) (.ret [.v 0, .v 1])
theorem laws_markIntS_r1_sh (Q : QT) (x0 x1 : V) : shL laws_markIntS_r1 Q [x0, x1] = (
  Q .ret [x0, x1]) := by kernel_rfl

def laws_markIntS_L : L := .seq (.rg []) (.seq (.seq (.rg []) (.block 0 (.seq (.tup [.v 1, .k (.int .i64 0), .v 0]) (.loop (laws_markIntS_b0))))) (laws_markIntS_r1))
theorem laws_markIntS_L_sh (Q : QT) (x0 x1 : V) : shL laws_markIntS_L Q [x0, x1] = (
  shL (.loop laws_markIntS_b0) (qB 0 (qS (shL laws_markIntS_r1 Q) Q)) [x1, .int .i64 0, x0]) := by kernel_rfl
def laws_markIntS_S : Sig := ⟨[.io false [.sl [.sc]], .val false [.sc]], [(false, [.sc])], F_markIntS⟩
def laws_markIntS_hs : List NF := [⟨[(1, .sc false [.sc])], [(0, false, [.sc])], [], 64⟩, ⟨[(0, .sc false [.own 0]), (1, .sc false [.sc]), (5, .sc false [.sc])], [(0, false, [.sc])], [], 64⟩, ⟨[(0, .sc false [.own 0]), (1, .sc false [.sc]), (5, .sc false [.sc])], [(0, false, [.sc])], [], 64⟩]

def laws_heldIntS_b0 : L := .seq (.seq (.seq (.rg [⟨[], .len, [.v 0], 1⟩, ⟨[], .bin .lss, [.v 2, .v 3], 1⟩]) (.ite (.v 4) (.skip) (.seq (.tup [.v 1]) (.exit 0)))) (.seq (.block 1 (.seq (.seq (.seq (.rg [⟨[], .idx [.sc], [.v 0, .v 2], 1⟩, ⟨[], .bin .neq, [.v 5, .v 1], 1⟩]) (.ite (.v 6) (.seq (.rg []) (.ret [.k (.int .i64 (-1))])) (.skip))) (.rg [⟨[], .bin .add, [.v 1, .k (.int .i64 1)], 1⟩])) (.tup [.v 0, .v 7, .v 2]))) (.rg [⟨[], .bin .add, [.v 2, .k (.int .i64 1)], 1⟩]))) (.tup [.v 0, .v 1, .v 3])
theorem laws_heldIntS_b0_sh (Q : QT) (x0 x1 x2 : V) : shL laws_heldIntS_b0 Q [x0, x1, x2] = (
  P1 (.len) [x0] fun v0 =>
  P1 (.bin .lss) [x2, v0] fun v1 =>
  ifB v1 (
    P1 (.idx [.sc]) [x0, x2] fun v2 =>
    P1 (.bin .neq) [v2, x1] fun v3 =>
    ifB v3 (
      Q .ret [.int .i64 (-1)]) (
      P1 (.bin .add) [x1, .int .i64 1] fun v4 =>
      P1 (.bin .add) [x2, .int .i64 1] fun v5 =>
      Q .normal [x0, v4, v5])) (
    Q (.exit 0) [x1])) := by kernel_rfl

def laws_heldIntS_r1 : L := .seq (.rg []) (.ret [.v 0])
theorem laws_heldIntS_r1_sh (Q : QT) (x0 : V) : shL laws_heldIntS_r1 Q [x0] = (
  Q .ret [x0]) := by kernel_rfl

def laws_heldIntS_L : L := .seq (.rg []) (.seq (.seq (.rg []) (.block 0 (.seq (.tup [.v 0, .v 1, .k (.int .i64 0)]) (.loop (laws_heldIntS_b0))))) (laws_heldIntS_r1))
theorem laws_heldIntS_L_sh (Q : QT) (x0 x1 : V) : shL laws_heldIntS_L Q [x0, x1] = (
  shL (.loop laws_heldIntS_b0) (qB 0 (qS (shL laws_heldIntS_r1 Q) Q)) [x0, x1, .int .i64 0]) := by kernel_rfl
def laws_heldIntS_S : Sig := ⟨[.val false [.sl [.sc]], .val false [.sc]], [(false, [.sc])], F_heldIntS⟩
def laws_heldIntS_hs : List NF := [⟨[(1, .sc false [.sc])], [], [], 64⟩, ⟨[(0, .sc false [.ro [.sc]]), (1, .sc false [.sc]), (5, .sc false [.sc])], [], [], 64⟩, ⟨[(0, .sc false [.ro [.sc]]), (1, .sc false [.sc]), (5, .sc false [.sc])], [], [], 64⟩]

end
end Go.Mw

/- Laws' helpers on memory, and the plain functions of pieces, pins, cylinders, states. -/
namespace Go.Mw
theorem mark_set_get {α : Type} {l m : List α} {k : Nat} {x : α} (hm : m.length = l.length) (h : k < l.length) : ((m.take k ++ l.drop k).set k x)[k]? = some x := by
  rw [List.getElem?_set_self (by simp; omega)]

theorem laws_eqIntS_ok : ∀ ds outs, F_eqIntS ds = some outs → shL laws_eqIntS_L (qRet outs) ds := F_eqIntS_elim fun l m hp => by
  rw [laws_eqIntS_L_sh]
  simp
  refine ⟨fun h => ?_, fun hl => ?_⟩
  · rintro rfl; omega
  refine loop_upto l.length (fun k => [vL I1 v1 l, vL I1 v1 m, .int .i64 k]) (by intro i j _ _ h; simp at h; omega) (fun k => l.take k = m.take k) (by simp) (by simp) ?_
  intro k hk hP
  rw [laws_eqIntS_b0_sh]
  simp
  refine ⟨fun h => ?_, fun h => ?_⟩
  · have h2 : k < m.length := by omega
    simp (disch := omega) [h, wrap_id]
    refine ⟨fun hne he => ?_, fun h3 => ?_⟩
    · subst he; exact hne rfl
    · rw [take_succ_get h, take_succ_get h2, hP, h3]
  · obtain rfl : k = l.length := by omega
    rw [List.take_length, List.take_of_length_le (by omega)] at hP
    simp [laws_eqIntS_r1_sh, hP]

theorem laws_markIntS_ok : ∀ ds outs, F_markIntS ds = some outs → shL laws_markIntS_L (qRet outs) ds := F_markIntS_elim fun l k hp => by
  rw [laws_markIntS_L_sh]
  refine loop_upto l.length (fun i => [.int .i64 (k + 1 * i), .int .i64 i, vL I1 v1 ((markL1 l.length k).take i ++ l.drop i)]) (by intro i j _ _ h; simp at h; omega) (fun _ => True) (by simp) trivial ?_
  intro i hi _
  have hml : (markL1 l.length k).length = l.length := markL1_len
  rw [laws_markIntS_b0_sh]
  simp
  have e0 : ((min i l.length : Nat) : Int) + ((l.length - i : Nat) : Int) = l.length := by omega
  simp only [e0]
  refine ⟨fun h => ?_, fun h => ?_⟩
  · replace h : i < l.length := by omega
    rw [mark_get hml h]
    have hs := mark_set hml h
    have hg : (markL1 l.length k)[i]'(by omega) = k + (i : Int) := by simp [markL1]
    rw [hg] at hs
    simp (disch := omega) [h, wrap_id, hs]
    omega
  · obtain rfl : i = l.length := by omega
    have e1 : List.take l.length (markL1 l.length k) = markL1 l.length k := List.take_of_length_le (by simp)
    simp [laws_markIntS_r1_sh, e1]

theorem laws_heldIntS_ok : ∀ ds outs, F_heldIntS ds = some outs → shL laws_heldIntS_L (qRet outs) ds := F_heldIntS_elim fun l k hp => by
  rw [laws_heldIntS_L_sh]
  refine loop_upto l.length (fun i => [vL I1 v1 l, .int .i64 (k + 1 * i), .int .i64 i]) (by intro i j _ _ h; simp at h; omega) (fun i => ∀ j (hj : j < l.length), j < i → l[j] = (markL1 l.length k)[j]'(by simp; omega)) (by simp) (by simp) ?_
  intro i hi hP
  rw [laws_heldIntS_b0_sh]
  simp
  refine ⟨fun h => ?_, fun h => ?_⟩
  · have hg : (markL1 l.length k)[i]'(by simp; omega) = k + (i : Int) := by simp [markL1]
    have hno : l[i] ≠ (markL1 l.length k)[i]'(by simp; omega) → l ≠ markL1 l.length k := by
      intro hne he
      exact hne (by simp only [← he])
    have hstep : l[i] = (markL1 l.length k)[i]'(by simp; omega) → ∀ j (hj : j < l.length), j < i + 1 → l[j] = (markL1 l.length k)[j]'(by simp; omega) := by
      intro he j hj hji
      by_cases hjj : j = i
      · subst hjj; exact he
      · exact hP j hj (by omega)
    rw [hg] at hno hstep
    simp (disch := omega) only [h, List.getElem?_eq_getElem, Option.some.injEq, exists_eq_left', wrap_id, true_and]
    grind
  · obtain rfl : i = l.length := by omega
    have he : l = markL1 l.length k := List.ext_getElem (by simp) fun j h1 h2 => hP j h1 h1
    simp [laws_heldIntS_r1_sh]
    intro h; exact absurd he h

end Go.Mw

/- Pieces, pins, cylinders, states: the functions compute what was said. -/
namespace Go.Mw
/-! show time -/
theorem pieceOk_iff (x : T2) : pieceOk x = true ↔ (1 ≤ x.a ∧ x.a ≤ 600) ∧ (0 ≤ x.b ∧ x.b ≤ 9) := by
  simp [pieceOk, within]
theorem piecesOk_len {l : List T2} (h : piecesOk l = true) : l.length ≤ 12 := by
  simp [piecesOk] at h; omega
theorem piecesOk_get {l : List T2} (h : piecesOk l = true) {k : Nat} (hk : k < l.length) : (1 ≤ l[k].a ∧ l[k].a ≤ 600) ∧ (0 ≤ l[k].b ∧ l[k].b ≤ 9) := by
  simp [piecesOk] at h
  exact (pieceOk_iff _).1 (h.2 _ (by simp))
theorem showSum_le {l : List T2} (h : piecesOk l = true) {p : Int} (h0 : 0 ≤ p) (h1 : p ≤ 600) : ∀ k : Nat, k ≤ l.length → 0 ≤ showSum p l k ∧ showSum p l k ≤ 1200 * k
  | 0, _ => by simp [showSum]
  | k + 1, hk => by
    have ih := showSum_le h h0 h1 k (by omega)
    have hg := piecesOk_get h (k := k) (by omega)
    simp only [showSum, List.getElem?_eq_getElem (show k < l.length by omega)]
    split <;> push_cast <;> omega

theorem spec_ShowTime_ok : ∀ ds outs, F_ShowTime ds = some outs → shL spec_ShowTime_L (qRet outs) ds := F_ShowTime_elim fun l p hp => by
  rw [spec_ShowTime_L_sh]
  cases h : piecesOk l with
  | false => simp [p_PiecesOk hp, h, showTime]
  | true =>
    cases h2 : within p 0 600 with
    | false => simp [p_PiecesOk hp, h, h2, showTime]
    | true =>
      have hw : 0 ≤ p ∧ p ≤ 600 := by simpa [within] using h2
      have hlen := piecesOk_len h
      simp [p_PiecesOk hp, h, h2, showTime]
      refine loop_upto l.length (fun k => [vL I2 v2 l, .int .i64 p, .int .i64 (showSum p l k), .int .i64 k]) (by intro i j _ _ h; simp at h; omega) (fun _ => True) (by simp [showSum]) trivial ?_
      intro k hk _
      have hb := showSum_le h hw.1 hw.2 k hk
      rw [spec_ShowTime_b0_sh]
      simp
      refine ⟨fun h3 => ?_, fun h3 => ?_⟩
      · have hg := piecesOk_get h h3
        have e : showSum p l (k + 1) = showSum p l k + l[k].a + (if 0 < k then p else 0) := by simp [showSum, h3]
        rw [e]
        simp (disch := omega) [h3, wrap_id]
        by_cases h4 : 0 < k
        · simp [h4]; omega
        · simp [h4]
      · obtain rfl : k = l.length := by omega
        simp [spec_ShowTime_r1_sh]
theorem impl_ShowTime_ok : ∀ ds outs, F_ShowTime ds = some outs → shL impl_ShowTime_L (qRet outs) ds := F_ShowTime_elim fun l p hp => by
  rw [impl_ShowTime_L_sh]
  cases h : piecesOk l with
  | false => simp [p_PiecesOk hp, h, showTime]
  | true =>
    cases h2 : within p 0 600 with
    | false => simp [p_PiecesOk hp, h, h2, showTime]
    | true =>
      have hw : 0 ≤ p ∧ p ≤ 600 := by simpa [within] using h2
      have hlen := piecesOk_len h
      simp [p_PiecesOk hp, h, h2, showTime]
      refine loop_upto l.length (fun k => [.int .i64 p, .int .i64 (showSum p l k), vL I2 v2 l, .int .i64 l.length, .int .i64 k]) (by intro i j _ _ h; simp at h; omega) (fun _ => True) (by simp [showSum]) trivial ?_
      intro k hk _
      have hb := showSum_le h hw.1 hw.2 k hk
      rw [impl_ShowTime_b0_sh]
      simp
      refine ⟨fun h3 => ?_, fun h3 => ?_⟩
      · have hg := piecesOk_get h h3
        have e : showSum p l (k + 1) = showSum p l k + l[k].a + (if 0 < k then p else 0) := by simp [showSum, h3]
        rw [e]
        simp (disch := omega) [h3, wrap_id]
        by_cases h4 : 0 < k
        · simp [h4]; omega
        · simp [h4]
      · obtain rfl : k = l.length := by omega
        simp [impl_ShowTime_r1_sh]
/-! cylinders -/
end Go.Mw

/- Cylinders and their pins. -/
namespace Go.Mw
end Go.Mw

/- Sums, steps, states. -/
namespace Go.Mw
end Go.Mw

/- States: around, pins at an angle, start, stop, step. -/
namespace Go.Mw
end Go.Mw

/- Steps and runs. -/
namespace Go.Mw
end Go.Mw

/- Digits; boxes. -/
namespace Go.Mw
end Go.Mw

/- Checked digits. -/
namespace Go.Mw
end Go.Mw

/- Boxes; moods. -/
namespace Go.Mw
end Go.Mw

/- Moods. -/
namespace Go.Mw
/-- Which of the numbers below n stand in the list. -/
def seenOf (l : List Int) (n : Nat) : List Bool := (List.range n).map fun j : Nat => decide ((j : Int) ∈ l)
@[simp] theorem seenOf_len {l : List Int} {n : Nat} : (seenOf l n).length = n := by simp [seenOf]
end Go.Mw

/- What functions compute, in plain terms: benches and workshops. -/
namespace Go.Mw
/-! memory -/
/-! benches -/
/-! workshops -/
def Shop.bench (w : Shop) : Bench := ⟨w.s, w.t, w.p, w.o⟩
end Go.Mw

/- Functions of the program, as small pure programs (printed by a program of ours). -/
namespace Go.Mw
noncomputable section
end
end Go.Mw

/- Benches: memory. -/
namespace Go.Mw
end Go.Mw

/- Benches: memory that is marked. -/
namespace Go.Mw
end Go.Mw

/- Benches: memory; what is a fine bench. -/
namespace Go.Mw
end Go.Mw

/- Benches: laws, copies, changed pins. -/
namespace Go.Mw
end Go.Mw

/- Benches: changed pins, copies, new benches. -/
namespace Go.Mw
end Go.Mw

/- New benches; combs, springs, workshops. -/
namespace Go.Mw
@[simp] theorem P1_lstL2 {a : List T2} {k : V → Prop} : P1 (.lst [.sl [.sc, .sc]] false 1) [vL I2 v2 a] k ↔ k (vL IL2 vLL2 [a]) := P1_of (by simp [Prim.run, aksOk, akOk, chunk, V.pack, vL, vLL2, AK.eqs_refl, IL2]) k
end Go.Mw

/- Combs, workshops. -/
namespace Go.Mw
end Go.Mw

/- Workshops. -/
namespace Go.Mw
end Go.Mw

/- Workshops: memory, opening. -/
namespace Go.Mw
@[simp] theorem P1_lst14 {a b c d : Int} {k : V → Prop} : P1 (.lst [.sc] false 4) [.int .i64 a, .int .i64 b, .int .i64 c, .int .i64 d] k ↔ k (vL I1 v1 [a, b, c, d]) := P1_of (by simp [Prim.run, aksOk, akOk, chunk, V.pack, vL, v1]) k
end Go.Mw

/- The sample workshop: the law. -/
namespace Go.Mw
noncomputable section
end
end Go.Mw

/- What functions compute, in plain terms: the bench's steps. -/
namespace Go.Mw
end Go.Mw

/- Functions of the program, as small pure programs (printed by a program of ours). -/
namespace Go.Mw
noncomputable section
end
end Go.Mw

/- Taking back; a step of the bench; pulling a pin. -/
namespace Go.Mw
end Go.Mw

/- Copies of a bench (spec); pulling a pin. -/
namespace Go.Mw
end Go.Mw

/- What functions compute, in plain terms: draws; stops and sums. -/
namespace Go.Mw
/-- A bitwise operation of the machine. -/
def land (a b : Int) : Int := IntKind.i64.wrap (BitVec.ofInt IntKind.i64.bits a &&& BitVec.ofInt IntKind.i64.bits b).toNat
def lxor (a b : Int) : Int := IntKind.i64.wrap (BitVec.ofInt IntKind.i64.bits a ^^^ BitVec.ofInt IntKind.i64.bits b).toNat
@[simp] theorem P1_and {a b : Int} {k : V → Prop} : P1 (.bin .and) [.int .i64 a, .int .i64 b] k ↔ k (.int .i64 (land a b)) := P1_of (by simp [Prim.run, binV, binI, land]) k
@[simp] theorem P1_xor {a b : Int} {k : V → Prop} : P1 (.bin .xor) [.int .i64 a, .int .i64 b] k ↔ k (.int .i64 (lxor a b)) := P1_of (by simp [Prim.run, binV, binI, lxor]) k
/-- A cursor: its bytes, the place, the hash. -/
structure Cur where
  b : List UInt8
  i : Int
  h : Int
def hNext (h : Int) : Int := IntKind.i64.wrap (IntKind.i64.wrap (h * 6364136223846793005) + 1442695040888963407)
def cStep (x : Cur) : Cur := ⟨x.b, if x.i < x.b.length then x.i + 1 else x.i, hNext x.h⟩
def cAfter (x : Cur) (n : Int) : Cur := if n ≤ 0 then x else if n ≤ 256 then cStep x else cStep (cStep (cStep (cStep x)))
end Go.Mw

/- Functions of the program, as small pure programs (printed by a program of ours). -/
namespace Go.Mw
noncomputable section
end
end Go.Mw

/- Draws. -/
namespace Go.Mw
@[simp] theorem cStep_b (x : Cur) : (cStep x).b = x.b := rfl
@[simp] theorem cAfter_b (x : Cur) (n : Int) : (cAfter x n).b = x.b := by unfold cAfter; split <;> (try split) <;> simp
/-! putting a pin -/
end Go.Mw

/- What functions compute, in plain terms: the liveliest order of a show. -/
namespace Go.Mw
def landn (a b : Int) : Int := IntKind.i64.wrap (BitVec.ofInt IntKind.i64.bits a &&& ~~~(BitVec.ofInt IntKind.i64.bits b)).toNat
@[simp] theorem P1_andNot {a b : Int} {k : V → Prop} : P1 (.bin .andNot) [.int .i64 a, .int .i64 b] k ↔ k (.int .i64 (landn a b)) := P1_of (by simp [Prim.run, binV, binI, landn]) k
def ints (l : List Nat) : List Int := l.map fun x : Nat => (x : Int)
end Go.Mw

/- Functions of the program, as small pure programs (printed by a program of ours). -/
namespace Go.Mw
noncomputable section
end
end Go.Mw

/- Sets and their members; the liveliest order. -/
namespace Go.Mw
@[simp] theorem ints_len (l : List Nat) : (ints l).length = l.length := by simp [ints]
theorem ints_get {l : List Nat} {k : Nat} (h : k < l.length) : (ints l)[k]? = some (l[k] : Int) := by simp [ints, h]
/-! ### the table -/
end Go.Mw

/- What functions compute, in plain terms: pieces in order of their numbers. -/
namespace Go.Mw
def keyAt (ks : List Int) (i : Nat) : Int := ks[i]?.getD 0
/-- Where x stands in l, from the right: behind the last of l whose number is not greater. -/
def place (ks : List Int) (x : Nat) (l : List Nat) : Nat → Nat
  | 0 => 0
  | p + 1 => if keyAt ks x < keyAt ks (l[p]?.getD 0) then place ks x l p else p + 1
def insR (ks : List Int) (x : Nat) (l : List Nat) : List Nat := l.take (place ks x l l.length) ++ x :: l.drop (place ks x l l.length)
def ordTo (ks : List Int) : Nat → List Nat
  | 0 => []
  | k + 1 => insR ks k (ordTo ks k)
def E_l35Sorted (l : List Int) : List V := [vL I1 v1 l]
noncomputable def F_l35Sorted : List V → Option (List V) := mkF E_l35Sorted (fun l => l.length ≤ 9) (fun l => [vL I1 v1 (ints (ordTo l l.length))])
theorem F_l35Sorted_inj : ∀ x y, E_l35Sorted x = E_l35Sorted y → x = y := by
  rintro l l' h
  simpa [E_l35Sorted] using h
theorem F_l35Sorted_elim {P : List V → List V → Prop} (h : ∀ (l : List Int), (l.length ≤ 9) → P [vL I1 v1 l] [vL I1 v1 (ints (ordTo l l.length))]) : ∀ ds outs, F_l35Sorted ds = some outs → P ds outs := by
  intro ds outs hh
  obtain ⟨l, rfl, hp, rfl⟩ := mkF_inv hh
  exact h l hp
theorem p_l35Sorted {l : List Int} {nr_ : Nat} {kk_ : V → Prop} (hp : l.length ≤ 9) : P1 (.call F_l35Sorted 0 nr_) [vL I1 v1 l] kk_ ↔ kk_ (vL I1 v1 (ints (ordTo l l.length))) :=
  P1_callF (by unfold F_l35Sorted; exact mkF_eq F_l35Sorted_inj (l) hp)

def E_upTo (n : Int) : List V := [.int .i64 n]
noncomputable def F_upTo : List V → Option (List V) := mkF E_upTo (fun n => 0 ≤ n ∧ n ≤ 9) (fun n => [vL I1 v1 (ints (List.range n.toNat))])
theorem F_upTo_inj : ∀ x y, E_upTo x = E_upTo y → x = y := by
  rintro n n' h
  simpa [E_upTo] using h
theorem F_upTo_elim {P : List V → List V → Prop} (h : ∀ (n : Int), (0 ≤ n ∧ n ≤ 9) → P [.int .i64 n] [vL I1 v1 (ints (List.range n.toNat))]) : ∀ ds outs, F_upTo ds = some outs → P ds outs := by
  intro ds outs hh
  obtain ⟨n, rfl, hp, rfl⟩ := mkF_inv hh
  exact h n hp
theorem p_upTo {n : Int} {nr_ : Nat} {kk_ : V → Prop} (hp : 0 ≤ n ∧ n ≤ 9) : P1 (.call F_upTo 0 nr_) [.int .i64 n] kk_ ↔ kk_ (vL I1 v1 (ints (List.range n.toNat))) :=
  P1_callF (by unfold F_upTo; exact mkF_eq F_upTo_inj (n) hp)

def moods (l : List T2) : List Int := l.map T2.b
def secs (l : List T2) : List Int := l.map T2.a
def smooth (l : List T2) : List Int := if piecesOk l then ints (ordTo (moods l) l.length) else []
def E_SmoothShow (l : List T2) : List V := [vL I2 v2 l]
noncomputable def F_SmoothShow : List V → Option (List V) := mkF E_SmoothShow (fun l => l.length ≤ 1048576) (fun l => [vL I1 v1 (smooth l)])
theorem F_SmoothShow_inj : ∀ x y, E_SmoothShow x = E_SmoothShow y → x = y := by
  rintro l l' h
  simpa [E_SmoothShow] using h
theorem F_SmoothShow_elim {P : List V → List V → Prop} (h : ∀ (l : List T2), (l.length ≤ 1048576) → P [vL I2 v2 l] [vL I1 v1 (smooth l)]) : ∀ ds outs, F_SmoothShow ds = some outs → P ds outs := by
  intro ds outs hh
  obtain ⟨l, rfl, hp, rfl⟩ := mkF_inv hh
  exact h l hp
theorem p_SmoothShow {l : List T2} {nr_ : Nat} {kk_ : V → Prop} (hp : l.length ≤ 1048576) : P1 (.call F_SmoothShow 0 nr_) [vL I2 v2 l] kk_ ↔ kk_ (vL I1 v1 (smooth l)) :=
  P1_callF (by unfold F_SmoothShow; exact mkF_eq F_SmoothShow_inj (l) hp)

/-- How long the first k of an order last, less one pause. -/
def lastsTo (s : List Int) (p : Int) (o : List Nat) : Nat → Int
  | 0 => -p
  | k + 1 => lastsTo s p o k + p + keyAt s (o[k]?.getD 0)
def fitN (s : List Int) (p t : Int) (o : List Nat) : Nat := ((List.range o.length).takeWhile fun k => decide (lastsTo s p o (k + 1) ≤ t)).length
def fitsOf (l : List T2) (p t : Int) : List Nat := (List.range l.length).filter fun k => decide (k ∈ (ordTo (secs l) l.length).take (fitN (secs l) p t (ordTo (secs l) l.length)))
def fits35 (l : List T2) (p t : Int) : List Int := if decide (0 ≤ showTime l p) && within t 0 10000 then ints (fitsOf l p t) else []
def E_FitsEvening : List T2 × Int × Int → List V := fun (l, p, t) => [vL I2 v2 l, .int .i64 p, .int .i64 t]
noncomputable def F_FitsEvening : List V → Option (List V) := mkF E_FitsEvening (fun (l, _, _) => l.length ≤ 1048576) (fun (l, p, t) => [vL I1 v1 (fits35 l p t)])
theorem F_FitsEvening_inj : ∀ x y, E_FitsEvening x = E_FitsEvening y → x = y := by
  rintro ⟨l, p, t⟩ ⟨l', p', t'⟩ h
  simpa [E_FitsEvening] using h
theorem F_FitsEvening_elim {P : List V → List V → Prop} (h : ∀ (l : List T2) (p : Int) (t : Int), (l.length ≤ 1048576) → P [vL I2 v2 l, .int .i64 p, .int .i64 t] [vL I1 v1 (fits35 l p t)]) : ∀ ds outs, F_FitsEvening ds = some outs → P ds outs := by
  intro ds outs hh
  obtain ⟨⟨l, p, t⟩, rfl, hp, rfl⟩ := mkF_inv hh
  exact h l p t hp
theorem p_FitsEvening {l : List T2} {p : Int} {t : Int} {nr_ : Nat} {kk_ : V → Prop} (hp : l.length ≤ 1048576) : P1 (.call F_FitsEvening 0 nr_) [vL I2 v2 l, .int .i64 p, .int .i64 t] kk_ ↔ kk_ (vL I1 v1 (fits35 l p t)) :=
  P1_callF (by unfold F_FitsEvening; exact mkF_eq F_FitsEvening_inj (l, p, t) hp)

def cmpI (a b : Int) : Int := if a < b then -1 else if b < a then 1 else 0
def E_cmp_isNaN_int (x : Int) : List V := [.int .i64 x]
noncomputable def F_cmp_isNaN_int : List V → Option (List V) := mkF E_cmp_isNaN_int (fun _ => True) (fun _ => [.bool false])
theorem F_cmp_isNaN_int_inj : ∀ x y, E_cmp_isNaN_int x = E_cmp_isNaN_int y → x = y := by
  rintro x x' h
  simpa [E_cmp_isNaN_int] using h
theorem F_cmp_isNaN_int_elim {P : List V → List V → Prop} (h : ∀ (x : Int), P [.int .i64 x] [.bool false]) : ∀ ds outs, F_cmp_isNaN_int ds = some outs → P ds outs := by
  intro ds outs hh
  obtain ⟨x, rfl, -, rfl⟩ := mkF_inv hh
  exact h x
@[simp] theorem p_cmp_isNaN_int {x : Int} {nr_ : Nat} {kk_ : V → Prop} : P1 (.call F_cmp_isNaN_int 0 nr_) [.int .i64 x] kk_ ↔ kk_ (.bool false) :=
  P1_callF (by unfold F_cmp_isNaN_int; exact mkF_eq F_cmp_isNaN_int_inj (x) trivial)

def E_cmp_Compare_int : Int × Int → List V := fun (x, y) => [.int .i64 x, .int .i64 y]
noncomputable def F_cmp_Compare_int : List V → Option (List V) := mkF E_cmp_Compare_int (fun (_, _) => True) (fun (x, y) => [.int .i64 (cmpI x y)])
theorem F_cmp_Compare_int_inj : ∀ x y, E_cmp_Compare_int x = E_cmp_Compare_int y → x = y := by
  rintro ⟨x, y⟩ ⟨x', y'⟩ h
  simpa [E_cmp_Compare_int] using h
theorem F_cmp_Compare_int_elim {P : List V → List V → Prop} (h : ∀ (x : Int) (y : Int), P [.int .i64 x, .int .i64 y] [.int .i64 (cmpI x y)]) : ∀ ds outs, F_cmp_Compare_int ds = some outs → P ds outs := by
  intro ds outs hh
  obtain ⟨⟨x, y⟩, rfl, -, rfl⟩ := mkF_inv hh
  exact h x y
@[simp] theorem p_cmp_Compare_int {x : Int} {y : Int} {nr_ : Nat} {kk_ : V → Prop} : P1 (.call F_cmp_Compare_int 0 nr_) [.int .i64 x, .int .i64 y] kk_ ↔ kk_ (.int .i64 (cmpI x y)) :=
  P1_callF (by unfold F_cmp_Compare_int; exact mkF_eq F_cmp_Compare_int_inj (x, y) trivial)

def E_SmoothShow_1 : Int × Int × List T2 → List V := fun (i, k, l) => [.int .i64 i, .int .i64 k, vL I2 v2 l]
noncomputable def F_SmoothShow_1 : List V → Option (List V) := mkF E_SmoothShow_1 (fun (i, k, l) => 0 ≤ i ∧ i < l.length ∧ 0 ≤ k ∧ k < l.length) (fun (i, k, l) => [.int .i64 (cmpI (keyAt (moods l) i.toNat) (keyAt (moods l) k.toNat))])
theorem F_SmoothShow_1_inj : ∀ x y, E_SmoothShow_1 x = E_SmoothShow_1 y → x = y := by
  rintro ⟨i, k, l⟩ ⟨i', k', l'⟩ h
  simpa [E_SmoothShow_1] using h
theorem F_SmoothShow_1_elim {P : List V → List V → Prop} (h : ∀ (i : Int) (k : Int) (l : List T2), (0 ≤ i ∧ i < l.length ∧ 0 ≤ k ∧ k < l.length) → P [.int .i64 i, .int .i64 k, vL I2 v2 l] [.int .i64 (cmpI (keyAt (moods l) i.toNat) (keyAt (moods l) k.toNat))]) : ∀ ds outs, F_SmoothShow_1 ds = some outs → P ds outs := by
  intro ds outs hh
  obtain ⟨⟨i, k, l⟩, rfl, hp, rfl⟩ := mkF_inv hh
  exact h i k l hp
def E_FitsEvening_1 : Int × Int × List T2 → List V := fun (i, k, l) => [.int .i64 i, .int .i64 k, vL I2 v2 l]
noncomputable def F_FitsEvening_1 : List V → Option (List V) := mkF E_FitsEvening_1 (fun (i, k, l) => 0 ≤ i ∧ i < l.length ∧ 0 ≤ k ∧ k < l.length) (fun (i, k, l) => [.int .i64 (cmpI (keyAt (secs l) i.toNat) (keyAt (secs l) k.toNat))])
theorem F_FitsEvening_1_inj : ∀ x y, E_FitsEvening_1 x = E_FitsEvening_1 y → x = y := by
  rintro ⟨i, k, l⟩ ⟨i', k', l'⟩ h
  simpa [E_FitsEvening_1] using h
theorem F_FitsEvening_1_elim {P : List V → List V → Prop} (h : ∀ (i : Int) (k : Int) (l : List T2), (0 ≤ i ∧ i < l.length ∧ 0 ≤ k ∧ k < l.length) → P [.int .i64 i, .int .i64 k, vL I2 v2 l] [.int .i64 (cmpI (keyAt (secs l) i.toNat) (keyAt (secs l) k.toNat))]) : ∀ ds outs, F_FitsEvening_1 ds = some outs → P ds outs := by
  intro ds outs hh
  obtain ⟨⟨i, k, l⟩, rfl, hp, rfl⟩ := mkF_inv hh
  exact h i k l hp
/-- The stable sort of the numbers below the length of l, by the keys that K gives. -/
def ordK (K : List T2 → List Int) (l : List T2) : List Int := ints (ordTo (K l) l.length)
noncomputable def F_ins (K : List T2 → List Int) : List V → Option (List V) := mkF (fun (x : List Int × Int × Int × List T2) => [vL I1 v1 x.1, .int .i64 x.2.1, .int .i64 x.2.2.1, vL I2 v2 x.2.2.2]) (fun x => x.1 = ints (List.range x.2.2.2.length) ∧ x.2.1 = 0 ∧ x.2.2.1 = x.2.2.2.length ∧ x.2.2.2.length ≤ 9) (fun x => [vL I1 v1 (ordK K x.2.2.2)])
noncomputable def F_stab (K : List T2 → List Int) : List V → Option (List V) := mkF (fun (x : List Int × Int × List T2) => [vL I1 v1 x.1, .int .i64 x.2.1, vL I2 v2 x.2.2]) (fun x => x.1 = ints (List.range x.2.2.length) ∧ x.2.1 = x.2.2.length ∧ x.2.2.length ≤ 9) (fun x => [vL I1 v1 (ordK K x.2.2)])
noncomputable def F_stable (K : List T2 → List Int) : List V → Option (List V) := mkF (fun (x : List Int × List T2) => [vL I1 v1 x.1, vL I2 v2 x.2]) (fun x => x.1 = ints (List.range x.2.length) ∧ x.2.length ≤ 9) (fun x => [vL I1 v1 (ordK K x.2)])
def F_never : List V → Option (List V) := fun _ => none
noncomputable abbrev F_stable_impl_SmoothShow_1 := F_stable moods
noncomputable abbrev F_stable_impl_FitsEvening_1 := F_stable secs
theorem ins_inj : ∀ x y : List Int × Int × Int × List T2, [vL I1 v1 x.1, .int .i64 x.2.1, .int .i64 x.2.2.1, vL I2 v2 x.2.2.2] = [vL I1 v1 y.1, .int .i64 y.2.1, .int .i64 y.2.2.1, vL I2 v2 y.2.2.2] → x = y := by
  rintro ⟨a, b, c, d⟩ ⟨a', b', c', d'⟩ h
  simpa using h
theorem stab_inj : ∀ x y : List Int × Int × List T2, [vL I1 v1 x.1, .int .i64 x.2.1, vL I2 v2 x.2.2] = [vL I1 v1 y.1, .int .i64 y.2.1, vL I2 v2 y.2.2] → x = y := by
  rintro ⟨a, b, d⟩ ⟨a', b', d'⟩ h
  simpa using h
theorem stable_inj : ∀ x y : List Int × List T2, [vL I1 v1 x.1, vL I2 v2 x.2] = [vL I1 v1 y.1, vL I2 v2 y.2] → x = y := by
  rintro ⟨a, d⟩ ⟨a', d'⟩ h
  simpa using h
theorem p_ins {K : List T2 → List Int} {l : List T2} {kk : V → Prop} (hp : l.length ≤ 9) : P1 (.call (F_ins K) 1 0) [vL I1 v1 (ints (List.range l.length)), .int .i64 0, .int .i64 l.length, vL I2 v2 l, vL I1 v1 (ints (List.range l.length))] kk ↔ kk (vL I1 v1 (ordK K l)) :=
  P1_of (callIo_run (as := [vL I1 v1 (ints (List.range l.length)), .int .i64 0, .int .i64 l.length, vL I2 v2 l]) (rs := [vL I1 v1 (ints (List.range l.length))]) (n := 1) (nr := 0) rfl (by simp) (by unfold F_ins; exact mkF_eq ins_inj (ints (List.range l.length), 0, l.length, l) ⟨rfl, rfl, rfl, hp⟩) (by simp [ksAll, vL, AK.eqs_refl]) rfl) kk
theorem p_stab {K : List T2 → List Int} {l : List T2} {kk : V → Prop} (hp : l.length ≤ 9) : P1 (.call (F_stab K) 1 0) [vL I1 v1 (ints (List.range l.length)), .int .i64 l.length, vL I2 v2 l, vL I1 v1 (ints (List.range l.length))] kk ↔ kk (vL I1 v1 (ordK K l)) :=
  P1_of (callIo_run (as := [vL I1 v1 (ints (List.range l.length)), .int .i64 l.length, vL I2 v2 l]) (rs := [vL I1 v1 (ints (List.range l.length))]) (n := 1) (nr := 0) rfl (by simp) (by unfold F_stab; exact mkF_eq stab_inj (ints (List.range l.length), l.length, l) ⟨rfl, rfl, hp⟩) (by simp [ksAll, vL, AK.eqs_refl]) rfl) kk
theorem p_stable {K : List T2 → List Int} {l : List T2} {kk : V → Prop} (hp : l.length ≤ 9) : P1 (.call (F_stable K) 1 0) [vL I1 v1 (ints (List.range l.length)), vL I2 v2 l, vL I1 v1 (ints (List.range l.length))] kk ↔ kk (vL I1 v1 (ordK K l)) :=
  P1_of (callIo_run (as := [vL I1 v1 (ints (List.range l.length)), vL I2 v2 l]) (rs := [vL I1 v1 (ints (List.range l.length))]) (n := 1) (nr := 0) rfl (by simp) (by unfold F_stable; exact mkF_eq stable_inj (ints (List.range l.length), l) ⟨rfl, hp⟩) (by simp [ksAll, vL, AK.eqs_refl]) rfl) kk
/-- A list of numbers, sorted. -/
def sortI (l : List Int) : List Int := l.mergeSort fun x y => decide (x ≤ y)
def E_slices_Sort_Lint_int (o : List Int) : List V := [vL I1 v1 o]
noncomputable def F_slices_Sort_Lint_int : List V → Option (List V) := mkF E_slices_Sort_Lint_int (fun o => o.length ≤ 1048576) (fun o => [vL I1 v1 (sortI o)])
theorem F_slices_Sort_Lint_int_inj : ∀ x y, E_slices_Sort_Lint_int x = E_slices_Sort_Lint_int y → x = y := by
  rintro o o' h
  simpa [E_slices_Sort_Lint_int] using h
theorem p_slices_Sort_Lint_int {o : List Int} {kk_ : V → Prop} (hp : o.length ≤ 1048576) : P1 (.call F_slices_Sort_Lint_int 1 0) [vL I1 v1 o, vL I1 v1 o] kk_ ↔ kk_ (vL I1 v1 (sortI o)) :=
  P1_of (callIo_run (as := [vL I1 v1 o]) (rs := [vL I1 v1 o]) (n := 1) (nr := 0) rfl (by simp) (by unfold F_slices_Sort_Lint_int; exact mkF_eq F_slices_Sort_Lint_int_inj (o) hp) (by simp [ksAll, vL, AK.eqs_refl]) rfl) kk_

def E_markPieceS : List T2 × Int → List V := fun (l, k) => [vL I2 v2 l, .int .i64 k]
noncomputable def F_markPieceS : List V → Option (List V) := mkF E_markPieceS (fun (l, k) => l.length ≤ 4194304 ∧ 0 ≤ k ∧ k ≤ 1099511627776) (fun (l, k) => [.int .i64 (k + 2 * l.length), vL I2 v2 (markL2 l.length k)])
theorem F_markPieceS_inj : ∀ x y, E_markPieceS x = E_markPieceS y → x = y := by
  rintro ⟨l, k⟩ ⟨l', k'⟩ h
  simpa [E_markPieceS] using h
theorem F_markPieceS_elim {P : List V → List V → Prop} (h : ∀ (l : List T2) (k : Int), (l.length ≤ 4194304 ∧ 0 ≤ k ∧ k ≤ 1099511627776) → P [vL I2 v2 l, .int .i64 k] [.int .i64 (k + 2 * l.length), vL I2 v2 (markL2 l.length k)]) : ∀ ds outs, F_markPieceS ds = some outs → P ds outs := by
  intro ds outs hh
  obtain ⟨⟨l, k⟩, rfl, hp, rfl⟩ := mkF_inv hh
  exact h l k hp
theorem p_markPieceS {l : List T2} {k : Int} {kk_ : V → V → Prop} (hp : l.length ≤ 4194304 ∧ 0 ≤ k ∧ k ≤ 1099511627776) : P2 (.call F_markPieceS 1 1) [vL I2 v2 l, .int .i64 k, vL I2 v2 l] kk_ ↔ kk_ (.int .i64 (k + 2 * l.length)) (vL I2 v2 (markL2 l.length k)) :=
  P2_of (callIo_run (as := [vL I2 v2 l, .int .i64 k]) (rs := [vL I2 v2 l]) (n := 1) (nr := 1) rfl (by simp) (by unfold F_markPieceS; exact mkF_eq F_markPieceS_inj (l, k) hp) (by simp [ksAll, vL, AK.eqs_refl]) rfl)

def E_FnExactSmoothShow (l : List T2) : List V := [vL I2 v2 l]
noncomputable def F_FnExactSmoothShow : List V → Option (List V) := mkF E_FnExactSmoothShow (fun l => wfL2 l) (fun _ => [.bool true])
theorem F_FnExactSmoothShow_inj : ∀ x y, E_FnExactSmoothShow x = E_FnExactSmoothShow y → x = y := by
  rintro l l' h
  simpa [E_FnExactSmoothShow] using h
theorem F_FnExactSmoothShow_elim {P : List V → List V → Prop} (h : ∀ (l : List T2), (wfL2 l) → P [vL I2 v2 l] [.bool true]) : ∀ ds outs, F_FnExactSmoothShow ds = some outs → P ds outs := by
  intro ds outs hh
  obtain ⟨l, rfl, hp, rfl⟩ := mkF_inv hh
  exact h l hp
theorem F_FnExactSmoothShow_law : ∀ ds, okTKs [.list true [.int .i64, .int .i64]] ds → F_FnExactSmoothShow ds = some [.bool true] := by
  intro ds g0
  obtain ⟨_, _, rfl, h0, g1⟩ := okTKs_cons g0
  obtain ⟨l, rfl, r0⟩ := dec_L2 h0
  obtain rfl := okTKs_nil g1
  exact mkF_eq F_FnExactSmoothShow_inj (l) r0

def E_FnExactFitsEvening : List T2 × Int × Int → List V := fun (l, p, t) => [vL I2 v2 l, .int .i64 p, .int .i64 t]
noncomputable def F_FnExactFitsEvening : List V → Option (List V) := mkF E_FnExactFitsEvening (fun (l, p, t) => wfL2 l ∧ wfI p ∧ wfI t) (fun (_, _, _) => [.bool true])
theorem F_FnExactFitsEvening_inj : ∀ x y, E_FnExactFitsEvening x = E_FnExactFitsEvening y → x = y := by
  rintro ⟨l, p, t⟩ ⟨l', p', t'⟩ h
  simpa [E_FnExactFitsEvening] using h
theorem F_FnExactFitsEvening_elim {P : List V → List V → Prop} (h : ∀ (l : List T2) (p : Int) (t : Int), (wfL2 l ∧ wfI p ∧ wfI t) → P [vL I2 v2 l, .int .i64 p, .int .i64 t] [.bool true]) : ∀ ds outs, F_FnExactFitsEvening ds = some outs → P ds outs := by
  intro ds outs hh
  obtain ⟨⟨l, p, t⟩, rfl, hp, rfl⟩ := mkF_inv hh
  exact h l p t hp
theorem F_FnExactFitsEvening_law : ∀ ds, okTKs [.list true [.int .i64, .int .i64], .int .i64, .int .i64] ds → F_FnExactFitsEvening ds = some [.bool true] := by
  intro ds g0
  obtain ⟨_, _, rfl, h0, g1⟩ := okTKs_cons g0
  obtain ⟨l, rfl, r0⟩ := dec_L2 h0
  obtain ⟨_, _, rfl, h1, g2⟩ := okTKs_cons g1
  obtain ⟨p, rfl, r1⟩ := dec_I h1
  obtain ⟨_, _, rfl, h2, g3⟩ := okTKs_cons g2
  obtain ⟨t, rfl, r2⟩ := dec_I h2
  obtain rfl := okTKs_nil g3
  exact mkF_eq F_FnExactFitsEvening_inj (l, p, t) ⟨r0, r1, r2⟩


end Go.Mw

/- Functions of the program, as small pure programs (printed by a program of ours). -/
namespace Go.Mw
noncomputable section
def spec_l35Sorted_b1 : L := .seq (.seq (.seq (.rg [⟨[], .bin .gtr, [.v 2, .k (.int .i64 0)], 1⟩, ⟨[(.v 4, true)], .bin .sub, [.v 2, .k (.int .i64 1)], 1⟩, ⟨[(.v 4, true)], .idx [.sc], [.v 3, .v 5], 1⟩, ⟨[(.v 4, true)], .idx [.sc], [.v 0, .v 6], 1⟩, ⟨[(.v 4, true)], .idx [.sc], [.v 0, .v 1], 1⟩, ⟨[(.v 4, true)], .bin .gtr, [.v 7, .v 8], 1⟩, ⟨[], .pick, [.v 4, .v 9, .k (.bool false)], 1⟩]) (.ite (.v 10) (.skip) (.seq (.tup [.v 0, .v 1, .v 2, .v 3]) (.exit 2)))) (.block 3 (.seq (.seq (.rg [⟨[], .bin .sub, [.v 2, .k (.int .i64 1)], 1⟩, ⟨[], .idx [.sc], [.v 3, .v 11], 1⟩, ⟨[], .idx [.sc], [.v 3, .v 2], 1⟩, ⟨[], .set [.sc] 0, [.v 3, .v 2, .v 12], 1⟩]) (.rg [⟨[], .bin .sub, [.v 2, .k (.int .i64 1)], 1⟩])) (.tup [.v 0, .v 1, .v 15, .v 14])))) (.tup [.v 0, .v 1, .v 2, .v 3])
theorem spec_l35Sorted_b1_sh (Q : QT) (x0 x1 x2 x3 : V) : shL spec_l35Sorted_b1 Q [x0, x1, x2, x3] = (
  P1 (.bin .gtr) [x2, .int .i64 0] fun v0 =>
  ifB v0 (
    P1 (.bin .sub) [x2, .int .i64 1] fun v1 =>
    P1 (.idx [.sc]) [x3, v1] fun v2 =>
    P1 (.idx [.sc]) [x0, v2] fun v3 =>
    P1 (.idx [.sc]) [x0, x1] fun v4 =>
    P1 (.bin .gtr) [v3, v4] fun v5 =>
    ifB v5 (
      P1 (.bin .sub) [x2, .int .i64 1] fun v6 =>
      P1 (.idx [.sc]) [x3, v6] fun v7 =>
      P1 (.idx [.sc]) [x3, x2] fun _ =>
      P1 (.set [.sc] 0) [x3, x2, v7] fun v9 =>
      P1 (.bin .sub) [x2, .int .i64 1] fun v10 =>
      Q .normal [x0, x1, v10, v9]) (
      Q (.exit 2) [x0, x1, x2, x3])) (
    Q (.exit 2) [x0, x1, x2, x3])) := by kernel_rfl

def spec_l35Sorted_r2 : L := .rg [⟨[], .idx [.sc], [.v 3, .v 2], 1⟩, ⟨[], .set [.sc] 0, [.v 3, .v 2, .v 1], 1⟩]
theorem spec_l35Sorted_r2_sh (Q : QT) (x0 x1 x2 x3 : V) : shL spec_l35Sorted_r2 Q [x0, x1, x2, x3] = (
  P1 (.idx [.sc]) [x3, x2] fun v0 =>
  P1 (.set [.sc] 0) [x3, x2, x1] fun v1 =>
  Q .normal [x0, x1, x2, x3, v0, v1]) := by kernel_rfl

def spec_l35Sorted_r3 : L := .tup [.v 0, .v 1, .v 5]
theorem spec_l35Sorted_r3_sh (Q : QT) (x0 x1 x2 x3 x4 x5 : V) : shL spec_l35Sorted_r3 Q [x0, x1, x2, x3, x4, x5] = (
  Q .normal [x0, x1, x5]) := by kernel_rfl

def spec_l35Sorted_r4 : L := .rg [⟨[], .bin .add, [.v 1, .k (.int .i64 1)], 1⟩]
theorem spec_l35Sorted_r4_sh (Q : QT) (x0 x1 x2 : V) : shL spec_l35Sorted_r4 Q [x0, x1, x2] = (
  P1 (.bin .add) [x1, .int .i64 1] fun v0 =>
  Q .normal [x0, x1, x2, v0]) := by kernel_rfl

def spec_l35Sorted_r5 : L := .tup [.v 0, .v 3, .v 2]
theorem spec_l35Sorted_r5_sh (Q : QT) (x0 x1 x2 x3 : V) : shL spec_l35Sorted_r5 Q [x0, x1, x2, x3] = (
  Q .normal [x0, x3, x2]) := by kernel_rfl

def spec_l35Sorted_b0 : L := .seq (.seq (.seq (.rg [⟨[], .len, [.v 0], 1⟩, ⟨[], .bin .lss, [.v 1, .v 3], 1⟩]) (.ite (.v 4) (.skip) (.seq (.tup [.v 2]) (.exit 0)))) (.seq (.block 1 (.seq (.seq (.rg [⟨[], .len, [.v 2], 1⟩]) (.seq (.rg [⟨[], .lst [.sc] false 1, [.v 1], 1⟩, ⟨[], .app [.sc] 8, [.v 2, .v 6], 1⟩]) (.seq (.block 2 (.seq (.tup [.v 0, .v 1, .v 5, .v 7]) (.loop (spec_l35Sorted_b1)))) (spec_l35Sorted_r2)))) (spec_l35Sorted_r3))) (spec_l35Sorted_r4))) (spec_l35Sorted_r5)
theorem spec_l35Sorted_b0_sh (Q : QT) (x0 x1 x2 : V) : shL spec_l35Sorted_b0 Q [x0, x1, x2] = (
  P1 (.len) [x0] fun v0 =>
  P1 (.bin .lss) [x1, v0] fun v1 =>
  ifB v1 (
    P1 (.len) [x2] fun v2 =>
    P1 (.lst [.sc] false 1) [x1] fun v3 =>
    P1 (.app [.sc] 8) [x2, v3] fun v4 =>
    shL (.loop spec_l35Sorted_b1) (qB 2 (qS (shL spec_l35Sorted_r2 (qS (shL spec_l35Sorted_r3 (qB 1 (qS (shL spec_l35Sorted_r4 (qS (shL spec_l35Sorted_r5 Q) Q)) (qS (shL spec_l35Sorted_r5 Q) Q)))) (qB 1 (qS (shL spec_l35Sorted_r4 (qS (shL spec_l35Sorted_r5 Q) Q)) (qS (shL spec_l35Sorted_r5 Q) Q))))) (qS (shL spec_l35Sorted_r3 (qB 1 (qS (shL spec_l35Sorted_r4 (qS (shL spec_l35Sorted_r5 Q) Q)) (qS (shL spec_l35Sorted_r5 Q) Q)))) (qB 1 (qS (shL spec_l35Sorted_r4 (qS (shL spec_l35Sorted_r5 Q) Q)) (qS (shL spec_l35Sorted_r5 Q) Q)))))) [x0, x1, v2, v4]) (
    Q (.exit 0) [x2])) := by kernel_rfl

def spec_l35Sorted_r6 : L := .seq (.rg []) (.ret [.v 0])
theorem spec_l35Sorted_r6_sh (Q : QT) (x0 : V) : shL spec_l35Sorted_r6 Q [x0] = (
  Q .ret [x0]) := by kernel_rfl

def spec_l35Sorted_L : L := .seq (.rg []) (.seq (.rg [⟨[], .lst [.sc] false 0, [], 1⟩]) (.seq (.seq (.rg []) (.block 0 (.seq (.tup [.v 0, .k (.int .i64 0), .v 1]) (.loop (spec_l35Sorted_b0))))) (spec_l35Sorted_r6)))
theorem spec_l35Sorted_L_sh (Q : QT) (x0 : V) : shL spec_l35Sorted_L Q [x0] = (
  P1 (.lst [.sc] false 0) [] fun v0 =>
  shL (.loop spec_l35Sorted_b0) (qB 0 (qS (shL spec_l35Sorted_r6 Q) Q)) [x0, .int .i64 0, v0]) := by kernel_rfl
def spec_l35Sorted_S : Sig := ⟨[.val false [.sl [.sc]]], [(false, [.sl [.sc]])], F_l35Sorted⟩
def spec_l35Sorted_hs : List NF := [⟨[(3, .sc false [.own 64])], [(64, true, [.sc])], [], 65⟩, ⟨[(0, .sc false [.ro [.sc]]), (3, .sc false [.own 64]), (4, .sc false [.sc])], [(64, true, [.sc])], [], 65⟩, ⟨[(0, .sc false [.ro [.sc]]), (3, .sc false [.own 64]), (4, .sc false [.sc])], [(64, true, [.sc])], [], 65⟩, ⟨[(0, .sc false [.ro [.sc]]), (3, .sc false [.own 64]), (4, .sc false [.sc]), (5, .sc false [.sc])], [(64, true, [.sc])], [], 65⟩, ⟨[(0, .sc false [.ro [.sc]]), (3, .sc false [.own 64]), (4, .sc false [.sc]), (5, .sc false [.sc])], [(64, true, [.sc])], [], 65⟩, ⟨[(0, .sc false [.ro [.sc]]), (3, .sc false [.own 64]), (4, .sc false [.sc]), (5, .sc false [.sc])], [(64, true, [.sc])], [], 65⟩]

def spec_SmoothShow_b0 : L := .seq (.seq (.seq (.rg [⟨[], .len, [.v 0], 1⟩, ⟨[], .bin .lss, [.v 1, .v 3], 1⟩]) (.ite (.v 4) (.skip) (.seq (.tup [.v 2]) (.exit 0)))) (.seq (.block 1 (.seq (.rg [⟨[], .idx [.sc, .sc], [.v 0, .v 1], 2⟩, ⟨[], .lst [.sc] false 1, [.v 6], 1⟩, ⟨[], .app [.sc] 8, [.v 2, .v 7], 1⟩]) (.tup [.v 0, .v 1, .v 8]))) (.rg [⟨[], .bin .add, [.v 1, .k (.int .i64 1)], 1⟩]))) (.tup [.v 0, .v 3, .v 2])
theorem spec_SmoothShow_b0_sh (Q : QT) (x0 x1 x2 : V) : shL spec_SmoothShow_b0 Q [x0, x1, x2] = (
  P1 (.len) [x0] fun v0 =>
  P1 (.bin .lss) [x1, v0] fun v1 =>
  ifB v1 (
    P2 (.idx [.sc, .sc]) [x0, x1] fun _ v3 =>
    P1 (.lst [.sc] false 1) [v3] fun v4 =>
    P1 (.app [.sc] 8) [x2, v4] fun v5 =>
    P1 (.bin .add) [x1, .int .i64 1] fun v6 =>
    Q .normal [x0, v6, v5]) (
    Q (.exit 0) [x2])) := by kernel_rfl

def spec_SmoothShow_r1 : L := .seq (.rg [⟨[], .call F_l35Sorted 0 1, [.v 0], 1⟩]) (.ret [.v 1])
theorem spec_SmoothShow_r1_sh (Q : QT) (x0 : V) : shL spec_SmoothShow_r1 Q [x0] = (
  P1 (.call F_l35Sorted 0 1) [x0] fun v0 =>
  Q .ret [v0]) := by kernel_rfl

def spec_SmoothShow_L : L := .seq (.rg []) (.seq (.seq (.rg [⟨[], .call F_PiecesOk 0 1, [.v 0], 1⟩, ⟨[], .un .not, [.v 1], 1⟩]) (.ite (.v 2) (.seq (.rg [⟨[], .lst [.sc] false 0, [], 1⟩]) (.ret [.v 3])) (.skip))) (.seq (.rg [⟨[], .lst [.sc] false 0, [], 1⟩]) (.seq (.seq (.rg []) (.block 0 (.seq (.tup [.v 0, .k (.int .i64 0), .v 3]) (.loop (spec_SmoothShow_b0))))) (spec_SmoothShow_r1))))
theorem spec_SmoothShow_L_sh (Q : QT) (x0 : V) : shL spec_SmoothShow_L Q [x0] = (
  P1 (.call F_PiecesOk 0 1) [x0] fun v0 =>
  P1 (.un .not) [v0] fun v1 =>
  ifB v1 (
    P1 (.lst [.sc] false 0) [] fun v2 =>
    Q .ret [v2]) (
    P1 (.lst [.sc] false 0) [] fun v3 =>
    shL (.loop spec_SmoothShow_b0) (qB 0 (qS (shL spec_SmoothShow_r1 Q) Q)) [x0, .int .i64 0, v3])) := by kernel_rfl
def spec_SmoothShow_S : Sig := ⟨[.val false [.sl [.sc, .sc]]], [(false, [.sl [.sc]])], F_SmoothShow⟩
def spec_SmoothShow_hs : List NF := [⟨[(3, .sc false [.own 64])], [(64, true, [.sc])], [], 65⟩, ⟨[(0, .sc false [.ro [.sc, .sc]]), (3, .sc false [.own 64]), (4, .sc false [.sc])], [(64, true, [.sc])], [], 65⟩, ⟨[(0, .sc false [.ro [.sc, .sc]]), (3, .sc false [.own 64]), (4, .sc false [.sc])], [(64, true, [.sc])], [], 65⟩]

def impl_upTo_b0 : L := .seq (.seq (.seq (.rg [⟨[], .bin .lss, [.v 1, .v 0], 1⟩]) (.ite (.v 3) (.skip) (.seq (.tup [.v 2]) (.exit 0)))) (.seq (.block 1 (.seq (.rg [⟨[], .lst [.sc] false 1, [.v 1], 1⟩, ⟨[], .app [.sc] 8, [.v 2, .v 4], 1⟩]) (.tup [.v 0, .v 1, .v 5]))) (.rg [⟨[], .bin .add, [.v 1, .k (.int .i64 1)], 1⟩]))) (.tup [.v 0, .v 3, .v 2])
theorem impl_upTo_b0_sh (Q : QT) (x0 x1 x2 : V) : shL impl_upTo_b0 Q [x0, x1, x2] = (
  P1 (.bin .lss) [x1, x0] fun v0 =>
  ifB v0 (
    P1 (.lst [.sc] false 1) [x1] fun v1 =>
    P1 (.app [.sc] 8) [x2, v1] fun v2 =>
    P1 (.bin .add) [x1, .int .i64 1] fun v3 =>
    Q .normal [x0, v3, v2]) (
    Q (.exit 0) [x2])) := by kernel_rfl

def impl_upTo_r1 : L := .seq (.rg []) (.ret [.v 0])
theorem impl_upTo_r1_sh (Q : QT) (x0 : V) : shL impl_upTo_r1 Q [x0] = (
  Q .ret [x0]) := by kernel_rfl

def impl_upTo_L : L := .seq (.rg []) (.seq (.rg [⟨[], .lst [.sc] false 0, [], 1⟩]) (.seq (.seq (.rg []) (.block 0 (.seq (.tup [.v 0, .k (.int .i64 0), .v 1]) (.loop (impl_upTo_b0))))) (impl_upTo_r1)))
theorem impl_upTo_L_sh (Q : QT) (x0 : V) : shL impl_upTo_L Q [x0] = (
  P1 (.lst [.sc] false 0) [] fun v0 =>
  shL (.loop impl_upTo_b0) (qB 0 (qS (shL impl_upTo_r1 Q) Q)) [x0, .int .i64 0, v0]) := by kernel_rfl
def impl_upTo_S : Sig := ⟨[.val false [.sc]], [(false, [.sl [.sc]])], F_upTo⟩
def impl_upTo_hs : List NF := [⟨[(3, .sc false [.own 64])], [(64, true, [.sc])], [], 65⟩, ⟨[(0, .sc false [.sc]), (3, .sc false [.own 64]), (4, .sc false [.sc])], [(64, true, [.sc])], [], 65⟩, ⟨[(0, .sc false [.sc]), (3, .sc false [.own 64]), (4, .sc false [.sc])], [(64, true, [.sc])], [], 65⟩]

def spec_FitsEvening_b0 : L := .seq (.seq (.seq (.rg [⟨[], .len, [.v 0], 1⟩, ⟨[], .bin .lss, [.v 3, .v 6], 1⟩]) (.ite (.v 7) (.skip) (.seq (.tup [.v 0, .v 1, .v 2, .v 4, .v 5]) (.exit 0)))) (.seq (.block 1 (.seq (.rg [⟨[], .idx [.sc, .sc], [.v 0, .v 3], 2⟩, ⟨[], .lst [.sc] false 1, [.v 8], 1⟩, ⟨[], .app [.sc] 8, [.v 5, .v 10], 1⟩]) (.tup [.v 0, .v 1, .v 2, .v 3, .v 4, .v 11]))) (.rg [⟨[], .bin .add, [.v 3, .k (.int .i64 1)], 1⟩]))) (.tup [.v 0, .v 1, .v 2, .v 6, .v 4, .v 5])
theorem spec_FitsEvening_b0_sh (Q : QT) (x0 x1 x2 x3 x4 x5 : V) : shL spec_FitsEvening_b0 Q [x0, x1, x2, x3, x4, x5] = (
  P1 (.len) [x0] fun v0 =>
  P1 (.bin .lss) [x3, v0] fun v1 =>
  ifB v1 (
    P2 (.idx [.sc, .sc]) [x0, x3] fun v2 _ =>
    P1 (.lst [.sc] false 1) [v2] fun v4 =>
    P1 (.app [.sc] 8) [x5, v4] fun v5 =>
    P1 (.bin .add) [x3, .int .i64 1] fun v6 =>
    Q .normal [x0, x1, x2, v6, x4, v5]) (
    Q (.exit 0) [x0, x1, x2, x4, x5])) := by kernel_rfl

def spec_FitsEvening_b2 : L := .seq (.seq (.seq (.rg [⟨[], .len, [.v 6], 1⟩, ⟨[], .bin .lss, [.v 3, .v 8], 1⟩, ⟨[(.v 9, true)], .bin .add, [.v 2, .v 0], 1⟩, ⟨[(.v 9, true)], .idx [.sc], [.v 6, .v 3], 1⟩, ⟨[(.v 9, true)], .idx [.sc], [.v 5, .v 11], 1⟩, ⟨[(.v 9, true)], .bin .add, [.v 10, .v 12], 1⟩, ⟨[(.v 9, true)], .bin .leq, [.v 13, .v 1], 1⟩, ⟨[], .pick, [.v 9, .v 14, .k (.bool false)], 1⟩]) (.ite (.v 15) (.skip) (.seq (.tup [.v 4, .v 7]) (.exit 2)))) (.seq (.block 3 (.seq (.seq (.rg [⟨[], .bin .add, [.v 2, .v 0], 1⟩, ⟨[], .idx [.sc], [.v 6, .v 3], 1⟩, ⟨[], .idx [.sc], [.v 5, .v 17], 1⟩, ⟨[], .bin .add, [.v 16, .v 18], 1⟩]) (.rg [⟨[], .idx [.sc], [.v 6, .v 3], 1⟩, ⟨[], .idx [.sc], [.v 7, .v 20], 1⟩, ⟨[], .set [.sc] 0, [.v 7, .v 20, .k (.bool true)], 1⟩])) (.tup [.v 0, .v 1, .v 19, .v 3, .v 4, .v 5, .v 6, .v 22]))) (.rg [⟨[], .bin .add, [.v 3, .k (.int .i64 1)], 1⟩]))) (.tup [.v 0, .v 1, .v 2, .v 8, .v 4, .v 5, .v 6, .v 7])
theorem spec_FitsEvening_b2_sh (Q : QT) (x0 x1 x2 x3 x4 x5 x6 x7 : V) : shL spec_FitsEvening_b2 Q [x0, x1, x2, x3, x4, x5, x6, x7] = (
  P1 (.len) [x6] fun v0 =>
  P1 (.bin .lss) [x3, v0] fun v1 =>
  ifB v1 (
    P1 (.bin .add) [x2, x0] fun v2 =>
    P1 (.idx [.sc]) [x6, x3] fun v3 =>
    P1 (.idx [.sc]) [x5, v3] fun v4 =>
    P1 (.bin .add) [v2, v4] fun v5 =>
    P1 (.bin .leq) [v5, x1] fun v6 =>
    ifB v6 (
      P1 (.bin .add) [x2, x0] fun v7 =>
      P1 (.idx [.sc]) [x6, x3] fun v8 =>
      P1 (.idx [.sc]) [x5, v8] fun v9 =>
      P1 (.bin .add) [v7, v9] fun v10 =>
      P1 (.idx [.sc]) [x6, x3] fun v11 =>
      P1 (.idx [.sc]) [x7, v11] fun _ =>
      P1 (.set [.sc] 0) [x7, v11, .bool true] fun v13 =>
      P1 (.bin .add) [x3, .int .i64 1] fun v14 =>
      Q .normal [x0, x1, v10, v14, x4, x5, x6, v13]) (
      Q (.exit 2) [x4, x7])) (
    Q (.exit 2) [x4, x7])) := by kernel_rfl

def spec_FitsEvening_b4 : L := .seq (.seq (.seq (.rg [⟨[], .len, [.v 2], 1⟩, ⟨[], .bin .lss, [.v 0, .v 3], 1⟩]) (.ite (.v 4) (.skip) (.seq (.tup [.v 1]) (.exit 4)))) (.seq (.block 5 (.seq (.seq (.rg [⟨[], .idx [.sc], [.v 2, .v 0], 1⟩]) (.ite (.v 5) (.seq (.rg [⟨[], .lst [.sc] false 1, [.v 0], 1⟩, ⟨[], .app [.sc] 8, [.v 1, .v 6], 1⟩]) (.tup [.v 0, .v 7, .v 2])) (.seq (.skip) (.tup [.v 0, .v 1, .v 2])))) (.tup [.v 0, .v 1, .v 2]))) (.rg [⟨[], .bin .add, [.v 0, .k (.int .i64 1)], 1⟩]))) (.tup [.v 3, .v 1, .v 2])
theorem spec_FitsEvening_b4_sh (Q : QT) (x0 x1 x2 : V) : shL spec_FitsEvening_b4 Q [x0, x1, x2] = (
  P1 (.len) [x2] fun v0 =>
  P1 (.bin .lss) [x0, v0] fun v1 =>
  ifB v1 (
    P1 (.idx [.sc]) [x2, x0] fun v2 =>
    ifB v2 (
      P1 (.lst [.sc] false 1) [x0] fun v3 =>
      P1 (.app [.sc] 8) [x1, v3] fun v4 =>
      P1 (.bin .add) [x0, .int .i64 1] fun v5 =>
      Q .normal [v5, v4, x2]) (
      P1 (.bin .add) [x0, .int .i64 1] fun v6 =>
      Q .normal [v6, x1, x2])) (
    Q (.exit 4) [x1])) := by kernel_rfl

def spec_FitsEvening_r5 : L := .seq (.rg []) (.ret [.v 0])
theorem spec_FitsEvening_r5_sh (Q : QT) (x0 : V) : shL spec_FitsEvening_r5 Q [x0] = (
  Q .ret [x0]) := by kernel_rfl

def spec_FitsEvening_r3 : L := .seq (.seq (.rg []) (.block 4 (.seq (.tup [.k (.int .i64 0), .v 0, .v 1]) (.loop (spec_FitsEvening_b4))))) (spec_FitsEvening_r5)
theorem spec_FitsEvening_r3_sh (Q : QT) (x0 x1 : V) : shL spec_FitsEvening_r3 Q [x0, x1] = (
  shL (.loop spec_FitsEvening_b4) (qB 4 (qS (shL spec_FitsEvening_r5 Q) Q)) [.int .i64 0, x0, x1]) := by kernel_rfl

def spec_FitsEvening_r1 : L := .seq (.rg [⟨[], .call F_l35Sorted 0 1, [.v 4], 1⟩]) (.seq (.rg [⟨[], .len, [.v 0], 1⟩, ⟨[], .mk [.sc] (.bool false) 1, [.v 6, .v 6], 1⟩]) (.seq (.rg [⟨[], .un .neg, [.v 1], 1⟩]) (.seq (.seq (.rg []) (.block 2 (.seq (.tup [.v 1, .v 2, .v 8, .k (.int .i64 0), .v 3, .v 4, .v 5, .v 7]) (.loop (spec_FitsEvening_b2))))) (spec_FitsEvening_r3))))
theorem spec_FitsEvening_r1_sh (Q : QT) (x0 x1 x2 x3 x4 : V) : shL spec_FitsEvening_r1 Q [x0, x1, x2, x3, x4] = (
  P1 (.call F_l35Sorted 0 1) [x4] fun v0 =>
  P1 (.len) [x0] fun v1 =>
  P1 (.mk [.sc] (.bool false) 1) [v1, v1] fun v2 =>
  P1 (.un .neg) [x1] fun v3 =>
  shL (.loop spec_FitsEvening_b2) (qB 2 (qS (shL spec_FitsEvening_r3 Q) Q)) [x1, x2, v3, .int .i64 0, x3, x4, v0, v2]) := by kernel_rfl

def spec_FitsEvening_L : L := .seq (.rg []) (.seq (.rg [⟨[], .lst [.sc] false 0, [], 1⟩]) (.seq (.seq (.rg [⟨[], .call F_ShowTime 0 1, [.v 0, .v 1], 1⟩, ⟨[], .bin .lss, [.v 4, .k (.int .i64 0)], 1⟩, ⟨[(.v 5, false)], .call F_l01In 0 1, [.v 2, .k (.int .i64 0), .k (.int .i64 10000)], 1⟩, ⟨[(.v 5, false)], .un .not, [.v 6], 1⟩, ⟨[], .pick, [.v 5, .k (.bool true), .v 7], 1⟩]) (.ite (.v 8) (.seq (.rg []) (.ret [.v 3])) (.skip))) (.seq (.rg [⟨[], .lst [.sc] false 0, [], 1⟩]) (.seq (.seq (.rg []) (.block 0 (.seq (.tup [.v 0, .v 1, .v 2, .k (.int .i64 0), .v 3, .v 9]) (.loop (spec_FitsEvening_b0))))) (spec_FitsEvening_r1)))))
theorem spec_FitsEvening_L_sh (Q : QT) (x0 x1 x2 : V) : shL spec_FitsEvening_L Q [x0, x1, x2] = (
  P1 (.lst [.sc] false 0) [] fun v0 =>
  P1 (.call F_ShowTime 0 1) [x0, x1] fun v1 =>
  P1 (.bin .lss) [v1, .int .i64 0] fun v2 =>
  ifB v2 (
    Q .ret [v0]) (
    P1 (.call F_l01In 0 1) [x2, .int .i64 0, .int .i64 10000] fun v3 =>
    P1 (.un .not) [v3] fun v4 =>
    ifB v4 (
      Q .ret [v0]) (
      P1 (.lst [.sc] false 0) [] fun v5 =>
      shL (.loop spec_FitsEvening_b0) (qB 0 (qS (shL spec_FitsEvening_r1 Q) Q)) [x0, x1, x2, .int .i64 0, v0, v5]))) := by kernel_rfl
def spec_FitsEvening_S : Sig := ⟨[.val false [.sl [.sc, .sc]], .val false [.sc], .val false [.sc]], [(false, [.sl [.sc]])], F_FitsEvening⟩
def spec_FitsEvening_hs : List NF := [⟨[(0, .sc false [.ro [.sc, .sc]]), (1, .sc false [.sc]), (2, .sc false [.sc]), (7, .sc false [.own 64]), (8, .sc false [.own 65])], [(64, true, [.sc]), (65, true, [.sc])], [], 66⟩, ⟨[(0, .sc false [.ro [.sc, .sc]]), (1, .sc false [.sc]), (2, .sc false [.sc]), (7, .sc false [.own 64]), (8, .sc false [.own 65]), (9, .sc false [.sc])], [(64, true, [.sc]), (65, true, [.sc])], [], 66⟩, ⟨[(0, .sc false [.ro [.sc, .sc]]), (1, .sc false [.sc]), (2, .sc false [.sc]), (7, .sc false [.own 64]), (8, .sc false [.own 65]), (9, .sc false [.sc])], [(64, true, [.sc]), (65, true, [.sc])], [], 66⟩, ⟨[(7, .sc false [.own 64]), (11, .sc false [.own 65])], [(64, true, [.sc]), (65, true, [.sc])], [], 66⟩, ⟨[(1, .sc false [.sc]), (2, .sc false [.sc]), (7, .sc false [.own 64]), (8, .sc false [.own 65]), (10, .sc false [.own 66]), (11, .sc false [.own 67]), (12, .sc false [.sc]), (13, .sc false [.sc])], [(64, true, [.sc]), (65, true, [.sc]), (66, true, [.sc]), (67, true, [.sc])], [], 68⟩, ⟨[(1, .sc false [.sc]), (2, .sc false [.sc]), (7, .sc false [.own 64]), (8, .sc false [.own 65]), (10, .sc false [.own 66]), (11, .sc false [.own 67]), (12, .sc false [.sc]), (13, .sc false [.sc])], [(64, true, [.sc]), (65, true, [.sc]), (66, true, [.sc]), (67, true, [.sc])], [], 68⟩, ⟨[(7, .sc false [.own 64])], [(64, true, [.sc])], [], 65⟩, ⟨[(7, .sc false [.own 64]), (11, .sc false [.own 65]), (14, .sc false [.sc])], [(64, true, [.sc]), (65, true, [.sc])], [], 66⟩, ⟨[(7, .sc false [.own 64]), (11, .sc false [.own 65]), (14, .sc false [.sc])], [(64, true, [.sc]), (65, true, [.sc])], [], 66⟩, ⟨[(7, .sc false [.own 64]), (11, .sc false [.own 65]), (14, .sc false [.sc])], [(64, true, [.sc]), (65, true, [.sc])], [], 66⟩]

end
end Go.Mw

/- Pieces in order of their numbers: the reference. -/
namespace Go.Mw
theorem pieces_le' {l : List T2} (hok : piecesOk l = true) : l.length ≤ 9 := by
  simp only [piecesOk, Bool.and_eq_true, decide_eq_true_eq] at hok; omega
theorem place_le (ks : List Int) (x : Nat) (l : List Nat) : ∀ p, place ks x l p ≤ p
  | 0 => Nat.le_refl _
  | p + 1 => by
    have := place_le ks x l p
    unfold place
    split <;> omega
theorem insR_len (ks : List Int) (x : Nat) (l : List Nat) : (insR ks x l).length = l.length + 1 := by
  have := place_le ks x l l.length
  simp [insR]; omega
theorem ordTo_len (ks : List Int) : ∀ k, (ordTo ks k).length = k
  | 0 => rfl
  | k + 1 => by rw [ordTo, insR_len, ordTo_len ks k]
theorem insR_perm (ks : List Int) (x : Nat) (l : List Nat) : (insR ks x l).Perm (x :: l) := by
  unfold insR
  refine List.perm_middle.trans ?_
  rw [List.take_append_drop]
theorem ordTo_perm (ks : List Int) : ∀ k, (ordTo ks k).Perm (List.range k)
  | 0 => .nil
  | k + 1 => by
    rw [ordTo, List.range_succ]
    exact (insR_perm ks k _).trans (((ordTo_perm ks k).cons k).trans (List.perm_append_singleton k _).symm)
theorem ordTo_lt {ks : List Int} {k x : Nat} (h : x ∈ ordTo ks k) : x < k := by simpa using (ordTo_perm ks k).mem_iff.1 h
theorem keyAt_get {ks : List Int} {i : Nat} (h : i < ks.length) : keyAt ks i = ks[i] := by simp [keyAt, h]
/-- The list while the place is sought: all behind p have moved. -/
structure OrdS where
  p : Nat
  m : List Int
theorem OrdS.inj {b b' : Nat} {c c' : List Int} (h2 : (b : Int) = b') (h3 : c = c') : OrdS.mk b c = ⟨b', c'⟩ := by
  obtain rfl : b = b' := by omega
  rw [h3]
theorem ints_append (a b : List Nat) : ints (a ++ b) = ints a ++ ints b := by simp [ints]
theorem ints_take (a : List Nat) (k : Nat) : (ints a).take k = ints (a.take k) := by simp [ints, List.map_take]
theorem ints_getQ (l : List Nat) (i : Nat) : (ints l)[i]? = (l[i]?).map fun x : Nat => (x : Int) := by simp [ints]
theorem hole_set {m : List Int} {o : List Nat} {p k x : Nat} (_ho : o.length = k) (hp : p ≤ k) (h2 : m.length = k + 1) (h3 : m.take p = ints (o.take p)) (h4 : m.drop (p + 1) = ints (o.drop p)) : m.set p (x : Int) = ints (o.take p ++ x :: o.drop p) := by
  have hs : m.set p (x : Int) = m.take p ++ (x : Int) :: m.drop (p + 1) := by
    rw [List.set_eq_take_append_cons_drop, if_pos (by omega)]
  rw [hs, h3, h4, ints_append]
  rfl
theorem spec_sort_b1 {l : List Int} {o : List Nat} {k : Nat} {Q : QT} (hl : l.length ≤ 9) (ho : o.length = k) (hk : k < l.length) (hm : ∀ x ∈ o, x < l.length)
    (hQ : ∀ (p : Nat) (m : List Int), p ≤ k → m.length = k + 1 → m.set p (k : Int) = ints (insR l k o) → Q (.exit 2) [vL I1 v1 l, .int .i64 k, .int .i64 p, vL I1 v1 m]) :
    shL (.loop spec_l35Sorted_b1) Q [vL I1 v1 l, .int .i64 k, .int .i64 k, vL I1 v1 (ints o ++ [(k : Int)])] := by
  refine loop_st (σ := OrdS) (fun x => [vL I1 v1 l, .int .i64 k, .int .i64 x.p, vL I1 v1 x.m]) (by rintro ⟨b, c⟩ ⟨b', c'⟩ h; simp at h; exact OrdS.inj (by omega) h.2)
    (fun x => x.p ≤ k ∧ x.m.length = k + 1 ∧ x.m.take x.p = ints (o.take x.p) ∧ x.m.drop (x.p + 1) = ints (o.drop x.p) ∧ place l k o x.p = place l k o k) (fun x => x.p) ⟨k, ints o ++ [(k : Int)]⟩ rfl
    ⟨Nat.le_refl _, by simp [ho], by rw [← ints_take, List.take_append_of_le_length (by simp [ho])], by rw [List.drop_of_length_le (by simp [ho]), List.drop_of_length_le (by rw [ho]; exact Nat.le_refl _)]; rfl, rfl⟩ ?_
  rintro ⟨p, m⟩ ⟨h1, h2, h3, h4, h5⟩
  dsimp only at *
  have stop : place l k o k = p → Q (.exit 2) [vL I1 v1 l, .int .i64 k, .int .i64 p, vL I1 v1 m] := fun e => by
    refine hQ p m h1 h2 ?_
    rw [hole_set ho h1 h2 h3 h4, insR, ho, e]
  rw [spec_l35Sorted_b1_sh]
  simp only [P1_gtr, ifB_bool, decide_eq_true_eq, decide_eq_false_iff_not]
  refine ⟨fun h => ?_, fun h => ?_⟩
  · obtain ⟨q, rfl⟩ : ∃ q, p = q + 1 := ⟨p - 1, by omega⟩
    have w1 : IntKind.i64.wrap (((q + 1 : Nat) : Int) - 1) = (q : Int) := by rw [wrap_id (by omega) (by omega)]; omega
    have hq : q < o.length := by omega
    have hg : m[q]? = some (o[q] : Int) := by
      have := congrArg (·[q]?) h3
      simp only [List.getElem?_take, ints_getQ] at this
      rw [if_pos (by omega)] at this
      rw [this]
      simp [hq]
    have hx := hm o[q] (List.getElem_mem hq)
    have hpl : place l k o (q + 1) = if l[k] < l[o[q]] then place l k o q else q + 1 := by
      rw [place, List.getElem?_eq_getElem hq, Option.getD_some, keyAt_get hk, keyAt_get hx]
    simp only [P1_sub, w1, P1_idxI, Int.toNat_natCast, hg, Option.some.injEq, exists_eq_left', List.getElem?_eq_getElem hx, List.getElem?_eq_getElem hk, P1_gtr, ifB_bool, decide_eq_true_eq, decide_eq_false_iff_not, P1_setI, List.getElem?_eq_getElem (show q + 1 < m.length by omega)]
    refine ⟨by omega, by omega, by omega, fun hlt => ?_, fun hlt => ?_⟩
    · simp only [qS_normal]
      rw [if_pos hlt] at hpl
      refine ⟨by omega, by omega, by omega, ⟨q, m.set (q + 1) (o[q] : Int)⟩, rfl, ⟨by dsimp only; omega, by simpa using h2, ?_, ?_, by dsimp only; rw [← hpl, h5]⟩, by dsimp only; omega⟩
      · dsimp only
        rw [List.take_set_of_le (by omega)]
        have := congrArg (List.take q) h3
        rw [List.take_take, ints_take, List.take_take] at this
        simpa [Nat.min_eq_left (show q ≤ q + 1 by omega)] using this
      · dsimp only
        rw [List.drop_set, if_neg (by omega), Nat.sub_self]
        have e1 : m.drop (q + 1) = m[q + 1] :: m.drop (q + 2) := List.drop_eq_getElem_cons (by omega)
        have e2 : o.drop q = o[q] :: o.drop (q + 1) := List.drop_eq_getElem_cons hq
        rw [e1, e2, List.set_cons_zero, h4]
        rfl
    · rw [if_neg hlt] at hpl
      exact stop (by rw [← h5, hpl])
  · obtain rfl : p = 0 := by omega
    exact stop (by rw [← h5]; rfl)

theorem spec_l35Sorted_ok : ∀ ds outs, F_l35Sorted ds = some outs → shL spec_l35Sorted_L (qRet outs) ds := F_l35Sorted_elim fun l hp => by
  rw [spec_l35Sorted_L_sh]
  simp only [P1_lst0]
  refine loop_upto l.length (fun k => [vL I1 v1 l, .int .i64 k, vL I1 v1 (ints (ordTo l k))]) (by intro i j _ _ h; simp at h; omega) (fun _ => True) rfl trivial ?_
  intro k hk _
  rw [spec_l35Sorted_b0_sh]
  simp only [P1_len, P1_lss, ifB_bool, decide_eq_true_eq, decide_eq_false_iff_not]
  refine ⟨fun h => ?_, fun h => ?_⟩
  · have hkl : k < l.length := by omega
    have hol := ordTo_len l k
    have w2 : IntKind.i64.wrap ((k : Int) + 1) = ((k + 1 : Nat) : Int) := by rw [wrap_id (by omega) (by omega)]; omega
    simp only [P1_lst1, P1_app, ints_len, hol, List.length_singleton]
    refine ⟨⟨by omega, by omega⟩, spec_sort_b1 hp hol hkl (fun x hx => Nat.lt_trans (ordTo_lt hx) hkl) fun p m h1 h2 h3 => ?_⟩
    have hpm : p < m.length := by omega
    simp only [qB_exit, if_true, qS_normal, spec_l35Sorted_r2_sh, spec_l35Sorted_r3_sh, spec_l35Sorted_r4_sh, spec_l35Sorted_r5_sh, qB_normal, P1_idxI, P1_setI, Int.toNat_natCast, List.getElem?_eq_getElem hpm, Option.some.injEq, exists_eq_left', P1_add, w2, h3]
    exact ⟨by omega, by omega, hkl, rfl, trivial⟩
  · obtain rfl : k = l.length := by omega
    simp [spec_l35Sorted_r6_sh]
theorem impl_upTo_ok : ∀ ds outs, F_upTo ds = some outs → shL impl_upTo_L (qRet outs) ds := F_upTo_elim fun n hp => by
  obtain ⟨n, rfl⟩ := Int.eq_ofNat_of_zero_le hp.1
  rw [impl_upTo_L_sh]
  simp only [P1_lst0]
  refine loop_upto n (fun k => [.int .i64 n, .int .i64 k, vL I1 v1 (ints (List.range k))]) (by intro i j _ _ h; simp at h; omega) (fun _ => True) rfl trivial ?_
  intro k hk _
  rw [impl_upTo_b0_sh]
  simp only [P1_lss, ifB_bool, decide_eq_true_eq, decide_eq_false_iff_not]
  refine ⟨fun h => ?_, fun h => ?_⟩
  · have w2 : IntKind.i64.wrap ((k : Int) + 1) = ((k + 1 : Nat) : Int) := by rw [wrap_id (by omega) (by omega)]; omega
    simp only [P1_lst1, P1_app, ints_len, List.length_range, List.length_singleton, P1_add, w2, qS_normal]
    refine ⟨⟨by omega, by omega⟩, by omega, ?_⟩
    simp [List.range_succ, ints]
  · obtain rfl : k = n := by omega
    simp [impl_upTo_r1_sh]
theorem spec_SmoothShow_ok : ∀ ds outs, F_SmoothShow ds = some outs → shL spec_SmoothShow_L (qRet outs) ds := F_SmoothShow_elim fun l hp => by
  rw [spec_SmoothShow_L_sh, p_PiecesOk hp]
  cases hok : piecesOk l with
  | false => simp [smooth, hok]
  | true =>
  have hn := pieces_le' hok
  simp only [P1_not, ifB_bool, Bool.not_true, Bool.false_eq_true, false_implies, true_and, forall_const, P1_lst0]
  refine loop_upto l.length (fun k => [vL I2 v2 l, .int .i64 k, vL I1 v1 (moods (l.take k))]) (by intro i j _ _ h; simp at h; omega) (fun _ => True) rfl trivial ?_
  intro k hk _
  rw [spec_SmoothShow_b0_sh]
  simp only [P1_len, P1_lss, ifB_bool, decide_eq_true_eq, decide_eq_false_iff_not]
  refine ⟨fun h => ?_, fun h => ?_⟩
  · have hkl : k < l.length := by omega
    have w2 : IntKind.i64.wrap ((k : Int) + 1) = ((k + 1 : Nat) : Int) := by rw [wrap_id (by omega) (by omega)]; omega
    have e1 : (moods (l.take k)).length = k := by simp [moods]; omega
    simp only [P2_idxI, Int.toNat_natCast, List.getElem?_eq_getElem hkl, Option.some.injEq, exists_eq_left', P1_lst1, P1_app, e1, List.length_singleton, P1_add, w2, qS_normal]
    refine ⟨by omega, ⟨by omega, by omega⟩, by omega, ?_⟩
    have e2 : moods (l.take (k + 1)) = moods (l.take k) ++ [l[k].b] := by rw [take_succ_get hkl]; simp only [moods, List.map_append, List.map_cons, List.map_nil]
    rw [e2]
    exact ⟨rfl, trivial⟩
  · obtain rfl : k = l.length := by omega
    simp only [List.take_length, qS_exit, qB_exit, if_true, qS_normal, spec_SmoothShow_r1_sh]
    rw [p_l35Sorted (by simp [moods]; omega)]
    simp [smooth, hok, moods]
end Go.Mw

/- An evening that fits: the reference. -/
namespace Go.Mw
theorem takeWhile_range {p : Nat → Bool} {n k : Nat} (hk : k ≤ n) (h1 : ∀ j, j < k → p j = true) (h2 : k = n ∨ p k = false) : ((List.range n).takeWhile p).length = k := by
  obtain ⟨m, rfl⟩ := Nat.exists_eq_add_of_le hk
  rw [List.range_add, List.takeWhile_append_of_pos (fun a ha => h1 a (by simpa using ha))]
  cases m with
  | zero => simp
  | succ m =>
    have h3 : p k = false := h2.resolve_left (by omega)
    rw [List.range_succ_eq_map, List.map_cons, List.takeWhile_cons_of_neg (by simpa using h3)]
    simp
theorem fitN_eq {s : List Int} {p t : Int} {o : List Nat} {k : Nat} (hk : k ≤ o.length) (h1 : ∀ j, j < k → lastsTo s p o (j + 1) ≤ t) (h2 : k = o.length ∨ ¬ lastsTo s p o (k + 1) ≤ t) : fitN s p t o = k := by
  unfold fitN
  refine takeWhile_range hk (fun j hj => by simpa using h1 j hj) (h2.imp id fun h => by simpa using h)
theorem showTime_ok {l : List T2} {p : Int} (h : 0 ≤ showTime l p) : piecesOk l = true ∧ 0 ≤ p ∧ p ≤ 600 := by
  unfold showTime at h
  split at h
  · rename_i hc
    simp only [Bool.and_eq_true, within, decide_eq_true_eq] at hc
    exact ⟨hc.1, by omega, by omega⟩
  · omega
theorem sec_range {l : List T2} (hok : piecesOk l = true) {j : Nat} (h : j < l.length) : 1 ≤ l[j].a ∧ l[j].a ≤ 600 := by
  simp only [piecesOk, Bool.and_eq_true, List.all_eq_true] at hok
  have := hok.2 l[j] (by simp)
  simp only [pieceOk, within, Bool.and_eq_true, decide_eq_true_eq] at this
  omega
theorem keyAt_secs {l : List T2} {j : Nat} (h : j < l.length) : keyAt (secs l) j = l[j].a := by simp [keyAt, secs, h]
theorem keyAt_sec_range {l : List T2} (hok : piecesOk l = true) (j : Nat) : 0 ≤ keyAt (secs l) j ∧ keyAt (secs l) j ≤ 600 := by
  by_cases h : j < l.length
  · have := sec_range hok h
    rw [keyAt_secs h]; omega
  · have : keyAt (secs l) j = 0 := by simp [keyAt, secs, List.getElem?_eq_none (Nat.le_of_not_lt h)]
    omega
theorem lastsTo_range {l : List T2} (hok : piecesOk l = true) {p : Int} (h0 : 0 ≤ p) (h1 : p ≤ 600) (o : List Nat) : ∀ k : Nat, -600 ≤ lastsTo (secs l) p o k ∧ lastsTo (secs l) p o k ≤ 1200 * k
  | 0 => by simp only [lastsTo]; omega
  | k + 1 => by
    have ih := lastsTo_range hok h0 h1 o k
    have := keyAt_sec_range hok (o[k]?.getD 0)
    simp only [lastsTo]
    push_cast
    omega
theorem lastsTo_succ {s : List Int} {p : Int} {o : List Nat} {k : Nat} (h : k < o.length) : lastsTo s p o (k + 1) = lastsTo s p o k + p + keyAt s o[k] := by simp [lastsTo, h]
def marks (n : Nat) (o : List Nat) : List Bool := (List.range n).map fun i => decide (i ∈ o)
theorem marks_set {n x : Nat} {o : List Nat} (hx : x < n) : (marks n o).set x true = marks n (o ++ [x]) := by
  apply List.ext_getElem?
  intro i
  by_cases hi : i < n
  · by_cases e : x = i
    · subst e
      rw [List.getElem?_set_self (by simpa [marks] using hx)]
      simp [marks, hi]
    · rw [List.getElem?_set_ne e]
      simp [marks, hi, Ne.symm e]
  · rw [List.getElem?_eq_none (by simp [marks]; omega), List.getElem?_eq_none (by simp [marks]; omega)]
structure FitS where
  k : Nat
  now : Int
  m : List Bool
theorem FitS.inj {a a' : Int} {b b' : Nat} {c c' : List Bool} (h1 : a = a') (h2 : (b : Int) = b') (h3 : c = c') : FitS.mk b a c = ⟨b', a', c'⟩ := by
  obtain rfl : b = b' := by omega
  rw [h1, h3]

theorem spec_FitsEvening_ok : ∀ ds outs, F_FitsEvening ds = some outs → shL spec_FitsEvening_L (qRet outs) ds := F_FitsEvening_elim fun l p t hp => by
  rw [spec_FitsEvening_L_sh]
  simp only [P1_lst0, p_ShowTime hp, P1_lss, ifB_bool, decide_eq_true_eq, decide_eq_false_iff_not, qRet_ret]
  refine ⟨fun h => by simp [fits35, show ¬ (0 ≤ showTime l p) by omega], fun h => ?_⟩
  have hsh : 0 ≤ showTime l p := by omega
  obtain ⟨hok, hp0, hp1⟩ := showTime_ok hsh
  simp only [p_within, P1_not, ifB_bool]
  refine ⟨fun h => by simp [fits35, by simpa using h], fun h => ?_⟩
  have hw : within t 0 10000 = true := by simpa using h
  have ht : 0 ≤ t ∧ t ≤ 10000 := by simpa [within] using hw
  have hn := pieces_le' hok
  have eF : fits35 l p t = ints (fitsOf l p t) := by simp [fits35, hsh, hw]
  rw [eF]
  refine loop_upto l.length (fun k => [vL I2 v2 l, .int .i64 p, .int .i64 t, .int .i64 k, .list [.sc] [], vL I1 v1 (secs (l.take k))]) (by intro i j _ _ h; simp at h; omega) (fun _ => True) rfl trivial ?_
  intro k hk _
  rw [spec_FitsEvening_b0_sh]
  simp only [P1_len, P1_lss, ifB_bool, decide_eq_true_eq, decide_eq_false_iff_not]
  refine ⟨fun h => ?_, fun h => ?_⟩
  · have hkl : k < l.length := by omega
    have w2 : IntKind.i64.wrap ((k : Int) + 1) = ((k + 1 : Nat) : Int) := by rw [wrap_id (by omega) (by omega)]; omega
    have e1 : (secs (l.take k)).length = k := by simp [secs]; omega
    have e2 : secs (l.take (k + 1)) = secs (l.take k) ++ [l[k].a] := by rw [take_succ_get hkl]; simp only [secs, List.map_append, List.map_cons, List.map_nil]
    simp only [P2_idxI, Int.toNat_natCast, List.getElem?_eq_getElem hkl, Option.some.injEq, exists_eq_left', P1_lst1, P1_app, e1, List.length_singleton, P1_add, w2, qS_normal]
    rw [e2]
    exact ⟨by omega, ⟨by omega, by omega⟩, by omega, rfl, trivial⟩
  · obtain rfl : k = l.length := by omega
    have hsl : (secs l).length = l.length := by simp [secs]
    have wn : IntKind.i64.wrap (0 - p) = -p := by rw [wrap_id (by omega) (by omega)]; omega
    simp only [List.take_length, qS_exit, qB_exit, if_true, qS_normal, spec_FitsEvening_r1_sh]
    rw [p_l35Sorted (by omega)]
    simp only [hsl, P1_len, P1_mkB, P1_neg, wn, Int.toNat_natCast]
    refine ⟨⟨by omega, by omega, by omega⟩, ?_⟩
    have hol := ordTo_len (secs l) l.length
    generalize ho : ordTo (secs l) l.length = o at *
    have hox : ∀ x ∈ o, x < l.length := fun x hx => ordTo_lt (ho ▸ hx)
    have eR : List.replicate l.length false = marks l.length (o.take 0) := by
      apply List.ext_getElem?
      intro i
      by_cases hi : i < l.length
      · simp [marks, hi]
      · rw [List.getElem?_eq_none (by simp; omega), List.getElem?_eq_none (by simp [marks]; omega)]
    rw [eR]
    refine loop_st (σ := FitS) (fun x => [.int .i64 p, .int .i64 t, .int .i64 x.now, .int .i64 x.k, .list [.sc] [], vL I1 v1 (secs l), vL I1 v1 (ints o), vL I1 vB x.m]) (by rintro ⟨a, b, c⟩ ⟨a', b', c'⟩ h; simp at h; exact FitS.inj h.1 (by omega) h.2.2)
      (fun x => x.k ≤ l.length ∧ x.now = lastsTo (secs l) p o x.k ∧ x.m = marks l.length (o.take x.k) ∧ ∀ j, j < x.k → lastsTo (secs l) p o (j + 1) ≤ t) (fun x => l.length - x.k) ⟨0, -p, marks l.length (o.take 0)⟩ rfl ⟨Nat.zero_le _, rfl, rfl, fun j h => by simp at h⟩ ?_
    rintro ⟨k, now, m⟩ ⟨hk, e1, e2, hall⟩
    dsimp only at *
    subst e1 e2
    have fin : ∀ {Q : QT}, (k = l.length ∨ ¬ lastsTo (secs l) p o (k + 1) ≤ t) → (∀ e, e = [vL I1 v1 (ints (fitsOf l p t))] → Q .ret e) → shL spec_FitsEvening_r3 Q [.list [.sc] [], vL I1 vB (marks l.length (o.take k))] := by
      intro Q hstop hQ
      have hfit : fitN (secs l) p t o = k := fitN_eq (by omega) hall (by rw [hol]; exact hstop)
      rw [spec_FitsEvening_r3_sh]
      refine loop_upto l.length (fun i => [.int .i64 i, vL I1 v1 (ints ((List.range i).filter fun x => decide (x ∈ o.take k))), vL I1 vB (marks l.length (o.take k))]) (by intro i j _ _ h; simp at h; omega) (fun _ => True) (by simp [ints]) trivial ?_
      intro i hi _
      have hml : (marks l.length (o.take k)).length = l.length := by simp [marks]
      rw [spec_FitsEvening_b4_sh]
      simp only [P1_len, hml, P1_lss, ifB_bool, decide_eq_true_eq, decide_eq_false_iff_not]
      refine ⟨fun h => ?_, fun h => ?_⟩
      · have hil : i < l.length := by omega
        have w2 : IntKind.i64.wrap ((i : Int) + 1) = ((i + 1 : Nat) : Int) := by rw [wrap_id (by omega) (by omega)]; omega
        have hg : (marks l.length (o.take k))[i]? = some (decide (i ∈ o.take k)) := by simp [marks, hil]
        have hfl : ((List.range i).filter fun x => decide (x ∈ o.take k)).length ≤ i := by simpa using List.length_filter_le (fun x => decide (x ∈ o.take k)) (List.range i)
        have er : (List.range (i + 1)).filter (fun x => decide (x ∈ o.take k)) = (List.range i).filter (fun x => decide (x ∈ o.take k)) ++ (if i ∈ o.take k then [i] else []) := by
          rw [List.range_succ, List.filter_append]
          by_cases e : i ∈ o.take k <;> simp [e]
        simp only [P1_idxB, Int.toNat_natCast, hg, Option.some.injEq, exists_eq_left', ifB_bool, decide_eq_true_eq, decide_eq_false_iff_not]
        refine ⟨by omega, fun e => ?_, fun e => ?_⟩
        · rw [if_pos e] at er
          simp only [P1_lst1, P1_app, ints_len, List.length_singleton, P1_add, w2, qS_normal]
          refine ⟨⟨by omega, by omega⟩, by omega, ?_, trivial⟩
          rw [er, ints_append]; rfl
        · rw [if_neg e, List.append_nil] at er
          simp only [P1_add, w2, qS_normal]
          refine ⟨by omega, ?_, trivial⟩
          rw [er]
      · obtain rfl : i = l.length := by omega
        simp only [qS_exit, qB_exit, if_true, qS_normal, spec_FitsEvening_r5_sh]
        refine hQ _ ?_
        unfold fitsOf
        rw [ho, hfit]
    rw [spec_FitsEvening_b2_sh]
    simp only [P1_len, ints_len, hol, P1_lss, ifB_bool, decide_eq_true_eq, decide_eq_false_iff_not]
    refine ⟨fun h => ?_, fun h => ?_⟩
    · have hkl : k < l.length := by omega
      have hko : k < o.length := by omega
      have hx := hox o[k] (List.getElem_mem hko)
      have hsx : (secs l)[o[k]]? = some (keyAt (secs l) o[k]) := by rw [keyAt_secs hx]; simp [secs, hx]
      have hr := lastsTo_range hok hp0 hp1 o k
      have hkr := keyAt_sec_range hok o[k]
      have w1 : IntKind.i64.wrap (lastsTo (secs l) p o k + p) = lastsTo (secs l) p o k + p := wrap_id (by omega) (by omega)
      have w3 : IntKind.i64.wrap (lastsTo (secs l) p o k + p + keyAt (secs l) o[k]) = lastsTo (secs l) p o (k + 1) := by rw [wrap_id (by omega) (by omega), lastsTo_succ hko]
      have w2 : IntKind.i64.wrap ((k : Int) + 1) = ((k + 1 : Nat) : Int) := by rw [wrap_id (by omega) (by omega)]; omega
      have hml : (marks l.length (o.take k)).length = l.length := by simp [marks]
      have hg : (ints o)[k]? = some (o[k] : Int) := ints_get hko
      simp only [P1_add, w1, P1_idxI, Int.toNat_natCast, hg, Option.some.injEq, exists_eq_left', hsx, w3, P1_leq, ifB_bool, decide_eq_true_eq, decide_eq_false_iff_not]
      refine ⟨by omega, by omega, fun hle => ?_, fun hle => ?_⟩
      · simp only [P1_idxB, P1_setB, Int.toNat_natCast, List.getElem?_eq_getElem (show o[k] < (marks l.length (o.take k)).length by omega), Option.some.injEq, exists_eq_left', w2, qS_normal]
        refine ⟨by omega, by omega, by omega, by omega, by omega, ⟨k + 1, _, _⟩, rfl, ⟨by dsimp only; omega, rfl, ?_, fun j hj => ?_⟩, by dsimp only; omega⟩
        · dsimp only
          rw [marks_set hx, take_succ_get hko]
        · dsimp only at hj
          by_cases e : j = k
          · subst e; exact hle
          · exact hall j (by omega)
      · simp only [qS_exit, qB_exit, if_true, qS_normal]
        exact fin (.inr hle) fun e he => by rw [he]; simp
    · simp only [qS_exit, qB_exit, if_true, qS_normal]
      exact fin (.inl (by omega)) fun e he => by rw [he]; simp
end Go.Mw

/- Functions of the program, as small pure programs (printed by a program of ours). -/
namespace Go.Mw
noncomputable section
def cmp_isNaN_int_L : L := .seq (.rg []) (.seq (.rg [⟨[], .bin .neq, [.v 0, .v 0], 1⟩]) (.ret [.v 1]))
theorem cmp_isNaN_int_L_sh (Q : QT) (x0 : V) : shL cmp_isNaN_int_L Q [x0] = (
  P1 (.bin .neq) [x0, x0] fun v0 =>
  Q .ret [v0]) := by kernel_rfl
def cmp_isNaN_int_S : Sig := ⟨[.val false [.sc]], [(false, [.sc])], F_cmp_isNaN_int⟩
def cmp_isNaN_int_hs : List NF := []

def cmp_Compare_int_L : L := .seq (.rg []) (.seq (.rg [⟨[], .call F_cmp_isNaN_int 0 1, [.v 0], 1⟩]) (.seq (.rg [⟨[], .call F_cmp_isNaN_int 0 1, [.v 1], 1⟩]) (.seq (.seq (.rg []) (.ite (.v 2) (.seq (.seq (.rg []) (.ite (.v 3) (.seq (.rg []) (.ret [.k (.int .i64 0)])) (.skip))) (.seq (.rg []) (.ret [.k (.int .i64 (-1))]))) (.skip))) (.seq (.seq (.rg []) (.ite (.v 3) (.seq (.rg []) (.ret [.k (.int .i64 1)])) (.skip))) (.seq (.seq (.rg [⟨[], .bin .lss, [.v 0, .v 1], 1⟩]) (.ite (.v 4) (.seq (.rg []) (.ret [.k (.int .i64 (-1))])) (.skip))) (.seq (.seq (.rg [⟨[], .bin .gtr, [.v 0, .v 1], 1⟩]) (.ite (.v 5) (.seq (.rg []) (.ret [.k (.int .i64 1)])) (.skip))) (.seq (.rg []) (.ret [.k (.int .i64 0)]))))))))
theorem cmp_Compare_int_L_sh (Q : QT) (x0 x1 : V) : shL cmp_Compare_int_L Q [x0, x1] = (
  P1 (.call F_cmp_isNaN_int 0 1) [x0] fun v0 =>
  P1 (.call F_cmp_isNaN_int 0 1) [x1] fun v1 =>
  ifB v0 (
    ifB v1 (
      Q .ret [.int .i64 0]) (
      Q .ret [.int .i64 (-1)])) (
    ifB v1 (
      Q .ret [.int .i64 1]) (
      P1 (.bin .lss) [x0, x1] fun v2 =>
      ifB v2 (
        Q .ret [.int .i64 (-1)]) (
        P1 (.bin .gtr) [x0, x1] fun v3 =>
        ifB v3 (
          Q .ret [.int .i64 1]) (
          Q .ret [.int .i64 0]))))) := by kernel_rfl
def cmp_Compare_int_S : Sig := ⟨[.val false [.sc], .val false [.sc]], [(false, [.sc])], F_cmp_Compare_int⟩
def cmp_Compare_int_hs : List NF := []

def impl_SmoothShow_1_L : L := .seq (.rg []) (.seq (.rg [⟨[], .idx [.sc, .sc], [.v 2, .v 0], 2⟩, ⟨[], .idx [.sc, .sc], [.v 2, .v 1], 2⟩, ⟨[], .call F_cmp_Compare_int 0 1, [.v 4, .v 6], 1⟩]) (.ret [.v 7]))
theorem impl_SmoothShow_1_L_sh (Q : QT) (x0 x1 x2 : V) : shL impl_SmoothShow_1_L Q [x0, x1, x2] = (
  P2 (.idx [.sc, .sc]) [x2, x0] fun _ v1 =>
  P2 (.idx [.sc, .sc]) [x2, x1] fun _ v3 =>
  P1 (.call F_cmp_Compare_int 0 1) [v1, v3] fun v4 =>
  Q .ret [v4]) := by kernel_rfl
def impl_SmoothShow_1_S : Sig := ⟨[.val false [.sc], .val false [.sc], .ptr 0 [.sl [.sc, .sc]]], [(false, [.sc])], F_SmoothShow_1⟩
def impl_SmoothShow_1_hs : List NF := []

def impl_SmoothShow_L : L := .seq (.rg []) (.seq (.seq (.rg [⟨[], .call F_PiecesOk 0 1, [.v 0], 1⟩, ⟨[], .un .not, [.v 1], 1⟩]) (.ite (.v 2) (.seq (.rg []) (.ret [.k (.list [.sc] [])])) (.skip))) (.seq (.rg [⟨[], .len, [.v 0], 1⟩, ⟨[], .call F_upTo 0 1, [.v 3], 1⟩]) (.seq (.rg [⟨[], .call F_stable_impl_SmoothShow_1 1 0, [.v 4, .v 0, .v 4], 1⟩]) (.seq (.rg []) (.ret [.v 5])))))
theorem impl_SmoothShow_L_sh (Q : QT) (x0 : V) : shL impl_SmoothShow_L Q [x0] = (
  P1 (.call F_PiecesOk 0 1) [x0] fun v0 =>
  P1 (.un .not) [v0] fun v1 =>
  ifB v1 (
    Q .ret [.list [.sc] []]) (
    P1 (.len) [x0] fun v2 =>
    P1 (.call F_upTo 0 1) [v2] fun v3 =>
    P1 (.call F_stable_impl_SmoothShow_1 1 0) [v3, x0, v3] fun v4 =>
    Q .ret [v4])) := by kernel_rfl
def impl_SmoothShow_S : Sig := ⟨[.val false [.sl [.sc, .sc]]], [(false, [.sl [.sc]])], F_SmoothShow⟩
def impl_SmoothShow_hs : List NF := []

def laws_markPieceS_b0 : L := .seq (.seq (.seq (.rg [⟨[], .len, [.v 2], 1⟩, ⟨[], .bin .lss, [.v 1, .v 3], 1⟩]) (.ite (.v 4) (.skip) (.seq (.tup [.v 0, .v 2]) (.exit 0)))) (.seq (.block 1 (.seq (.seq (.rg [⟨[], .idx [.sc, .sc], [.v 2, .v 1], 2⟩, ⟨[], .set [.sc, .sc] 0, [.v 2, .v 1, .v 0], 1⟩]) (.seq (.rg [⟨[], .bin .add, [.v 0, .k (.int .i64 1)], 1⟩]) (.seq (.rg [⟨[], .idx [.sc, .sc], [.v 7, .v 1], 2⟩, ⟨[], .set [.sc, .sc] 1, [.v 7, .v 1, .v 8], 1⟩]) (.rg [⟨[], .bin .add, [.v 8, .k (.int .i64 1)], 1⟩])))) (.tup [.v 12, .v 1, .v 11]))) (.rg [⟨[], .bin .add, [.v 1, .k (.int .i64 1)], 1⟩]))) (.tup [.v 0, .v 3, .v 2])
theorem laws_markPieceS_b0_sh (Q : QT) (x0 x1 x2 : V) : shL laws_markPieceS_b0 Q [x0, x1, x2] = (
  P1 (.len) [x2] fun v0 =>
  P1 (.bin .lss) [x1, v0] fun v1 =>
  ifB v1 (
    P2 (.idx [.sc, .sc]) [x2, x1] fun _ _ =>
    P1 (.set [.sc, .sc] 0) [x2, x1, x0] fun v4 =>
    P1 (.bin .add) [x0, .int .i64 1] fun v5 =>
    P2 (.idx [.sc, .sc]) [v4, x1] fun _ _ =>
    P1 (.set [.sc, .sc] 1) [v4, x1, v5] fun v8 =>
    P1 (.bin .add) [v5, .int .i64 1] fun v9 =>
    P1 (.bin .add) [x1, .int .i64 1] fun v10 =>
    Q .normal [v9, v10, v8]) (
    Q (.exit 0) [x0, x2])) := by kernel_rfl

def laws_markPieceS_r1 : L := .seq (.rg []) (.ret [.v 0, .v 1])
theorem laws_markPieceS_r1_sh (Q : QT) (x0 x1 : V) : shL laws_markPieceS_r1 Q [x0, x1] = (
  Q .ret [x0, x1]) := by kernel_rfl

def laws_markPieceS_L : L := .seq (.rg []) (.seq (.seq (.rg []) (.block 0 (.seq (.tup [.v 1, .k (.int .i64 0), .v 0]) (.loop (laws_markPieceS_b0))))) (laws_markPieceS_r1))
theorem laws_markPieceS_L_sh (Q : QT) (x0 x1 : V) : shL laws_markPieceS_L Q [x0, x1] = (
  shL (.loop laws_markPieceS_b0) (qB 0 (qS (shL laws_markPieceS_r1 Q) Q)) [x1, .int .i64 0, x0]) := by kernel_rfl
def laws_markPieceS_S : Sig := ⟨[.io false [.sl [.sc, .sc]], .val false [.sc]], [(false, [.sc])], F_markPieceS⟩
def laws_markPieceS_hs : List NF := [⟨[(1, .sc false [.sc])], [(0, false, [.sc, .sc])], [], 64⟩, ⟨[(0, .sc false [.own 0]), (1, .sc false [.sc]), (5, .sc false [.sc])], [(0, false, [.sc, .sc])], [], 64⟩, ⟨[(0, .sc false [.own 0]), (1, .sc false [.sc]), (5, .sc false [.sc])], [(0, false, [.sc, .sc])], [], 64⟩]

def laws_FnExactSmoothShow_r0 : L := .seq (.rg []) (.seq (.rg [⟨[], .call F_markIntS 1 1, [.v 6, .k (.int .i64 1), .v 6], 2⟩]) (.seq (.rg []) (.seq (.rg [⟨[], .call F_heldIntS 0 1, [.v 19, .k (.int .i64 1)], 1⟩]) (.seq (.seq (.rg [⟨[], .bin .lss, [.v 20, .k (.int .i64 0)], 1⟩]) (.ite (.v 21) (.seq (.rg []) (.ret [.k (.bool false)])) (.skip))) (.seq (.seq (.rg [⟨[], .bin .neq, [.v 20, .v 18], 1⟩]) (.ite (.v 22) (.seq (.rg []) (.ret [.k (.bool false)])) (.skip))) (.seq (.rg [⟨[], .call F_toPieceS 0 1, [.v 0], 1⟩, ⟨[], .call F_SmoothShow 0 1, [.v 23], 1⟩]) (.seq (.seq (.rg [⟨[], .call F_eqIntS 0 1, [.v 24, .v 4], 1⟩, ⟨[], .un .not, [.v 25], 1⟩]) (.ite (.v 26) (.seq (.rg []) (.ret [.k (.bool false)])) (.skip))) (.seq (.rg []) (.seq (.rg [⟨[], .call F_heldIntS 0 1, [.v 19, .k (.int .i64 1)], 1⟩]) (.seq (.seq (.rg [⟨[], .bin .lss, [.v 27, .k (.int .i64 0)], 1⟩]) (.ite (.v 28) (.seq (.rg []) (.ret [.k (.bool false)])) (.skip))) (.seq (.seq (.rg [⟨[], .bin .neq, [.v 27, .v 18], 1⟩]) (.ite (.v 29) (.seq (.rg []) (.ret [.k (.bool false)])) (.skip))) (.seq (.rg []) (.ret [.k (.bool true)])))))))))))))
theorem laws_FnExactSmoothShow_r0_sh (Q : QT) (x0 x1 x2 x3 x4 x5 x6 x7 x8 x9 x10 x11 x12 x13 x14 x15 x16 x17 : V) : shL laws_FnExactSmoothShow_r0 Q [x0, x1, x2, x3, x4, x5, x6, x7, x8, x9, x10, x11, x12, x13, x14, x15, x16, x17] = (
  P2 (.call F_markIntS 1 1) [x6, .int .i64 1, x6] fun v0 v1 =>
  P1 (.call F_heldIntS 0 1) [v1, .int .i64 1] fun v2 =>
  P1 (.bin .lss) [v2, .int .i64 0] fun v3 =>
  ifB v3 (
    Q .ret [.bool false]) (
    P1 (.bin .neq) [v2, v0] fun v4 =>
    ifB v4 (
      Q .ret [.bool false]) (
      P1 (.call F_toPieceS 0 1) [x0] fun v5 =>
      P1 (.call F_SmoothShow 0 1) [v5] fun v6 =>
      P1 (.call F_eqIntS 0 1) [v6, x4] fun v7 =>
      P1 (.un .not) [v7] fun v8 =>
      ifB v8 (
        Q .ret [.bool false]) (
        P1 (.call F_heldIntS 0 1) [v1, .int .i64 1] fun v9 =>
        P1 (.bin .lss) [v9, .int .i64 0] fun v10 =>
        ifB v10 (
          Q .ret [.bool false]) (
          P1 (.bin .neq) [v9, v0] fun v11 =>
          ifB v11 (
            Q .ret [.bool false]) (
            Q .ret [.bool true])))))) := by kernel_rfl

def laws_FnExactSmoothShow_L : L := .seq (.rg []) (.seq (.rg []) (.seq (.rg [⟨[], .call F_szPieceS 0 1, [.v 0, .k (.int .i64 1048576)], 1⟩]) (.seq (.seq (.rg [⟨[], .bin .lss, [.v 1, .k (.int .i64 0)], 1⟩]) (.ite (.v 2) (.seq (.rg []) (.ret [.k (.bool true)])) (.skip))) (.seq (.rg [⟨[], .call F_toPieceS 0 1, [.v 0], 1⟩, ⟨[], .call F_SmoothShow 0 1, [.v 3], 1⟩]) (.seq (.rg [⟨[], .call F_toPieceS 0 1, [.v 0], 1⟩]) (.seq (.rg [⟨[], .call F_SmoothShow 0 1, [.v 5], 1⟩]) (.seq (.seq (.rg [⟨[], .call F_eqIntS 0 1, [.v 6, .v 4], 1⟩, ⟨[], .un .not, [.v 7], 1⟩]) (.ite (.v 8) (.seq (.rg []) (.ret [.k (.bool false)])) (.skip))) (.seq (.seq (.rg [⟨[], .call F_toPieceS 0 1, [.v 0], 1⟩, ⟨[], .call F_eqPieceS 0 1, [.v 5, .v 9], 1⟩, ⟨[], .un .not, [.v 10], 1⟩]) (.ite (.v 11) (.seq (.rg []) (.ret [.k (.bool false)])) (.skip))) (.seq (.rg []) (.seq (.rg [⟨[], .call F_markPieceS 1 1, [.v 5, .k (.int .i64 1), .v 5], 2⟩]) (.seq (.seq (.rg [⟨[], .bin .lss, [.v 12, .k (.int .i64 0)], 1⟩, ⟨[(.v 14, false)], .call F_eqIntS 0 1, [.v 6, .v 4], 1⟩, ⟨[(.v 14, false)], .un .not, [.v 15], 1⟩, ⟨[], .pick, [.v 14, .k (.bool true), .v 16], 1⟩]) (.ite (.v 17) (.seq (.rg []) (.ret [.k (.bool false)])) (.skip))) (laws_FnExactSmoothShow_r0))))))))))))
theorem laws_FnExactSmoothShow_L_sh (Q : QT) (x0 : V) : shL laws_FnExactSmoothShow_L Q [x0] = (
  P1 (.call F_szPieceS 0 1) [x0, .int .i64 1048576] fun v0 =>
  P1 (.bin .lss) [v0, .int .i64 0] fun v1 =>
  ifB v1 (
    Q .ret [.bool true]) (
    P1 (.call F_toPieceS 0 1) [x0] fun v2 =>
    P1 (.call F_SmoothShow 0 1) [v2] fun v3 =>
    P1 (.call F_toPieceS 0 1) [x0] fun v4 =>
    P1 (.call F_SmoothShow 0 1) [v4] fun v5 =>
    P1 (.call F_eqIntS 0 1) [v5, v3] fun v6 =>
    P1 (.un .not) [v6] fun v7 =>
    ifB v7 (
      Q .ret [.bool false]) (
      P1 (.call F_toPieceS 0 1) [x0] fun v8 =>
      P1 (.call F_eqPieceS 0 1) [v4, v8] fun v9 =>
      P1 (.un .not) [v9] fun v10 =>
      ifB v10 (
        Q .ret [.bool false]) (
        P2 (.call F_markPieceS 1 1) [v4, .int .i64 1, v4] fun v11 v12 =>
        P1 (.bin .lss) [v11, .int .i64 0] fun v13 =>
        ifB v13 (
          Q .ret [.bool false]) (
          P1 (.call F_eqIntS 0 1) [v5, v3] fun v14 =>
          P1 (.un .not) [v14] fun v15 =>
          ifB v15 (
            Q .ret [.bool false]) (
            shL laws_FnExactSmoothShow_r0 Q [x0, v0, .bool false, v2, v3, v4, v5, v6, .bool false, v8, v9, .bool false, v11, v12, .bool false, v14, v15, .bool false])))))) := by kernel_rfl
def laws_FnExactSmoothShow_S : Sig := ⟨[.val false [.sl [.sc, .sc]]], [(false, [.sc])], F_FnExactSmoothShow⟩
def laws_FnExactSmoothShow_hs : List NF := []

def impl_FitsEvening_1_L : L := .seq (.rg []) (.seq (.rg [⟨[], .idx [.sc, .sc], [.v 2, .v 0], 2⟩, ⟨[], .idx [.sc, .sc], [.v 2, .v 1], 2⟩, ⟨[], .call F_cmp_Compare_int 0 1, [.v 3, .v 5], 1⟩]) (.ret [.v 7]))
theorem impl_FitsEvening_1_L_sh (Q : QT) (x0 x1 x2 : V) : shL impl_FitsEvening_1_L Q [x0, x1, x2] = (
  P2 (.idx [.sc, .sc]) [x2, x0] fun v0 _ =>
  P2 (.idx [.sc, .sc]) [x2, x1] fun v2 _ =>
  P1 (.call F_cmp_Compare_int 0 1) [v0, v2] fun v4 =>
  Q .ret [v4]) := by kernel_rfl
def impl_FitsEvening_1_S : Sig := ⟨[.val false [.sc], .val false [.sc], .ptr 0 [.sl [.sc, .sc]]], [(false, [.sc])], F_FitsEvening_1⟩
def impl_FitsEvening_1_hs : List NF := []

def impl_FitsEvening_b0 : L := .seq (.seq (.rg [⟨[], .bin .lss, [.v 4, .v 3], 1⟩]) (.seq (.ite (.v 8) (.skip) (.seq (.tup [.v 5]) (.exit 0))) (.seq (.block 1 (.seq (.seq (.rg [⟨[], .idx [.sc], [.v 6, .v 4], 1⟩]) (.seq (.seq (.rg [⟨[], .len, [.v 5], 1⟩, ⟨[], .bin .gtr, [.v 10, .k (.int .i64 0)], 1⟩]) (.ite (.v 11) (.seq (.rg [⟨[], .bin .add, [.v 2, .v 0], 1⟩]) (.tup [.v 0, .v 1, .v 12, .v 9, .v 3, .v 4, .v 5, .v 6, .v 7])) (.seq (.skip) (.tup [.v 0, .v 1, .v 2, .v 9, .v 3, .v 4, .v 5, .v 6, .v 7])))) (.seq (.rg [⟨[], .idx [.sc, .sc], [.v 8, .v 3], 2⟩, ⟨[], .bin .add, [.v 2, .v 9], 1⟩]) (.seq (.seq (.rg [⟨[], .bin .gtr, [.v 11, .v 1], 1⟩]) (.ite (.v 12) (.seq (.tup [.v 6]) (.exit 0)) (.skip))) (.rg [⟨[], .lst [.sc] false 1, [.v 3], 1⟩, ⟨[], .app [.sc] 8, [.v 6, .v 13], 1⟩]))))) (.tup [.v 0, .v 1, .v 11, .v 4, .v 5, .v 14, .v 7, .v 8]))) (.rg [⟨[], .bin .add, [.v 4, .k (.int .i64 1)], 1⟩])))) (.tup [.v 0, .v 1, .v 2, .v 3, .v 8, .v 5, .v 6, .v 7])
theorem impl_FitsEvening_b0_sh (Q : QT) (x0 x1 x2 x3 x4 x5 x6 x7 : V) : shL impl_FitsEvening_b0 Q [x0, x1, x2, x3, x4, x5, x6, x7] = (
  P1 (.bin .lss) [x4, x3] fun v0 =>
  ifB v0 (
    P1 (.idx [.sc]) [x6, x4] fun v1 =>
    P1 (.len) [x5] fun v2 =>
    P1 (.bin .gtr) [v2, .int .i64 0] fun v3 =>
    ifB v3 (
      P1 (.bin .add) [x2, x0] fun v4 =>
      P2 (.idx [.sc, .sc]) [x7, v1] fun v5 _ =>
      P1 (.bin .add) [v4, v5] fun v7 =>
      P1 (.bin .gtr) [v7, x1] fun v8 =>
      ifB v8 (
        Q (.exit 0) [x5]) (
        P1 (.lst [.sc] false 1) [v1] fun v9 =>
        P1 (.app [.sc] 8) [x5, v9] fun v10 =>
        P1 (.bin .add) [x4, .int .i64 1] fun v11 =>
        Q .normal [x0, x1, v7, x3, v11, v10, x6, x7])) (
      P2 (.idx [.sc, .sc]) [x7, v1] fun v12 _ =>
      P1 (.bin .add) [x2, v12] fun v14 =>
      P1 (.bin .gtr) [v14, x1] fun v15 =>
      ifB v15 (
        Q (.exit 0) [x5]) (
        P1 (.lst [.sc] false 1) [v1] fun v16 =>
        P1 (.app [.sc] 8) [x5, v16] fun v17 =>
        P1 (.bin .add) [x4, .int .i64 1] fun v18 =>
        Q .normal [x0, x1, v14, x3, v18, v17, x6, x7]))) (
    Q (.exit 0) [x5])) := by kernel_rfl

def impl_FitsEvening_r1 : L := .seq (.rg [⟨[], .call F_slices_Sort_Lint_int 1 0, [.v 0, .v 0], 1⟩]) (.seq (.rg []) (.ret [.v 1]))
theorem impl_FitsEvening_r1_sh (Q : QT) (x0 : V) : shL impl_FitsEvening_r1 Q [x0] = (
  P1 (.call F_slices_Sort_Lint_int 1 0) [x0, x0] fun v0 =>
  Q .ret [v0]) := by kernel_rfl

def impl_FitsEvening_L : L := .seq (.rg []) (.seq (.seq (.rg [⟨[], .call F_ShowTime 0 1, [.v 0, .v 1], 1⟩, ⟨[], .bin .lss, [.v 3, .k (.int .i64 0)], 1⟩, ⟨[(.v 4, false)], .call F_within 0 1, [.v 2, .k (.int .i64 0), .k (.int .i64 10000)], 1⟩, ⟨[(.v 4, false)], .un .not, [.v 5], 1⟩, ⟨[], .pick, [.v 4, .k (.bool true), .v 6], 1⟩]) (.ite (.v 7) (.seq (.rg []) (.ret [.k (.list [.sc] [])])) (.skip))) (.seq (.rg [⟨[], .len, [.v 0], 1⟩, ⟨[], .call F_upTo 0 1, [.v 8], 1⟩]) (.seq (.rg [⟨[], .call F_stable_impl_FitsEvening_1 1 0, [.v 9, .v 0, .v 9], 1⟩]) (.seq (.rg [⟨[], .lst [.sc] false 0, [], 1⟩]) (.seq (.rg []) (.seq (.seq (.rg [⟨[], .len, [.v 10], 1⟩]) (.block 0 (.seq (.tup [.v 1, .v 2, .k (.int .i64 0), .v 12, .k (.int .i64 0), .v 11, .v 10, .v 0]) (.loop (impl_FitsEvening_b0))))) (impl_FitsEvening_r1)))))))
theorem impl_FitsEvening_L_sh (Q : QT) (x0 x1 x2 : V) : shL impl_FitsEvening_L Q [x0, x1, x2] = (
  P1 (.call F_ShowTime 0 1) [x0, x1] fun v0 =>
  P1 (.bin .lss) [v0, .int .i64 0] fun v1 =>
  ifB v1 (
    Q .ret [.list [.sc] []]) (
    P1 (.call F_within 0 1) [x2, .int .i64 0, .int .i64 10000] fun v2 =>
    P1 (.un .not) [v2] fun v3 =>
    ifB v3 (
      Q .ret [.list [.sc] []]) (
      P1 (.len) [x0] fun v4 =>
      P1 (.call F_upTo 0 1) [v4] fun v5 =>
      P1 (.call F_stable_impl_FitsEvening_1 1 0) [v5, x0, v5] fun v6 =>
      P1 (.lst [.sc] false 0) [] fun v7 =>
      P1 (.len) [v6] fun v8 =>
      shL (.loop impl_FitsEvening_b0) (qB 0 (qS (shL impl_FitsEvening_r1 Q) Q)) [x1, x2, .int .i64 0, v8, .int .i64 0, v7, v6, x0]))) := by kernel_rfl
def impl_FitsEvening_S : Sig := ⟨[.val false [.sl [.sc, .sc]], .val false [.sc], .val false [.sc]], [(false, [.sl [.sc]])], F_FitsEvening⟩
def impl_FitsEvening_hs : List NF := [⟨[(8, .sc false [.own 64])], [(64, true, [.sc])], [], 65⟩, ⟨[(1, .sc false [.sc]), (2, .sc false [.sc]), (3, .ptr 64 0), (8, .sc false [.own 65]), (9, .sc false [.sc]), (28, .sc false [.own 66]), (29, .sc false [.sc]), (30, .sc false [.sc])], [(65, true, [.sc]), (66, true, [.sc])], [(64, [.ro [.sc, .sc]])], 67⟩, ⟨[(1, .sc false [.sc]), (2, .sc false [.sc]), (3, .ptr 64 0), (8, .sc false [.own 65]), (9, .sc false [.sc]), (28, .sc false [.own 66]), (29, .sc false [.sc]), (30, .sc false [.sc])], [(65, true, [.sc]), (66, true, [.sc])], [(64, [.ro [.sc, .sc]])], 67⟩, ⟨[(1, .sc false [.sc]), (2, .sc false [.sc]), (3, .ptr 64 0), (8, .sc false [.own 65]), (9, .sc false [.sc]), (11, .sc false [.sc]), (28, .sc false [.own 66]), (29, .sc false [.sc]), (30, .sc false [.sc])], [(65, true, [.sc]), (66, true, [.sc])], [(64, [.ro [.sc, .sc]])], 67⟩]

def laws_FnExactFitsEvening_r0 : L := .seq (.rg []) (.seq (.rg [⟨[], .call F_markIntS 1 1, [.v 8, .k (.int .i64 1), .v 8], 2⟩]) (.seq (.rg []) (.seq (.rg [⟨[], .call F_heldIntS 0 1, [.v 21, .k (.int .i64 1)], 1⟩]) (.seq (.seq (.rg [⟨[], .bin .lss, [.v 22, .k (.int .i64 0)], 1⟩]) (.ite (.v 23) (.seq (.rg []) (.ret [.k (.bool false)])) (.skip))) (.seq (.seq (.rg [⟨[], .bin .neq, [.v 22, .v 20], 1⟩]) (.ite (.v 24) (.seq (.rg []) (.ret [.k (.bool false)])) (.skip))) (.seq (.rg [⟨[], .call F_toPieceS 0 1, [.v 0], 1⟩, ⟨[], .call F_FitsEvening 0 1, [.v 25, .v 1, .v 2], 1⟩]) (.seq (.seq (.rg [⟨[], .call F_eqIntS 0 1, [.v 26, .v 6], 1⟩, ⟨[], .un .not, [.v 27], 1⟩]) (.ite (.v 28) (.seq (.rg []) (.ret [.k (.bool false)])) (.skip))) (.seq (.rg []) (.seq (.rg [⟨[], .call F_heldIntS 0 1, [.v 21, .k (.int .i64 1)], 1⟩]) (.seq (.seq (.rg [⟨[], .bin .lss, [.v 29, .k (.int .i64 0)], 1⟩]) (.ite (.v 30) (.seq (.rg []) (.ret [.k (.bool false)])) (.skip))) (.seq (.seq (.rg [⟨[], .bin .neq, [.v 29, .v 20], 1⟩]) (.ite (.v 31) (.seq (.rg []) (.ret [.k (.bool false)])) (.skip))) (.seq (.rg []) (.ret [.k (.bool true)])))))))))))))
theorem laws_FnExactFitsEvening_r0_sh (Q : QT) (x0 x1 x2 x3 x4 x5 x6 x7 x8 x9 x10 x11 x12 x13 x14 x15 x16 x17 x18 x19 : V) : shL laws_FnExactFitsEvening_r0 Q [x0, x1, x2, x3, x4, x5, x6, x7, x8, x9, x10, x11, x12, x13, x14, x15, x16, x17, x18, x19] = (
  P2 (.call F_markIntS 1 1) [x8, .int .i64 1, x8] fun v0 v1 =>
  P1 (.call F_heldIntS 0 1) [v1, .int .i64 1] fun v2 =>
  P1 (.bin .lss) [v2, .int .i64 0] fun v3 =>
  ifB v3 (
    Q .ret [.bool false]) (
    P1 (.bin .neq) [v2, v0] fun v4 =>
    ifB v4 (
      Q .ret [.bool false]) (
      P1 (.call F_toPieceS 0 1) [x0] fun v5 =>
      P1 (.call F_FitsEvening 0 1) [v5, x1, x2] fun v6 =>
      P1 (.call F_eqIntS 0 1) [v6, x6] fun v7 =>
      P1 (.un .not) [v7] fun v8 =>
      ifB v8 (
        Q .ret [.bool false]) (
        P1 (.call F_heldIntS 0 1) [v1, .int .i64 1] fun v9 =>
        P1 (.bin .lss) [v9, .int .i64 0] fun v10 =>
        ifB v10 (
          Q .ret [.bool false]) (
          P1 (.bin .neq) [v9, v0] fun v11 =>
          ifB v11 (
            Q .ret [.bool false]) (
            Q .ret [.bool true])))))) := by kernel_rfl

def laws_FnExactFitsEvening_L : L := .seq (.rg []) (.seq (.rg []) (.seq (.rg [⟨[], .call F_szPieceS 0 1, [.v 0, .k (.int .i64 1048576)], 1⟩]) (.seq (.seq (.rg [⟨[], .bin .lss, [.v 3, .k (.int .i64 0)], 1⟩]) (.ite (.v 4) (.seq (.rg []) (.ret [.k (.bool true)])) (.skip))) (.seq (.rg [⟨[], .call F_toPieceS 0 1, [.v 0], 1⟩, ⟨[], .call F_FitsEvening 0 1, [.v 5, .v 1, .v 2], 1⟩]) (.seq (.rg [⟨[], .call F_toPieceS 0 1, [.v 0], 1⟩]) (.seq (.rg [⟨[], .call F_FitsEvening 0 1, [.v 7, .v 1, .v 2], 1⟩]) (.seq (.seq (.rg [⟨[], .call F_eqIntS 0 1, [.v 8, .v 6], 1⟩, ⟨[], .un .not, [.v 9], 1⟩]) (.ite (.v 10) (.seq (.rg []) (.ret [.k (.bool false)])) (.skip))) (.seq (.seq (.rg [⟨[], .call F_toPieceS 0 1, [.v 0], 1⟩, ⟨[], .call F_eqPieceS 0 1, [.v 7, .v 11], 1⟩, ⟨[], .un .not, [.v 12], 1⟩]) (.ite (.v 13) (.seq (.rg []) (.ret [.k (.bool false)])) (.skip))) (.seq (.rg []) (.seq (.rg [⟨[], .call F_markPieceS 1 1, [.v 7, .k (.int .i64 1), .v 7], 2⟩]) (.seq (.seq (.rg [⟨[], .bin .lss, [.v 14, .k (.int .i64 0)], 1⟩, ⟨[(.v 16, false)], .call F_eqIntS 0 1, [.v 8, .v 6], 1⟩, ⟨[(.v 16, false)], .un .not, [.v 17], 1⟩, ⟨[], .pick, [.v 16, .k (.bool true), .v 18], 1⟩]) (.ite (.v 19) (.seq (.rg []) (.ret [.k (.bool false)])) (.skip))) (laws_FnExactFitsEvening_r0))))))))))))
theorem laws_FnExactFitsEvening_L_sh (Q : QT) (x0 x1 x2 : V) : shL laws_FnExactFitsEvening_L Q [x0, x1, x2] = (
  P1 (.call F_szPieceS 0 1) [x0, .int .i64 1048576] fun v0 =>
  P1 (.bin .lss) [v0, .int .i64 0] fun v1 =>
  ifB v1 (
    Q .ret [.bool true]) (
    P1 (.call F_toPieceS 0 1) [x0] fun v2 =>
    P1 (.call F_FitsEvening 0 1) [v2, x1, x2] fun v3 =>
    P1 (.call F_toPieceS 0 1) [x0] fun v4 =>
    P1 (.call F_FitsEvening 0 1) [v4, x1, x2] fun v5 =>
    P1 (.call F_eqIntS 0 1) [v5, v3] fun v6 =>
    P1 (.un .not) [v6] fun v7 =>
    ifB v7 (
      Q .ret [.bool false]) (
      P1 (.call F_toPieceS 0 1) [x0] fun v8 =>
      P1 (.call F_eqPieceS 0 1) [v4, v8] fun v9 =>
      P1 (.un .not) [v9] fun v10 =>
      ifB v10 (
        Q .ret [.bool false]) (
        P2 (.call F_markPieceS 1 1) [v4, .int .i64 1, v4] fun v11 v12 =>
        P1 (.bin .lss) [v11, .int .i64 0] fun v13 =>
        ifB v13 (
          Q .ret [.bool false]) (
          P1 (.call F_eqIntS 0 1) [v5, v3] fun v14 =>
          P1 (.un .not) [v14] fun v15 =>
          ifB v15 (
            Q .ret [.bool false]) (
            shL laws_FnExactFitsEvening_r0 Q [x0, x1, x2, v0, .bool false, v2, v3, v4, v5, v6, .bool false, v8, v9, .bool false, v11, v12, .bool false, v14, v15, .bool false])))))) := by kernel_rfl
def laws_FnExactFitsEvening_S : Sig := ⟨[.val false [.sl [.sc, .sc]], .val false [.sc], .val false [.sc]], [(false, [.sc])], F_FnExactFitsEvening⟩
def laws_FnExactFitsEvening_hs : List NF := []

end
end Go.Mw

/- The stable sort of slices, at few numbers: one block, sorted by insertion (printed by a program of ours). -/
namespace Go.Mw
noncomputable section
def slices_stableCmpFunc_int_b0 (K : List T2 → List Int) : L := .seq (.seq (.seq (.rg [⟨[], .bin .leq, [.v 3, .v 0], 1⟩]) (.ite (.v 6) (.skip) (.seq (.tup [.v 0, .v 1, .v 2, .v 4, .v 5]) (.exit 0)))) (.block 1 (.seq (.seq (.rg [⟨[], .call (F_ins K) 1 0, [.v 4, .v 2, .v 3, .v 5, .v 4], 1⟩]) (.seq (.rg []) (.rg [⟨[], .bin .add, [.v 3, .v 1], 1⟩]))) (.tup [.v 0, .v 1, .v 3, .v 8, .v 7, .v 5])))) (.tup [.v 0, .v 1, .v 2, .v 3, .v 4, .v 5])
theorem slices_stableCmpFunc_int_b0_sh (K : List T2 → List Int) (Q : QT) (x0 x1 x2 x3 x4 x5 : V) : shL (slices_stableCmpFunc_int_b0 K) Q [x0, x1, x2, x3, x4, x5] = (
  P1 (.bin .leq) [x3, x0] fun v0 =>
  ifB v0 (
    P1 (.call (F_ins K) 1 0) [x4, x2, x3, x5, x4] fun v1 =>
    P1 (.bin .add) [x3, x1] fun v2 =>
    Q .normal [x0, x1, x3, v2, v1, x5]) (
    Q (.exit 0) [x0, x1, x2, x4, x5])) := by kernel_rfl

def slices_stableCmpFunc_int_b3 : L := .seq (.seq (.seq (.rg [⟨[], .bin .leq, [.v 3, .v 0], 1⟩]) (.ite (.v 6) (.skip) (.seq (.tup [.v 0, .v 1, .v 2, .v 4, .v 5]) (.exit 4)))) (.block 5 (.seq (.seq (.rg [⟨[], .bin .add, [.v 2, .v 1], 1⟩, ⟨[], .call F_never 1 0, [.v 4, .v 2, .v 7, .v 3, .v 5, .v 4], 1⟩]) (.seq (.rg []) (.rg [⟨[], .bin .mul, [.k (.int .i64 2), .v 1], 1⟩, ⟨[], .bin .add, [.v 3, .v 9], 1⟩]))) (.tup [.v 0, .v 1, .v 3, .v 10, .v 8, .v 5])))) (.tup [.v 0, .v 1, .v 2, .v 3, .v 4, .v 5])
def slices_stableCmpFunc_int_r4 : L := .seq (.seq (.rg [⟨[], .bin .add, [.v 2, .v 1], 1⟩]) (.seq (.rg [⟨[], .bin .lss, [.v 5, .v 0], 1⟩]) (.ite (.v 6) (.seq (.rg [⟨[], .call F_never 1 0, [.v 3, .v 2, .v 5, .v 0, .v 4, .v 3], 1⟩]) (.tup [.v 0, .v 1, .v 7, .v 4])) (.seq (.skip) (.tup [.v 0, .v 1, .v 3, .v 4]))))) (.rg [⟨[], .bin .mul, [.v 1, .k (.int .i64 2)], 1⟩])
def slices_stableCmpFunc_int_r5 : L := .tup [.v 0, .v 4, .v 2, .v 3]
def slices_stableCmpFunc_int_r6 : L := .tup [.v 0, .v 1, .v 2, .v 3]
def slices_stableCmpFunc_int_b2 : L := .seq (.seq (.seq (.rg [⟨[], .bin .lss, [.v 1, .v 0], 1⟩]) (.ite (.v 4) (.skip) (.seq (.tup [.v 2, .v 3]) (.exit 2)))) (.block 3 (.seq (.seq (.rg [⟨[], .bin .mul, [.k (.int .i64 2), .v 1], 1⟩]) (.seq (.block 4 (.seq (.tup [.v 0, .v 1, .k (.int .i64 0), .v 5, .v 2, .v 3]) (.loop (slices_stableCmpFunc_int_b3)))) (slices_stableCmpFunc_int_r4))) (slices_stableCmpFunc_int_r5)))) (slices_stableCmpFunc_int_r6)
theorem slices_stableCmpFunc_int_b2_sh (Q : QT) (x0 x1 x2 x3 : V) : shL slices_stableCmpFunc_int_b2 Q [x0, x1, x2, x3] = (
  P1 (.bin .lss) [x1, x0] fun v0 =>
  ifB v0 (
    P1 (.bin .mul) [.int .i64 2, x1] fun v1 =>
    shL (.loop slices_stableCmpFunc_int_b3) (qB 4 (qS (shL slices_stableCmpFunc_int_r4 (qS (shL slices_stableCmpFunc_int_r5 (qB 3 (qS (shL slices_stableCmpFunc_int_r6 Q) Q))) (qB 3 (qS (shL slices_stableCmpFunc_int_r6 Q) Q)))) (qS (shL slices_stableCmpFunc_int_r5 (qB 3 (qS (shL slices_stableCmpFunc_int_r6 Q) Q))) (qB 3 (qS (shL slices_stableCmpFunc_int_r6 Q) Q))))) [x0, x1, .int .i64 0, v1, x2, x3]) (
    Q (.exit 2) [x2, x3])) := by kernel_rfl

def slices_stableCmpFunc_int_r1 (K : List T2 → List Int) : L := .seq (.rg [⟨[], .call (F_ins K) 1 0, [.v 3, .v 2, .v 0, .v 4, .v 3], 1⟩]) (.block 2 (.seq (.tup [.v 0, .v 1, .v 5, .v 4]) (.loop (slices_stableCmpFunc_int_b2))))
theorem slices_stableCmpFunc_int_r1_sh (K : List T2 → List Int) (Q : QT) (x0 x1 x2 x3 x4 : V) : shL (slices_stableCmpFunc_int_r1 K) Q [x0, x1, x2, x3, x4] = (
  P1 (.call (F_ins K) 1 0) [x3, x2, x0, x4, x3] fun v0 =>
  shL (.loop slices_stableCmpFunc_int_b2) (qB 2 Q) [x0, x1, v0, x4]) := by kernel_rfl

def slices_stableCmpFunc_int_r7 : L := .ret [.v 0]
theorem slices_stableCmpFunc_int_r7_sh (Q : QT) (x0 x1 : V) : shL slices_stableCmpFunc_int_r7 Q [x0, x1] = (
  Q .ret [x0]) := by kernel_rfl

def slices_stableCmpFunc_int_L (K : List T2 → List Int) : L := .seq (.seq (.rg []) (.seq (.rg []) (.seq (.block 0 (.seq (.tup [.v 1, .k (.int .i64 20), .k (.int .i64 0), .k (.int .i64 20), .v 0, .v 2]) (.loop ((slices_stableCmpFunc_int_b0 K))))) ((slices_stableCmpFunc_int_r1 K))))) (slices_stableCmpFunc_int_r7)
theorem slices_stableCmpFunc_int_L_sh (K : List T2 → List Int) (Q : QT) (x0 x1 x2 : V) : shL (slices_stableCmpFunc_int_L K) Q [x0, x1, x2] = (
  shL (.loop (slices_stableCmpFunc_int_b0 K)) (qB 0 (qS (shL (slices_stableCmpFunc_int_r1 K) (qS (shL slices_stableCmpFunc_int_r7 Q) Q)) (qS (shL slices_stableCmpFunc_int_r7 Q) Q))) [x1, .int .i64 20, .int .i64 0, .int .i64 20, x0, x2]) := by kernel_rfl
noncomputable def slices_stableCmpFunc_int_S (K : List T2 → List Int) (g : Nat) : Sig := ⟨[.io false [.sl [.sc]], .val false [.sc], .ptr (cloK + g) [.sl [.sc, .sc]]], [], F_stab K⟩
def slices_stableCmpFunc_int_hs (g : Nat) : List NF := [⟨[(0, .sc false [.own 0]), (1, .sc false [.sc]), (2, .ptr 1 (cloK + g)), (6, .sc false [.sc]), (7, .sc false [.sc])], [(0, false, [.sc])], [(1, [.ro [.sc, .sc]])], 64⟩, ⟨[(0, .sc false [.own 0]), (1, .sc false [.sc]), (2, .ptr 1 (cloK + g)), (6, .sc false [.sc]), (7, .sc false [.sc]), (8, .sc false [.sc])], [(0, false, [.sc])], [(1, [.ro [.sc, .sc]])], 64⟩, ⟨[(0, .sc false [.own 0]), (1, .sc false [.sc]), (2, .ptr 1 (cloK + g)), (6, .sc false [.sc]), (7, .sc false [.sc]), (8, .sc false [.sc])], [(0, false, [.sc])], [(1, [.ro [.sc, .sc]])], 64⟩, ⟨[], [(0, false, [.sc])], [(1, [.ro [.sc, .sc]])], 64⟩, ⟨[(0, .sc false [.own 0]), (1, .sc false [.sc]), (2, .ptr 1 (cloK + g)), (6, .sc false [.sc])], [(0, false, [.sc])], [(1, [.ro [.sc, .sc]])], 64⟩, ⟨[(0, .sc false [.own 0]), (1, .sc false [.sc]), (2, .ptr 1 (cloK + g)), (6, .sc false [.sc])], [(0, false, [.sc])], [(1, [.ro [.sc, .sc]])], 64⟩, ⟨[(0, .sc false [.own 0]), (1, .sc false [.sc]), (2, .ptr 1 (cloK + g)), (6, .sc false [.sc]), (7, .sc false [.sc])], [(0, false, [.sc])], [(1, [.ro [.sc, .sc]])], 64⟩, ⟨[(0, .sc false [.own 0]), (1, .sc false [.sc]), (2, .ptr 1 (cloK + g)), (6, .sc false [.sc]), (7, .sc false [.sc]), (8, .sc false [.sc])], [(0, false, [.sc])], [(1, [.ro [.sc, .sc]])], 64⟩, ⟨[(0, .sc false [.own 0]), (1, .sc false [.sc]), (2, .ptr 1 (cloK + g)), (6, .sc false [.sc]), (7, .sc false [.sc]), (8, .sc false [.sc])], [(0, false, [.sc])], [(1, [.ro [.sc, .sc]])], 64⟩, ⟨[(0, .sc false [.own 0]), (1, .sc false [.sc]), (2, .ptr 1 (cloK + g)), (6, .sc false [.sc])], [(0, false, [.sc])], [(1, [.ro [.sc, .sc]])], 64⟩]

def slices_SortStableFunc_Lint_int_L (K : List T2 → List Int) : L := .seq (.rg [⟨[], .len, [.v 0], 1⟩, ⟨[], .call (F_stab K) 1 0, [.v 0, .v 2, .v 1, .v 0], 1⟩]) (.ret [.v 3])
theorem slices_SortStableFunc_Lint_int_L_sh (K : List T2 → List Int) (Q : QT) (x0 x1 : V) : shL (slices_SortStableFunc_Lint_int_L K) Q [x0, x1] = (
  P1 (.len) [x0] fun v0 =>
  P1 (.call (F_stab K) 1 0) [x0, v0, x1, x0] fun v1 =>
  Q .ret [v1]) := by kernel_rfl
noncomputable def slices_SortStableFunc_Lint_int_S (K : List T2 → List Int) (g : Nat) : Sig := ⟨[.io false [.sl [.sc]], .ptr (cloK + g) [.sl [.sc, .sc]]], [], F_stable K⟩
def slices_SortStableFunc_Lint_int_hs : List NF := []


theorem slices_stableCmpFunc_int_ok (K : List T2 → List Int) : ∀ ds outs, F_stab K ds = some outs → shL (slices_stableCmpFunc_int_L K) (qRet outs) ds := by
  intro ds outs h
  obtain ⟨⟨o, n, l⟩, rfl, ⟨ho, hn, h9⟩, rfl⟩ := mkF_inv h
  dsimp only at ho hn h9 ⊢
  subst ho hn
  rw [slices_stableCmpFunc_int_L_sh]
  refine loop_upto 0 (fun _ => [.int .i64 l.length, .int .i64 20, .int .i64 0, .int .i64 20, vL I1 v1 (ints (List.range l.length)), vL I2 v2 l]) (fun i j h1 h2 _ => by omega) (fun _ => True) rfl trivial ?_
  intro k _ _
  rw [slices_stableCmpFunc_int_b0_sh]
  simp only [P1_leq, ifB_bool, decide_eq_true_eq, decide_eq_false_iff_not]
  refine ⟨fun h => by omega, fun _ => ?_⟩
  simp only [qS_exit, qB_exit, if_true, qS_normal, slices_stableCmpFunc_int_r1_sh]
  rw [p_ins h9]
  refine loop_upto 0 (fun _ => [.int .i64 l.length, .int .i64 20, vL I1 v1 (ordK K l), vL I2 v2 l]) (fun i j h1 h2 _ => by omega) (fun _ => True) rfl trivial ?_
  intro k _ _
  rw [slices_stableCmpFunc_int_b2_sh]
  simp only [P1_lss, ifB_bool, decide_eq_true_eq, decide_eq_false_iff_not]
  refine ⟨fun h => by omega, fun _ => ?_⟩
  simp only [qS_exit, qB_exit, if_true, qS_normal, slices_stableCmpFunc_int_r7_sh, qRet_ret]
theorem slices_SortStableFunc_Lint_int_ok (K : List T2 → List Int) : ∀ ds outs, F_stable K ds = some outs → shL (slices_SortStableFunc_Lint_int_L K) (qRet outs) ds := by
  intro ds outs h
  obtain ⟨⟨o, l⟩, rfl, ⟨ho, h9⟩, rfl⟩ := mkF_inv h
  dsimp only at ho h9 ⊢
  subst ho
  rw [slices_SortStableFunc_Lint_int_L_sh]
  have hl : (ints (List.range l.length)).length = l.length := by simp
  simp only [P1_len, hl]
  rw [p_stab h9]
  simp
theorem SmoothShow_1_F (l : List T2) (i k : Nat) (_ : l.length ≤ 9) (hi : i < l.length) (hk : k < l.length) : F_SmoothShow_1 [.int .i64 i, .int .i64 k, vL I2 v2 l] = some [.int .i64 (cmpI (keyAt (moods l) i) (keyAt (moods l) k))] :=
  mkF_eq F_SmoothShow_1_inj ((i : Int), (k : Int), l) ⟨by omega, by omega, by omega, by omega⟩
theorem FitsEvening_1_F (l : List T2) (i k : Nat) (_ : l.length ≤ 9) (hi : i < l.length) (hk : k < l.length) : F_FitsEvening_1 [.int .i64 i, .int .i64 k, vL I2 v2 l] = some [.int .i64 (cmpI (keyAt (secs l) i) (keyAt (secs l) k))] :=
  mkF_eq F_FitsEvening_1_inj ((i : Int), (k : Int), l) ⟨by omega, by omega, by omega, by omega⟩

end
end Go.Mw

/- Pieces in order of their numbers: the program, and the laws. -/
namespace Go.Mw
theorem cmp_isNaN_int_ok : ∀ ds outs, F_cmp_isNaN_int ds = some outs → shL cmp_isNaN_int_L (qRet outs) ds := F_cmp_isNaN_int_elim fun x => by
  rw [cmp_isNaN_int_L_sh]; simp
theorem cmp_Compare_int_ok : ∀ ds outs, F_cmp_Compare_int ds = some outs → shL cmp_Compare_int_L (qRet outs) ds := F_cmp_Compare_int_elim fun x y => by
  rw [cmp_Compare_int_L_sh]
  by_cases h1 : x < y
  · simp [cmpI, h1]
  · by_cases h2 : y < x <;> simp [cmpI, h1, h2]
theorem impl_SmoothShow_1_ok : ∀ ds outs, F_SmoothShow_1 ds = some outs → shL impl_SmoothShow_1_L (qRet outs) ds := F_SmoothShow_1_elim fun i k l hp => by
  rw [impl_SmoothShow_1_L_sh]
  have h1 : i.toNat < l.length := by omega
  have h2 : k.toNat < l.length := by omega
  simp [hp.1, hp.2.2.1, h1, h2, keyAt, moods]
theorem impl_FitsEvening_1_ok : ∀ ds outs, F_FitsEvening_1 ds = some outs → shL impl_FitsEvening_1_L (qRet outs) ds := F_FitsEvening_1_elim fun i k l hp => by
  rw [impl_FitsEvening_1_L_sh]
  have h1 : i.toNat < l.length := by omega
  have h2 : k.toNat < l.length := by omega
  simp [hp.1, hp.2.2.1, h1, h2, keyAt, secs]
theorem impl_SmoothShow_ok : ∀ ds outs, F_SmoothShow ds = some outs → shL impl_SmoothShow_L (qRet outs) ds := F_SmoothShow_elim fun l hp => by
  rw [impl_SmoothShow_L_sh, p_PiecesOk hp]
  cases hok : piecesOk l with
  | false => simp [smooth, hok]
  | true =>
  have hn := pieces_le' hok
  simp only [P1_not, ifB_bool, Bool.not_true, Bool.false_eq_true, false_implies, true_and, forall_const, P1_len]
  rw [p_upTo ⟨by omega, by omega⟩, Int.toNat_natCast, show F_stable_impl_SmoothShow_1 = F_stable moods from rfl, p_stable hn]
  simp [smooth, hok, ordK]

theorem sort_members {n : Nat} {xs : List Nat} (hn : xs.Nodup) (hlt : ∀ x ∈ xs, x < n) : sortI (ints xs) = ints ((List.range n).filter fun k => decide (k ∈ xs)) := by
  have tr : ∀ a b c : Int, decide (a ≤ b) = true → decide (b ≤ c) = true → decide (a ≤ c) = true := by intro a b c h1 h2; simp at *; omega
  have tot : ∀ a b : Int, (decide (a ≤ b) || decide (b ≤ a)) = true := by intro a b; simp; omega
  refine List.Perm.eq_of_pairwise (le := fun a b : Int => a ≤ b) (fun a b _ _ h1 h2 => by omega) ?_ ?_ ?_
  · have := List.pairwise_mergeSort (le := fun x y : Int => decide (x ≤ y)) tr tot (ints xs)
    exact this.imp fun h => by simpa using h
  · unfold ints
    rw [List.pairwise_map]
    exact (List.pairwise_lt_range.sublist List.filter_sublist).imp fun h => by omega
  · refine (List.mergeSort_perm _ _).trans ?_
    unfold ints
    refine List.Perm.map _ ?_
    refine (List.perm_ext_iff_of_nodup hn (List.nodup_range.sublist List.filter_sublist)).2 fun a => ?_
    simp only [List.mem_filter, List.mem_range, decide_eq_true_eq]
    exact ⟨fun h => ⟨hlt a h, h⟩, fun h => h.2⟩
structure EvS where
  k : Nat
  s : Int
theorem impl_FitsEvening_ok : ∀ ds outs, F_FitsEvening ds = some outs → shL impl_FitsEvening_L (qRet outs) ds := F_FitsEvening_elim fun l p t hp => by
  rw [impl_FitsEvening_L_sh]
  simp only [p_ShowTime hp, P1_lss, ifB_bool, decide_eq_true_eq, decide_eq_false_iff_not, qRet_ret]
  refine ⟨fun h => by simp [fits35, show ¬ (0 ≤ showTime l p) by omega], fun h => ?_⟩
  have hsh : 0 ≤ showTime l p := by omega
  obtain ⟨hok, hp0, hp1⟩ := showTime_ok hsh
  simp only [p_within, P1_not, ifB_bool]
  refine ⟨fun h => by simp [fits35, by simpa using h], fun h => ?_⟩
  have hw : within t 0 10000 = true := by simpa using h
  have ht : 0 ≤ t ∧ t ≤ 10000 := by simpa [within] using hw
  have hn := pieces_le' hok
  have eF : fits35 l p t = ints (fitsOf l p t) := by simp [fits35, hsh, hw]
  rw [eF]
  simp only [P1_len]
  rw [p_upTo ⟨by omega, by omega⟩, Int.toNat_natCast, show F_stable_impl_FitsEvening_1 = F_stable secs from rfl, p_stable hn]
  have hol := ordTo_len (secs l) l.length
  have hnd : (ordTo (secs l) l.length).Nodup := (ordTo_perm (secs l) l.length).nodup_iff.2 List.nodup_range
  simp only [ordK, P1_lst0, P1_len, ints_len, hol]
  have hfo : fitsOf l p t = (List.range l.length).filter fun k => decide (k ∈ (ordTo (secs l) l.length).take (fitN (secs l) p t (ordTo (secs l) l.length))) := rfl
  generalize ho : ordTo (secs l) l.length = o at *
  have hox : ∀ x ∈ o, x < l.length := fun x hx => ordTo_lt (ho ▸ hx)
  have fin : ∀ {Q : QT} {k : Nat}, k ≤ l.length → (∀ j, j < k → lastsTo (secs l) p o (j + 1) ≤ t) → (k = l.length ∨ ¬ lastsTo (secs l) p o (k + 1) ≤ t) → (∀ e, e = [vL I1 v1 (ints (fitsOf l p t))] → Q .ret e) → shL impl_FitsEvening_r1 Q [vL I1 v1 (ints (o.take k))] := by
    intro Q k hk hall hstop hQ
    have hfit : fitN (secs l) p t o = k := fitN_eq (by omega) hall (by rw [hol]; exact hstop)
    have htl : (o.take k).length ≤ 9 := by simp; omega
    rw [impl_FitsEvening_r1_sh, p_slices_Sort_Lint_int (by simp; omega)]
    refine hQ _ ?_
    rw [sort_members (hnd.sublist (List.take_sublist k o)) (fun x hx => hox x (List.mem_of_mem_take hx)), hfo, hfit]
  refine loop_st (σ := EvS) (fun x => [.int .i64 p, .int .i64 t, .int .i64 x.s, .int .i64 l.length, .int .i64 x.k, vL I1 v1 (ints (o.take x.k)), vL I1 v1 (ints o), vL I2 v2 l]) (by rintro ⟨b, c⟩ ⟨b', c'⟩ h; simp at h; simp only [EvS.mk.injEq]; omega)
    (fun x => x.k ≤ l.length ∧ x.s = (if x.k = 0 then 0 else lastsTo (secs l) p o x.k) ∧ ∀ j, j < x.k → lastsTo (secs l) p o (j + 1) ≤ t) (fun x => l.length - x.k) ⟨0, 0⟩ rfl ⟨Nat.zero_le _, rfl, fun j h => by simp at h⟩ ?_
  rintro ⟨k, s⟩ ⟨hk, e1, hall⟩
  dsimp only at *
  replace e1 : s = (if k = 0 then (0 : Int) else lastsTo (secs l) p o k) := e1
  subst e1
  rw [impl_FitsEvening_b0_sh]
  simp only [P1_lss, ifB_bool, decide_eq_true_eq, decide_eq_false_iff_not]
  refine ⟨fun h => ?_, fun h => ?_⟩
  · have hkl : k < l.length := by omega
    have hko : k < o.length := by omega
    have hx := hox o[k] (List.getElem_mem hko)
    have hkr := keyAt_sec_range hok o[k]
    have hr := lastsTo_range hok hp0 hp1 o k
    have hks : keyAt (secs l) o[k] = l[o[k]].a := keyAt_secs hx
    have hsu := lastsTo_succ (s := secs l) (p := p) hko
    have hg : (ints o)[k]? = some (o[k] : Int) := ints_get hko
    have w2 : IntKind.i64.wrap ((k : Int) + 1) = ((k + 1 : Nat) : Int) := by rw [wrap_id (by omega) (by omega)]; omega
    have htl : (o.take k).length = k := by simp; omega
    have e2 : ints (o.take k) ++ [(o[k] : Int)] = ints (o.take (k + 1)) := by rw [take_succ_get hko, ints_append]; rfl
    simp only [P1_idxI, Int.toNat_natCast, hg, Option.some.injEq, exists_eq_left', P1_len, ints_len, htl, P1_gtr, ifB_bool, decide_eq_true_eq, decide_eq_false_iff_not]
    have go : ∀ {kk : Prop}, (¬ t < lastsTo (secs l) p o (k + 1) → kk) → (t < lastsTo (secs l) p o (k + 1) → kk) → kk := fun h1 h2 => by
      by_cases e : t < lastsTo (secs l) p o (k + 1)
      · exact h2 e
      · exact h1 e
    refine ⟨by omega, fun h0 => ?_, fun h0 => ?_⟩
    · have w1 : IntKind.i64.wrap (lastsTo (secs l) p o k + p) = lastsTo (secs l) p o k + p := wrap_id (by omega) (by omega)
      have w3 : IntKind.i64.wrap (lastsTo (secs l) p o k + p + l[o[k]].a) = lastsTo (secs l) p o (k + 1) := by rw [wrap_id (by omega) (by omega)]; omega
      rw [if_neg (by omega)]
      simp only [P1_add, w1, P2_idxI, Int.toNat_natCast, List.getElem?_eq_getElem hx, Option.some.injEq, exists_eq_left', w3, P1_gtr, ifB_bool, decide_eq_true_eq, decide_eq_false_iff_not]
      refine ⟨by omega, fun h3 => ?_, fun h3 => ?_⟩
      · simp only [qS_exit, qB_exit, if_true, qS_normal]
        exact fin hk hall (.inr (by omega)) fun e he => by rw [he]; simp
      · simp only [P1_lst1, P1_app, ints_len, htl, List.length_singleton, w2, qS_normal, e2]
        refine ⟨⟨by omega, by omega⟩, ⟨k + 1, _⟩, rfl, ⟨by dsimp only; omega, by dsimp only; rw [if_neg (by omega)]; rfl, fun j hj => ?_⟩, by dsimp only; omega⟩
        dsimp only at hj
        by_cases e : j = k
        · subst e; omega
        · exact hall j (by omega)
    · obtain rfl : k = 0 := by omega
      have e0 : lastsTo (secs l) p o 0 = -p := rfl
      have w3 : IntKind.i64.wrap ((0 : Int) + l[o[0]].a) = lastsTo (secs l) p o (0 + 1) := by rw [wrap_id (by omega) (by omega)]; omega
      rw [if_pos rfl]
      simp only [P1_add, P2_idxI, Int.toNat_natCast, List.getElem?_eq_getElem hx, Option.some.injEq, exists_eq_left', w3, P1_gtr, ifB_bool, decide_eq_true_eq, decide_eq_false_iff_not]
      refine ⟨by omega, fun h3 => ?_, fun h3 => ?_⟩
      · simp only [qS_exit, qB_exit, if_true, qS_normal]
        exact fin hk hall (.inr (by omega)) fun e he => by rw [he]; simp
      · simp only [P1_lst1, P1_app, ints_len, htl, List.length_singleton, w2, qS_normal, e2]
        refine ⟨⟨by omega, by omega⟩, ⟨0 + 1, _⟩, rfl, ⟨by dsimp only; omega, by dsimp only; rw [if_neg (by omega)]; rfl, fun j hj => ?_⟩, by dsimp only; omega⟩
        dsimp only at hj
        obtain rfl : j = 0 := by omega
        omega
  · obtain rfl : k = l.length := by omega
    simp only [qS_exit, qB_exit, if_true, qS_normal]
    exact fin hk hall (.inl rfl) fun e he => by rw [he]; simp

theorem laws_markPieceS_ok : ∀ ds outs, F_markPieceS ds = some outs → shL laws_markPieceS_L (qRet outs) ds := F_markPieceS_elim fun l k hp => by
  rw [laws_markPieceS_L_sh]
  refine loop_upto l.length (fun i => [.int .i64 (k + 2 * i), .int .i64 i, vL I2 v2 ((markL2 l.length k).take i ++ l.drop i)]) (by intro i j _ _ h; simp at h; omega) (fun _ => True) (by simp) trivial ?_
  intro i hi _
  have hml : (markL2 l.length k).length = l.length := markL2_len
  rw [laws_markPieceS_b0_sh]
  simp
  have e0 : ((min i l.length : Nat) : Int) + ((l.length - i : Nat) : Int) = l.length := by omega
  simp only [e0]
  refine ⟨fun h => ?_, fun h => ?_⟩
  · replace h : i < l.length := by omega
    rw [mark_get hml h]
    have hs := mark_set hml h
    have hg : (markL2 l.length k)[i]'(by omega) = ⟨k + 2 * (i : Int), k + 2 * (i : Int) + 1⟩ := by simp [markL2]
    rw [hg] at hs
    simp (disch := omega) [h, wrap_id, hs, fun x => mark_set_get (x := x) hml h]
    omega
  · obtain rfl : i = l.length := by omega
    have e1 : List.take l.length (markL2 l.length k) = markL2 l.length k := List.take_of_length_le (by simp)
    simp [laws_markPieceS_r1_sh, e1]
theorem smooth_len (l : List T2) : (smooth l).length ≤ 9 := by
  unfold smooth
  split
  · rename_i h
    have := pieces_le' h
    simp [ordTo_len]; omega
  · simp
theorem fits_len (l : List T2) (p t : Int) : (fits35 l p t).length ≤ 9 := by
  unfold fits35
  split
  · rename_i h
    simp only [Bool.and_eq_true, decide_eq_true_eq] at h
    have h1 := pieces_le' (showTime_ok h.1).1
    have h2 : (fitsOf l p t).length ≤ l.length := by
      unfold fitsOf
      have := List.length_filter_le (fun k => decide (k ∈ (ordTo (secs l) l.length).take (fitN (secs l) p t (ordTo (secs l) l.length)))) (List.range l.length)
      simpa using this
    simp; omega
  · simp
theorem laws_FnExactSmoothShow_ok : ∀ ds outs, F_FnExactSmoothShow ds = some outs → shL laws_FnExactSmoothShow_L (qRet outs) ds := F_FnExactSmoothShow_elim fun l hp => by
  rw [laws_FnExactSmoothShow_L_sh]
  rw [p_szPieceS (by have := hp.1; omega)]
  by_cases h : (l.length : Int) ≤ 1048576
  · have h' : l.length ≤ 1048576 := by omega
    have h'' : l.length ≤ 4194304 := by omega
    have hg := smooth_len l
    generalize hgd : smooth l = g at hg
    have h1 : g.length ≤ 1048576 := by omega
    have h2 : g.length ≤ 4194304 := by omega
    have h3 : (0 : Int) ≤ 1 + g.length := by omega
    have h4 : (0 : Int) ≤ 1 + 2 * l.length := by omega
    simp [h, h', p_toPieceS, p_SmoothShow, p_eqPieceS, laws_FnExactSmoothShow_r0_sh, hgd, h'', h1, h2, p_eqIntS, p_markIntS, p_heldIntS, p_markPieceS, h3, h4]
  · simp [h]
theorem laws_FnExactFitsEvening_ok : ∀ ds outs, F_FnExactFitsEvening ds = some outs → shL laws_FnExactFitsEvening_L (qRet outs) ds := F_FnExactFitsEvening_elim fun l p t hp => by
  rw [laws_FnExactFitsEvening_L_sh]
  rw [p_szPieceS (by have := hp.1.1; omega)]
  by_cases h : (l.length : Int) ≤ 1048576
  · have h' : l.length ≤ 1048576 := by omega
    have h'' : l.length ≤ 4194304 := by omega
    have hg := fits_len l p t
    generalize hgd : fits35 l p t = g at hg
    have h1 : g.length ≤ 1048576 := by omega
    have h2 : g.length ≤ 4194304 := by omega
    have h3 : (0 : Int) ≤ 1 + g.length := by omega
    have h4 : (0 : Int) ≤ 1 + 2 * l.length := by omega
    simp [h, h', p_toPieceS, p_FitsEvening, p_eqPieceS, laws_FnExactFitsEvening_r0_sh, hgd, h'', h1, h2, p_eqIntS, p_markIntS, p_heldIntS, p_markPieceS, h3, h4]
  · simp [h]
end Go.Mw

