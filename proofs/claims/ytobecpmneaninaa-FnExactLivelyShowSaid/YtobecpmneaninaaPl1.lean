/- What functions of the program compute, as small pure programs, shown against plain Lean functions: no condition. -/
import Derived.KernelRfl
import Derived.Test.YtobecpmneaninaaFwH
/- What the functions of the first rows compute, in plain terms. -/
namespace Go.Mw
def within (n low high : Int) : Bool := decide (low ≤ n) && decide (n ≤ high)
def E_within : Int × Int × Int → List V := fun (a, b, c) => [.int .i64 a, .int .i64 b, .int .i64 c]
noncomputable def F_within : List V → Option (List V) := mkF E_within (fun (_, _, _) => True) (fun (a, b, c) => [.bool (within a b c)])
theorem F_within_inj : ∀ x y, E_within x = E_within y → x = y := by
  rintro ⟨a, b, c⟩ ⟨a', b', c'⟩ h
  simpa [E_within] using h
theorem F_within_elim {P : List V → List V → Prop} (h : ∀ (a : Int) (b : Int) (c : Int), P [.int .i64 a, .int .i64 b, .int .i64 c] [.bool (within a b c)]) : ∀ ds outs, F_within ds = some outs → P ds outs := by
  intro ds outs hh
  obtain ⟨⟨a, b, c⟩, rfl, -, rfl⟩ := mkF_inv hh
  exact h a b c
@[simp] theorem p_within {a : Int} {b : Int} {c : Int} {nr_ : Nat} {kk_ : V → Prop} : P1 (.call F_within 0 nr_) [.int .i64 a, .int .i64 b, .int .i64 c] kk_ ↔ kk_ (.bool (within a b c)) :=
  P1_callF (by unfold F_within; exact mkF_eq F_within_inj (a, b, c) trivial)

noncomputable abbrev F_l01In := F_within

/-! lists of pairs -/
def E_szPieceS : List T2 × Int → List V := fun (l, n) => [vL I2 v2 l, .int .i64 n]
noncomputable def F_szPieceS : List V → Option (List V) := mkF E_szPieceS (fun (l, n) => l.length ≤ 9223372036854775807 ∧ 0 ≤ n ∧ n ≤ 1048576) (fun (l, n) => [.int .i64 (if (l.length : Int) ≤ n then n - l.length else -1)])
theorem F_szPieceS_inj : ∀ x y, E_szPieceS x = E_szPieceS y → x = y := by
  rintro ⟨l, n⟩ ⟨l', n'⟩ h
  simpa [E_szPieceS] using h
theorem F_szPieceS_elim {P : List V → List V → Prop} (h : ∀ (l : List T2) (n : Int), (l.length ≤ 9223372036854775807 ∧ 0 ≤ n ∧ n ≤ 1048576) → P [vL I2 v2 l, .int .i64 n] [.int .i64 (if (l.length : Int) ≤ n then n - l.length else -1)]) : ∀ ds outs, F_szPieceS ds = some outs → P ds outs := by
  intro ds outs hh
  obtain ⟨⟨l, n⟩, rfl, hp, rfl⟩ := mkF_inv hh
  exact h l n hp
theorem p_szPieceS {l : List T2} {n : Int} {nr_ : Nat} {kk_ : V → Prop} (hp : l.length ≤ 9223372036854775807 ∧ 0 ≤ n ∧ n ≤ 1048576) : P1 (.call F_szPieceS 0 nr_) [vL I2 v2 l, .int .i64 n] kk_ ↔ kk_ (.int .i64 (if (l.length : Int) ≤ n then n - l.length else -1)) :=
  P1_callF (by unfold F_szPieceS; exact mkF_eq F_szPieceS_inj (l, n) hp)

def E_toPiece (x : T2) : List V := [.int .i64 x.a, .int .i64 x.b]
noncomputable def F_toPiece : List V → Option (List V) := mkF E_toPiece (fun _ => True) (fun x => [.int .i64 x.a, .int .i64 x.b])
theorem F_toPiece_inj : ∀ x y, E_toPiece x = E_toPiece y → x = y := by
  rintro ⟨xa, xb⟩ ⟨xa', xb'⟩ h
  simpa [E_toPiece] using h
theorem F_toPiece_elim {P : List V → List V → Prop} (h : ∀ (x : T2), P [.int .i64 x.a, .int .i64 x.b] [.int .i64 x.a, .int .i64 x.b]) : ∀ ds outs, F_toPiece ds = some outs → P ds outs := by
  intro ds outs hh
  obtain ⟨x, rfl, -, rfl⟩ := mkF_inv hh
  exact h x
@[simp] theorem p_toPiece {x_a : Int} {x_b : Int} {nr_ : Nat} {kk_ : V → V → Prop} : P2 (.call F_toPiece 0 nr_) [.int .i64 x_a, .int .i64 x_b] kk_ ↔ kk_ (.int .i64 ((⟨x_a, x_b⟩ : T2)).a) (.int .i64 ((⟨x_a, x_b⟩ : T2)).b) :=
  P2_callF (by unfold F_toPiece; exact mkF_eq F_toPiece_inj ((⟨x_a, x_b⟩ : T2)) trivial)

def E_toPieceS (l : List T2) : List V := [vL I2 v2 l]
noncomputable def F_toPieceS : List V → Option (List V) := mkF E_toPieceS (fun l => l.length ≤ 1048576) (fun l => [vL I2 v2 l])
theorem F_toPieceS_inj : ∀ x y, E_toPieceS x = E_toPieceS y → x = y := by
  rintro l l' h
  simpa [E_toPieceS] using h
theorem F_toPieceS_elim {P : List V → List V → Prop} (h : ∀ (l : List T2), (l.length ≤ 1048576) → P [vL I2 v2 l] [vL I2 v2 l]) : ∀ ds outs, F_toPieceS ds = some outs → P ds outs := by
  intro ds outs hh
  obtain ⟨l, rfl, hp, rfl⟩ := mkF_inv hh
  exact h l hp
theorem p_toPieceS {l : List T2} {nr_ : Nat} {kk_ : V → Prop} (hp : l.length ≤ 1048576) : P1 (.call F_toPieceS 0 nr_) [vL I2 v2 l] kk_ ↔ kk_ (vL I2 v2 l) :=
  P1_callF (by unfold F_toPieceS; exact mkF_eq F_toPieceS_inj (l) hp)

def pieceOk (p : T2) : Bool := within p.a 1 600 && within p.b 0 9
def piecesOk (l : List T2) : Bool := decide (l.length ≤ 9) && l.all pieceOk
def E_PiecesOk (l : List T2) : List V := [vL I2 v2 l]
noncomputable def F_PiecesOk : List V → Option (List V) := mkF E_PiecesOk (fun l => l.length ≤ 1048576) (fun l => [.bool (piecesOk l)])
theorem F_PiecesOk_inj : ∀ x y, E_PiecesOk x = E_PiecesOk y → x = y := by
  rintro l l' h
  simpa [E_PiecesOk] using h
theorem F_PiecesOk_elim {P : List V → List V → Prop} (h : ∀ (l : List T2), (l.length ≤ 1048576) → P [vL I2 v2 l] [.bool (piecesOk l)]) : ∀ ds outs, F_PiecesOk ds = some outs → P ds outs := by
  intro ds outs hh
  obtain ⟨l, rfl, hp, rfl⟩ := mkF_inv hh
  exact h l hp
theorem p_PiecesOk {l : List T2} {nr_ : Nat} {kk_ : V → Prop} (hp : l.length ≤ 1048576) : P1 (.call F_PiecesOk 0 nr_) [vL I2 v2 l] kk_ ↔ kk_ (.bool (piecesOk l)) :=
  P1_callF (by unfold F_PiecesOk; exact mkF_eq F_PiecesOk_inj (l) hp)

def E_eqPiece : T2 × T2 → List V := fun (x, y) => [.int .i64 x.a, .int .i64 x.b, .int .i64 y.a, .int .i64 y.b]
noncomputable def F_eqPiece : List V → Option (List V) := mkF E_eqPiece (fun (_, _) => True) (fun (x, y) => [.bool (decide (x = y))])
theorem F_eqPiece_inj : ∀ x y, E_eqPiece x = E_eqPiece y → x = y := by
  rintro ⟨⟨xa, xb⟩, ⟨ya, yb⟩⟩ ⟨⟨xa', xb'⟩, ⟨ya', yb'⟩⟩ h
  simpa [E_eqPiece, and_assoc] using h
theorem F_eqPiece_elim {P : List V → List V → Prop} (h : ∀ (x : T2) (y : T2), P [.int .i64 x.a, .int .i64 x.b, .int .i64 y.a, .int .i64 y.b] [.bool (decide (x = y))]) : ∀ ds outs, F_eqPiece ds = some outs → P ds outs := by
  intro ds outs hh
  obtain ⟨⟨x, y⟩, rfl, -, rfl⟩ := mkF_inv hh
  exact h x y
@[simp] theorem p_eqPiece {x_a : Int} {x_b : Int} {y_a : Int} {y_b : Int} {nr_ : Nat} {kk_ : V → Prop} : P1 (.call F_eqPiece 0 nr_) [.int .i64 x_a, .int .i64 x_b, .int .i64 y_a, .int .i64 y_b] kk_ ↔ kk_ (.bool (decide ((⟨x_a, x_b⟩ : T2) = (⟨y_a, y_b⟩ : T2)))) :=
  P1_callF (by unfold F_eqPiece; exact mkF_eq F_eqPiece_inj ((⟨x_a, x_b⟩ : T2), (⟨y_a, y_b⟩ : T2)) trivial)

def E_eqPieceS : List T2 × List T2 → List V := fun (l, m) => [vL I2 v2 l, vL I2 v2 m]
noncomputable def F_eqPieceS : List V → Option (List V) := mkF E_eqPieceS (fun (l, m) => l.length ≤ 1048576 ∧ m.length ≤ 1048576) (fun (l, m) => [.bool (decide (l = m))])
theorem F_eqPieceS_inj : ∀ x y, E_eqPieceS x = E_eqPieceS y → x = y := by
  rintro ⟨l, m⟩ ⟨l', m'⟩ h
  simpa [E_eqPieceS] using h
theorem F_eqPieceS_elim {P : List V → List V → Prop} (h : ∀ (l : List T2) (m : List T2), (l.length ≤ 1048576 ∧ m.length ≤ 1048576) → P [vL I2 v2 l, vL I2 v2 m] [.bool (decide (l = m))]) : ∀ ds outs, F_eqPieceS ds = some outs → P ds outs := by
  intro ds outs hh
  obtain ⟨⟨l, m⟩, rfl, hp, rfl⟩ := mkF_inv hh
  exact h l m hp
theorem p_eqPieceS {l : List T2} {m : List T2} {nr_ : Nat} {kk_ : V → Prop} (hp : l.length ≤ 1048576 ∧ m.length ≤ 1048576) : P1 (.call F_eqPieceS 0 nr_) [vL I2 v2 l, vL I2 v2 m] kk_ ↔ kk_ (.bool (decide (l = m))) :=
  P1_callF (by unfold F_eqPieceS; exact mkF_eq F_eqPieceS_inj (l, m) hp)


end Go.Mw

/- Functions of the program, as small pure programs (printed by a program of ours). -/
namespace Go.Mw
noncomputable section
def spec_l01In_L : L := .seq (.rg []) (.seq (.rg [⟨[], .bin .geq, [.v 0, .v 1], 1⟩, ⟨[(.v 3, true)], .bin .leq, [.v 0, .v 2], 1⟩, ⟨[], .pick, [.v 3, .v 4, .k (.bool false)], 1⟩]) (.ret [.v 5]))
theorem spec_l01In_L_sh (Q : QT) (x0 x1 x2 : V) : shL spec_l01In_L Q [x0, x1, x2] = (
  P1 (.bin .geq) [x0, x1] fun v0 =>
  ifB v0 (
    P1 (.bin .leq) [x0, x2] fun v1 =>
    Q .ret [v1]) (
    Q .ret [.bool false])) := by kernel_rfl
def spec_l01In_S : Sig := ⟨[.val false [.sc], .val false [.sc], .val false [.sc]], [(false, [.sc])], F_l01In⟩
def spec_l01In_hs : List NF := []

def impl_within_L : L := .seq (.rg []) (.seq (.rg [⟨[], .bin .geq, [.v 0, .v 1], 1⟩, ⟨[(.v 3, true)], .bin .leq, [.v 0, .v 2], 1⟩, ⟨[], .pick, [.v 3, .v 4, .k (.bool false)], 1⟩]) (.ret [.v 5]))
theorem impl_within_L_sh (Q : QT) (x0 x1 x2 : V) : shL impl_within_L Q [x0, x1, x2] = (
  P1 (.bin .geq) [x0, x1] fun v0 =>
  ifB v0 (
    P1 (.bin .leq) [x0, x2] fun v1 =>
    Q .ret [v1]) (
    Q .ret [.bool false])) := by kernel_rfl
def impl_within_S : Sig := ⟨[.val false [.sc], .val false [.sc], .val false [.sc]], [(false, [.sc])], F_within⟩
def impl_within_hs : List NF := []

def laws_szPieceS_L : L := .seq (.rg []) (.seq (.rg [⟨[], .len, [.v 0], 1⟩, ⟨[], .bin .sub, [.v 1, .v 2], 1⟩]) (.seq (.seq (.rg [⟨[], .bin .lss, [.v 3, .k (.int .i64 0)], 1⟩]) (.ite (.v 4) (.seq (.rg []) (.ret [.k (.int .i64 (-1))])) (.skip))) (.seq (.rg []) (.ret [.v 3]))))
theorem laws_szPieceS_L_sh (Q : QT) (x0 x1 : V) : shL laws_szPieceS_L Q [x0, x1] = (
  P1 (.len) [x0] fun v0 =>
  P1 (.bin .sub) [x1, v0] fun v1 =>
  P1 (.bin .lss) [v1, .int .i64 0] fun v2 =>
  ifB v2 (
    Q .ret [.int .i64 (-1)]) (
    Q .ret [v1])) := by kernel_rfl
def laws_szPieceS_S : Sig := ⟨[.val false [.sl [.sc, .sc]], .val false [.sc]], [(false, [.sc])], F_szPieceS⟩
def laws_szPieceS_hs : List NF := []

def laws_toPiece_L : L := .seq (.rg []) (.seq (.rg []) (.seq (.rg []) (.seq (.rg []) (.seq (.rg []) (.ret [.v 0, .v 1])))))
theorem laws_toPiece_L_sh (Q : QT) (x0 x1 : V) : shL laws_toPiece_L Q [x0, x1] = (
  Q .ret [x0, x1]) := by kernel_rfl
def laws_toPiece_S : Sig := ⟨[.val true [.sc, .sc]], [(true, [.sc, .sc])], F_toPiece⟩
def laws_toPiece_hs : List NF := []

def laws_toPieceS_b0 : L := .seq (.seq (.seq (.rg [⟨[], .len, [.v 0], 1⟩, ⟨[], .bin .lss, [.v 1, .v 3], 1⟩]) (.ite (.v 4) (.skip) (.seq (.tup [.v 2]) (.exit 0)))) (.seq (.block 1 (.seq (.rg [⟨[], .idx [.sc, .sc], [.v 0, .v 1], 2⟩, ⟨[], .call F_toPiece 0 2, [.v 5, .v 6], 2⟩, ⟨[], .idx [.sc, .sc], [.v 2, .v 1], 2⟩, ⟨[], .set [.sc, .sc] 0, [.v 2, .v 1, .v 7, .v 8], 1⟩]) (.tup [.v 0, .v 1, .v 11]))) (.rg [⟨[], .bin .add, [.v 1, .k (.int .i64 1)], 1⟩]))) (.tup [.v 0, .v 3, .v 2])
theorem laws_toPieceS_b0_sh (Q : QT) (x0 x1 x2 : V) : shL laws_toPieceS_b0 Q [x0, x1, x2] = (
  P1 (.len) [x0] fun v0 =>
  P1 (.bin .lss) [x1, v0] fun v1 =>
  ifB v1 (
    P2 (.idx [.sc, .sc]) [x0, x1] fun v2 v3 =>
    P2 (.call F_toPiece 0 2) [v2, v3] fun v4 v5 =>
    P2 (.idx [.sc, .sc]) [x2, x1] fun _ _ =>
    P1 (.set [.sc, .sc] 0) [x2, x1, v4, v5] fun v8 =>
    P1 (.bin .add) [x1, .int .i64 1] fun v9 =>
    Q .normal [x0, v9, v8]) (
    Q (.exit 0) [x2])) := by kernel_rfl

def laws_toPieceS_r1 : L := .seq (.rg []) (.ret [.v 0])
theorem laws_toPieceS_r1_sh (Q : QT) (x0 : V) : shL laws_toPieceS_r1 Q [x0] = (
  Q .ret [x0]) := by kernel_rfl

def laws_toPieceS_L : L := .seq (.rg []) (.seq (.rg [⟨[], .len, [.v 0], 1⟩, ⟨[], .mk [.sc, .sc] (.agg [.int .i64 0, .int .i64 0]) 16, [.v 1, .v 1], 1⟩]) (.seq (.seq (.rg []) (.block 0 (.seq (.tup [.v 0, .k (.int .i64 0), .v 2]) (.loop (laws_toPieceS_b0))))) (laws_toPieceS_r1)))
theorem laws_toPieceS_L_sh (Q : QT) (x0 : V) : shL laws_toPieceS_L Q [x0] = (
  P1 (.len) [x0] fun v0 =>
  P1 (.mk [.sc, .sc] (.agg [.int .i64 0, .int .i64 0]) 16) [v0, v0] fun v1 =>
  shL (.loop laws_toPieceS_b0) (qB 0 (qS (shL laws_toPieceS_r1 Q) Q)) [x0, .int .i64 0, v1]) := by kernel_rfl
def laws_toPieceS_S : Sig := ⟨[.val false [.sl [.sc, .sc]]], [(false, [.sl [.sc, .sc]])], F_toPieceS⟩
def laws_toPieceS_hs : List NF := [⟨[(3, .sc false [.own 64])], [(64, true, [.sc, .sc])], [], 65⟩, ⟨[(0, .sc false [.ro [.sc, .sc]]), (3, .sc false [.own 64]), (4, .sc false [.sc])], [(64, true, [.sc, .sc])], [], 65⟩, ⟨[(0, .sc false [.ro [.sc, .sc]]), (3, .sc false [.own 64]), (4, .sc false [.sc])], [(64, true, [.sc, .sc])], [], 65⟩]

def spec_PiecesOk_b0 : L := .seq (.seq (.seq (.rg [⟨[], .len, [.v 0], 1⟩, ⟨[], .bin .lss, [.v 1, .v 2], 1⟩]) (.ite (.v 3) (.skip) (.seq (.tup [.v 0]) (.exit 0)))) (.seq (.block 1 (.seq (.seq (.rg [⟨[], .idx [.sc, .sc], [.v 0, .v 1], 2⟩, ⟨[], .call F_l01In 0 1, [.v 4, .k (.int .i64 1), .k (.int .i64 600)], 1⟩, ⟨[], .un .not, [.v 6], 1⟩, ⟨[(.v 7, false)], .idx [.sc, .sc], [.v 0, .v 1], 2⟩, ⟨[(.v 7, false)], .call F_l01In 0 1, [.v 9, .k (.int .i64 0), .k (.int .i64 9)], 1⟩, ⟨[(.v 7, false)], .un .not, [.v 10], 1⟩, ⟨[], .pick, [.v 7, .k (.bool true), .v 11], 1⟩]) (.ite (.v 12) (.seq (.rg []) (.ret [.k (.bool false)])) (.skip))) (.tup [.v 0, .v 1]))) (.rg [⟨[], .bin .add, [.v 1, .k (.int .i64 1)], 1⟩]))) (.tup [.v 0, .v 2])
theorem spec_PiecesOk_b0_sh (Q : QT) (x0 x1 : V) : shL spec_PiecesOk_b0 Q [x0, x1] = (
  P1 (.len) [x0] fun v0 =>
  P1 (.bin .lss) [x1, v0] fun v1 =>
  ifB v1 (
    P2 (.idx [.sc, .sc]) [x0, x1] fun v2 _ =>
    P1 (.call F_l01In 0 1) [v2, .int .i64 1, .int .i64 600] fun v4 =>
    P1 (.un .not) [v4] fun v5 =>
    ifB v5 (
      Q .ret [.bool false]) (
      P2 (.idx [.sc, .sc]) [x0, x1] fun _ v7 =>
      P1 (.call F_l01In 0 1) [v7, .int .i64 0, .int .i64 9] fun v8 =>
      P1 (.un .not) [v8] fun v9 =>
      ifB v9 (
        Q .ret [.bool false]) (
        P1 (.bin .add) [x1, .int .i64 1] fun v10 =>
        Q .normal [x0, v10]))) (
    Q (.exit 0) [x0])) := by kernel_rfl

def spec_PiecesOk_r1 : L := .seq (.rg [⟨[], .len, [.v 0], 1⟩, ⟨[], .bin .leq, [.v 1, .k (.int .i64 9)], 1⟩]) (.ret [.v 2])
theorem spec_PiecesOk_r1_sh (Q : QT) (x0 : V) : shL spec_PiecesOk_r1 Q [x0] = (
  P1 (.len) [x0] fun v0 =>
  P1 (.bin .leq) [v0, .int .i64 9] fun v1 =>
  Q .ret [v1]) := by kernel_rfl

def spec_PiecesOk_L : L := .seq (.rg []) (.seq (.seq (.rg []) (.block 0 (.seq (.tup [.v 0, .k (.int .i64 0)]) (.loop (spec_PiecesOk_b0))))) (spec_PiecesOk_r1))
theorem spec_PiecesOk_L_sh (Q : QT) (x0 : V) : shL spec_PiecesOk_L Q [x0] = (
  shL (.loop spec_PiecesOk_b0) (qB 0 (qS (shL spec_PiecesOk_r1 Q) Q)) [x0, .int .i64 0]) := by kernel_rfl
def spec_PiecesOk_S : Sig := ⟨[.val false [.sl [.sc, .sc]]], [(false, [.sc])], F_PiecesOk⟩
def spec_PiecesOk_hs : List NF := [⟨[(0, .sc false [.ro [.sc, .sc]])], [], [], 64⟩, ⟨[(0, .sc false [.ro [.sc, .sc]]), (3, .sc false [.sc])], [], [], 64⟩, ⟨[(0, .sc false [.ro [.sc, .sc]]), (3, .sc false [.sc])], [], [], 64⟩]

def impl_PiecesOk_b0 : L := .seq (.seq (.rg [⟨[], .bin .lss, [.v 2, .v 1], 1⟩]) (.seq (.ite (.v 3) (.skip) (.seq (.tup []) (.exit 0))) (.seq (.block 1 (.seq (.seq (.rg [⟨[], .idx [.sc, .sc], [.v 0, .v 2], 2⟩]) (.seq (.rg [⟨[], .call F_within 0 1, [.v 4, .k (.int .i64 1), .k (.int .i64 600)], 1⟩, ⟨[], .un .not, [.v 6], 1⟩, ⟨[(.v 7, false)], .call F_within 0 1, [.v 5, .k (.int .i64 0), .k (.int .i64 9)], 1⟩, ⟨[(.v 7, false)], .un .not, [.v 8], 1⟩, ⟨[], .pick, [.v 7, .k (.bool true), .v 9], 1⟩]) (.ite (.v 10) (.seq (.rg []) (.ret [.k (.bool false)])) (.skip)))) (.tup [.v 0, .v 1, .v 2]))) (.rg [⟨[], .bin .add, [.v 2, .k (.int .i64 1)], 1⟩])))) (.tup [.v 0, .v 1, .v 3])
theorem impl_PiecesOk_b0_sh (Q : QT) (x0 x1 x2 : V) : shL impl_PiecesOk_b0 Q [x0, x1, x2] = (
  P1 (.bin .lss) [x2, x1] fun v0 =>
  ifB v0 (
    P2 (.idx [.sc, .sc]) [x0, x2] fun v1 v2 =>
    P1 (.call F_within 0 1) [v1, .int .i64 1, .int .i64 600] fun v3 =>
    P1 (.un .not) [v3] fun v4 =>
    ifB v4 (
      Q .ret [.bool false]) (
      P1 (.call F_within 0 1) [v2, .int .i64 0, .int .i64 9] fun v5 =>
      P1 (.un .not) [v5] fun v6 =>
      ifB v6 (
        Q .ret [.bool false]) (
        P1 (.bin .add) [x2, .int .i64 1] fun v7 =>
        Q .normal [x0, x1, v7]))) (
    Q (.exit 0) [])) := by kernel_rfl

def impl_PiecesOk_r1 : L := .seq (.rg []) (.ret [.k (.bool true)])
theorem impl_PiecesOk_r1_sh (Q : QT) : shL impl_PiecesOk_r1 Q [] = (
  Q .ret [.bool true]) := by kernel_rfl

def impl_PiecesOk_L : L := .seq (.rg []) (.seq (.seq (.rg [⟨[], .len, [.v 0], 1⟩, ⟨[], .bin .gtr, [.v 1, .k (.int .i64 9)], 1⟩]) (.ite (.v 2) (.seq (.rg []) (.ret [.k (.bool false)])) (.skip))) (.seq (.seq (.rg [⟨[], .len, [.v 0], 1⟩]) (.block 0 (.seq (.tup [.v 0, .v 3, .k (.int .i64 0)]) (.loop (impl_PiecesOk_b0))))) (impl_PiecesOk_r1)))
theorem impl_PiecesOk_L_sh (Q : QT) (x0 : V) : shL impl_PiecesOk_L Q [x0] = (
  P1 (.len) [x0] fun v0 =>
  P1 (.bin .gtr) [v0, .int .i64 9] fun v1 =>
  ifB v1 (
    Q .ret [.bool false]) (
    P1 (.len) [x0] fun v2 =>
    shL (.loop impl_PiecesOk_b0) (qB 0 (qS (shL impl_PiecesOk_r1 Q) Q)) [x0, v2, .int .i64 0])) := by kernel_rfl
def impl_PiecesOk_S : Sig := ⟨[.val false [.sl [.sc, .sc]]], [(false, [.sc])], F_PiecesOk⟩
def impl_PiecesOk_hs : List NF := [⟨[], [], [], 64⟩, ⟨[(8, .sc false [.ro [.sc, .sc]]), (9, .sc false [.sc]), (10, .sc false [.sc])], [], [], 64⟩, ⟨[(8, .sc false [.ro [.sc, .sc]]), (9, .sc false [.sc]), (10, .sc false [.sc])], [], [], 64⟩]

def laws_eqPiece_L : L := .seq (.rg []) (.seq (.seq (.rg [⟨[], .bin .neq, [.v 0, .v 2], 1⟩]) (.ite (.v 4) (.seq (.rg []) (.ret [.k (.bool false)])) (.skip))) (.seq (.seq (.rg [⟨[], .bin .neq, [.v 1, .v 3], 1⟩]) (.ite (.v 5) (.seq (.rg []) (.ret [.k (.bool false)])) (.skip))) (.seq (.rg []) (.ret [.k (.bool true)]))))
theorem laws_eqPiece_L_sh (Q : QT) (x0 x1 x2 x3 : V) : shL laws_eqPiece_L Q [x0, x1, x2, x3] = (
  P1 (.bin .neq) [x0, x2] fun v0 =>
  ifB v0 (
    Q .ret [.bool false]) (
    P1 (.bin .neq) [x1, x3] fun v1 =>
    ifB v1 (
      Q .ret [.bool false]) (
      Q .ret [.bool true]))) := by kernel_rfl
def laws_eqPiece_S : Sig := ⟨[.val true [.sc, .sc], .val true [.sc, .sc]], [(false, [.sc])], F_eqPiece⟩
def laws_eqPiece_hs : List NF := []

def laws_eqPieceS_b0 : L := .seq (.seq (.seq (.rg [⟨[], .len, [.v 0], 1⟩, ⟨[], .bin .lss, [.v 2, .v 3], 1⟩]) (.ite (.v 4) (.skip) (.seq (.tup []) (.exit 0)))) (.seq (.block 1 (.seq (.seq (.rg [⟨[], .idx [.sc, .sc], [.v 0, .v 2], 2⟩, ⟨[], .idx [.sc, .sc], [.v 1, .v 2], 2⟩, ⟨[], .call F_eqPiece 0 1, [.v 5, .v 6, .v 7, .v 8], 1⟩, ⟨[], .un .not, [.v 9], 1⟩]) (.ite (.v 10) (.seq (.rg []) (.ret [.k (.bool false)])) (.skip))) (.tup [.v 0, .v 1, .v 2]))) (.rg [⟨[], .bin .add, [.v 2, .k (.int .i64 1)], 1⟩]))) (.tup [.v 0, .v 1, .v 3])
theorem laws_eqPieceS_b0_sh (Q : QT) (x0 x1 x2 : V) : shL laws_eqPieceS_b0 Q [x0, x1, x2] = (
  P1 (.len) [x0] fun v0 =>
  P1 (.bin .lss) [x2, v0] fun v1 =>
  ifB v1 (
    P2 (.idx [.sc, .sc]) [x0, x2] fun v2 v3 =>
    P2 (.idx [.sc, .sc]) [x1, x2] fun v4 v5 =>
    P1 (.call F_eqPiece 0 1) [v2, v3, v4, v5] fun v6 =>
    P1 (.un .not) [v6] fun v7 =>
    ifB v7 (
      Q .ret [.bool false]) (
      P1 (.bin .add) [x2, .int .i64 1] fun v8 =>
      Q .normal [x0, x1, v8])) (
    Q (.exit 0) [])) := by kernel_rfl

def laws_eqPieceS_r1 : L := .seq (.rg []) (.ret [.k (.bool true)])
theorem laws_eqPieceS_r1_sh (Q : QT) : shL laws_eqPieceS_r1 Q [] = (
  Q .ret [.bool true]) := by kernel_rfl

def laws_eqPieceS_L : L := .seq (.rg []) (.seq (.seq (.rg [⟨[], .len, [.v 0], 1⟩, ⟨[], .len, [.v 1], 1⟩, ⟨[], .bin .neq, [.v 2, .v 3], 1⟩]) (.ite (.v 4) (.seq (.rg []) (.ret [.k (.bool false)])) (.skip))) (.seq (.seq (.rg []) (.block 0 (.seq (.tup [.v 0, .v 1, .k (.int .i64 0)]) (.loop (laws_eqPieceS_b0))))) (laws_eqPieceS_r1)))
theorem laws_eqPieceS_L_sh (Q : QT) (x0 x1 : V) : shL laws_eqPieceS_L Q [x0, x1] = (
  P1 (.len) [x0] fun v0 =>
  P1 (.len) [x1] fun v1 =>
  P1 (.bin .neq) [v0, v1] fun v2 =>
  ifB v2 (
    Q .ret [.bool false]) (
    shL (.loop laws_eqPieceS_b0) (qB 0 (qS (shL laws_eqPieceS_r1 Q) Q)) [x0, x1, .int .i64 0])) := by kernel_rfl
def laws_eqPieceS_S : Sig := ⟨[.val false [.sl [.sc, .sc]], .val false [.sl [.sc, .sc]]], [(false, [.sc])], F_eqPieceS⟩
def laws_eqPieceS_hs : List NF := [⟨[], [], [], 64⟩, ⟨[(0, .sc false [.ro [.sc, .sc]]), (1, .sc false [.ro [.sc, .sc]]), (5, .sc false [.sc])], [], [], 64⟩, ⟨[(0, .sc false [.ro [.sc, .sc]]), (1, .sc false [.ro [.sc, .sc]]), (5, .sc false [.sc])], [], [], 64⟩]

end
end Go.Mw

/- The functions of the first rows compute what was said. -/
namespace Go.Mw
theorem spec_l01In_ok : ∀ ds outs, F_l01In ds = some outs → shL spec_l01In_L (qRet outs) ds := F_within_elim fun a b c => by
  rw [spec_l01In_L_sh]; simp [within]; grind
theorem impl_within_ok : ∀ ds outs, F_within ds = some outs → shL impl_within_L (qRet outs) ds := F_within_elim fun a b c => by
  rw [impl_within_L_sh]; simp [within]; grind
theorem laws_szPieceS_ok : ∀ ds outs, F_szPieceS ds = some outs → shL laws_szPieceS_L (qRet outs) ds := F_szPieceS_elim fun l n hp => by
  rw [laws_szPieceS_L_sh]
  simp (disch := omega) [wrap_id]
  grind
theorem laws_toPiece_ok : ∀ ds outs, F_toPiece ds = some outs → shL laws_toPiece_L (qRet outs) ds := F_toPiece_elim fun x => by
  rw [laws_toPiece_L_sh]; simp

theorem laws_toPieceS_ok : ∀ ds outs, F_toPieceS ds = some outs → shL laws_toPieceS_L (qRet outs) ds := F_toPieceS_elim fun l hp => by
  rw [laws_toPieceS_L_sh]
  simp
  refine ⟨by omega, ?_⟩
  refine loop_upto l.length (fun k => [vL I2 v2 l, .int .i64 k, vL I2 v2 (l.take k ++ List.replicate (l.length - k) ⟨0, 0⟩)]) (by intro i j _ _ h; simp at h; omega) (fun _ => True) (by simp) trivial ?_
  intro k hk _
  rw [laws_toPieceS_b0_sh]
  simp
  refine ⟨fun h => ?_, fun h => ?_⟩
  · rw [fill_get h (by omega)]
    simp (disch := omega) [h, fill_set h, wrap_id]
  · obtain rfl : k = l.length := by omega
    simp [laws_toPieceS_r1_sh]
theorem impl_PiecesOk_ok : ∀ ds outs, F_PiecesOk ds = some outs → shL impl_PiecesOk_L (qRet outs) ds := F_PiecesOk_elim fun l hp => by
  rw [impl_PiecesOk_L_sh]
  simp
  refine ⟨fun h => by simp [piecesOk]; intro h; omega, fun h9 => ?_⟩
  refine loop_upto l.length (fun k => [vL I2 v2 l, .int .i64 l.length, .int .i64 k]) (by intro i j _ _ h; simp at h; omega) (fun k => ∀ x ∈ l.take k, pieceOk x = true) (by simp) (by simp) ?_
  intro k hk hP
  rw [impl_PiecesOk_b0_sh]
  simp
  refine ⟨fun h => ?_, fun h => ?_⟩
  · have hno : pieceOk l[k] = false → piecesOk l = false := by
      intro hf
      simp only [piecesOk, Bool.and_eq_false_iff, List.all_eq_false]
      exact .inr ⟨l[k], by simp, by simp [hf]⟩
    simp (disch := omega) only [h, List.getElem?_eq_getElem, Option.some.injEq, exists_eq_left', wrap_id, all_take_succ h]
    cases h1 : within l[k].a 1 600 <;> cases h2 : within l[k].b 0 9 <;> simp_all [pieceOk]
  · obtain rfl : k = l.length := by omega
    simp [impl_PiecesOk_r1_sh, piecesOk]
    simp at hP
    exact ⟨by omega, hP⟩
theorem spec_PiecesOk_ok : ∀ ds outs, F_PiecesOk ds = some outs → shL spec_PiecesOk_L (qRet outs) ds := F_PiecesOk_elim fun l hp => by
  rw [spec_PiecesOk_L_sh]
  refine loop_upto l.length (fun k => [vL I2 v2 l, .int .i64 k]) (by intro i j _ _ h; simp at h; omega) (fun k => ∀ x ∈ l.take k, pieceOk x = true) (by simp) (by simp) ?_
  intro k hk hP
  rw [spec_PiecesOk_b0_sh]
  simp
  refine ⟨fun h => ?_, fun h => ?_⟩
  · have hno : pieceOk l[k] = false → piecesOk l = false := by
      intro hf
      simp only [piecesOk, Bool.and_eq_false_iff, List.all_eq_false]
      exact .inr ⟨l[k], by simp, by simp [hf]⟩
    simp (disch := omega) only [h, List.getElem?_eq_getElem, Option.some.injEq, exists_eq_left', wrap_id, all_take_succ h]
    cases h1 : within l[k].a 1 600 <;> cases h2 : within l[k].b 0 9 <;> simp_all [pieceOk]
  · obtain rfl : k = l.length := by omega
    simp [spec_PiecesOk_r1_sh, piecesOk]
    simp at hP
    grind
theorem laws_eqPiece_ok : ∀ ds outs, F_eqPiece ds = some outs → shL laws_eqPiece_L (qRet outs) ds := F_eqPiece_elim fun x y => by
  rw [laws_eqPiece_L_sh]
  cases x; cases y
  simp
  grind
theorem laws_eqPieceS_ok : ∀ ds outs, F_eqPieceS ds = some outs → shL laws_eqPieceS_L (qRet outs) ds := F_eqPieceS_elim fun l m hp => by
  rw [laws_eqPieceS_L_sh]
  simp
  refine ⟨fun h => ?_, fun hl => ?_⟩
  · rintro rfl; omega
  refine loop_upto l.length (fun k => [vL I2 v2 l, vL I2 v2 m, .int .i64 k]) (by intro i j _ _ h; simp at h; omega) (fun k => l.take k = m.take k) (by simp) (by simp) ?_
  intro k hk hP
  rw [laws_eqPieceS_b0_sh]
  simp
  refine ⟨fun h => ?_, fun h => ?_⟩
  · have h2 : k < m.length := by omega
    simp (disch := omega) [h, wrap_id]
    refine ⟨fun hne he => ?_, fun h3 => ?_⟩
    · subst he; exact hne rfl
    · rw [take_succ_get h, take_succ_get h2, hP, h3]
  · obtain rfl : k = l.length := by omega
    rw [List.take_length, List.take_of_length_le (by omega)] at hP
    simp [laws_eqPieceS_r1_sh, hP]
end Go.Mw

/- The structs of the program, flat. -/
namespace Go.Mw
/-- A cylinder: steps, tracks, pins (track, angle). -/
structure Cyl where
  s : Int
  t : Int
  p : List T2
/-- A state: angle, on, played. -/
structure Stt where
  a : Int
  n : Bool
  p : Int
  deriving DecidableEq
/-- A bench: its cylinder, and the former pins. -/
structure Bench where
  s : Int
  t : Int
  p : List T2
  o : List (List T2)
/-- A workshop: its bench; comb; spring (turns, most, force); money; played. -/
structure Shop where
  s : Int
  t : Int
  p : List T2
  o : List (List T2)
  c : List Int
  u : Int
  m : Int
  f : Int
  y : Int
  d : Int
  deriving DecidableEq
@[simp] theorem Cyl.eta (x : Cyl) : Cyl.mk x.s x.t x.p = x := rfl
@[simp] theorem Stt.eta (x : Stt) : Stt.mk x.a x.n x.p = x := rfl
@[simp] theorem P1_eqa22 {a b c d : Int} {k : V → Prop} : P1 (.eqa false [.i, .i]) [.int .i64 a, .int .i64 b, .int .i64 c, .int .i64 d] k ↔ k (.bool (decide (a = c ∧ b = d))) := P1_of (by simp only [Prim.run, eqVs, eqV1, List.length_cons, List.length_nil, List.take, List.drop, if_true]; cases h1 : a == c <;> cases h2 : b == d <;> simp_all) k
@[simp] theorem P1_nea22 {a b c d : Int} {k : V → Prop} : P1 (.eqa true [.i, .i]) [.int .i64 a, .int .i64 b, .int .i64 c, .int .i64 d] k ↔ k (.bool (!decide (a = c ∧ b = d))) := P1_of (by simp only [Prim.run, eqVs, eqV1, List.length_cons, List.length_nil, List.take, List.drop, if_true]; cases h1 : a == c <;> cases h2 : b == d <;> simp_all) k
@[simp] theorem P1_eqaX {a c e g : Int} {b f : Bool} {k : V → Prop} : P1 (.eqa false [.i, .b, .i]) [.int .i64 a, .bool b, .int .i64 c, .int .i64 e, .bool f, .int .i64 g] k ↔ k (.bool (decide (a = e ∧ b = f ∧ c = g))) := P1_of (by simp only [Prim.run, eqVs, eqV1, List.length_cons, List.length_nil, List.take, List.drop, if_true]; cases h1 : a == e <;> cases h2 : b == f <;> cases h3 : c == g <;> simp_all) k
theorem P1_lsub2 {α : Type} {ks : List AK} {f : α → V} {l : List α} {κ κ' : IntKind} {i j : Int} {k : V → Prop} : P1 (.lsub ks) [vL ks f l, .int κ i, .int κ' j] k ↔ (0 ≤ i ∧ i ≤ j ∧ j ≤ l.length) ∧ k (vL ks f ((l.take j.toNat).drop i.toNat)) :=
  P1_opt (by simp only [Prim.run, vL, AK.eqs_refl, if_true, subB, List.length_map]; split <;> simp_all [List.map_drop, List.map_take]) k
theorem P1_lsub1 {α : Type} {ks : List AK} {f : α → V} {l : List α} {κ : IntKind} {i : Int} {k : V → Prop} : P1 (.lsub ks) [vL ks f l, .int κ i] k ↔ (0 ≤ i ∧ i ≤ l.length) ∧ k (vL ks f (l.drop i.toNat)) :=
  P1_opt (by simp only [Prim.run, vL, AK.eqs_refl, if_true, subB, List.length_map]; split <;> simp_all [List.map_drop, List.take_of_length_le]) k
@[simp] theorem P1_lsubI_2 {l : List Int} {κ κ' : IntKind} {i j : Int} {k : V → Prop} : P1 (.lsub [.sc]) [vL I1 v1 l, .int κ i, .int κ' j] k ↔ (0 ≤ i ∧ i ≤ j ∧ j ≤ l.length) ∧ k (vL I1 v1 ((l.take j.toNat).drop i.toNat)) := P1_lsub2
@[simp] theorem P1_lsubI_1 {l : List Int} {κ : IntKind} {i : Int} {k : V → Prop} : P1 (.lsub [.sc]) [vL I1 v1 l, .int κ i] k ↔ (0 ≤ i ∧ i ≤ l.length) ∧ k (vL I1 v1 (l.drop i.toNat)) := P1_lsub1
@[simp] theorem P1_appI_ {l m : List Int} {b : Nat} {k : V → Prop} : P1 (.app [.sc] b) [vL I1 v1 l, vL I1 v1 m] k ↔ ((l.length + m.length) * b ≤ 140737488355328 ∧ l.length + m.length ≤ 140737488355328) ∧ k (vL I1 v1 (l ++ m)) := P1_app
@[simp] theorem P1_appI_0 {m : List Int} {b : Nat} {k : V → Prop} : P1 (.app [.sc] b) [.list [.sc] [], vL I1 v1 m] k ↔ (m.length * b ≤ 140737488355328 ∧ m.length ≤ 140737488355328) ∧ k (vL I1 v1 m) := P1_app0
@[simp] theorem P1_appI_1 {l : List Int} {b : Nat} {k : V → Prop} : P1 (.app [.sc] b) [vL I1 v1 l, .list [.sc] []] k ↔ (l.length * b ≤ 140737488355328 ∧ l.length ≤ 140737488355328) ∧ k (vL I1 v1 l) := P1_app1
@[simp] theorem P1_lsubY_2 {l : List UInt8} {κ κ' : IntKind} {i j : Int} {k : V → Prop} : P1 (.lsub [.sc]) [vL I1 vY l, .int κ i, .int κ' j] k ↔ (0 ≤ i ∧ i ≤ j ∧ j ≤ l.length) ∧ k (vL I1 vY ((l.take j.toNat).drop i.toNat)) := P1_lsub2
@[simp] theorem P1_lsubY_1 {l : List UInt8} {κ : IntKind} {i : Int} {k : V → Prop} : P1 (.lsub [.sc]) [vL I1 vY l, .int κ i] k ↔ (0 ≤ i ∧ i ≤ l.length) ∧ k (vL I1 vY (l.drop i.toNat)) := P1_lsub1
@[simp] theorem P1_appY_ {l m : List UInt8} {b : Nat} {k : V → Prop} : P1 (.app [.sc] b) [vL I1 vY l, vL I1 vY m] k ↔ ((l.length + m.length) * b ≤ 140737488355328 ∧ l.length + m.length ≤ 140737488355328) ∧ k (vL I1 vY (l ++ m)) := P1_app
@[simp] theorem P1_appY_0 {m : List UInt8} {b : Nat} {k : V → Prop} : P1 (.app [.sc] b) [.list [.sc] [], vL I1 vY m] k ↔ (m.length * b ≤ 140737488355328 ∧ m.length ≤ 140737488355328) ∧ k (vL I1 vY m) := P1_app0
@[simp] theorem P1_appY_1 {l : List UInt8} {b : Nat} {k : V → Prop} : P1 (.app [.sc] b) [vL I1 vY l, .list [.sc] []] k ↔ (l.length * b ≤ 140737488355328 ∧ l.length ≤ 140737488355328) ∧ k (vL I1 vY l) := P1_app1
@[simp] theorem P1_lsubS_2 {l : List (List UInt8)} {κ κ' : IntKind} {i j : Int} {k : V → Prop} : P1 (.lsub [.sc]) [vL I1 vS l, .int κ i, .int κ' j] k ↔ (0 ≤ i ∧ i ≤ j ∧ j ≤ l.length) ∧ k (vL I1 vS ((l.take j.toNat).drop i.toNat)) := P1_lsub2
@[simp] theorem P1_lsubS_1 {l : List (List UInt8)} {κ : IntKind} {i : Int} {k : V → Prop} : P1 (.lsub [.sc]) [vL I1 vS l, .int κ i] k ↔ (0 ≤ i ∧ i ≤ l.length) ∧ k (vL I1 vS (l.drop i.toNat)) := P1_lsub1
@[simp] theorem P1_appS_ {l m : List (List UInt8)} {b : Nat} {k : V → Prop} : P1 (.app [.sc] b) [vL I1 vS l, vL I1 vS m] k ↔ ((l.length + m.length) * b ≤ 140737488355328 ∧ l.length + m.length ≤ 140737488355328) ∧ k (vL I1 vS (l ++ m)) := P1_app
@[simp] theorem P1_appS_0 {m : List (List UInt8)} {b : Nat} {k : V → Prop} : P1 (.app [.sc] b) [.list [.sc] [], vL I1 vS m] k ↔ (m.length * b ≤ 140737488355328 ∧ m.length ≤ 140737488355328) ∧ k (vL I1 vS m) := P1_app0
@[simp] theorem P1_appS_1 {l : List (List UInt8)} {b : Nat} {k : V → Prop} : P1 (.app [.sc] b) [vL I1 vS l, .list [.sc] []] k ↔ (l.length * b ≤ 140737488355328 ∧ l.length ≤ 140737488355328) ∧ k (vL I1 vS l) := P1_app1
@[simp] theorem P1_lsub2_2 {l : List T2} {κ κ' : IntKind} {i j : Int} {k : V → Prop} : P1 (.lsub [.sc, .sc]) [vL I2 v2 l, .int κ i, .int κ' j] k ↔ (0 ≤ i ∧ i ≤ j ∧ j ≤ l.length) ∧ k (vL I2 v2 ((l.take j.toNat).drop i.toNat)) := P1_lsub2
@[simp] theorem P1_lsub2_1 {l : List T2} {κ : IntKind} {i : Int} {k : V → Prop} : P1 (.lsub [.sc, .sc]) [vL I2 v2 l, .int κ i] k ↔ (0 ≤ i ∧ i ≤ l.length) ∧ k (vL I2 v2 (l.drop i.toNat)) := P1_lsub1
@[simp] theorem P1_app2_ {l m : List T2} {b : Nat} {k : V → Prop} : P1 (.app [.sc, .sc] b) [vL I2 v2 l, vL I2 v2 m] k ↔ ((l.length + m.length) * b ≤ 140737488355328 ∧ l.length + m.length ≤ 140737488355328) ∧ k (vL I2 v2 (l ++ m)) := P1_app
@[simp] theorem P1_app2_0 {m : List T2} {b : Nat} {k : V → Prop} : P1 (.app [.sc, .sc] b) [.list [.sc, .sc] [], vL I2 v2 m] k ↔ (m.length * b ≤ 140737488355328 ∧ m.length ≤ 140737488355328) ∧ k (vL I2 v2 m) := P1_app0
@[simp] theorem P1_app2_1 {l : List T2} {b : Nat} {k : V → Prop} : P1 (.app [.sc, .sc] b) [vL I2 v2 l, .list [.sc, .sc] []] k ↔ (l.length * b ≤ 140737488355328 ∧ l.length ≤ 140737488355328) ∧ k (vL I2 v2 l) := P1_app1
@[simp] theorem P1_lsub3_2 {l : List T3} {κ κ' : IntKind} {i j : Int} {k : V → Prop} : P1 (.lsub [.sc, .sc, .sc]) [vL I3 v3 l, .int κ i, .int κ' j] k ↔ (0 ≤ i ∧ i ≤ j ∧ j ≤ l.length) ∧ k (vL I3 v3 ((l.take j.toNat).drop i.toNat)) := P1_lsub2
@[simp] theorem P1_lsub3_1 {l : List T3} {κ : IntKind} {i : Int} {k : V → Prop} : P1 (.lsub [.sc, .sc, .sc]) [vL I3 v3 l, .int κ i] k ↔ (0 ≤ i ∧ i ≤ l.length) ∧ k (vL I3 v3 (l.drop i.toNat)) := P1_lsub1
@[simp] theorem P1_app3_ {l m : List T3} {b : Nat} {k : V → Prop} : P1 (.app [.sc, .sc, .sc] b) [vL I3 v3 l, vL I3 v3 m] k ↔ ((l.length + m.length) * b ≤ 140737488355328 ∧ l.length + m.length ≤ 140737488355328) ∧ k (vL I3 v3 (l ++ m)) := P1_app
@[simp] theorem P1_app3_0 {m : List T3} {b : Nat} {k : V → Prop} : P1 (.app [.sc, .sc, .sc] b) [.list [.sc, .sc, .sc] [], vL I3 v3 m] k ↔ (m.length * b ≤ 140737488355328 ∧ m.length ≤ 140737488355328) ∧ k (vL I3 v3 m) := P1_app0
@[simp] theorem P1_app3_1 {l : List T3} {b : Nat} {k : V → Prop} : P1 (.app [.sc, .sc, .sc] b) [vL I3 v3 l, .list [.sc, .sc, .sc] []] k ↔ (l.length * b ≤ 140737488355328 ∧ l.length ≤ 140737488355328) ∧ k (vL I3 v3 l) := P1_app1
@[simp] theorem P1_lsubL2_2 {l : List (List T2)} {κ κ' : IntKind} {i j : Int} {k : V → Prop} : P1 (.lsub [.sl [.sc, .sc]]) [vL IL2 vLL2 l, .int κ i, .int κ' j] k ↔ (0 ≤ i ∧ i ≤ j ∧ j ≤ l.length) ∧ k (vL IL2 vLL2 ((l.take j.toNat).drop i.toNat)) := P1_lsub2
@[simp] theorem P1_lsubL2_1 {l : List (List T2)} {κ : IntKind} {i : Int} {k : V → Prop} : P1 (.lsub [.sl [.sc, .sc]]) [vL IL2 vLL2 l, .int κ i] k ↔ (0 ≤ i ∧ i ≤ l.length) ∧ k (vL IL2 vLL2 (l.drop i.toNat)) := P1_lsub1
@[simp] theorem P1_appL2_ {l m : List (List T2)} {b : Nat} {k : V → Prop} : P1 (.app [.sl [.sc, .sc]] b) [vL IL2 vLL2 l, vL IL2 vLL2 m] k ↔ ((l.length + m.length) * b ≤ 140737488355328 ∧ l.length + m.length ≤ 140737488355328) ∧ k (vL IL2 vLL2 (l ++ m)) := P1_app
@[simp] theorem P1_appL2_0 {m : List (List T2)} {b : Nat} {k : V → Prop} : P1 (.app [.sl [.sc, .sc]] b) [.list [.sl [.sc, .sc]] [], vL IL2 vLL2 m] k ↔ (m.length * b ≤ 140737488355328 ∧ m.length ≤ 140737488355328) ∧ k (vL IL2 vLL2 m) := P1_app0
@[simp] theorem P1_appL2_1 {l : List (List T2)} {b : Nat} {k : V → Prop} : P1 (.app [.sl [.sc, .sc]] b) [vL IL2 vLL2 l, .list [.sl [.sc, .sc]] []] k ↔ (l.length * b ≤ 140737488355328 ∧ l.length ≤ 140737488355328) ∧ k (vL IL2 vLL2 l) := P1_app1
end Go.Mw

/- What functions compute, in plain terms: pieces, pins, cylinders, states, digits, boxes. -/
namespace Go.Mw
/-! memory -/
/-! pieces -/
def mag (n : Int) : Int := if n < 0 then -n else n
def E_magnitude (n : Int) : List V := [.int .i64 n]
noncomputable def F_magnitude : List V → Option (List V) := mkF E_magnitude (fun n => -9223372036854775807 ≤ n ∧ n ≤ 9223372036854775807) (fun n => [.int .i64 (mag n)])
theorem F_magnitude_inj : ∀ x y, E_magnitude x = E_magnitude y → x = y := by
  rintro n n' h
  simpa [E_magnitude] using h
theorem F_magnitude_elim {P : List V → List V → Prop} (h : ∀ (n : Int), (-9223372036854775807 ≤ n ∧ n ≤ 9223372036854775807) → P [.int .i64 n] [.int .i64 (mag n)]) : ∀ ds outs, F_magnitude ds = some outs → P ds outs := by
  intro ds outs hh
  obtain ⟨n, rfl, hp, rfl⟩ := mkF_inv hh
  exact h n hp
theorem p_magnitude {n : Int} {nr_ : Nat} {kk_ : V → Prop} (hp : -9223372036854775807 ≤ n ∧ n ≤ 9223372036854775807) : P1 (.call F_magnitude 0 nr_) [.int .i64 n] kk_ ↔ kk_ (.int .i64 (mag n)) :=
  P1_callF (by unfold F_magnitude; exact mkF_eq F_magnitude_inj (n) hp)

def moodOf (l : List T2) (i : Int) : Int := match l[i.toNat]? with | some x => x.b | none => 0
/-! pins -/
/-! states -/
/-! digits -/
/-! boxes -/
end Go.Mw

/- Functions of the program, as small pure programs (printed by a program of ours). -/
namespace Go.Mw
noncomputable section
def impl_magnitude_L : L := .seq (.rg []) (.seq (.seq (.rg [⟨[], .bin .lss, [.v 0, .k (.int .i64 0)], 1⟩]) (.ite (.v 1) (.seq (.rg [⟨[], .un .neg, [.v 0], 1⟩]) (.ret [.v 2])) (.skip))) (.seq (.rg []) (.ret [.v 0])))
theorem impl_magnitude_L_sh (Q : QT) (x0 : V) : shL impl_magnitude_L Q [x0] = (
  P1 (.bin .lss) [x0, .int .i64 0] fun v0 =>
  ifB v0 (
    P1 (.un .neg) [x0] fun v1 =>
    Q .ret [v1]) (
    Q .ret [x0])) := by kernel_rfl
def impl_magnitude_S : Sig := ⟨[.val false [.sc]], [(false, [.sc])], F_magnitude⟩
def impl_magnitude_hs : List NF := []

end
end Go.Mw

/- Laws' helpers on memory, and the plain functions of pieces, pins, cylinders, states. -/
namespace Go.Mw
end Go.Mw

/- Pieces, pins, cylinders, states: the functions compute what was said. -/
namespace Go.Mw
/-! show time -/
/-! cylinders -/
end Go.Mw

/- Cylinders and their pins. -/
namespace Go.Mw
end Go.Mw

/- Sums, steps, states. -/
namespace Go.Mw
end Go.Mw

/- States: around, pins at an angle, start, stop, step. -/
namespace Go.Mw
end Go.Mw

/- Steps and runs. -/
namespace Go.Mw
end Go.Mw

/- Digits; boxes. -/
namespace Go.Mw
end Go.Mw

/- Checked digits. -/
namespace Go.Mw
end Go.Mw

/- Boxes; moods. -/
namespace Go.Mw
end Go.Mw

/- Moods. -/
namespace Go.Mw
theorem impl_magnitude_ok : ∀ ds outs, F_magnitude ds = some outs → shL impl_magnitude_L (qRet outs) ds := F_magnitude_elim fun n hp => by
  rw [impl_magnitude_L_sh]
  by_cases h : n < 0
  · simp (disch := omega) [mag, h, wrap_id]
  · simp [mag, h]

/-- Which of the numbers below n stand in the list. -/
def seenOf (l : List Int) (n : Nat) : List Bool := (List.range n).map fun j : Nat => decide ((j : Int) ∈ l)
@[simp] theorem seenOf_len {l : List Int} {n : Nat} : (seenOf l n).length = n := by simp [seenOf]
end Go.Mw

/- What functions compute, in plain terms: benches and workshops. -/
namespace Go.Mw
/-! memory -/
/-! benches -/
/-! workshops -/
def Shop.bench (w : Shop) : Bench := ⟨w.s, w.t, w.p, w.o⟩
end Go.Mw

/- Functions of the program, as small pure programs (printed by a program of ours). -/
namespace Go.Mw
noncomputable section
end
end Go.Mw

/- Benches: memory. -/
namespace Go.Mw
end Go.Mw

/- Benches: memory that is marked. -/
namespace Go.Mw
end Go.Mw

/- Benches: memory; what is a fine bench. -/
namespace Go.Mw
end Go.Mw

/- Benches: laws, copies, changed pins. -/
namespace Go.Mw
end Go.Mw

/- Benches: changed pins, copies, new benches. -/
namespace Go.Mw
end Go.Mw

/- New benches; combs, springs, workshops. -/
namespace Go.Mw
@[simp] theorem P1_lstL2 {a : List T2} {k : V → Prop} : P1 (.lst [.sl [.sc, .sc]] false 1) [vL I2 v2 a] k ↔ k (vL IL2 vLL2 [a]) := P1_of (by simp [Prim.run, aksOk, akOk, chunk, V.pack, vL, vLL2, AK.eqs_refl, IL2]) k
end Go.Mw

/- Combs, workshops. -/
namespace Go.Mw
end Go.Mw

/- Workshops. -/
namespace Go.Mw
end Go.Mw

/- Workshops: memory, opening. -/
namespace Go.Mw
@[simp] theorem P1_lst14 {a b c d : Int} {k : V → Prop} : P1 (.lst [.sc] false 4) [.int .i64 a, .int .i64 b, .int .i64 c, .int .i64 d] k ↔ k (vL I1 v1 [a, b, c, d]) := P1_of (by simp [Prim.run, aksOk, akOk, chunk, V.pack, vL, v1]) k
end Go.Mw

/- The sample workshop: the law. -/
namespace Go.Mw
noncomputable section
end
end Go.Mw

/- What functions compute, in plain terms: the bench's steps. -/
namespace Go.Mw
end Go.Mw

/- Functions of the program, as small pure programs (printed by a program of ours). -/
namespace Go.Mw
noncomputable section
end
end Go.Mw

/- Taking back; a step of the bench; pulling a pin. -/
namespace Go.Mw
end Go.Mw

/- Copies of a bench (spec); pulling a pin. -/
namespace Go.Mw
end Go.Mw

/- What functions compute, in plain terms: draws; stops and sums. -/
namespace Go.Mw
/-- A bitwise operation of the machine. -/
def land (a b : Int) : Int := IntKind.i64.wrap (BitVec.ofInt IntKind.i64.bits a &&& BitVec.ofInt IntKind.i64.bits b).toNat
def lxor (a b : Int) : Int := IntKind.i64.wrap (BitVec.ofInt IntKind.i64.bits a ^^^ BitVec.ofInt IntKind.i64.bits b).toNat
@[simp] theorem P1_and {a b : Int} {k : V → Prop} : P1 (.bin .and) [.int .i64 a, .int .i64 b] k ↔ k (.int .i64 (land a b)) := P1_of (by simp [Prim.run, binV, binI, land]) k
@[simp] theorem P1_xor {a b : Int} {k : V → Prop} : P1 (.bin .xor) [.int .i64 a, .int .i64 b] k ↔ k (.int .i64 (lxor a b)) := P1_of (by simp [Prim.run, binV, binI, lxor]) k
theorem P1_shr {a b : Int} {κ' : IntKind} {k : V → Prop} (hb : 0 ≤ b) : P1 (.bin .shr) [.int .i64 a, .int κ' b] k ↔ k (.int .i64 (a.fdiv (2 ^ (min b.toNat IntKind.i64.bits)))) := P1_of (by simp [Prim.run, binV]; omega) k
/-- A cursor: its bytes, the place, the hash. -/
structure Cur where
  b : List UInt8
  i : Int
  h : Int
def hNext (h : Int) : Int := IntKind.i64.wrap (IntKind.i64.wrap (h * 6364136223846793005) + 1442695040888963407)
def cStep (x : Cur) : Cur := ⟨x.b, if x.i < x.b.length then x.i + 1 else x.i, hNext x.h⟩
def cAfter (x : Cur) (n : Int) : Cur := if n ≤ 0 then x else if n ≤ 256 then cStep x else cStep (cStep (cStep (cStep x)))
end Go.Mw

/- Functions of the program, as small pure programs (printed by a program of ours). -/
namespace Go.Mw
noncomputable section
end
end Go.Mw

/- Draws. -/
namespace Go.Mw
@[simp] theorem cStep_b (x : Cur) : (cStep x).b = x.b := rfl
@[simp] theorem cAfter_b (x : Cur) (n : Int) : (cAfter x n).b = x.b := by unfold cAfter; split <;> (try split) <;> simp
/-! putting a pin -/
end Go.Mw

/- What functions compute, in plain terms: the liveliest order of a show. -/
namespace Go.Mw
def landn (a b : Int) : Int := IntKind.i64.wrap (BitVec.ofInt IntKind.i64.bits a &&& ~~~(BitVec.ofInt IntKind.i64.bits b)).toNat
@[simp] theorem P1_andNot {a b : Int} {k : V → Prop} : P1 (.bin .andNot) [.int .i64 a, .int .i64 b] k ↔ k (.int .i64 (landn a b)) := P1_of (by simp [Prim.run, binV, binI, landn]) k
theorem P1_shl {a b : Int} {κ' : IntKind} {k : V → Prop} (hb : 0 ≤ b) : P1 (.bin .shl) [.int .i64 a, .int κ' b] k ↔ k (.int .i64 (IntKind.i64.wrap (a * 2 ^ (min b.toNat IntKind.i64.bits)))) := P1_of (by simp [Prim.run, binV]; omega) k
/-- The members of a set, below n. -/
def mem (s n : Nat) : List Nat := (List.range n).filter (s.testBit ·)
def ints (l : List Nat) : List Int := l.map fun x : Nat => (x : Int)
def E_membersOf : Int × Int → List V := fun (s, n) => [.int .i64 s, .int .i64 n]
noncomputable def F_membersOf : List V → Option (List V) := mkF E_membersOf (fun (s, n) => 0 ≤ s ∧ s < 512 ∧ 0 ≤ n ∧ n ≤ 9) (fun (s, n) => [vL I1 v1 (ints (mem s.toNat n.toNat))])
theorem F_membersOf_inj : ∀ x y, E_membersOf x = E_membersOf y → x = y := by
  rintro ⟨s, n⟩ ⟨s', n'⟩ h
  simpa [E_membersOf] using h
theorem F_membersOf_elim {P : List V → List V → Prop} (h : ∀ (s : Int) (n : Int), (0 ≤ s ∧ s < 512 ∧ 0 ≤ n ∧ n ≤ 9) → P [.int .i64 s, .int .i64 n] [vL I1 v1 (ints (mem s.toNat n.toNat))]) : ∀ ds outs, F_membersOf ds = some outs → P ds outs := by
  intro ds outs hh
  obtain ⟨⟨s, n⟩, rfl, hp, rfl⟩ := mkF_inv hh
  exact h s n hp
theorem p_membersOf {s : Int} {n : Int} {nr_ : Nat} {kk_ : V → Prop} (hp : 0 ≤ s ∧ s < 512 ∧ 0 ≤ n ∧ n ≤ 9) : P1 (.call F_membersOf 0 nr_) [.int .i64 s, .int .i64 n] kk_ ↔ kk_ (vL I1 v1 (ints (mem s.toNat n.toNat))) :=
  P1_callF (by unfold F_membersOf; exact mkF_eq F_membersOf_inj (s, n) hp)

def gap (l : List T2) (j k : Nat) : Int := mag (moodOf l j - moodOf l k)
/-- Of the orders of a set that end with k: one set further. -/
def lvOver (l : List T2) (T : Nat → Int) (k : Nat) (a : Int) (js : List Nat) : Int := js.foldl (fun a j => max a (T j + gap l j k)) a
def lvT (l : List T2) (n : Nat) : Nat → Nat → Nat → Int
  | 0 => fun _ _ => 0
  | s + 1 => fun t k => if t = s then lvOver l (lvT l n s (s - 2 ^ k)) k 0 (mem (s - 2 ^ k) n) else lvT l n s t k
def lv (l : List T2) (n s k : Nat) : Int := lvT l n (s + 1) s k
def lvMost (l : List T2) (n s : Nat) (b : Int) (ks : List Nat) : Int := ks.foldl (fun a k => max a (lv l n s k)) b
def lvBest (l : List T2) (n : Nat) : Nat → Int
  | 0 => 0
  | s + 1 => lvMost l n s (lvBest l n s) (mem s n)
def lively (l : List T2) : Int := if piecesOk l then lvBest l l.length (2 ^ l.length) else -1
def E_LivelyShow (l : List T2) : List V := [vL I2 v2 l]
noncomputable def F_LivelyShow : List V → Option (List V) := mkF E_LivelyShow (fun l => l.length ≤ 1048576) (fun l => [.int .i64 (lively l)])
theorem F_LivelyShow_inj : ∀ x y, E_LivelyShow x = E_LivelyShow y → x = y := by
  rintro l l' h
  simpa [E_LivelyShow] using h
theorem F_LivelyShow_elim {P : List V → List V → Prop} (h : ∀ (l : List T2), (l.length ≤ 1048576) → P [vL I2 v2 l] [.int .i64 (lively l)]) : ∀ ds outs, F_LivelyShow ds = some outs → P ds outs := by
  intro ds outs hh
  obtain ⟨l, rfl, hp, rfl⟩ := mkF_inv hh
  exact h l hp
theorem p_LivelyShow {l : List T2} {nr_ : Nat} {kk_ : V → Prop} (hp : l.length ≤ 1048576) : P1 (.call F_LivelyShow 0 nr_) [vL I2 v2 l] kk_ ↔ kk_ (.int .i64 (lively l)) :=
  P1_callF (by unfold F_LivelyShow; exact mkF_eq F_LivelyShow_inj (l) hp)

def E_FnExactLivelyShow (l : List T2) : List V := [vL I2 v2 l]
noncomputable def F_FnExactLivelyShow : List V → Option (List V) := mkF E_FnExactLivelyShow (fun l => wfL2 l) (fun _ => [.bool true])
theorem F_FnExactLivelyShow_inj : ∀ x y, E_FnExactLivelyShow x = E_FnExactLivelyShow y → x = y := by
  rintro l l' h
  simpa [E_FnExactLivelyShow] using h
theorem F_FnExactLivelyShow_elim {P : List V → List V → Prop} (h : ∀ (l : List T2), (wfL2 l) → P [vL I2 v2 l] [.bool true]) : ∀ ds outs, F_FnExactLivelyShow ds = some outs → P ds outs := by
  intro ds outs hh
  obtain ⟨l, rfl, hp, rfl⟩ := mkF_inv hh
  exact h l hp
theorem F_FnExactLivelyShow_law : ∀ ds, okTKs [.list true [.int .i64, .int .i64]] ds → F_FnExactLivelyShow ds = some [.bool true] := by
  intro ds g0
  obtain ⟨_, _, rfl, h0, g1⟩ := okTKs_cons g0
  obtain ⟨l, rfl, r0⟩ := dec_L2 h0
  obtain rfl := okTKs_nil g1
  exact mkF_eq F_FnExactLivelyShow_inj (l) r0


end Go.Mw

/- Functions of the program, as small pure programs (printed by a program of ours). -/
namespace Go.Mw
noncomputable section
def spec_LivelyShow_b2 : L := .seq (.seq (.seq (.rg [⟨[], .bin .lss, [.v 5, .v 1], 1⟩]) (.ite (.v 7) (.skip) (.seq (.tup [.v 0, .v 1, .v 2, .v 3, .v 4, .v 6]) (.exit 4)))) (.seq (.block 5 (.seq (.seq (.rg [⟨[], .bin .shl, [.k (.int .i64 1), .v 4], 1⟩, ⟨[], .bin .sub, [.v 3, .v 8], 1⟩]) (.seq (.rg [⟨[], .bin .shr, [.v 9, .v 5], 1⟩, ⟨[], .bin .and, [.v 10, .k (.int .i64 1)], 1⟩, ⟨[], .bin .eql, [.v 11, .k (.int .i64 1)], 1⟩]) (.ite (.v 12) (.seq (.seq (.rg [⟨[], .idx [.sc, .sc], [.v 0, .v 4], 2⟩, ⟨[], .idx [.sc, .sc], [.v 0, .v 5], 2⟩, ⟨[], .bin .sub, [.v 14, .v 16], 1⟩]) (.rg [⟨[], .bin .mul, [.v 3, .v 1], 1⟩, ⟨[], .bin .add, [.v 18, .v 4], 1⟩, ⟨[], .bin .mul, [.v 3, .v 1], 1⟩, ⟨[], .bin .add, [.v 20, .v 4], 1⟩, ⟨[], .idx [.sc], [.v 6, .v 21], 1⟩, ⟨[], .bin .mul, [.v 9, .v 1], 1⟩, ⟨[], .bin .add, [.v 23, .v 5], 1⟩, ⟨[], .idx [.sc], [.v 6, .v 24], 1⟩, ⟨[], .un .neg, [.v 17], 1⟩, ⟨[], .mx, [.v 17, .v 26], 1⟩, ⟨[], .bin .add, [.v 25, .v 27], 1⟩, ⟨[], .mx, [.v 22, .v 28], 1⟩, ⟨[], .idx [.sc], [.v 6, .v 19], 1⟩, ⟨[], .set [.sc] 0, [.v 6, .v 19, .v 29], 1⟩])) (.tup [.v 0, .v 1, .v 2, .v 3, .v 4, .v 5, .v 31])) (.seq (.skip) (.tup [.v 0, .v 1, .v 2, .v 3, .v 4, .v 5, .v 6]))))) (.tup [.v 0, .v 1, .v 2, .v 3, .v 4, .v 5, .v 6]))) (.rg [⟨[], .bin .add, [.v 5, .k (.int .i64 1)], 1⟩]))) (.tup [.v 0, .v 1, .v 2, .v 3, .v 4, .v 7, .v 6])
theorem spec_LivelyShow_b2_sh (Q : QT) (x0 x1 x2 x3 x4 x5 x6 : V) : shL spec_LivelyShow_b2 Q [x0, x1, x2, x3, x4, x5, x6] = (
  P1 (.bin .lss) [x5, x1] fun v0 =>
  ifB v0 (
    P1 (.bin .shl) [.int .i64 1, x4] fun v1 =>
    P1 (.bin .sub) [x3, v1] fun v2 =>
    P1 (.bin .shr) [v2, x5] fun v3 =>
    P1 (.bin .and) [v3, .int .i64 1] fun v4 =>
    P1 (.bin .eql) [v4, .int .i64 1] fun v5 =>
    ifB v5 (
      P2 (.idx [.sc, .sc]) [x0, x4] fun _ v7 =>
      P2 (.idx [.sc, .sc]) [x0, x5] fun _ v9 =>
      P1 (.bin .sub) [v7, v9] fun v10 =>
      P1 (.bin .mul) [x3, x1] fun v11 =>
      P1 (.bin .add) [v11, x4] fun v12 =>
      P1 (.bin .mul) [x3, x1] fun v13 =>
      P1 (.bin .add) [v13, x4] fun v14 =>
      P1 (.idx [.sc]) [x6, v14] fun v15 =>
      P1 (.bin .mul) [v2, x1] fun v16 =>
      P1 (.bin .add) [v16, x5] fun v17 =>
      P1 (.idx [.sc]) [x6, v17] fun v18 =>
      P1 (.un .neg) [v10] fun v19 =>
      P1 (.mx) [v10, v19] fun v20 =>
      P1 (.bin .add) [v18, v20] fun v21 =>
      P1 (.mx) [v15, v21] fun v22 =>
      P1 (.idx [.sc]) [x6, v12] fun _ =>
      P1 (.set [.sc] 0) [x6, v12, v22] fun v24 =>
      P1 (.bin .add) [x5, .int .i64 1] fun v25 =>
      Q .normal [x0, x1, x2, x3, x4, v25, v24]) (
      P1 (.bin .add) [x5, .int .i64 1] fun v26 =>
      Q .normal [x0, x1, x2, x3, x4, v26, x6])) (
    Q (.exit 4) [x0, x1, x2, x3, x4, x6])) := by kernel_rfl

def spec_LivelyShow_r3 : L := .rg [⟨[], .bin .mul, [.v 3, .v 1], 1⟩, ⟨[], .bin .add, [.v 6, .v 4], 1⟩, ⟨[], .idx [.sc], [.v 5, .v 7], 1⟩, ⟨[], .mx, [.v 2, .v 8], 1⟩]
theorem spec_LivelyShow_r3_sh (Q : QT) (x0 x1 x2 x3 x4 x5 : V) : shL spec_LivelyShow_r3 Q [x0, x1, x2, x3, x4, x5] = (
  P1 (.bin .mul) [x3, x1] fun v0 =>
  P1 (.bin .add) [v0, x4] fun v1 =>
  P1 (.idx [.sc]) [x5, v1] fun v2 =>
  P1 (.mx) [x2, v2] fun v3 =>
  Q .normal [x0, x1, x2, x3, x4, x5, v0, v1, v2, v3]) := by kernel_rfl

def spec_LivelyShow_r4 : L := .tup [.v 0, .v 1, .v 9, .v 3, .v 4, .v 5]
theorem spec_LivelyShow_r4_sh (Q : QT) (x0 x1 x2 x3 x4 x5 x6 x7 x8 x9 : V) : shL spec_LivelyShow_r4 Q [x0, x1, x2, x3, x4, x5, x6, x7, x8, x9] = (
  Q .normal [x0, x1, x9, x3, x4, x5]) := by kernel_rfl

def spec_LivelyShow_r5 : L := .rg [⟨[], .bin .add, [.v 4, .k (.int .i64 1)], 1⟩]
theorem spec_LivelyShow_r5_sh (Q : QT) (x0 x1 x2 x3 x4 x5 : V) : shL spec_LivelyShow_r5 Q [x0, x1, x2, x3, x4, x5] = (
  P1 (.bin .add) [x4, .int .i64 1] fun v0 =>
  Q .normal [x0, x1, x2, x3, x4, x5, v0]) := by kernel_rfl

def spec_LivelyShow_r6 : L := .tup [.v 0, .v 1, .v 2, .v 3, .v 6, .v 5]
theorem spec_LivelyShow_r6_sh (Q : QT) (x0 x1 x2 x3 x4 x5 x6 : V) : shL spec_LivelyShow_r6 Q [x0, x1, x2, x3, x4, x5, x6] = (
  Q .normal [x0, x1, x2, x3, x6, x5]) := by kernel_rfl

def spec_LivelyShow_b1 : L := .seq (.seq (.seq (.rg [⟨[], .bin .lss, [.v 4, .v 1], 1⟩]) (.ite (.v 6) (.skip) (.seq (.tup [.v 0, .v 1, .v 2, .v 3, .v 5]) (.exit 2)))) (.seq (.block 3 (.seq (.seq (.rg [⟨[], .bin .mul, [.v 3, .v 1], 1⟩, ⟨[], .bin .add, [.v 7, .v 4], 1⟩, ⟨[], .idx [.sc], [.v 5, .v 8], 1⟩, ⟨[], .set [.sc] 0, [.v 5, .v 8, .k (.int .i64 (-1))], 1⟩]) (.seq (.seq (.rg [⟨[], .bin .shr, [.v 3, .v 4], 1⟩, ⟨[], .bin .and, [.v 11, .k (.int .i64 1)], 1⟩, ⟨[], .bin .eql, [.v 12, .k (.int .i64 0)], 1⟩]) (.ite (.v 13) (.seq (.tup [.v 0, .v 1, .v 2, .v 3, .v 4, .v 10]) (.exit 3)) (.skip))) (.seq (.seq (.rg [⟨[], .bin .shl, [.k (.int .i64 1), .v 4], 1⟩, ⟨[], .bin .eql, [.v 3, .v 14], 1⟩]) (.ite (.v 15) (.seq (.rg [⟨[], .bin .mul, [.v 3, .v 1], 1⟩, ⟨[], .bin .add, [.v 16, .v 4], 1⟩, ⟨[], .idx [.sc], [.v 10, .v 17], 1⟩, ⟨[], .set [.sc] 0, [.v 10, .v 17, .k (.int .i64 0)], 1⟩]) (.tup [.v 0, .v 1, .v 2, .v 3, .v 4, .v 19])) (.seq (.skip) (.tup [.v 0, .v 1, .v 2, .v 3, .v 4, .v 10])))) (.seq (.seq (.rg []) (.block 4 (.seq (.tup [.v 0, .v 1, .v 2, .v 3, .v 4, .k (.int .i64 0), .v 5]) (.loop (spec_LivelyShow_b2))))) (spec_LivelyShow_r3))))) (spec_LivelyShow_r4))) (spec_LivelyShow_r5))) (spec_LivelyShow_r6)
theorem spec_LivelyShow_b1_sh (Q : QT) (x0 x1 x2 x3 x4 x5 : V) : shL spec_LivelyShow_b1 Q [x0, x1, x2, x3, x4, x5] = (
  P1 (.bin .lss) [x4, x1] fun v0 =>
  ifB v0 (
    P1 (.bin .mul) [x3, x1] fun v1 =>
    P1 (.bin .add) [v1, x4] fun v2 =>
    P1 (.idx [.sc]) [x5, v2] fun _ =>
    P1 (.set [.sc] 0) [x5, v2, .int .i64 (-1)] fun v4 =>
    P1 (.bin .shr) [x3, x4] fun v5 =>
    P1 (.bin .and) [v5, .int .i64 1] fun v6 =>
    P1 (.bin .eql) [v6, .int .i64 0] fun v7 =>
    ifB v7 (
      shL spec_LivelyShow_r5 (qS (shL spec_LivelyShow_r6 Q) Q) [x0, x1, x2, x3, x4, v4]) (
      P1 (.bin .shl) [.int .i64 1, x4] fun v8 =>
      P1 (.bin .eql) [x3, v8] fun v9 =>
      ifB v9 (
        P1 (.bin .mul) [x3, x1] fun v10 =>
        P1 (.bin .add) [v10, x4] fun v11 =>
        P1 (.idx [.sc]) [v4, v11] fun _ =>
        P1 (.set [.sc] 0) [v4, v11, .int .i64 0] fun v13 =>
        shL (.loop spec_LivelyShow_b2) (qB 4 (qS (shL spec_LivelyShow_r3 (qS (shL spec_LivelyShow_r4 (qB 3 (qS (shL spec_LivelyShow_r5 (qS (shL spec_LivelyShow_r6 Q) Q)) (qS (shL spec_LivelyShow_r6 Q) Q)))) (qB 3 (qS (shL spec_LivelyShow_r5 (qS (shL spec_LivelyShow_r6 Q) Q)) (qS (shL spec_LivelyShow_r6 Q) Q))))) (qS (shL spec_LivelyShow_r4 (qB 3 (qS (shL spec_LivelyShow_r5 (qS (shL spec_LivelyShow_r6 Q) Q)) (qS (shL spec_LivelyShow_r6 Q) Q)))) (qB 3 (qS (shL spec_LivelyShow_r5 (qS (shL spec_LivelyShow_r6 Q) Q)) (qS (shL spec_LivelyShow_r6 Q) Q)))))) [x0, x1, x2, x3, x4, .int .i64 0, v13]) (
        shL (.loop spec_LivelyShow_b2) (qB 4 (qS (shL spec_LivelyShow_r3 (qS (shL spec_LivelyShow_r4 (qB 3 (qS (shL spec_LivelyShow_r5 (qS (shL spec_LivelyShow_r6 Q) Q)) (qS (shL spec_LivelyShow_r6 Q) Q)))) (qB 3 (qS (shL spec_LivelyShow_r5 (qS (shL spec_LivelyShow_r6 Q) Q)) (qS (shL spec_LivelyShow_r6 Q) Q))))) (qS (shL spec_LivelyShow_r4 (qB 3 (qS (shL spec_LivelyShow_r5 (qS (shL spec_LivelyShow_r6 Q) Q)) (qS (shL spec_LivelyShow_r6 Q) Q)))) (qB 3 (qS (shL spec_LivelyShow_r5 (qS (shL spec_LivelyShow_r6 Q) Q)) (qS (shL spec_LivelyShow_r6 Q) Q)))))) [x0, x1, x2, x3, x4, .int .i64 0, v4]))) (
    Q (.exit 2) [x0, x1, x2, x3, x5])) := by kernel_rfl

def spec_LivelyShow_r7 : L := .tup [.v 0, .v 1, .v 2, .v 3, .v 4]
theorem spec_LivelyShow_r7_sh (Q : QT) (x0 x1 x2 x3 x4 : V) : shL spec_LivelyShow_r7 Q [x0, x1, x2, x3, x4] = (
  Q .normal [x0, x1, x2, x3, x4]) := by kernel_rfl

def spec_LivelyShow_r8 : L := .rg [⟨[], .bin .add, [.v 3, .k (.int .i64 1)], 1⟩]
theorem spec_LivelyShow_r8_sh (Q : QT) (x0 x1 x2 x3 x4 : V) : shL spec_LivelyShow_r8 Q [x0, x1, x2, x3, x4] = (
  P1 (.bin .add) [x3, .int .i64 1] fun v0 =>
  Q .normal [x0, x1, x2, x3, x4, v0]) := by kernel_rfl

def spec_LivelyShow_r9 : L := .tup [.v 0, .v 1, .v 2, .v 5, .v 4]
theorem spec_LivelyShow_r9_sh (Q : QT) (x0 x1 x2 x3 x4 x5 : V) : shL spec_LivelyShow_r9 Q [x0, x1, x2, x3, x4, x5] = (
  Q .normal [x0, x1, x2, x5, x4]) := by kernel_rfl

def spec_LivelyShow_b0 : L := .seq (.seq (.seq (.rg [⟨[], .bin .shl, [.k (.int .i64 1), .v 1], 1⟩, ⟨[], .bin .lss, [.v 3, .v 5], 1⟩]) (.ite (.v 6) (.skip) (.seq (.tup [.v 2]) (.exit 0)))) (.seq (.block 1 (.seq (.seq (.rg []) (.block 2 (.seq (.tup [.v 0, .v 1, .v 2, .v 3, .k (.int .i64 0), .v 4]) (.loop (spec_LivelyShow_b1))))) (spec_LivelyShow_r7))) (spec_LivelyShow_r8))) (spec_LivelyShow_r9)
theorem spec_LivelyShow_b0_sh (Q : QT) (x0 x1 x2 x3 x4 : V) : shL spec_LivelyShow_b0 Q [x0, x1, x2, x3, x4] = (
  P1 (.bin .shl) [.int .i64 1, x1] fun v0 =>
  P1 (.bin .lss) [x3, v0] fun v1 =>
  ifB v1 (
    shL (.loop spec_LivelyShow_b1) (qB 2 (qS (shL spec_LivelyShow_r7 (qB 1 (qS (shL spec_LivelyShow_r8 (qS (shL spec_LivelyShow_r9 Q) Q)) (qS (shL spec_LivelyShow_r9 Q) Q)))) (qB 1 (qS (shL spec_LivelyShow_r8 (qS (shL spec_LivelyShow_r9 Q) Q)) (qS (shL spec_LivelyShow_r9 Q) Q))))) [x0, x1, x2, x3, .int .i64 0, x4]) (
    Q (.exit 0) [x2])) := by kernel_rfl

def spec_LivelyShow_r10 : L := .seq (.rg []) (.ret [.v 0])
theorem spec_LivelyShow_r10_sh (Q : QT) (x0 : V) : shL spec_LivelyShow_r10 Q [x0] = (
  Q .ret [x0]) := by kernel_rfl

def spec_LivelyShow_L : L := .seq (.rg []) (.seq (.seq (.rg [⟨[], .call F_PiecesOk 0 1, [.v 0], 1⟩, ⟨[], .un .not, [.v 1], 1⟩]) (.ite (.v 2) (.seq (.rg []) (.ret [.k (.int .i64 (-1))])) (.skip))) (.seq (.rg [⟨[], .len, [.v 0], 1⟩]) (.seq (.rg [⟨[], .bin .shl, [.v 3, .v 3], 1⟩, ⟨[], .bin .add, [.v 4, .k (.int .i64 1)], 1⟩, ⟨[], .mk [.sc] (.int .i64 0) 8, [.v 5, .v 5], 1⟩]) (.seq (.rg []) (.seq (.seq (.rg []) (.block 0 (.seq (.tup [.v 0, .v 3, .k (.int .i64 0), .k (.int .i64 1), .v 6]) (.loop (spec_LivelyShow_b0))))) (spec_LivelyShow_r10))))))
theorem spec_LivelyShow_L_sh (Q : QT) (x0 : V) : shL spec_LivelyShow_L Q [x0] = (
  P1 (.call F_PiecesOk 0 1) [x0] fun v0 =>
  P1 (.un .not) [v0] fun v1 =>
  ifB v1 (
    Q .ret [.int .i64 (-1)]) (
    P1 (.len) [x0] fun v2 =>
    P1 (.bin .shl) [v2, v2] fun v3 =>
    P1 (.bin .add) [v3, .int .i64 1] fun v4 =>
    P1 (.mk [.sc] (.int .i64 0) 8) [v4, v4] fun v5 =>
    shL (.loop spec_LivelyShow_b0) (qB 0 (qS (shL spec_LivelyShow_r10 Q) Q)) [x0, v2, .int .i64 0, .int .i64 1, v5])) := by kernel_rfl
def spec_LivelyShow_S : Sig := ⟨[.val false [.sl [.sc, .sc]]], [(false, [.sc])], F_LivelyShow⟩
def spec_LivelyShow_hs : List NF := [⟨[(5, .sc false [.sc])], [], [], 64⟩, ⟨[(0, .sc false [.ro [.sc, .sc]]), (3, .sc false [.sc]), (4, .sc false [.own 64]), (5, .sc false [.sc]), (6, .sc false [.sc])], [(64, true, [.sc])], [], 65⟩, ⟨[(0, .sc false [.ro [.sc, .sc]]), (3, .sc false [.sc]), (4, .sc false [.own 64]), (5, .sc false [.sc]), (6, .sc false [.sc])], [(64, true, [.sc])], [], 65⟩, ⟨[(0, .sc false [.ro [.sc, .sc]]), (3, .sc false [.sc]), (4, .sc false [.own 64]), (5, .sc false [.sc]), (6, .sc false [.sc])], [(64, true, [.sc])], [], 65⟩, ⟨[(0, .sc false [.ro [.sc, .sc]]), (3, .sc false [.sc]), (4, .sc false [.own 64]), (5, .sc false [.sc]), (6, .sc false [.sc]), (7, .sc false [.sc])], [(64, true, [.sc])], [], 65⟩, ⟨[(0, .sc false [.ro [.sc, .sc]]), (3, .sc false [.sc]), (4, .sc false [.own 64]), (5, .sc false [.sc]), (6, .sc false [.sc]), (7, .sc false [.sc])], [(64, true, [.sc])], [], 65⟩, ⟨[(0, .sc false [.ro [.sc, .sc]]), (3, .sc false [.sc]), (4, .sc false [.own 64]), (5, .sc false [.sc]), (6, .sc false [.sc]), (7, .sc false [.sc])], [(64, true, [.sc])], [], 65⟩, ⟨[(0, .sc false [.ro [.sc, .sc]]), (3, .sc false [.sc]), (4, .sc false [.own 64]), (5, .sc false [.sc]), (6, .sc false [.sc]), (7, .sc false [.sc])], [(64, true, [.sc])], [], 65⟩, ⟨[(0, .sc false [.ro [.sc, .sc]]), (3, .sc false [.sc]), (4, .sc false [.own 64]), (5, .sc false [.sc]), (6, .sc false [.sc]), (7, .sc false [.sc]), (8, .sc false [.sc])], [(64, true, [.sc])], [], 65⟩, ⟨[(0, .sc false [.ro [.sc, .sc]]), (3, .sc false [.sc]), (4, .sc false [.own 64]), (5, .sc false [.sc]), (6, .sc false [.sc]), (7, .sc false [.sc]), (8, .sc false [.sc])], [(64, true, [.sc])], [], 65⟩, ⟨[(0, .sc false [.ro [.sc, .sc]]), (3, .sc false [.sc]), (4, .sc false [.own 64]), (5, .sc false [.sc]), (6, .sc false [.sc]), (7, .sc false [.sc]), (8, .sc false [.sc])], [(64, true, [.sc])], [], 65⟩]

def impl_membersOf_b0 : L := .seq (.seq (.seq (.rg [⟨[], .bin .lss, [.v 2, .v 1], 1⟩]) (.ite (.v 4) (.skip) (.seq (.tup [.v 3]) (.exit 0)))) (.seq (.block 1 (.seq (.seq (.rg [⟨[], .bin .shr, [.v 0, .v 2], 1⟩, ⟨[], .bin .and, [.v 5, .k (.int .i64 1)], 1⟩, ⟨[], .bin .eql, [.v 6, .k (.int .i64 1)], 1⟩]) (.ite (.v 7) (.seq (.rg [⟨[], .lst [.sc] false 1, [.v 2], 1⟩, ⟨[], .app [.sc] 8, [.v 3, .v 8], 1⟩]) (.tup [.v 0, .v 1, .v 2, .v 9])) (.seq (.skip) (.tup [.v 0, .v 1, .v 2, .v 3])))) (.tup [.v 0, .v 1, .v 2, .v 3]))) (.rg [⟨[], .bin .add, [.v 2, .k (.int .i64 1)], 1⟩]))) (.tup [.v 0, .v 1, .v 4, .v 3])
theorem impl_membersOf_b0_sh (Q : QT) (x0 x1 x2 x3 : V) : shL impl_membersOf_b0 Q [x0, x1, x2, x3] = (
  P1 (.bin .lss) [x2, x1] fun v0 =>
  ifB v0 (
    P1 (.bin .shr) [x0, x2] fun v1 =>
    P1 (.bin .and) [v1, .int .i64 1] fun v2 =>
    P1 (.bin .eql) [v2, .int .i64 1] fun v3 =>
    ifB v3 (
      P1 (.lst [.sc] false 1) [x2] fun v4 =>
      P1 (.app [.sc] 8) [x3, v4] fun v5 =>
      P1 (.bin .add) [x2, .int .i64 1] fun v6 =>
      Q .normal [x0, x1, v6, v5]) (
      P1 (.bin .add) [x2, .int .i64 1] fun v7 =>
      Q .normal [x0, x1, v7, x3])) (
    Q (.exit 0) [x3])) := by kernel_rfl

def impl_membersOf_r1 : L := .seq (.rg []) (.ret [.v 0])
theorem impl_membersOf_r1_sh (Q : QT) (x0 : V) : shL impl_membersOf_r1 Q [x0] = (
  Q .ret [x0]) := by kernel_rfl

def impl_membersOf_L : L := .seq (.rg []) (.seq (.rg [⟨[], .lst [.sc] false 0, [], 1⟩]) (.seq (.seq (.rg []) (.block 0 (.seq (.tup [.v 0, .v 1, .k (.int .i64 0), .v 2]) (.loop (impl_membersOf_b0))))) (impl_membersOf_r1)))
theorem impl_membersOf_L_sh (Q : QT) (x0 x1 : V) : shL impl_membersOf_L Q [x0, x1] = (
  P1 (.lst [.sc] false 0) [] fun v0 =>
  shL (.loop impl_membersOf_b0) (qB 0 (qS (shL impl_membersOf_r1 Q) Q)) [x0, x1, .int .i64 0, v0]) := by kernel_rfl
def impl_membersOf_S : Sig := ⟨[.val false [.sc], .val false [.sc]], [(false, [.sl [.sc]])], F_membersOf⟩
def impl_membersOf_hs : List NF := [⟨[(5, .sc false [.own 64])], [(64, true, [.sc])], [], 65⟩, ⟨[(0, .sc false [.sc]), (1, .sc false [.sc]), (5, .sc false [.own 64]), (6, .sc false [.sc])], [(64, true, [.sc])], [], 65⟩, ⟨[(0, .sc false [.sc]), (1, .sc false [.sc]), (5, .sc false [.own 64]), (6, .sc false [.sc])], [(64, true, [.sc])], [], 65⟩, ⟨[(0, .sc false [.sc]), (1, .sc false [.sc]), (5, .sc false [.own 64]), (6, .sc false [.sc])], [(64, true, [.sc])], [], 65⟩]

def impl_LivelyShow_b2 : L := .seq (.seq (.rg [⟨[], .bin .lss, [.v 11, .v 10], 1⟩]) (.seq (.ite (.v 15) (.skip) (.seq (.tup [.v 0, .v 1, .v 2, .v 3, .v 4, .v 6, .v 7, .v 8, .v 9, .v 12, .v 13]) (.exit 4))) (.seq (.block 5 (.seq (.seq (.rg [⟨[], .idx [.sc], [.v 14, .v 11], 1⟩]) (.seq (.rg [⟨[], .idx [.sl [.sc]], [.v 12, .v 5], 1⟩, ⟨[], .idx [.sc], [.v 17, .v 16], 1⟩, ⟨[], .idx [.sc, .sc], [.v 0, .v 16], 2⟩, ⟨[], .idx [.sc, .sc], [.v 0, .v 4], 2⟩, ⟨[], .bin .sub, [.v 20, .v 22], 1⟩, ⟨[], .call F_magnitude 0 1, [.v 23], 1⟩, ⟨[], .bin .add, [.v 18, .v 24], 1⟩]) (.rg [⟨[], .idx [.sl [.sc]], [.v 12, .v 3], 1⟩, ⟨[], .idx [.sl [.sc]], [.v 12, .v 3], 1⟩, ⟨[], .idx [.sc], [.v 27, .v 4], 1⟩, ⟨[], .mx, [.v 28, .v 25], 1⟩, ⟨[], .idx [.sc], [.v 26, .v 4], 1⟩, ⟨[], .setIn [.sc] 0 [.sl [.sc]] 0, [.v 26, .v 4, .v 29, .v 26, .v 12, .v 3], 1⟩]))) (.tup [.v 0, .v 1, .v 2, .v 3, .v 4, .v 5, .v 6, .v 7, .v 8, .v 9, .v 10, .v 11, .v 31, .v 13, .v 14]))) (.rg [⟨[], .bin .add, [.v 11, .k (.int .i64 1)], 1⟩])))) (.tup [.v 0, .v 1, .v 2, .v 3, .v 4, .v 5, .v 6, .v 7, .v 8, .v 9, .v 10, .v 15, .v 12, .v 13, .v 14])
theorem impl_LivelyShow_b2_sh (Q : QT) (x0 x1 x2 x3 x4 x5 x6 x7 x8 x9 x10 x11 x12 x13 x14 : V) : shL impl_LivelyShow_b2 Q [x0, x1, x2, x3, x4, x5, x6, x7, x8, x9, x10, x11, x12, x13, x14] = (
  P1 (.bin .lss) [x11, x10] fun v0 =>
  ifB v0 (
    P1 (.idx [.sc]) [x14, x11] fun v1 =>
    P1 (.idx [.sl [.sc]]) [x12, x5] fun v2 =>
    P1 (.idx [.sc]) [v2, v1] fun v3 =>
    P2 (.idx [.sc, .sc]) [x0, v1] fun _ v5 =>
    P2 (.idx [.sc, .sc]) [x0, x4] fun _ v7 =>
    P1 (.bin .sub) [v5, v7] fun v8 =>
    P1 (.call F_magnitude 0 1) [v8] fun v9 =>
    P1 (.bin .add) [v3, v9] fun v10 =>
    P1 (.idx [.sl [.sc]]) [x12, x3] fun v11 =>
    P1 (.idx [.sl [.sc]]) [x12, x3] fun v12 =>
    P1 (.idx [.sc]) [v12, x4] fun v13 =>
    P1 (.mx) [v13, v10] fun v14 =>
    P1 (.idx [.sc]) [v11, x4] fun _ =>
    P1 (.setIn [.sc] 0 [.sl [.sc]] 0) [v11, x4, v14, v11, x12, x3] fun v16 =>
    P1 (.bin .add) [x11, .int .i64 1] fun v17 =>
    Q .normal [x0, x1, x2, x3, x4, x5, x6, x7, x8, x9, x10, v17, v16, x13, x14]) (
    Q (.exit 4) [x0, x1, x2, x3, x4, x6, x7, x8, x9, x12, x13])) := by kernel_rfl

def impl_LivelyShow_r3 : L := .rg [⟨[], .idx [.sl [.sc]], [.v 9, .v 3], 1⟩, ⟨[], .idx [.sc], [.v 11, .v 4], 1⟩, ⟨[], .mx, [.v 2, .v 12], 1⟩]
theorem impl_LivelyShow_r3_sh (Q : QT) (x0 x1 x2 x3 x4 x5 x6 x7 x8 x9 x10 : V) : shL impl_LivelyShow_r3 Q [x0, x1, x2, x3, x4, x5, x6, x7, x8, x9, x10] = (
  P1 (.idx [.sl [.sc]]) [x9, x3] fun v0 =>
  P1 (.idx [.sc]) [v0, x4] fun v1 =>
  P1 (.mx) [x2, v1] fun v2 =>
  Q .normal [x0, x1, x2, x3, x4, x5, x6, x7, x8, x9, x10, v0, v1, v2]) := by kernel_rfl

def impl_LivelyShow_r4 : L := .tup [.v 0, .v 1, .v 13, .v 3, .v 5, .v 6, .v 7, .v 8, .v 9, .v 10]
theorem impl_LivelyShow_r4_sh (Q : QT) (x0 x1 x2 x3 x4 x5 x6 x7 x8 x9 x10 x11 x12 x13 : V) : shL impl_LivelyShow_r4 Q [x0, x1, x2, x3, x4, x5, x6, x7, x8, x9, x10, x11, x12, x13] = (
  Q .normal [x0, x1, x13, x3, x5, x6, x7, x8, x9, x10]) := by kernel_rfl

def impl_LivelyShow_r5 : L := .rg [⟨[], .bin .add, [.v 7, .k (.int .i64 1)], 1⟩]
theorem impl_LivelyShow_r5_sh (Q : QT) (x0 x1 x2 x3 x4 x5 x6 x7 x8 x9 : V) : shL impl_LivelyShow_r5 Q [x0, x1, x2, x3, x4, x5, x6, x7, x8, x9] = (
  P1 (.bin .add) [x7, .int .i64 1] fun v0 =>
  Q .normal [x0, x1, x2, x3, x4, x5, x6, x7, x8, x9, v0]) := by kernel_rfl

def impl_LivelyShow_r6 : L := .tup [.v 0, .v 1, .v 2, .v 3, .v 4, .v 5, .v 6, .v 10, .v 8, .v 9]
theorem impl_LivelyShow_r6_sh (Q : QT) (x0 x1 x2 x3 x4 x5 x6 x7 x8 x9 x10 : V) : shL impl_LivelyShow_r6 Q [x0, x1, x2, x3, x4, x5, x6, x7, x8, x9, x10] = (
  Q .normal [x0, x1, x2, x3, x4, x5, x6, x10, x8, x9]) := by kernel_rfl

def impl_LivelyShow_b1 : L := .seq (.seq (.rg [⟨[], .bin .lss, [.v 7, .v 6], 1⟩]) (.seq (.ite (.v 10) (.skip) (.seq (.tup [.v 0, .v 1, .v 2, .v 4, .v 5, .v 8]) (.exit 2))) (.seq (.block 3 (.seq (.seq (.rg [⟨[], .idx [.sc], [.v 9, .v 7], 1⟩]) (.seq (.rg [⟨[], .bin .shl, [.k (.int .i64 1), .v 11], 1⟩, ⟨[], .bin .andNot, [.v 3, .v 12], 1⟩]) (.seq (.seq (.rg [⟨[], .call F_membersOf 0 1, [.v 13, .v 1], 1⟩, ⟨[], .len, [.v 14], 1⟩]) (.block 4 (.seq (.tup [.v 0, .v 1, .v 2, .v 3, .v 11, .v 13, .v 4, .v 5, .v 6, .v 7, .v 15, .k (.int .i64 0), .v 8, .v 9, .v 14]) (.loop (impl_LivelyShow_b2))))) (impl_LivelyShow_r3)))) (impl_LivelyShow_r4))) (impl_LivelyShow_r5)))) (impl_LivelyShow_r6)
theorem impl_LivelyShow_b1_sh (Q : QT) (x0 x1 x2 x3 x4 x5 x6 x7 x8 x9 : V) : shL impl_LivelyShow_b1 Q [x0, x1, x2, x3, x4, x5, x6, x7, x8, x9] = (
  P1 (.bin .lss) [x7, x6] fun v0 =>
  ifB v0 (
    P1 (.idx [.sc]) [x9, x7] fun v1 =>
    P1 (.bin .shl) [.int .i64 1, v1] fun v2 =>
    P1 (.bin .andNot) [x3, v2] fun v3 =>
    P1 (.call F_membersOf 0 1) [v3, x1] fun v4 =>
    P1 (.len) [v4] fun v5 =>
    shL (.loop impl_LivelyShow_b2) (qB 4 (qS (shL impl_LivelyShow_r3 (qS (shL impl_LivelyShow_r4 (qB 3 (qS (shL impl_LivelyShow_r5 (qS (shL impl_LivelyShow_r6 Q) Q)) (qS (shL impl_LivelyShow_r6 Q) Q)))) (qB 3 (qS (shL impl_LivelyShow_r5 (qS (shL impl_LivelyShow_r6 Q) Q)) (qS (shL impl_LivelyShow_r6 Q) Q))))) (qS (shL impl_LivelyShow_r4 (qB 3 (qS (shL impl_LivelyShow_r5 (qS (shL impl_LivelyShow_r6 Q) Q)) (qS (shL impl_LivelyShow_r6 Q) Q)))) (qB 3 (qS (shL impl_LivelyShow_r5 (qS (shL impl_LivelyShow_r6 Q) Q)) (qS (shL impl_LivelyShow_r6 Q) Q)))))) [x0, x1, x2, x3, v1, v3, x4, x5, x6, x7, v5, .int .i64 0, x8, x9, v4]) (
    Q (.exit 2) [x0, x1, x2, x4, x5, x8])) := by kernel_rfl

def impl_LivelyShow_r7 : L := .tup [.v 0, .v 1, .v 2, .v 3, .v 4, .v 5]
theorem impl_LivelyShow_r7_sh (Q : QT) (x0 x1 x2 x3 x4 x5 : V) : shL impl_LivelyShow_r7 Q [x0, x1, x2, x3, x4, x5] = (
  Q .normal [x0, x1, x2, x3, x4, x5]) := by kernel_rfl

def impl_LivelyShow_r8 : L := .rg [⟨[], .bin .add, [.v 4, .k (.int .i64 1)], 1⟩]
theorem impl_LivelyShow_r8_sh (Q : QT) (x0 x1 x2 x3 x4 x5 : V) : shL impl_LivelyShow_r8 Q [x0, x1, x2, x3, x4, x5] = (
  P1 (.bin .add) [x4, .int .i64 1] fun v0 =>
  Q .normal [x0, x1, x2, x3, x4, x5, v0]) := by kernel_rfl

def impl_LivelyShow_r9 : L := .tup [.v 0, .v 1, .v 2, .v 3, .v 6, .v 5]
theorem impl_LivelyShow_r9_sh (Q : QT) (x0 x1 x2 x3 x4 x5 x6 : V) : shL impl_LivelyShow_r9 Q [x0, x1, x2, x3, x4, x5, x6] = (
  Q .normal [x0, x1, x2, x3, x6, x5]) := by kernel_rfl

def impl_LivelyShow_b0 : L := .seq (.seq (.rg [⟨[], .bin .lss, [.v 4, .v 3], 1⟩]) (.seq (.ite (.v 6) (.skip) (.seq (.tup [.v 2]) (.exit 0))) (.seq (.block 1 (.seq (.seq (.rg []) (.seq (.rg [⟨[], .mk [.sc] (.int .i64 0) 8, [.v 1, .v 1], 1⟩, ⟨[], .idx [.sl [.sc]], [.v 5, .v 4], 1⟩, ⟨[], .set [.sl [.sc]] 0, [.v 5, .v 4, .v 7], 1⟩]) (.seq (.rg [⟨[], .call F_membersOf 0 1, [.v 4, .v 1], 1⟩, ⟨[], .len, [.v 10], 1⟩]) (.block 2 (.seq (.tup [.v 0, .v 1, .v 2, .v 4, .v 3, .v 4, .v 11, .k (.int .i64 0), .v 9, .v 10]) (.loop (impl_LivelyShow_b1))))))) (impl_LivelyShow_r7))) (impl_LivelyShow_r8)))) (impl_LivelyShow_r9)
theorem impl_LivelyShow_b0_sh (Q : QT) (x0 x1 x2 x3 x4 x5 : V) : shL impl_LivelyShow_b0 Q [x0, x1, x2, x3, x4, x5] = (
  P1 (.bin .lss) [x4, x3] fun v0 =>
  ifB v0 (
    P1 (.mk [.sc] (.int .i64 0) 8) [x1, x1] fun v1 =>
    P1 (.idx [.sl [.sc]]) [x5, x4] fun _ =>
    P1 (.set [.sl [.sc]] 0) [x5, x4, v1] fun v3 =>
    P1 (.call F_membersOf 0 1) [x4, x1] fun v4 =>
    P1 (.len) [v4] fun v5 =>
    shL (.loop impl_LivelyShow_b1) (qB 2 (qS (shL impl_LivelyShow_r7 (qB 1 (qS (shL impl_LivelyShow_r8 (qS (shL impl_LivelyShow_r9 Q) Q)) (qS (shL impl_LivelyShow_r9 Q) Q)))) (qB 1 (qS (shL impl_LivelyShow_r8 (qS (shL impl_LivelyShow_r9 Q) Q)) (qS (shL impl_LivelyShow_r9 Q) Q))))) [x0, x1, x2, x4, x3, x4, v5, .int .i64 0, v3, v4]) (
    Q (.exit 0) [x2])) := by kernel_rfl

def impl_LivelyShow_r10 : L := .seq (.rg []) (.ret [.v 0])
theorem impl_LivelyShow_r10_sh (Q : QT) (x0 : V) : shL impl_LivelyShow_r10 Q [x0] = (
  Q .ret [x0]) := by kernel_rfl

def impl_LivelyShow_L : L := .seq (.rg []) (.seq (.seq (.rg [⟨[], .call F_PiecesOk 0 1, [.v 0], 1⟩, ⟨[], .un .not, [.v 1], 1⟩]) (.ite (.v 2) (.seq (.rg []) (.ret [.k (.int .i64 (-1))])) (.skip))) (.seq (.rg [⟨[], .len, [.v 0], 1⟩]) (.seq (.rg []) (.seq (.rg [⟨[], .bin .shl, [.k (.int .i64 1), .v 3], 1⟩, ⟨[], .mk [.sl [.sc]] (.list [.sc] []) 24, [.v 4, .v 4], 1⟩]) (.seq (.seq (.rg [⟨[], .len, [.v 5], 1⟩]) (.block 0 (.seq (.tup [.v 0, .v 3, .k (.int .i64 0), .v 6, .k (.int .i64 0), .v 5]) (.loop (impl_LivelyShow_b0))))) (impl_LivelyShow_r10))))))
theorem impl_LivelyShow_L_sh (Q : QT) (x0 : V) : shL impl_LivelyShow_L Q [x0] = (
  P1 (.call F_PiecesOk 0 1) [x0] fun v0 =>
  P1 (.un .not) [v0] fun v1 =>
  ifB v1 (
    Q .ret [.int .i64 (-1)]) (
    P1 (.len) [x0] fun v2 =>
    P1 (.bin .shl) [.int .i64 1, v2] fun v3 =>
    P1 (.mk [.sl [.sc]] (.list [.sc] []) 24) [v3, v3] fun v4 =>
    P1 (.len) [v4] fun v5 =>
    shL (.loop impl_LivelyShow_b0) (qB 0 (qS (shL impl_LivelyShow_r10 Q) Q)) [x0, v2, .int .i64 0, v5, .int .i64 0, v4])) := by kernel_rfl
def impl_LivelyShow_S : Sig := ⟨[.val false [.sl [.sc, .sc]]], [(false, [.sc])], F_LivelyShow⟩
def impl_LivelyShow_hs : List NF := [⟨[(4, .sc false [.sc])], [], [], 64⟩, ⟨[(0, .sc false [.ro [.sc, .sc]]), (3, .sc false [.sc]), (4, .sc false [.sc]), (5, .sc false [.own 64]), (22, .sc false [.sc]), (23, .sc false [.sc])], [(64, true, [.sl [.sc]])], [], 65⟩, ⟨[(0, .sc false [.ro [.sc, .sc]]), (3, .sc false [.sc]), (4, .sc false [.sc]), (5, .sc false [.own 64]), (22, .sc false [.sc]), (23, .sc false [.sc])], [(64, true, [.sl [.sc]])], [], 65⟩, ⟨[(0, .sc false [.ro [.sc, .sc]]), (3, .sc false [.sc]), (4, .sc false [.sc]), (5, .sc false [.own 64]), (22, .sc false [.sc]), (23, .sc false [.sc])], [(64, true, [.sl [.sc]])], [], 65⟩, ⟨[(0, .sc false [.ro [.sc, .sc]]), (3, .sc false [.sc]), (4, .sc false [.sc]), (5, .sc false [.own 64]), (6, .sc false [.sc]), (22, .sc false [.sc]), (23, .sc false [.sc]), (33, .sc false [.own 65]), (34, .sc false [.sc]), (35, .sc false [.sc])], [(64, true, [.sl [.sc]]), (65, true, [.sc])], [], 66⟩, ⟨[(0, .sc false [.ro [.sc, .sc]]), (3, .sc false [.sc]), (4, .sc false [.sc]), (5, .sc false [.own 64]), (6, .sc false [.sc]), (22, .sc false [.sc]), (23, .sc false [.sc]), (33, .sc false [.own 65]), (34, .sc false [.sc]), (35, .sc false [.sc])], [(64, true, [.sl [.sc]]), (65, true, [.sc])], [], 66⟩, ⟨[(0, .sc false [.ro [.sc, .sc]]), (3, .sc false [.sc]), (4, .sc false [.sc]), (5, .sc false [.own 64]), (6, .sc false [.sc]), (8, .sc false [.sc]), (22, .sc false [.sc]), (23, .sc false [.sc]), (33, .sc false [.own 65]), (34, .sc false [.sc]), (35, .sc false [.sc])], [(64, true, [.sl [.sc]]), (65, true, [.sc])], [], 66⟩, ⟨[(0, .sc false [.ro [.sc, .sc]]), (3, .sc false [.sc]), (4, .sc false [.sc]), (5, .sc false [.own 64]), (6, .sc false [.sc]), (8, .sc false [.sc]), (9, .sc false [.sc]), (22, .sc false [.sc]), (23, .sc false [.sc]), (33, .sc false [.own 65]), (34, .sc false [.sc]), (35, .sc false [.sc]), (45, .sc false [.own 66]), (46, .sc false [.sc]), (47, .sc false [.sc])], [(64, true, [.sl [.sc]]), (65, true, [.sc]), (66, true, [.sc])], [], 67⟩, ⟨[(0, .sc false [.ro [.sc, .sc]]), (3, .sc false [.sc]), (4, .sc false [.sc]), (5, .sc false [.own 64]), (6, .sc false [.sc]), (8, .sc false [.sc]), (9, .sc false [.sc]), (22, .sc false [.sc]), (23, .sc false [.sc]), (33, .sc false [.own 65]), (34, .sc false [.sc]), (35, .sc false [.sc]), (45, .sc false [.own 66]), (46, .sc false [.sc]), (47, .sc false [.sc])], [(64, true, [.sl [.sc]]), (65, true, [.sc]), (66, true, [.sc])], [], 67⟩]

def laws_FnExactLivelyShow_L : L := .seq (.rg []) (.seq (.rg []) (.seq (.rg [⟨[], .call F_szPieceS 0 1, [.v 0, .k (.int .i64 1048576)], 1⟩]) (.seq (.seq (.rg [⟨[], .bin .lss, [.v 1, .k (.int .i64 0)], 1⟩]) (.ite (.v 2) (.seq (.rg []) (.ret [.k (.bool true)])) (.skip))) (.seq (.rg [⟨[], .call F_toPieceS 0 1, [.v 0], 1⟩, ⟨[], .call F_LivelyShow 0 1, [.v 3], 1⟩]) (.seq (.rg [⟨[], .call F_toPieceS 0 1, [.v 0], 1⟩]) (.seq (.rg [⟨[], .call F_LivelyShow 0 1, [.v 5], 1⟩]) (.seq (.seq (.rg [⟨[], .bin .neq, [.v 6, .v 4], 1⟩]) (.ite (.v 7) (.seq (.rg []) (.ret [.k (.bool false)])) (.skip))) (.seq (.seq (.rg [⟨[], .call F_toPieceS 0 1, [.v 0], 1⟩, ⟨[], .call F_eqPieceS 0 1, [.v 5, .v 8], 1⟩, ⟨[], .un .not, [.v 9], 1⟩]) (.ite (.v 10) (.seq (.rg []) (.ret [.k (.bool false)])) (.skip))) (.seq (.rg []) (.ret [.k (.bool true)]))))))))))
theorem laws_FnExactLivelyShow_L_sh (Q : QT) (x0 : V) : shL laws_FnExactLivelyShow_L Q [x0] = (
  P1 (.call F_szPieceS 0 1) [x0, .int .i64 1048576] fun v0 =>
  P1 (.bin .lss) [v0, .int .i64 0] fun v1 =>
  ifB v1 (
    Q .ret [.bool true]) (
    P1 (.call F_toPieceS 0 1) [x0] fun v2 =>
    P1 (.call F_LivelyShow 0 1) [v2] fun v3 =>
    P1 (.call F_toPieceS 0 1) [x0] fun v4 =>
    P1 (.call F_LivelyShow 0 1) [v4] fun v5 =>
    P1 (.bin .neq) [v5, v3] fun v6 =>
    ifB v6 (
      Q .ret [.bool false]) (
      P1 (.call F_toPieceS 0 1) [x0] fun v7 =>
      P1 (.call F_eqPieceS 0 1) [v4, v7] fun v8 =>
      P1 (.un .not) [v8] fun v9 =>
      ifB v9 (
        Q .ret [.bool false]) (
        Q .ret [.bool true])))) := by kernel_rfl
def laws_FnExactLivelyShow_S : Sig := ⟨[.val false [.sl [.sc, .sc]]], [(false, [.sc])], F_FnExactLivelyShow⟩
def laws_FnExactLivelyShow_hs : List NF := []

end
end Go.Mw

/- Sets and their members; the liveliest order. -/
namespace Go.Mw
theorem mag_nonneg (n : Int) : 0 ≤ mag n := by unfold mag; split <;> omega
theorem fdiv_pow (s k : Nat) (hk : k ≤ 64) : (s : Int).fdiv (2 ^ (min (k : Int).toNat IntKind.i64.bits)) = ((s / 2 ^ k : Nat) : Int) := by
  have e : min (k : Int).toNat IntKind.i64.bits = k := by simp [IntKind.bits]; omega
  rw [e, Int.fdiv_eq_ediv_of_nonneg _ (by have : (0 : Int) < 2 ^ k := Int.pow_pos (by omega)
                                          omega)]
  simp
theorem land_one {m : Nat} (hm : m < 4611686018427387904) : land (m : Int) 1 = ((m % 2 : Nat) : Int) := by
  have h : (BitVec.ofInt IntKind.i64.bits (m : Int) &&& BitVec.ofInt IntKind.i64.bits 1).toNat = m % 2 := by
    rw [BitVec.toNat_and]
    simp [IntKind.bits]
  unfold land
  rw [h, wrap_id (by omega) (by omega)]
theorem bit_beq1 {b : Bool} : (((if b then 1 else 0 : Int)) == 1) = b := by cases b <;> rfl
theorem bit_beq0 {b : Bool} : (((if b then 1 else 0 : Int)) == 0) = !b := by cases b <;> rfl
theorem pow_le_of_bit {s k : Nat} (h : s.testBit k = true) : 2 ^ k ≤ s := Nat.ge_two_pow_of_testBit h
theorem pow_small {k : Nat} (hk : k ≤ 9) : 2 ^ k ≤ 512 := by
  have : 2 ^ k ≤ 2 ^ 9 := Nat.pow_le_pow_right (by omega) hk
  simpa using this
theorem shl_one {k : Nat} (hk : k ≤ 9) : IntKind.i64.wrap (1 * 2 ^ (min (k : Int).toNat IntKind.i64.bits)) = ((2 ^ k : Nat) : Int) := by
  have e : min (k : Int).toNat IntKind.i64.bits = k := by simp [IntKind.bits]; omega
  have h := pow_small hk
  rw [e, Int.one_mul]
  have e2 : (2 : Int) ^ k = ((2 ^ k : Nat) : Int) := by simp
  rw [e2]
  generalize 2 ^ k = p at *
  exact wrap_id (by omega) (by omega)
theorem shl_self {k : Nat} (hk : k ≤ 9) : IntKind.i64.wrap ((k : Int) * 2 ^ (min (k : Int).toNat IntKind.i64.bits)) = ((k * 2 ^ k : Nat) : Int) := by
  have e : min (k : Int).toNat IntKind.i64.bits = k := by simp [IntKind.bits]; omega
  have h := pow_small hk
  rw [e]
  have e2 : (k : Int) * 2 ^ k = ((k * 2 ^ k : Nat) : Int) := by simp
  have : k * 2 ^ k ≤ 9 * 512 := Nat.mul_le_mul hk h
  rw [e2]
  generalize k * 2 ^ k = p at *
  exact wrap_id (by omega) (by omega)
theorem P1_shr_nat {s k : Nat} {κ' : IntKind} {kk : V → Prop} (hk : k ≤ 64) : P1 (.bin .shr) [.int .i64 s, .int κ' k] kk ↔ kk (.int .i64 ((s / 2 ^ k : Nat) : Int)) := by
  rw [P1_shr (show (0 : Int) ≤ (k : Int) by omega), fdiv_pow s k hk]
theorem land_div {s k : Nat} (hs : s < 4611686018427387904) : land ((s / 2 ^ k : Nat) : Int) 1 = if s.testBit k then 1 else 0 := by
  rw [land_one (Nat.lt_of_le_of_lt (Nat.div_le_self _ _) hs), Nat.testBit_eq_decide_div_mod_eq]
  have : s / 2 ^ k % 2 = 0 ∨ s / 2 ^ k % 2 = 1 := by omega
  rcases this with h | h <;> simp [h]
theorem P1_shl_one {k : Nat} {κ' : IntKind} {kk : V → Prop} (hk : k ≤ 9) : P1 (.bin .shl) [.int .i64 1, .int κ' k] kk ↔ kk (.int .i64 ((2 ^ k : Nat) : Int)) := by
  rw [P1_shl (show (0 : Int) ≤ (k : Int) by omega), shl_one hk]
theorem P1_shl_self {k : Nat} {κ' : IntKind} {kk : V → Prop} (hk : k ≤ 9) : P1 (.bin .shl) [.int .i64 k, .int κ' k] kk ↔ kk (.int .i64 ((k * 2 ^ k : Nat) : Int)) := by
  rw [P1_shl (show (0 : Int) ≤ (k : Int) by omega), shl_self hk]
theorem landn_all : ∀ (s : Fin 512) (k : Fin 9), s.val.testBit k.val = true → landn (s.val : Int) ((2 ^ k.val : Nat) : Int) = ((s.val - 2 ^ k.val : Nat) : Int) := by decide +kernel
theorem landn_bit {s k : Nat} (hs : s < 512) (hk : k < 9) (h : s.testBit k = true) : landn (s : Int) ((2 ^ k : Nat) : Int) = ((s - 2 ^ k : Nat) : Int) := landn_all ⟨s, hs⟩ ⟨k, hk⟩ h

@[simp] theorem ints_len (l : List Nat) : (ints l).length = l.length := by simp [ints]
theorem ints_get {l : List Nat} {k : Nat} (h : k < l.length) : (ints l)[k]? = some (l[k] : Int) := by simp [ints, h]
theorem mem_mem {s n k : Nat} : k ∈ mem s n ↔ k < n ∧ s.testBit k = true := by simp [mem]
theorem mem_zero (n : Nat) : mem 0 n = [] := by simp [mem]
theorem mem_nodup (s n : Nat) : (mem s n).Nodup := List.nodup_range.sublist List.filter_sublist
theorem mem_succ (s n : Nat) : mem s (n + 1) = if s.testBit n then mem s n ++ [n] else mem s n := by
  unfold mem
  rw [List.range_succ, List.filter_append]
  cases h : s.testBit n <;> simp [h]
theorem mem_len (s n : Nat) : (mem s n).length ≤ n := by
  have := List.length_filter_le (s.testBit ·) (List.range n)
  simpa [mem] using this

theorem impl_membersOf_ok : ∀ ds outs, F_membersOf ds = some outs → shL impl_membersOf_L (qRet outs) ds := F_membersOf_elim fun s n hp => by
  obtain ⟨s, rfl⟩ := Int.eq_ofNat_of_zero_le hp.1
  obtain ⟨n, rfl⟩ := Int.eq_ofNat_of_zero_le hp.2.2.1
  rw [impl_membersOf_L_sh]
  simp only [P1_lst0]
  refine loop_upto n (fun k => [.int .i64 s, .int .i64 n, .int .i64 k, vL I1 v1 (ints (mem s k))]) (by intro i j _ _ h; simp at h; omega) (fun _ => True) (by simp [mem, ints]) trivial ?_
  intro k hk _
  rw [impl_membersOf_b0_sh]
  simp only [P1_lss, ifB_bool, decide_eq_true_eq, decide_eq_false_iff_not]
  refine ⟨fun h => ?_, fun h => ?_⟩
  · simp only [P1_shr_nat (show k ≤ 64 by omega), P1_and, land_div (show s < 4611686018427387904 by omega), P1_eql, bit_beq1, ifB_bool]
    have w2 : IntKind.i64.wrap ((k : Int) + 1) = (k : Int) + 1 := wrap_id (by omega) (by omega)
    have hl := mem_len s k
    refine ⟨fun hb => ?_, fun hb => ?_⟩
    · simp only [P1_lst1, P1_app, P1_add, w2, qS_normal, ints_len, List.length_singleton]
      refine ⟨⟨by omega, by omega⟩, by omega, ?_⟩
      simp [mem_succ, hb, ints]
    · simp only [P1_add, w2, qS_normal]
      refine ⟨by omega, ?_⟩
      simp [mem_succ, hb]
  · obtain rfl : k = n := by omega
    simp [impl_membersOf_r1_sh]

/-! ### the table -/
theorem lvT_lt (l : List T2) (n : Nat) : ∀ s t, t < s → lvT l n s t = lv l n t
  | 0, _, h => by omega
  | s + 1, t, h => by
    by_cases e : t = s
    · subst e; rfl
    · have ih := lvT_lt l n s t (by omega)
      funext k
      show (if t = s then _ else lvT l n s t k) = _
      rw [if_neg e, ih]
theorem lv_eq (l : List T2) (n : Nat) {s k : Nat} (h : s.testBit k = true) : lv l n s k = lvOver l (lv l n (s - 2 ^ k)) k 0 (mem (s - 2 ^ k) n) := by
  have hp := pow_le_of_bit h
  have h0 : 0 < 2 ^ k := Nat.two_pow_pos k
  show (if s = s then lvOver l (lvT l n s (s - 2 ^ k)) k 0 (mem (s - 2 ^ k) n) else _) = _
  rw [if_pos rfl, lvT_lt l n s (s - 2 ^ k) (by omega)]
theorem lvOver_append (l : List T2) (T : Nat → Int) (k : Nat) (a : Int) (xs ys : List Nat) : lvOver l T k a (xs ++ ys) = lvOver l T k (lvOver l T k a xs) ys := by simp [lvOver]
theorem lvOver_ge (l : List T2) (T : Nat → Int) (k : Nat) : ∀ (js : List Nat) (a : Int), a ≤ lvOver l T k a js
  | [], a => by simp [lvOver]
  | j :: js, a => by
    have := lvOver_ge l T k js (max a (T j + gap l j k))
    simp only [lvOver, List.foldl_cons] at *
    omega
theorem lvOver_le (l : List T2) (T : Nat → Int) (k : Nat) (B : Int) : ∀ (js : List Nat) (a : Int), a ≤ B → (∀ j ∈ js, T j + gap l j k ≤ B) → lvOver l T k a js ≤ B
  | [], a, h, _ => by simpa [lvOver] using h
  | j :: js, a, h, hj => by
    have h1 := hj j (by simp)
    have := lvOver_le l T k B js (max a (T j + gap l j k)) (by omega) (fun i hi => hj i (by simp [hi]))
    simpa only [lvOver, List.foldl_cons] using this
theorem lv_nonneg (l : List T2) (n : Nat) {s k : Nat} (h : s.testBit k = true) : 0 ≤ lv l n s k := by rw [lv_eq l n h]; exact lvOver_ge _ _ _ _ _
theorem lvOver_neg {l : List T2} {T : Nat → Int} {k : Nat} : ∀ {js : List Nat}, js ≠ [] → (∀ j ∈ js, 0 ≤ T j) → lvOver l T k (-1) js = lvOver l T k 0 js
  | j :: js, _, h => by
    have h1 := h j (by simp)
    have h2 := mag_nonneg (moodOf l j - moodOf l k)
    have e : max (-1) (T j + gap l j k) = max 0 (T j + gap l j k) := by unfold gap; omega
    simp only [lvOver, List.foldl_cons, e]
theorem exists_bit {s n : Nat} (h0 : s ≠ 0) (h : s < 2 ^ n) : ∃ k, k < n ∧ s.testBit k = true := by
  obtain ⟨k, hk⟩ := Nat.exists_testBit_of_ne_zero h0
  refine ⟨k, ?_, hk⟩
  have := pow_le_of_bit hk
  exact (Nat.pow_lt_pow_iff_right (by omega : 1 < 2)).1 (Nat.lt_of_le_of_lt this h)
/-- What the reference's first value does: the same. -/
theorem lvOver_init {l : List T2} {n s k : Nat} (hs : s < 2 ^ n) (h : s.testBit k = true) :
    lvOver l (lv l n (s - 2 ^ k)) k (if s = 2 ^ k then 0 else -1) (mem (s - 2 ^ k) n) = lv l n s k := by
  rw [lv_eq l n h]
  split
  · rfl
  · rename_i hne
    have hp := pow_le_of_bit h
    obtain ⟨j, h1, h2⟩ := exists_bit (s := s - 2 ^ k) (n := n) (by omega) (Nat.lt_of_le_of_lt (Nat.sub_le _ _) hs)
    refine lvOver_neg (List.ne_nil_of_mem (mem_mem.2 ⟨h1, h2⟩)) fun j hj => lv_nonneg l n (mem_mem.1 hj).2
theorem gap_le {l : List T2} (hok : piecesOk l = true) {j k : Nat} : gap l j k ≤ 9 := by
  have hm : ∀ i : Nat, 0 ≤ moodOf l i ∧ moodOf l i ≤ 9 := by
    intro i
    unfold moodOf
    split
    · rename_i x hx
      simp only [piecesOk, Bool.and_eq_true, List.all_eq_true] at hok
      have := hok.2 x (List.mem_of_getElem? hx)
      simp only [pieceOk, within, Bool.and_eq_true, decide_eq_true_eq] at this
      omega
    · omega
  have h1 := hm j
  have h2 := hm k
  unfold gap mag
  split <;> omega
theorem gap_nonneg {l : List T2} {j k : Nat} : 0 ≤ gap l j k := mag_nonneg _
theorem lv_le {l : List T2} (hok : piecesOk l = true) (n : Nat) : ∀ (s k : Nat), s.testBit k = true → lv l n s k ≤ 9 * s := by
  intro s
  induction s using Nat.strongRecOn with
  | ind s ih =>
    intro k h
    rw [lv_eq l n h]
    have hp := pow_le_of_bit h
    have h0 : 0 < 2 ^ k := Nat.two_pow_pos k
    refine lvOver_le _ _ _ _ _ _ (by omega) fun j hj => ?_
    have h1 := ih (s - 2 ^ k) (by omega) j (mem_mem.1 hj).2
    have h2 := gap_le hok (j := j) (k := k)
    omega
theorem lvMost_append (l : List T2) (n s : Nat) (b : Int) (xs ys : List Nat) : lvMost l n s b (xs ++ ys) = lvMost l n s (lvMost l n s b xs) ys := by simp [lvMost]
end Go.Mw

/- The liveliest order: the program's way and the reference's. -/
namespace Go.Mw
/-! ### the reference: one row behind another in a flat list -/
theorem flat_lt {N n t j : Nat} (ht : t < N) (hj : j < n) : t * n + j < n * N := by
  have h1 : (t + 1) * n ≤ N * n := Nat.mul_le_mul_right _ ht
  rw [Nat.add_mul, Nat.mul_comm N n] at h1
  omega
theorem flat_inj {n t j s k : Nat} (hj : j < n) (hk : k < n) (h : t * n + j = s * n + k) : t = s ∧ j = k := by
  have h1 := congrArg (· / n) h
  have h2 := congrArg (· % n) h
  simp only [Nat.mul_comm _ n, Nat.mul_add_div (show 0 < n by omega), Nat.mul_add_mod, Nat.div_eq_of_lt hj, Nat.div_eq_of_lt hk, Nat.mod_eq_of_lt hj, Nat.mod_eq_of_lt hk] at h1 h2
  omega
def Tab (l : List T2) (n : Nat) (M : List Int) (s k : Nat) : Prop := ∀ t j, 1 ≤ t → j < n → (t < s ∨ t = s ∧ j < k) → M[t * n + j]? = some (if t.testBit j then lv l n t j else -1)
theorem Tab.set {l : List T2} {n : Nat} {M : List Int} {s k : Nat} (h : Tab l n M s k) (hk : k < n) (x : Int) : Tab l n (M.set (s * n + k) x) s k := by
  intro t j h1 h2 h3
  rw [List.getElem?_set_ne]
  · exact h t j h1 h2 h3
  · intro e
    obtain ⟨rfl, rfl⟩ := flat_inj hk h2 e
    omega
theorem Tab.succ {l : List T2} {n : Nat} {M : List Int} {s k : Nat} (h : Tab l n M s k) (h1 : M[s * n + k]? = some (if s.testBit k then lv l n s k else -1)) : Tab l n M s (k + 1) := by
  intro t j ht hj h2
  by_cases e : t = s ∧ j = k
  · obtain ⟨rfl, rfl⟩ := e; exact h1
  · exact h t j ht hj (by omega)
theorem Tab.next {l : List T2} {n : Nat} {M : List Int} {s : Nat} (h : Tab l n M s n) : Tab l n M (s + 1) 0 := by
  intro t j ht hj h2
  exact h t j ht hj (by omega)
theorem moodOf_get {l : List T2} {j : Nat} (h : j < l.length) : moodOf l j = l[j].b := by simp [moodOf, h]
theorem gap_get {l : List T2} {j k : Nat} (hj : j < l.length) (hk : k < l.length) : gap l j k = mag (l[j].b - l[k].b) := by unfold gap; rw [moodOf_get hj, moodOf_get hk]
theorem mood_range {l : List T2} (hok : piecesOk l = true) {j : Nat} (h : j < l.length) : 0 ≤ l[j].b ∧ l[j].b ≤ 9 := by
  simp only [piecesOk, Bool.and_eq_true, List.all_eq_true] at hok
  have := hok.2 l[j] (by simp)
  simp only [pieceOk, within, Bool.and_eq_true, decide_eq_true_eq] at this
  omega
theorem pieces_le {l : List T2} (hok : piecesOk l = true) : l.length ≤ 9 := by
  simp only [piecesOk, Bool.and_eq_true, decide_eq_true_eq] at hok; omega


structure LvS where
  b : Int
  s : Nat
  m : List Int
theorem LvS.inj {a a' : Int} {b b' : Nat} {c c' : List Int} (h1 : a = a') (h2 : (b : Int) = b') (h3 : c = c') : LvS.mk a b c = ⟨a', b', c'⟩ := by
  obtain rfl : b = b' := by omega
  rw [h1, h3]
structure LvM where
  s : Nat
  m : List Int
theorem LvM.inj {b b' : Nat} {c c' : List Int} (h2 : (b : Int) = b') (h3 : c = c') : LvM.mk b c = ⟨b', c'⟩ := by
  obtain rfl : b = b' := by omega
  rw [h3]
section
variable {l : List T2} {n : Nat} (hok : piecesOk l = true) (hn' : l.length = n)
include hok hn'
theorem spec_lv_b2 {N s k : Nat} (hN : 2 ^ n = N) (hs : s < N) (hk : k < n) (hb : s.testBit k = true) (best : Int) {Q : QT} {M : List Int} (hM : M.length = n * N + 1) (hT : Tab l n M s k)
    (h0 : M[s * n + k]? = some (if s = 2 ^ k then 0 else -1)) (hQ : ∀ M' : List Int, M'.length = n * N + 1 → Tab l n M' s k → M'[s * n + k]? = some (lv l n s k) → Q (.exit 4) [vL I2 v2 l, .int .i64 n, .int .i64 best, .int .i64 s, .int .i64 k, vL I1 v1 M']) :
    shL (.loop spec_LivelyShow_b2) Q [vL I2 v2 l, .int .i64 n, .int .i64 best, .int .i64 s, .int .i64 k, .int .i64 0, vL I1 v1 M] := by
  have hn : n ≤ 9 := hn' ▸ pieces_le hok
  have hN2 : N ≤ 512 := hN ▸ pow_small hn
  have hnN : n * N ≤ 9 * 512 := Nat.mul_le_mul hn hN2
  have hpow := pow_le_of_bit hb
  have hp0 : 0 < 2 ^ k := Nat.two_pow_pos k
  have hp := flat_lt hs hk
  refine loop_st (σ := LvM) (fun x => [vL I2 v2 l, .int .i64 n, .int .i64 best, .int .i64 s, .int .i64 k, .int .i64 x.s, vL I1 v1 x.m]) (by rintro ⟨b, c⟩ ⟨b', c'⟩ h; simp at h; exact LvM.inj (by omega) h.2)
    (fun x => x.s ≤ n ∧ x.m.length = n * N + 1 ∧ Tab l n x.m s k ∧ x.m[s * n + k]? = some (lvOver l (lv l n (s - 2 ^ k)) k (if s = 2 ^ k then 0 else -1) (mem (s - 2 ^ k) x.s))) (fun x => n - x.s) ⟨0, M⟩ rfl ⟨by simp, hM, hT, by simpa [mem, lvOver] using h0⟩ ?_
  rintro ⟨j, M⟩ ⟨hj, hM, hT, h0⟩
  dsimp only at *
  rw [spec_LivelyShow_b2_sh]
  simp only [P1_lss, ifB_bool, decide_eq_true_eq, decide_eq_false_iff_not]
  refine ⟨fun h2 => ?_, fun h2 => ?_⟩
  · have hjn : j < n := by omega
    have hq := flat_lt (show s - 2 ^ k < N by omega) hjn
    have w1 : IntKind.i64.wrap ((s : Int) * n) = ((s * n : Nat) : Int) := by
      rw [← Int.natCast_mul]; exact wrap_id (by omega) (by omega)
    have w2 : IntKind.i64.wrap (((s * n : Nat) : Int) + k) = ((s * n + k : Nat) : Int) := by rw [wrap_id (by omega) (by omega)]; omega
    have w3 : IntKind.i64.wrap ((j : Int) + 1) = ((j + 1 : Nat) : Int) := by rw [wrap_id (by omega) (by omega)]; omega
    have w4 : IntKind.i64.wrap ((s : Int) - ((2 ^ k : Nat) : Int)) = ((s - 2 ^ k : Nat) : Int) := by rw [wrap_id (by omega) (by omega)]; omega
    have w5 : IntKind.i64.wrap (((s - 2 ^ k : Nat) : Int) * n) = (((s - 2 ^ k) * n : Nat) : Int) := by
      rw [← Int.natCast_mul]; exact wrap_id (by omega) (by omega)
    have w6 : IntKind.i64.wrap ((((s - 2 ^ k) * n : Nat) : Int) + j) = (((s - 2 ^ k) * n + j : Nat) : Int) := by rw [wrap_id (by omega) (by omega)]; omega
    simp only [P1_shl_one (show k ≤ 9 by omega), P1_sub, w4, P1_shr_nat (show j ≤ 64 by omega), P1_and, land_div (show s - 2 ^ k < 4611686018427387904 by omega), P1_eql, bit_beq1, ifB_bool]
    refine ⟨fun hb2 => ?_, fun hb2 => ?_⟩
    · have hkl : k < l.length := by omega
      have hjl : j < l.length := by omega
      have r1 := mood_range hok hkl
      have r2 := mood_range hok hjl
      have hv := hT (s - 2 ^ k) j (by have := pow_le_of_bit hb2; have := Nat.two_pow_pos j; omega) hjn (.inl (by omega))
      rw [if_pos hb2] at hv
      have hv1 := lv_nonneg l n hb2
      have hv2 := lv_le hok n _ _ hb2
      have w7 : IntKind.i64.wrap (l[k].b - l[j].b) = l[k].b - l[j].b := wrap_id (by omega) (by omega)
      have w8 : IntKind.i64.wrap (0 - (l[k].b - l[j].b)) = -(l[k].b - l[j].b) := by rw [wrap_id (by omega) (by omega)]; omega
      have eg : max (l[k].b - l[j].b) (-(l[k].b - l[j].b)) = gap l j k := by rw [gap_get hjl hkl]; unfold mag; split <;> omega
      have hg := gap_le hok (j := j) (k := k)
      have hg0 : 0 ≤ gap l j k := gap_nonneg
      have w9 : IntKind.i64.wrap (lv l n (s - 2 ^ k) j + gap l j k) = lv l n (s - 2 ^ k) j + gap l j k := wrap_id (by omega) (by omega)
      simp only [P2_idxI, Int.toNat_natCast, List.getElem?_eq_getElem hkl, List.getElem?_eq_getElem hjl, Option.some.injEq, exists_eq_left', w7, P1_sub, P1_mul, w1, P1_add, w2, w3, w5, w6, P1_idxI, h0, hv, P1_neg, w8, P1_mx2, eg, w9, P1_setI, qS_normal]
      refine ⟨by omega, by omega, by omega, by omega, by omega, by omega, ⟨j + 1, _⟩, rfl, ⟨by dsimp only; omega, by simpa using hM, hT.set hk _, ?_⟩, by dsimp only; omega⟩
      rw [List.getElem?_set_self (by omega)]
      simp [mem_succ, hb2, lvOver]
    · simp only [P1_add, w3, qS_normal]
      refine ⟨⟨j + 1, _⟩, rfl, ⟨by dsimp only; omega, hM, hT, ?_⟩, by dsimp only; omega⟩
      simp [mem_succ, hb2, h0]
  · obtain rfl : j = n := by omega
    simp only [qS_exit]
    exact hQ M hM hT (by rw [h0, lvOver_init (by omega) hb])

theorem spec_lv_b1 {N s : Nat} (hN : 2 ^ n = N) (hs : s < N) {Q : QT} {M : List Int} (hM : M.length = n * N + 1) (hT : Tab l n M s 0)
    (hQ : ∀ M' : List Int, M'.length = n * N + 1 → Tab l n M' (s + 1) 0 → Q (.exit 2) [vL I2 v2 l, .int .i64 n, .int .i64 (lvBest l n (s + 1)), .int .i64 s, vL I1 v1 M']) :
    shL (.loop spec_LivelyShow_b1) Q [vL I2 v2 l, .int .i64 n, .int .i64 (lvBest l n s), .int .i64 s, .int .i64 0, vL I1 v1 M] := by
  have hn : n ≤ 9 := hn' ▸ pieces_le hok
  have hN2 : N ≤ 512 := hN ▸ pow_small hn
  have hnN : n * N ≤ 9 * 512 := Nat.mul_le_mul hn hN2
  refine loop_st (σ := LvS) (fun x => [vL I2 v2 l, .int .i64 n, .int .i64 x.b, .int .i64 s, .int .i64 x.s, vL I1 v1 x.m]) (by rintro ⟨a, b, c⟩ ⟨a', b', c'⟩ h; simp at h; exact LvS.inj h.1 (by omega) h.2.2)
    (fun x => x.s ≤ n ∧ x.m.length = n * N + 1 ∧ Tab l n x.m s x.s ∧ x.b = lvMost l n s (lvBest l n s) (mem s x.s)) (fun x => n - x.s) ⟨lvBest l n s, 0, M⟩ rfl ⟨by simp, hM, hT, by simp [mem, lvMost]⟩ ?_
  rintro ⟨best, k, M⟩ ⟨hk, hM, hT, e0⟩
  dsimp only at *
  subst e0
  rw [spec_LivelyShow_b1_sh]
  simp only [P1_lss, ifB_bool, decide_eq_true_eq, decide_eq_false_iff_not]
  refine ⟨fun h2 => ?_, fun h2 => ?_⟩
  · have hkn : k < n := by omega
    have hp := flat_lt hs hkn
    have w1 : IntKind.i64.wrap ((s : Int) * n) = ((s * n : Nat) : Int) := by
      rw [← Int.natCast_mul]; exact wrap_id (by omega) (by omega)
    have w2 : IntKind.i64.wrap (((s * n : Nat) : Int) + k) = ((s * n + k : Nat) : Int) := by rw [wrap_id (by omega) (by omega)]; omega
    have w3 : IntKind.i64.wrap ((k : Int) + 1) = ((k + 1 : Nat) : Int) := by rw [wrap_id (by omega) (by omega)]; omega
    have g0 : ∃ x, M[s * n + k]? = some x := ⟨_, List.getElem?_eq_getElem (by omega)⟩
    obtain ⟨x0, g0⟩ := g0
    simp only [P1_mul, w1, P1_add, w2, P1_idxI, P1_setI, Int.toNat_natCast, P1_shr_nat (show k ≤ 64 by omega), P1_and, land_div (show s < 4611686018427387904 by omega), P1_eql, bit_beq0, ifB_bool]
    refine ⟨by omega, x0, g0, by omega, x0, g0, fun hb => ?_, fun hb => ?_⟩
    · have hb' : s.testBit k = false := by simpa using hb
      simp only [spec_LivelyShow_r5_sh, spec_LivelyShow_r6_sh, P1_add, w3, qS_normal]
      refine ⟨⟨lvMost l n s (lvBest l n s) (mem s k), k + 1, M.set (s * n + k) (-1)⟩, rfl, ⟨by dsimp only; omega, by simpa using hM, Tab.succ (hT.set hkn _) ?_, ?_⟩, by dsimp only; omega⟩
      · rw [List.getElem?_set_self (by omega)]; simp [hb']
      · simp [mem_succ, hb']
    · have hb' : s.testBit k = true := by simpa using hb
      simp only [P1_shl_one (show k ≤ 9 by omega), P1_eql, ifB_bool]
      refine ⟨fun hE => ?_, fun hE => ?_⟩
      · have hE : s = 2 ^ k := by have := beq_iff_eq.1 hE; omega
        have g1 : (M.set (s * n + k) (-1))[s * n + k]? = some (-1) := List.getElem?_set_self (by omega)
        simp only [g1, Option.some.injEq, exists_eq_left']
        refine ⟨by omega, by omega, spec_lv_b2 hok hn' hN hs hkn hb' _ (by simpa using hM) ((hT.set hkn _).set hkn _) (by rw [List.getElem?_set_self (by simp; omega), if_pos hE]) fun M' q1 q2 q3 => ?_⟩
        simp only [qB_exit, if_true, qS_normal, spec_LivelyShow_r3_sh, spec_LivelyShow_r4_sh, spec_LivelyShow_r5_sh, spec_LivelyShow_r6_sh, qB_normal, P1_mul, w1, P1_add, w2, w3, P1_idxI, Int.toNat_natCast, q3, Option.some.injEq, exists_eq_left', P1_mx2]
        refine ⟨by omega, ⟨_, k + 1, M'⟩, rfl, ⟨by dsimp only; omega, q1, Tab.succ q2 (by rw [q3, if_pos hb']), ?_⟩, by dsimp only; omega⟩
        simp [mem_succ, hb', lvMost]
      · have hE : s ≠ 2 ^ k := by
          intro e
          have : ((s : Int) == ((2 ^ k : Nat) : Int)) = true := by rw [← e]; simp
          rw [this] at hE; cases hE
        refine spec_lv_b2 hok hn' hN hs hkn hb' _ (by simpa using hM) (hT.set hkn _) (by rw [List.getElem?_set_self (by omega), if_neg hE]) fun M' q1 q2 q3 => ?_
        simp only [qB_exit, if_true, qS_normal, spec_LivelyShow_r3_sh, spec_LivelyShow_r4_sh, spec_LivelyShow_r5_sh, spec_LivelyShow_r6_sh, qB_normal, P1_mul, w1, P1_add, w2, w3, P1_idxI, Int.toNat_natCast, q3, Option.some.injEq, exists_eq_left', P1_mx2]
        refine ⟨by omega, ⟨_, k + 1, M'⟩, rfl, ⟨by dsimp only; omega, q1, Tab.succ q2 (by rw [q3, if_pos hb']), ?_⟩, by dsimp only; omega⟩
        simp [mem_succ, hb', lvMost]
  · obtain rfl : k = n := by omega
    simp only [qS_exit]
    have e1 : lvBest l k (s + 1) = lvMost l k s (lvBest l k s) (mem s k) := rfl
    rw [← e1]
    exact hQ M hM hT.next
end
theorem spec_LivelyShow_ok : ∀ ds outs, F_LivelyShow ds = some outs → shL spec_LivelyShow_L (qRet outs) ds := F_LivelyShow_elim fun l hp => by
  rw [spec_LivelyShow_L_sh, p_PiecesOk hp]
  cases hok : piecesOk l with
  | false => simp [lively, hok]
  | true =>
  have hn := pieces_le hok
  have hN := pow_small hn
  have hN0 : 0 < 2 ^ l.length := Nat.two_pow_pos _
  have hnN : l.length * 2 ^ l.length ≤ 9 * 512 := Nat.mul_le_mul hn hN
  simp only [P1_not, ifB_bool, Bool.not_true, Bool.false_eq_true, false_implies, true_and, P1_len, forall_const, P1_shl_self hn, P1_add]
  rw [wrap_id (by omega) (by omega)]
  simp only [P1_mkI]
  refine ⟨⟨by omega, by omega, by omega⟩, ?_⟩
  generalize hn' : l.length = n at *
  generalize hNN : 2 ^ n = N at *
  have e0 : (((n * N : Nat) : Int) + 1).toNat = n * N + 1 := by omega
  rw [e0]
  refine loop_st (σ := LvS) (fun s => [vL I2 v2 l, .int .i64 n, .int .i64 s.b, .int .i64 s.s, vL I1 v1 s.m]) (by rintro ⟨a, b, c⟩ ⟨a', b', c'⟩ h; simp at h; exact LvS.inj h.1 (by omega) h.2.2)
    (fun s => 1 ≤ s.s ∧ s.s ≤ N ∧ s.m.length = n * N + 1 ∧ Tab l n s.m s.s 0 ∧ s.b = lvBest l n s.s) (fun s => N - s.s) ⟨0, 1, List.replicate (n * N + 1) 0⟩ rfl ?_ ?_
  · refine ⟨by simp, by dsimp only; omega, by simp, fun t j h1 h2 h3 => by simp at h3; omega, by simp [lvBest, lvMost, mem_zero]⟩
  rintro ⟨best, s, M⟩ ⟨hs1, hs2, hM, hT, e0⟩
  dsimp only at *
  subst e0
  rw [spec_LivelyShow_b0_sh]
  simp only [P1_shl_one hn, hNN, P1_lss, ifB_bool, decide_eq_true_eq, decide_eq_false_iff_not]
  refine ⟨fun h1 => ?_, fun h1 => ?_⟩
  · refine spec_lv_b1 hok hn' hNN (by omega) hM hT fun M' h2 h3 => ?_
    have w3 : IntKind.i64.wrap ((s : Int) + 1) = ((s + 1 : Nat) : Int) := by rw [wrap_id (by omega) (by omega)]; omega
    simp only [qB_exit, if_true, qS_normal, spec_LivelyShow_r7_sh, spec_LivelyShow_r8_sh, spec_LivelyShow_r9_sh, qB_normal, P1_add, w3]
    exact ⟨⟨_, s + 1, M'⟩, rfl, ⟨by dsimp only; omega, by dsimp only; omega, h2, h3, rfl⟩, by dsimp only; omega⟩
  · obtain rfl : s = N := by omega
    simp [spec_LivelyShow_r10_sh, lively, hok, hn', hNN]
end Go.Mw

/- The liveliest order: the program's way, and the law. -/
namespace Go.Mw
theorem P1_setInI {row : List Int} {L : List (List Int)} {a : Int} {i j : Nat} {κ κ' : IntKind} {kk : V → Prop} (h : i < row.length) (hj : j < L.length) :
    P1 (.setIn [.sc] 0 [.sl [.sc]] 0) [vL I1 v1 row, .int κ i, .int .i64 a, vL I1 v1 row, vL IL1 vLL1 L, .int κ' j] kk ↔ kk (vL IL1 vLL1 (L.set j (row.set i a))) := by
  refine P1_of ?_ kk
  simp [Prim.run, setV, vL, ksAll, AK.eqs_refl, aksOk, akOk, h, hj, vLL1, V.put, List.map_set, v1, IL1, I1]

/-- A row of the table is made. -/
def LvRow (l : List T2) (n t : Nat) (row : List Int) : Prop := row.length = n ∧ ∀ k, k < n → t.testBit k = true → row[k]? = some (lv l n t k)
def Rows (l : List T2) (n N : Nat) (S : List (List Int)) (s : Nat) : Prop := S.length = N ∧ ∀ t, t < s → ∃ row, S[t]? = some row ∧ LvRow l n t row
theorem Rows.set {l : List T2} {n N : Nat} {S : List (List Int)} {s : Nat} (h : Rows l n N S s) (r : List Int) : Rows l n N (S.set s r) s := by
  refine ⟨by simpa using h.1, fun t ht => ?_⟩
  rw [List.getElem?_set_ne (by omega)]
  exact h.2 t ht
structure LvR where
  b : Int
  s : Nat
  m : List (List Int)
theorem LvR.inj {a a' : Int} {b b' : Nat} {c c' : List (List Int)} (h1 : a = a') (h2 : (b : Int) = b') (h3 : c = c') : LvR.mk a b c = ⟨a', b', c'⟩ := by
  obtain rfl : b = b' := by omega
  rw [h1, h3]
structure LvN where
  s : Nat
  m : List (List Int)
theorem LvN.inj {b b' : Nat} {c c' : List (List Int)} (h2 : (b : Int) = b') (h3 : c = c') : LvN.mk b c = ⟨b', c'⟩ := by
  obtain rfl : b = b' := by omega
  rw [h3]

section
variable {l : List T2} {n : Nat} (hok : piecesOk l = true) (hn' : l.length = n)
include hok hn'
theorem impl_lv_b2 {N s k : Nat} (hN : 2 ^ n = N) (hs : s < N) (hk : k < n) (hb : s.testBit k = true) (most : Int) (iM : Nat) {Q : QT} {S : List (List Int)} (hS : Rows l n N S s) (r0 : List Int) (hr0 : r0.length = n)
    (h0 : S[s]? = some (r0.set k 0)) (hQ : ∀ S' : List (List Int), Rows l n N S' s → S'[s]? = some (r0.set k (lv l n s k)) →
      Q (.exit 4) [vL I2 v2 l, .int .i64 n, .int .i64 most, .int .i64 s, .int .i64 k, .int .i64 N, .int .i64 s, .int .i64 (mem s n).length, .int .i64 iM, vL IL1 vLL1 S', vL I1 v1 (ints (mem s n))]) :
    shL (.loop impl_LivelyShow_b2) Q [vL I2 v2 l, .int .i64 n, .int .i64 most, .int .i64 s, .int .i64 k, .int .i64 (s - 2 ^ k : Nat), .int .i64 N, .int .i64 s, .int .i64 (mem s n).length, .int .i64 iM, .int .i64 (mem (s - 2 ^ k) n).length, .int .i64 0, vL IL1 vLL1 S, vL I1 v1 (ints (mem s n)), vL I1 v1 (ints (mem (s - 2 ^ k) n))] := by
  have hn : n ≤ 9 := hn' ▸ pieces_le hok
  have hN2 : N ≤ 512 := hN ▸ pow_small hn
  have hpow := pow_le_of_bit hb
  have hp0 : 0 < 2 ^ k := Nat.two_pow_pos k
  have hkl : k < l.length := by omega
  have r1 := mood_range hok hkl
  have hBl := mem_len (s - 2 ^ k) n
  refine loop_st (σ := LvN) (fun x => [vL I2 v2 l, .int .i64 n, .int .i64 most, .int .i64 s, .int .i64 k, .int .i64 (s - 2 ^ k : Nat), .int .i64 N, .int .i64 s, .int .i64 (mem s n).length, .int .i64 iM, .int .i64 (mem (s - 2 ^ k) n).length, .int .i64 x.s, vL IL1 vLL1 x.m, vL I1 v1 (ints (mem s n)), vL I1 v1 (ints (mem (s - 2 ^ k) n))]) (by rintro ⟨b, c⟩ ⟨b', c'⟩ h; simp at h; exact LvN.inj (by omega) h.2)
    (fun x => x.s ≤ (mem (s - 2 ^ k) n).length ∧ Rows l n N x.m s ∧ x.m[s]? = some (r0.set k (lvOver l (lv l n (s - 2 ^ k)) k 0 ((mem (s - 2 ^ k) n).take x.s)))) (fun x => (mem (s - 2 ^ k) n).length - x.s) ⟨0, S⟩ rfl ⟨by simp, hS, by simpa [lvOver] using h0⟩ ?_
  rintro ⟨i, S⟩ ⟨hi, hS, h0⟩
  dsimp only at *
  rw [impl_LivelyShow_b2_sh]
  simp only [P1_lss, ifB_bool, decide_eq_true_eq, decide_eq_false_iff_not]
  refine ⟨fun h2 => ?_, fun h2 => ?_⟩
  · have hil : i < (mem (s - 2 ^ k) n).length := by omega
    have hj := mem_mem.1 (List.getElem_mem hil)
    generalize hje : (mem (s - 2 ^ k) n)[i] = j at hj
    have hjl : j < l.length := by omega
    have r2 := mood_range hok hjl
    obtain ⟨row, hr1, hr2, hr3⟩ := hS.2 (s - 2 ^ k) (by omega)
    have hr4 := hr3 j hj.1 hj.2
    have hv1 := lv_nonneg l n hj.2
    have hv2 := lv_le hok n _ _ hj.2
    have hg := gap_le hok (j := j) (k := k)
    have hg0 : 0 ≤ gap l j k := gap_nonneg
    have w3 : IntKind.i64.wrap ((i : Int) + 1) = ((i + 1 : Nat) : Int) := by rw [wrap_id (by omega) (by omega)]; omega
    have w7 : IntKind.i64.wrap (l[j].b - l[k].b) = l[j].b - l[k].b := wrap_id (by omega) (by omega)
    have w9 : IntKind.i64.wrap (lv l n (s - 2 ^ k) j + gap l j k) = lv l n (s - 2 ^ k) j + gap l j k := wrap_id (by omega) (by omega)
    have hm : ∀ {kk : V → Prop} {nr : Nat}, P1 (.call F_magnitude 0 nr) [.int .i64 (l[j].b - l[k].b)] kk ↔ kk (.int .i64 (gap l j k)) := by
      intro kk nr; rw [p_magnitude ⟨by omega, by omega⟩, gap_get hjl hkl]
    have hg1 : (ints (mem (s - 2 ^ k) n))[i]? = some (j : Int) := by rw [ints_get hil, hje]
    have hsl : s < S.length := by rw [hS.1]; omega
    have hkr : k < r0.length := by omega
    simp only [P1_idxI, P1_idxL1, Int.toNat_natCast, hg1, Option.some.injEq, exists_eq_left', hr1, hr4, P2_idxI, List.getElem?_eq_getElem hkl, List.getElem?_eq_getElem hjl, P1_sub, w7, hm, P1_add, w9, w3, h0, List.getElem?_set_self hkr, P1_mx2]
    rw [P1_setInI (by simpa using hkr) hsl]
    simp only [qS_normal]
    refine ⟨by omega, by omega, by omega, by omega, by omega, by omega, by omega, by omega, by omega, ⟨i + 1, _⟩, rfl, ⟨by dsimp only; omega, hS.set _, ?_⟩, by dsimp only; omega⟩
    rw [List.getElem?_set_self hsl, List.set_set, take_succ_get hil, lvOver_append, hje]
    rfl
  · obtain rfl : i = (mem (s - 2 ^ k) n).length := by omega
    simp only [qS_exit]
    refine hQ S hS ?_
    rw [h0, List.take_length, lv_eq l n hb]

theorem impl_lv_b1 {N s : Nat} (hN : 2 ^ n = N) (hs : s < N) {Q : QT} {S : List (List Int)} (hS : Rows l n N S s) (h0 : S[s]? = some (List.replicate n 0))
    (hQ : ∀ S' : List (List Int), Rows l n N S' (s + 1) → Q (.exit 2) [vL I2 v2 l, .int .i64 n, .int .i64 (lvBest l n (s + 1)), .int .i64 N, .int .i64 s, vL IL1 vLL1 S']) :
    shL (.loop impl_LivelyShow_b1) Q [vL I2 v2 l, .int .i64 n, .int .i64 (lvBest l n s), .int .i64 s, .int .i64 N, .int .i64 s, .int .i64 (mem s n).length, .int .i64 0, vL IL1 vLL1 S, vL I1 v1 (ints (mem s n))] := by
  have hn : n ≤ 9 := hn' ▸ pieces_le hok
  have hN2 : N ≤ 512 := hN ▸ pow_small hn
  have hMl := mem_len s n
  refine loop_st (σ := LvR) (fun x => [vL I2 v2 l, .int .i64 n, .int .i64 x.b, .int .i64 s, .int .i64 N, .int .i64 s, .int .i64 (mem s n).length, .int .i64 x.s, vL IL1 vLL1 x.m, vL I1 v1 (ints (mem s n))]) (by rintro ⟨a, b, c⟩ ⟨a', b', c'⟩ h; simp at h; exact LvR.inj h.1 (by omega) h.2.2)
    (fun x => x.s ≤ (mem s n).length ∧ Rows l n N x.m s ∧ (∃ row, x.m[s]? = some row ∧ row.length = n ∧ (∀ k ∈ (mem s n).take x.s, row[k]? = some (lv l n s k)) ∧ (∀ k, k < n → k ∉ (mem s n).take x.s → row[k]? = some 0)) ∧ x.b = lvMost l n s (lvBest l n s) ((mem s n).take x.s)) (fun x => (mem s n).length - x.s) ⟨lvBest l n s, 0, S⟩ rfl ⟨by simp, hS, ⟨_, h0, by simp, by simp, fun k hk _ => by simp [hk]⟩, by simp [lvMost]⟩ ?_
  rintro ⟨best, i, S⟩ ⟨hi, hS, ⟨row, h1, h2, h3, h4⟩, e0⟩
  dsimp only at *
  subst e0
  rw [impl_LivelyShow_b1_sh]
  simp only [P1_lss, ifB_bool, decide_eq_true_eq, decide_eq_false_iff_not]
  refine ⟨fun h5 => ?_, fun h5 => ?_⟩
  · have hil : i < (mem s n).length := by omega
    have hk := mem_mem.1 (List.getElem_mem hil)
    have hkt : (mem s n)[i] ∉ (mem s n).take i := by
      intro hm
      obtain ⟨j, hj, e⟩ := List.mem_iff_getElem.1 hm
      rw [List.length_take] at hj
      rw [List.getElem_take] at e
      have := (List.getElem_inj (mem_nodup s n)).1 e
      omega
    have htk := take_succ_get hil
    have hg1 : (ints (mem s n))[i]? = some ((mem s n)[i] : Int) := ints_get hil
    generalize hke : (mem s n)[i] = k at hk hkt htk hg1
    have w3 : IntKind.i64.wrap ((i : Int) + 1) = ((i + 1 : Nat) : Int) := by rw [wrap_id (by omega) (by omega)]; omega
    have h0k := h4 k hk.1 hkt
    have erow : row.set k 0 = row := by
      obtain ⟨h, e⟩ := List.getElem?_eq_some_iff.1 h0k
      exact e ▸ List.set_getElem_self h
    have hpow := pow_le_of_bit hk.2
    have hp0 := Nat.two_pow_pos k
    simp only [P1_idxI, Int.toNat_natCast, hg1, Option.some.injEq, exists_eq_left', P1_shl_one (show k ≤ 9 by omega), P1_andNot, landn_bit (show s < 512 by omega) (show k < 9 by omega) hk.2]
    have hpm : ∀ {kk : V → Prop} {nr : Nat}, P1 (.call F_membersOf 0 nr) [.int .i64 (s - 2 ^ k : Nat), .int .i64 n] kk ↔ kk (vL I1 v1 (ints (mem (s - 2 ^ k) n))) := by
      intro kk nr; rw [p_membersOf ⟨by omega, by omega, by omega, by omega⟩]; simp
    simp only [hpm, P1_len, ints_len]
    refine ⟨by omega, impl_lv_b2 hok hn' hN hs hk.1 hk.2 _ i hS row h2 (by rw [h1, erow]) fun S' q1 q2 => ?_⟩
    simp only [qB_exit, if_true, qS_normal, impl_LivelyShow_r3_sh, impl_LivelyShow_r4_sh, impl_LivelyShow_r5_sh, impl_LivelyShow_r6_sh, qB_normal, P1_add, w3, P1_idxL1, P1_idxI, Int.toNat_natCast, q2, Option.some.injEq, exists_eq_left', List.getElem?_set_self (show k < row.length by omega), P1_mx2]
    refine ⟨by omega, by omega, ⟨_, i + 1, S'⟩, rfl, ⟨by dsimp only; omega, q1, ⟨_, q2, by simpa using h2, fun j hj => ?_, fun j hj hj2 => ?_⟩, ?_⟩, by dsimp only; omega⟩
    · dsimp only at hj
      rw [htk, List.mem_append, List.mem_singleton] at hj
      by_cases e : j = k
      · subst e; rw [List.getElem?_set_self (by omega)]
      · rw [List.getElem?_set_ne (by omega)]; exact h3 j (hj.resolve_right e)
    · dsimp only at hj2
      rw [htk, List.mem_append, List.mem_singleton, not_or] at hj2
      rw [List.getElem?_set_ne (by omega)]; exact h4 j hj hj2.1
    · dsimp only
      rw [htk, lvMost_append]; rfl
  · obtain rfl : i = (mem s n).length := by omega
    simp only [qS_exit, List.take_length] at *
    have e1 : lvBest l n (s + 1) = lvMost l n s (lvBest l n s) (mem s n) := rfl
    rw [← e1]
    refine hQ S ⟨hS.1, fun t ht => ?_⟩
    by_cases e : t = s
    · subst e; exact ⟨row, h1, h2, fun k hk hb => h3 k (mem_mem.2 ⟨hk, hb⟩)⟩
    · exact hS.2 t (by omega)
end
theorem impl_LivelyShow_ok : ∀ ds outs, F_LivelyShow ds = some outs → shL impl_LivelyShow_L (qRet outs) ds := F_LivelyShow_elim fun l hp => by
  rw [impl_LivelyShow_L_sh, p_PiecesOk hp]
  cases hok : piecesOk l with
  | false => simp [lively, hok]
  | true =>
  have hn := pieces_le hok
  have hN := pow_small hn
  have hN0 : 0 < 2 ^ l.length := Nat.two_pow_pos _
  simp only [P1_not, ifB_bool, Bool.not_true, Bool.false_eq_true, false_implies, true_and, P1_len, forall_const, P1_shl_one hn, P1_mkL1]
  refine ⟨⟨by omega, by omega, by omega⟩, ?_⟩
  generalize hn' : l.length = n at *
  generalize hNN : 2 ^ n = N at *
  simp only [Int.toNat_natCast, List.length_replicate]
  refine loop_st (σ := LvR) (fun s => [vL I2 v2 l, .int .i64 n, .int .i64 s.b, .int .i64 N, .int .i64 s.s, vL IL1 vLL1 s.m]) (by rintro ⟨a, b, c⟩ ⟨a', b', c'⟩ h; simp at h; exact LvR.inj h.1 (by omega) h.2.2)
    (fun s => s.s ≤ N ∧ Rows l n N s.m s.s ∧ s.b = lvBest l n s.s) (fun s => N - s.s) ⟨0, 0, List.replicate N []⟩ rfl ⟨by simp, ⟨by simp, fun t h => by simp at h⟩, rfl⟩ ?_
  rintro ⟨best, s, S⟩ ⟨hs, hS, e0⟩
  dsimp only at *
  subst e0
  rw [impl_LivelyShow_b0_sh]
  simp only [P1_lss, ifB_bool, decide_eq_true_eq, decide_eq_false_iff_not]
  refine ⟨fun h1 => ?_, fun h1 => ?_⟩
  · have hsl : s < S.length := by rw [hS.1]; omega
    have hpm : ∀ {kk : V → Prop} {nr : Nat}, P1 (.call F_membersOf 0 nr) [.int .i64 s, .int .i64 n] kk ↔ kk (vL I1 v1 (ints (mem s n))) := by
      intro kk nr; rw [p_membersOf ⟨by omega, by omega, by omega, by omega⟩]; simp
    simp only [P1_mkI, P1_idxL1, P1_setL1, Int.toNat_natCast, List.getElem?_eq_getElem hsl, Option.some.injEq, exists_eq_left', hpm, P1_len, ints_len]
    refine ⟨⟨by omega, by omega, by omega⟩, by omega, by omega, impl_lv_b1 hok hn' hNN (by omega) (hS.set _) (List.getElem?_set_self hsl) fun S' q1 => ?_⟩
    have w3 : IntKind.i64.wrap ((s : Int) + 1) = ((s + 1 : Nat) : Int) := by rw [wrap_id (by omega) (by omega)]; omega
    simp only [qB_exit, if_true, qS_normal, impl_LivelyShow_r7_sh, impl_LivelyShow_r8_sh, impl_LivelyShow_r9_sh, qB_normal, P1_add, w3]
    exact ⟨⟨_, s + 1, S'⟩, rfl, ⟨by dsimp only; omega, q1, rfl⟩, by dsimp only; omega⟩
  · obtain rfl : s = N := by omega
    simp [impl_LivelyShow_r10_sh, lively, hok, hn', hNN]

theorem laws_FnExactLivelyShow_ok : ∀ ds outs, F_FnExactLivelyShow ds = some outs → shL laws_FnExactLivelyShow_L (qRet outs) ds := F_FnExactLivelyShow_elim fun l hp => by
  rw [laws_FnExactLivelyShow_L_sh]
  rw [p_szPieceS (by have := hp.1; omega)]
  by_cases h : (l.length : Int) ≤ 1048576
  · have h' : l.length ≤ 1048576 := by omega
    simp [h, h', p_toPieceS, p_LivelyShow, p_eqPieceS]
  · simp [h]
end Go.Mw

