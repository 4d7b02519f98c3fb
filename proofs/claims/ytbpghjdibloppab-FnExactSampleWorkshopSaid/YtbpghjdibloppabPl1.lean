/- What functions of the program compute, as small pure programs, shown against plain Lean functions: no condition. -/
import Derived.KernelRfl
import Derived.Test.YtbpghjdibloppabFwF
/- What the functions of the first rows compute, in plain terms. -/
namespace Go.Mw

def within (n low high : Int) : Bool := decide (low ≤ n) && decide (n ≤ high)
def E_within : Int × Int × Int → List V := fun (a, b, c) => [.int .i64 a, .int .i64 b, .int .i64 c]
noncomputable def F_within : List V → Option (List V) := mkF E_within (fun (_, _, _) => True) (fun (a, b, c) => [.bool (within a b c)])
theorem F_within_inj : ∀ x y, E_within x = E_within y → x = y := by
  rintro ⟨a, b, c⟩ ⟨a', b', c'⟩ h
  simpa [E_within] using h
theorem F_within_elim {P : List V → List V → Prop} (h : ∀ (a : Int) (b : Int) (c : Int), P [.int .i64 a, .int .i64 b, .int .i64 c] [.bool (within a b c)]) : ∀ ds outs, F_within ds = some outs → P ds outs := by
  intro ds outs hh
  obtain ⟨⟨a, b, c⟩, rfl, -, rfl⟩ := mkF_inv hh
  exact h a b c
@[simp] theorem p_within {a : Int} {b : Int} {c : Int} {nr_ : Nat} {kk_ : V → Prop} : P1 (.call F_within 0 nr_) [.int .i64 a, .int .i64 b, .int .i64 c] kk_ ↔ kk_ (.bool (within a b c)) :=
  P1_callF (by unfold F_within; exact mkF_eq F_within_inj (a, b, c) trivial)

noncomputable abbrev F_l01In := F_within

def boxOk (x : T3) : Bool := within x.a 1 500 && within x.b 1 500 && within x.c 1 500
def E_BoxOk (x : T3) : List V := [.int .i64 x.a, .int .i64 x.b, .int .i64 x.c]
noncomputable def F_BoxOk : List V → Option (List V) := mkF E_BoxOk (fun _ => True) (fun x => [.bool (boxOk x)])
theorem F_BoxOk_inj : ∀ x y, E_BoxOk x = E_BoxOk y → x = y := by
  rintro ⟨xa, xb, xc⟩ ⟨xa', xb', xc'⟩ h
  simpa [E_BoxOk] using h
theorem F_BoxOk_elim {P : List V → List V → Prop} (h : ∀ (x : T3), P [.int .i64 x.a, .int .i64 x.b, .int .i64 x.c] [.bool (boxOk x)]) : ∀ ds outs, F_BoxOk ds = some outs → P ds outs := by
  intro ds outs hh
  obtain ⟨x, rfl, -, rfl⟩ := mkF_inv hh
  exact h x
@[simp] theorem p_BoxOk {x_a : Int} {x_b : Int} {x_c : Int} {nr_ : Nat} {kk_ : V → Prop} : P1 (.call F_BoxOk 0 nr_) [.int .i64 x_a, .int .i64 x_b, .int .i64 x_c] kk_ ↔ kk_ (.bool (boxOk (⟨x_a, x_b, x_c⟩ : T3))) :=
  P1_callF (by unfold F_BoxOk; exact mkF_eq F_BoxOk_inj ((⟨x_a, x_b, x_c⟩ : T3)) trivial)

def E_toBox (x : T3) : List V := [.int .i64 x.a, .int .i64 x.b, .int .i64 x.c]
noncomputable def F_toBox : List V → Option (List V) := mkF E_toBox (fun _ => True) (fun x => [.int .i64 x.a, .int .i64 x.b, .int .i64 x.c])
theorem F_toBox_inj : ∀ x y, E_toBox x = E_toBox y → x = y := by
  rintro ⟨xa, xb, xc⟩ ⟨xa', xb', xc'⟩ h
  simpa [E_toBox] using h
theorem F_toBox_elim {P : List V → List V → Prop} (h : ∀ (x : T3), P [.int .i64 x.a, .int .i64 x.b, .int .i64 x.c] [.int .i64 x.a, .int .i64 x.b, .int .i64 x.c]) : ∀ ds outs, F_toBox ds = some outs → P ds outs := by
  intro ds outs hh
  obtain ⟨x, rfl, -, rfl⟩ := mkF_inv hh
  exact h x
@[simp] theorem p_toBox {x_a : Int} {x_b : Int} {x_c : Int} {nr_ : Nat} {kk_ : V → V → V → Prop} : P3 (.call F_toBox 0 nr_) [.int .i64 x_a, .int .i64 x_b, .int .i64 x_c] kk_ ↔ kk_ (.int .i64 ((⟨x_a, x_b, x_c⟩ : T3)).a) (.int .i64 ((⟨x_a, x_b, x_c⟩ : T3)).b) (.int .i64 ((⟨x_a, x_b, x_c⟩ : T3)).c) :=
  P3_callF (by unfold F_toBox; exact mkF_eq F_toBox_inj ((⟨x_a, x_b, x_c⟩ : T3)) trivial)

def E_toAct (x : T3) : List V := [.int .i64 x.a, .int .i64 x.b, .int .i64 x.c]
noncomputable def F_toAct : List V → Option (List V) := mkF E_toAct (fun _ => True) (fun x => [.int .i64 x.a, .int .i64 x.b, .int .i64 x.c])
theorem F_toAct_inj : ∀ x y, E_toAct x = E_toAct y → x = y := by
  rintro ⟨xa, xb, xc⟩ ⟨xa', xb', xc'⟩ h
  simpa [E_toAct] using h
theorem F_toAct_elim {P : List V → List V → Prop} (h : ∀ (x : T3), P [.int .i64 x.a, .int .i64 x.b, .int .i64 x.c] [.int .i64 x.a, .int .i64 x.b, .int .i64 x.c]) : ∀ ds outs, F_toAct ds = some outs → P ds outs := by
  intro ds outs hh
  obtain ⟨x, rfl, -, rfl⟩ := mkF_inv hh
  exact h x
@[simp] theorem p_toAct {x_a : Int} {x_b : Int} {x_c : Int} {nr_ : Nat} {kk_ : V → V → V → Prop} : P3 (.call F_toAct 0 nr_) [.int .i64 x_a, .int .i64 x_b, .int .i64 x_c] kk_ ↔ kk_ (.int .i64 ((⟨x_a, x_b, x_c⟩ : T3)).a) (.int .i64 ((⟨x_a, x_b, x_c⟩ : T3)).b) (.int .i64 ((⟨x_a, x_b, x_c⟩ : T3)).c) :=
  P3_callF (by unfold F_toAct; exact mkF_eq F_toAct_inj ((⟨x_a, x_b, x_c⟩ : T3)) trivial)


def actOk (x : T3) : Bool :=
  if x.a = 1 then within x.b 0 99 && within x.c 0 95
  else if x.a = 2 then within x.b 0 99 && x.c == 0
  else if x.a = 4 then within x.b 0 100 && x.c == 0
  else if x.a = 3 ∨ x.a = 5 ∨ x.a = 6 then x.b == 0 && x.c == 0
  else false
def E_ActOk (x : T3) : List V := [.int .i64 x.a, .int .i64 x.b, .int .i64 x.c]
noncomputable def F_ActOk : List V → Option (List V) := mkF E_ActOk (fun _ => True) (fun x => [.bool (actOk x)])
theorem F_ActOk_inj : ∀ x y, E_ActOk x = E_ActOk y → x = y := by
  rintro ⟨xa, xb, xc⟩ ⟨xa', xb', xc'⟩ h
  simpa [E_ActOk] using h
theorem F_ActOk_elim {P : List V → List V → Prop} (h : ∀ (x : T3), P [.int .i64 x.a, .int .i64 x.b, .int .i64 x.c] [.bool (actOk x)]) : ∀ ds outs, F_ActOk ds = some outs → P ds outs := by
  intro ds outs hh
  obtain ⟨x, rfl, -, rfl⟩ := mkF_inv hh
  exact h x
@[simp] theorem p_ActOk {x_a : Int} {x_b : Int} {x_c : Int} {nr_ : Nat} {kk_ : V → Prop} : P1 (.call F_ActOk 0 nr_) [.int .i64 x_a, .int .i64 x_b, .int .i64 x_c] kk_ ↔ kk_ (.bool (actOk (⟨x_a, x_b, x_c⟩ : T3))) :=
  P1_callF (by unfold F_ActOk; exact mkF_eq F_ActOk_inj ((⟨x_a, x_b, x_c⟩ : T3)) trivial)


def sortedBox (x : T3) : T3 :=
  if boxOk x then ⟨max (max x.a x.b) x.c, x.a + x.b + x.c - max (max x.a x.b) x.c - min (min x.a x.b) x.c, min (min x.a x.b) x.c⟩ else ⟨0, 0, 0⟩
def E_SortedBox (x : T3) : List V := [.int .i64 x.a, .int .i64 x.b, .int .i64 x.c]
noncomputable def F_SortedBox : List V → Option (List V) := mkF E_SortedBox (fun _ => True) (fun x => [.int .i64 (sortedBox x).a, .int .i64 (sortedBox x).b, .int .i64 (sortedBox x).c])
theorem F_SortedBox_inj : ∀ x y, E_SortedBox x = E_SortedBox y → x = y := by
  rintro ⟨xa, xb, xc⟩ ⟨xa', xb', xc'⟩ h
  simpa [E_SortedBox] using h
theorem F_SortedBox_elim {P : List V → List V → Prop} (h : ∀ (x : T3), P [.int .i64 x.a, .int .i64 x.b, .int .i64 x.c] [.int .i64 (sortedBox x).a, .int .i64 (sortedBox x).b, .int .i64 (sortedBox x).c]) : ∀ ds outs, F_SortedBox ds = some outs → P ds outs := by
  intro ds outs hh
  obtain ⟨x, rfl, -, rfl⟩ := mkF_inv hh
  exact h x
@[simp] theorem p_SortedBox {x_a : Int} {x_b : Int} {x_c : Int} {nr_ : Nat} {kk_ : V → V → V → Prop} : P3 (.call F_SortedBox 0 nr_) [.int .i64 x_a, .int .i64 x_b, .int .i64 x_c] kk_ ↔ kk_ (.int .i64 (sortedBox (⟨x_a, x_b, x_c⟩ : T3)).a) (.int .i64 (sortedBox (⟨x_a, x_b, x_c⟩ : T3)).b) (.int .i64 (sortedBox (⟨x_a, x_b, x_c⟩ : T3)).c) :=
  P3_callF (by unfold F_SortedBox; exact mkF_eq F_SortedBox_inj ((⟨x_a, x_b, x_c⟩ : T3)) trivial)

def E_eqBox : T3 × T3 → List V := fun (x, y) => [.int .i64 x.a, .int .i64 x.b, .int .i64 x.c, .int .i64 y.a, .int .i64 y.b, .int .i64 y.c]
noncomputable def F_eqBox : List V → Option (List V) := mkF E_eqBox (fun (_, _) => True) (fun (x, y) => [.bool (decide (x = y))])
theorem F_eqBox_inj : ∀ x y, E_eqBox x = E_eqBox y → x = y := by
  rintro ⟨⟨xa, xb, xc⟩, ⟨ya, yb, yc⟩⟩ ⟨⟨xa', xb', xc'⟩, ⟨ya', yb', yc'⟩⟩ h
  simpa [E_eqBox, and_assoc] using h
theorem F_eqBox_elim {P : List V → List V → Prop} (h : ∀ (x : T3) (y : T3), P [.int .i64 x.a, .int .i64 x.b, .int .i64 x.c, .int .i64 y.a, .int .i64 y.b, .int .i64 y.c] [.bool (decide (x = y))]) : ∀ ds outs, F_eqBox ds = some outs → P ds outs := by
  intro ds outs hh
  obtain ⟨⟨x, y⟩, rfl, -, rfl⟩ := mkF_inv hh
  exact h x y
@[simp] theorem p_eqBox {x_a : Int} {x_b : Int} {x_c : Int} {y_a : Int} {y_b : Int} {y_c : Int} {nr_ : Nat} {kk_ : V → Prop} : P1 (.call F_eqBox 0 nr_) [.int .i64 x_a, .int .i64 x_b, .int .i64 x_c, .int .i64 y_a, .int .i64 y_b, .int .i64 y_c] kk_ ↔ kk_ (.bool (decide ((⟨x_a, x_b, x_c⟩ : T3) = (⟨y_a, y_b, y_c⟩ : T3)))) :=
  P1_callF (by unfold F_eqBox; exact mkF_eq F_eqBox_inj ((⟨x_a, x_b, x_c⟩ : T3), (⟨y_a, y_b, y_c⟩ : T3)) trivial)


def fitsIn (x y : T3) : Bool := boxOk x && boxOk y && (decide ((sortedBox x).a ≤ (sortedBox y).a) && decide ((sortedBox x).b ≤ (sortedBox y).b) && decide ((sortedBox x).c ≤ (sortedBox y).c))
def E_FitsIn : T3 × T3 → List V := fun (x, y) => [.int .i64 x.a, .int .i64 x.b, .int .i64 x.c, .int .i64 y.a, .int .i64 y.b, .int .i64 y.c]
noncomputable def F_FitsIn : List V → Option (List V) := mkF E_FitsIn (fun (_, _) => True) (fun (x, y) => [.bool (fitsIn x y)])
theorem F_FitsIn_inj : ∀ x y, E_FitsIn x = E_FitsIn y → x = y := by
  rintro ⟨⟨xa, xb, xc⟩, ⟨ya, yb, yc⟩⟩ ⟨⟨xa', xb', xc'⟩, ⟨ya', yb', yc'⟩⟩ h
  simpa [E_FitsIn, and_assoc] using h
theorem F_FitsIn_elim {P : List V → List V → Prop} (h : ∀ (x : T3) (y : T3), P [.int .i64 x.a, .int .i64 x.b, .int .i64 x.c, .int .i64 y.a, .int .i64 y.b, .int .i64 y.c] [.bool (fitsIn x y)]) : ∀ ds outs, F_FitsIn ds = some outs → P ds outs := by
  intro ds outs hh
  obtain ⟨⟨x, y⟩, rfl, -, rfl⟩ := mkF_inv hh
  exact h x y
@[simp] theorem p_FitsIn {x_a : Int} {x_b : Int} {x_c : Int} {y_a : Int} {y_b : Int} {y_c : Int} {nr_ : Nat} {kk_ : V → Prop} : P1 (.call F_FitsIn 0 nr_) [.int .i64 x_a, .int .i64 x_b, .int .i64 x_c, .int .i64 y_a, .int .i64 y_b, .int .i64 y_c] kk_ ↔ kk_ (.bool (fitsIn (⟨x_a, x_b, x_c⟩ : T3) (⟨y_a, y_b, y_c⟩ : T3))) :=
  P1_callF (by unfold F_FitsIn; exact mkF_eq F_FitsIn_inj ((⟨x_a, x_b, x_c⟩ : T3), (⟨y_a, y_b, y_c⟩ : T3)) trivial)

def leftOver (x y : T3) : Int := if fitsIn x y then IntKind.i64.wrap (IntKind.i64.wrap (IntKind.i64.wrap (y.a * y.b) * y.c) - IntKind.i64.wrap (IntKind.i64.wrap (x.a * x.b) * x.c)) else -1
def E_LeftOver : T3 × T3 → List V := fun (x, y) => [.int .i64 x.a, .int .i64 x.b, .int .i64 x.c, .int .i64 y.a, .int .i64 y.b, .int .i64 y.c]
noncomputable def F_LeftOver : List V → Option (List V) := mkF E_LeftOver (fun (_, _) => True) (fun (x, y) => [.int .i64 (leftOver x y)])
theorem F_LeftOver_inj : ∀ x y, E_LeftOver x = E_LeftOver y → x = y := by
  rintro ⟨⟨xa, xb, xc⟩, ⟨ya, yb, yc⟩⟩ ⟨⟨xa', xb', xc'⟩, ⟨ya', yb', yc'⟩⟩ h
  simpa [E_LeftOver, and_assoc] using h
theorem F_LeftOver_elim {P : List V → List V → Prop} (h : ∀ (x : T3) (y : T3), P [.int .i64 x.a, .int .i64 x.b, .int .i64 x.c, .int .i64 y.a, .int .i64 y.b, .int .i64 y.c] [.int .i64 (leftOver x y)]) : ∀ ds outs, F_LeftOver ds = some outs → P ds outs := by
  intro ds outs hh
  obtain ⟨⟨x, y⟩, rfl, -, rfl⟩ := mkF_inv hh
  exact h x y
@[simp] theorem p_LeftOver {x_a : Int} {x_b : Int} {x_c : Int} {y_a : Int} {y_b : Int} {y_c : Int} {nr_ : Nat} {kk_ : V → Prop} : P1 (.call F_LeftOver 0 nr_) [.int .i64 x_a, .int .i64 x_b, .int .i64 x_c, .int .i64 y_a, .int .i64 y_b, .int .i64 y_c] kk_ ↔ kk_ (.int .i64 (leftOver (⟨x_a, x_b, x_c⟩ : T3) (⟨y_a, y_b, y_c⟩ : T3))) :=
  P1_callF (by unfold F_LeftOver; exact mkF_eq F_LeftOver_inj ((⟨x_a, x_b, x_c⟩ : T3), (⟨y_a, y_b, y_c⟩ : T3)) trivial)


/-! lists of pairs -/
def E_szPieceS : List T2 × Int → List V := fun (l, n) => [vL I2 v2 l, .int .i64 n]
noncomputable def F_szPieceS : List V → Option (List V) := mkF E_szPieceS (fun (l, n) => l.length ≤ 9223372036854775807 ∧ 0 ≤ n ∧ n ≤ 1048576) (fun (l, n) => [.int .i64 (if (l.length : Int) ≤ n then n - l.length else -1)])
theorem F_szPieceS_inj : ∀ x y, E_szPieceS x = E_szPieceS y → x = y := by
  rintro ⟨l, n⟩ ⟨l', n'⟩ h
  simpa [E_szPieceS] using h
theorem F_szPieceS_elim {P : List V → List V → Prop} (h : ∀ (l : List T2) (n : Int), (l.length ≤ 9223372036854775807 ∧ 0 ≤ n ∧ n ≤ 1048576) → P [vL I2 v2 l, .int .i64 n] [.int .i64 (if (l.length : Int) ≤ n then n - l.length else -1)]) : ∀ ds outs, F_szPieceS ds = some outs → P ds outs := by
  intro ds outs hh
  obtain ⟨⟨l, n⟩, rfl, hp, rfl⟩ := mkF_inv hh
  exact h l n hp
theorem p_szPieceS {l : List T2} {n : Int} {nr_ : Nat} {kk_ : V → Prop} (hp : l.length ≤ 9223372036854775807 ∧ 0 ≤ n ∧ n ≤ 1048576) : P1 (.call F_szPieceS 0 nr_) [vL I2 v2 l, .int .i64 n] kk_ ↔ kk_ (.int .i64 (if (l.length : Int) ≤ n then n - l.length else -1)) :=
  P1_callF (by unfold F_szPieceS; exact mkF_eq F_szPieceS_inj (l, n) hp)

def E_toPiece (x : T2) : List V := [.int .i64 x.a, .int .i64 x.b]
noncomputable def F_toPiece : List V → Option (List V) := mkF E_toPiece (fun _ => True) (fun x => [.int .i64 x.a, .int .i64 x.b])
theorem F_toPiece_inj : ∀ x y, E_toPiece x = E_toPiece y → x = y := by
  rintro ⟨xa, xb⟩ ⟨xa', xb'⟩ h
  simpa [E_toPiece] using h
theorem F_toPiece_elim {P : List V → List V → Prop} (h : ∀ (x : T2), P [.int .i64 x.a, .int .i64 x.b] [.int .i64 x.a, .int .i64 x.b]) : ∀ ds outs, F_toPiece ds = some outs → P ds outs := by
  intro ds outs hh
  obtain ⟨x, rfl, -, rfl⟩ := mkF_inv hh
  exact h x
@[simp] theorem p_toPiece {x_a : Int} {x_b : Int} {nr_ : Nat} {kk_ : V → V → Prop} : P2 (.call F_toPiece 0 nr_) [.int .i64 x_a, .int .i64 x_b] kk_ ↔ kk_ (.int .i64 ((⟨x_a, x_b⟩ : T2)).a) (.int .i64 ((⟨x_a, x_b⟩ : T2)).b) :=
  P2_callF (by unfold F_toPiece; exact mkF_eq F_toPiece_inj ((⟨x_a, x_b⟩ : T2)) trivial)

def E_toPieceS (l : List T2) : List V := [vL I2 v2 l]
noncomputable def F_toPieceS : List V → Option (List V) := mkF E_toPieceS (fun l => l.length ≤ 1048576) (fun l => [vL I2 v2 l])
theorem F_toPieceS_inj : ∀ x y, E_toPieceS x = E_toPieceS y → x = y := by
  rintro l l' h
  simpa [E_toPieceS] using h
theorem F_toPieceS_elim {P : List V → List V → Prop} (h : ∀ (l : List T2), (l.length ≤ 1048576) → P [vL I2 v2 l] [vL I2 v2 l]) : ∀ ds outs, F_toPieceS ds = some outs → P ds outs := by
  intro ds outs hh
  obtain ⟨l, rfl, hp, rfl⟩ := mkF_inv hh
  exact h l hp
theorem p_toPieceS {l : List T2} {nr_ : Nat} {kk_ : V → Prop} (hp : l.length ≤ 1048576) : P1 (.call F_toPieceS 0 nr_) [vL I2 v2 l] kk_ ↔ kk_ (vL I2 v2 l) :=
  P1_callF (by unfold F_toPieceS; exact mkF_eq F_toPieceS_inj (l) hp)

def pieceOk (p : T2) : Bool := within p.a 1 600 && within p.b 0 9
def piecesOk (l : List T2) : Bool := decide (l.length ≤ 9) && l.all pieceOk
def E_PiecesOk (l : List T2) : List V := [vL I2 v2 l]
noncomputable def F_PiecesOk : List V → Option (List V) := mkF E_PiecesOk (fun l => l.length ≤ 1048576) (fun l => [.bool (piecesOk l)])
theorem F_PiecesOk_inj : ∀ x y, E_PiecesOk x = E_PiecesOk y → x = y := by
  rintro l l' h
  simpa [E_PiecesOk] using h
theorem F_PiecesOk_elim {P : List V → List V → Prop} (h : ∀ (l : List T2), (l.length ≤ 1048576) → P [vL I2 v2 l] [.bool (piecesOk l)]) : ∀ ds outs, F_PiecesOk ds = some outs → P ds outs := by
  intro ds outs hh
  obtain ⟨l, rfl, hp, rfl⟩ := mkF_inv hh
  exact h l hp
theorem p_PiecesOk {l : List T2} {nr_ : Nat} {kk_ : V → Prop} (hp : l.length ≤ 1048576) : P1 (.call F_PiecesOk 0 nr_) [vL I2 v2 l] kk_ ↔ kk_ (.bool (piecesOk l)) :=
  P1_callF (by unfold F_PiecesOk; exact mkF_eq F_PiecesOk_inj (l) hp)

def E_eqPiece : T2 × T2 → List V := fun (x, y) => [.int .i64 x.a, .int .i64 x.b, .int .i64 y.a, .int .i64 y.b]
noncomputable def F_eqPiece : List V → Option (List V) := mkF E_eqPiece (fun (_, _) => True) (fun (x, y) => [.bool (decide (x = y))])
theorem F_eqPiece_inj : ∀ x y, E_eqPiece x = E_eqPiece y → x = y := by
  rintro ⟨⟨xa, xb⟩, ⟨ya, yb⟩⟩ ⟨⟨xa', xb'⟩, ⟨ya', yb'⟩⟩ h
  simpa [E_eqPiece, and_assoc] using h
theorem F_eqPiece_elim {P : List V → List V → Prop} (h : ∀ (x : T2) (y : T2), P [.int .i64 x.a, .int .i64 x.b, .int .i64 y.a, .int .i64 y.b] [.bool (decide (x = y))]) : ∀ ds outs, F_eqPiece ds = some outs → P ds outs := by
  intro ds outs hh
  obtain ⟨⟨x, y⟩, rfl, -, rfl⟩ := mkF_inv hh
  exact h x y
@[simp] theorem p_eqPiece {x_a : Int} {x_b : Int} {y_a : Int} {y_b : Int} {nr_ : Nat} {kk_ : V → Prop} : P1 (.call F_eqPiece 0 nr_) [.int .i64 x_a, .int .i64 x_b, .int .i64 y_a, .int .i64 y_b] kk_ ↔ kk_ (.bool (decide ((⟨x_a, x_b⟩ : T2) = (⟨y_a, y_b⟩ : T2)))) :=
  P1_callF (by unfold F_eqPiece; exact mkF_eq F_eqPiece_inj ((⟨x_a, x_b⟩ : T2), (⟨y_a, y_b⟩ : T2)) trivial)

def E_eqPieceS : List T2 × List T2 → List V := fun (l, m) => [vL I2 v2 l, vL I2 v2 m]
noncomputable def F_eqPieceS : List V → Option (List V) := mkF E_eqPieceS (fun (l, m) => l.length ≤ 1048576 ∧ m.length ≤ 1048576) (fun (l, m) => [.bool (decide (l = m))])
theorem F_eqPieceS_inj : ∀ x y, E_eqPieceS x = E_eqPieceS y → x = y := by
  rintro ⟨l, m⟩ ⟨l', m'⟩ h
  simpa [E_eqPieceS] using h
theorem F_eqPieceS_elim {P : List V → List V → Prop} (h : ∀ (l : List T2) (m : List T2), (l.length ≤ 1048576 ∧ m.length ≤ 1048576) → P [vL I2 v2 l, vL I2 v2 m] [.bool (decide (l = m))]) : ∀ ds outs, F_eqPieceS ds = some outs → P ds outs := by
  intro ds outs hh
  obtain ⟨⟨l, m⟩, rfl, hp, rfl⟩ := mkF_inv hh
  exact h l m hp
theorem p_eqPieceS {l : List T2} {m : List T2} {nr_ : Nat} {kk_ : V → Prop} (hp : l.length ≤ 1048576 ∧ m.length ≤ 1048576) : P1 (.call F_eqPieceS 0 nr_) [vL I2 v2 l, vL I2 v2 m] kk_ ↔ kk_ (.bool (decide (l = m))) :=
  P1_callF (by unfold F_eqPieceS; exact mkF_eq F_eqPieceS_inj (l, m) hp)


def E_FnExactBoxOk (x : T3) : List V := [.int .i64 x.a, .int .i64 x.b, .int .i64 x.c]
noncomputable def F_FnExactBoxOk : List V → Option (List V) := mkF E_FnExactBoxOk (fun x => wfI x.a ∧ wfI x.b ∧ wfI x.c) (fun _ => [.bool true])
theorem F_FnExactBoxOk_inj : ∀ x y, E_FnExactBoxOk x = E_FnExactBoxOk y → x = y := by
  rintro ⟨xa, xb, xc⟩ ⟨xa', xb', xc'⟩ h
  simpa [E_FnExactBoxOk] using h
theorem F_FnExactBoxOk_elim {P : List V → List V → Prop} (h : ∀ (x : T3), (wfI x.a ∧ wfI x.b ∧ wfI x.c) → P [.int .i64 x.a, .int .i64 x.b, .int .i64 x.c] [.bool true]) : ∀ ds outs, F_FnExactBoxOk ds = some outs → P ds outs := by
  intro ds outs hh
  obtain ⟨x, rfl, hp, rfl⟩ := mkF_inv hh
  exact h x hp
theorem p_FnExactBoxOk {x_a : Int} {x_b : Int} {x_c : Int} {nr_ : Nat} {kk_ : V → Prop} (hp : wfI (⟨x_a, x_b, x_c⟩ : T3).a ∧ wfI (⟨x_a, x_b, x_c⟩ : T3).b ∧ wfI (⟨x_a, x_b, x_c⟩ : T3).c) : P1 (.call F_FnExactBoxOk 0 nr_) [.int .i64 x_a, .int .i64 x_b, .int .i64 x_c] kk_ ↔ kk_ (.bool true) :=
  P1_callF (by unfold F_FnExactBoxOk; exact mkF_eq F_FnExactBoxOk_inj ((⟨x_a, x_b, x_c⟩ : T3)) hp)
theorem F_FnExactBoxOk_law : ∀ ds, okTKs [.int .i64, .int .i64, .int .i64] ds → F_FnExactBoxOk ds = some [.bool true] := by
  intro ds g0
  obtain ⟨_, _, rfl, h0, g1⟩ := okTKs_cons g0
  obtain ⟨x_a, rfl, r0⟩ := dec_I h0
  obtain ⟨_, _, rfl, h1, g2⟩ := okTKs_cons g1
  obtain ⟨x_b, rfl, r1⟩ := dec_I h1
  obtain ⟨_, _, rfl, h2, g3⟩ := okTKs_cons g2
  obtain ⟨x_c, rfl, r2⟩ := dec_I h2
  obtain rfl := okTKs_nil g3
  exact mkF_eq F_FnExactBoxOk_inj ((⟨x_a, x_b, x_c⟩ : T3)) ⟨r0, r1, r2⟩

def E_FnExactActOk (x : T3) : List V := [.int .i64 x.a, .int .i64 x.b, .int .i64 x.c]
noncomputable def F_FnExactActOk : List V → Option (List V) := mkF E_FnExactActOk (fun x => wfI x.a ∧ wfI x.b ∧ wfI x.c) (fun _ => [.bool true])
theorem F_FnExactActOk_inj : ∀ x y, E_FnExactActOk x = E_FnExactActOk y → x = y := by
  rintro ⟨xa, xb, xc⟩ ⟨xa', xb', xc'⟩ h
  simpa [E_FnExactActOk] using h
theorem F_FnExactActOk_elim {P : List V → List V → Prop} (h : ∀ (x : T3), (wfI x.a ∧ wfI x.b ∧ wfI x.c) → P [.int .i64 x.a, .int .i64 x.b, .int .i64 x.c] [.bool true]) : ∀ ds outs, F_FnExactActOk ds = some outs → P ds outs := by
  intro ds outs hh
  obtain ⟨x, rfl, hp, rfl⟩ := mkF_inv hh
  exact h x hp
theorem p_FnExactActOk {x_a : Int} {x_b : Int} {x_c : Int} {nr_ : Nat} {kk_ : V → Prop} (hp : wfI (⟨x_a, x_b, x_c⟩ : T3).a ∧ wfI (⟨x_a, x_b, x_c⟩ : T3).b ∧ wfI (⟨x_a, x_b, x_c⟩ : T3).c) : P1 (.call F_FnExactActOk 0 nr_) [.int .i64 x_a, .int .i64 x_b, .int .i64 x_c] kk_ ↔ kk_ (.bool true) :=
  P1_callF (by unfold F_FnExactActOk; exact mkF_eq F_FnExactActOk_inj ((⟨x_a, x_b, x_c⟩ : T3)) hp)
theorem F_FnExactActOk_law : ∀ ds, okTKs [.int .i64, .int .i64, .int .i64] ds → F_FnExactActOk ds = some [.bool true] := by
  intro ds g0
  obtain ⟨_, _, rfl, h0, g1⟩ := okTKs_cons g0
  obtain ⟨x_a, rfl, r0⟩ := dec_I h0
  obtain ⟨_, _, rfl, h1, g2⟩ := okTKs_cons g1
  obtain ⟨x_b, rfl, r1⟩ := dec_I h1
  obtain ⟨_, _, rfl, h2, g3⟩ := okTKs_cons g2
  obtain ⟨x_c, rfl, r2⟩ := dec_I h2
  obtain rfl := okTKs_nil g3
  exact mkF_eq F_FnExactActOk_inj ((⟨x_a, x_b, x_c⟩ : T3)) ⟨r0, r1, r2⟩

def E_FnExactSortedBox (x : T3) : List V := [.int .i64 x.a, .int .i64 x.b, .int .i64 x.c]
noncomputable def F_FnExactSortedBox : List V → Option (List V) := mkF E_FnExactSortedBox (fun x => wfI x.a ∧ wfI x.b ∧ wfI x.c) (fun _ => [.bool true])
theorem F_FnExactSortedBox_inj : ∀ x y, E_FnExactSortedBox x = E_FnExactSortedBox y → x = y := by
  rintro ⟨xa, xb, xc⟩ ⟨xa', xb', xc'⟩ h
  simpa [E_FnExactSortedBox] using h
theorem F_FnExactSortedBox_elim {P : List V → List V → Prop} (h : ∀ (x : T3), (wfI x.a ∧ wfI x.b ∧ wfI x.c) → P [.int .i64 x.a, .int .i64 x.b, .int .i64 x.c] [.bool true]) : ∀ ds outs, F_FnExactSortedBox ds = some outs → P ds outs := by
  intro ds outs hh
  obtain ⟨x, rfl, hp, rfl⟩ := mkF_inv hh
  exact h x hp
theorem p_FnExactSortedBox {x_a : Int} {x_b : Int} {x_c : Int} {nr_ : Nat} {kk_ : V → Prop} (hp : wfI (⟨x_a, x_b, x_c⟩ : T3).a ∧ wfI (⟨x_a, x_b, x_c⟩ : T3).b ∧ wfI (⟨x_a, x_b, x_c⟩ : T3).c) : P1 (.call F_FnExactSortedBox 0 nr_) [.int .i64 x_a, .int .i64 x_b, .int .i64 x_c] kk_ ↔ kk_ (.bool true) :=
  P1_callF (by unfold F_FnExactSortedBox; exact mkF_eq F_FnExactSortedBox_inj ((⟨x_a, x_b, x_c⟩ : T3)) hp)
theorem F_FnExactSortedBox_law : ∀ ds, okTKs [.int .i64, .int .i64, .int .i64] ds → F_FnExactSortedBox ds = some [.bool true] := by
  intro ds g0
  obtain ⟨_, _, rfl, h0, g1⟩ := okTKs_cons g0
  obtain ⟨x_a, rfl, r0⟩ := dec_I h0
  obtain ⟨_, _, rfl, h1, g2⟩ := okTKs_cons g1
  obtain ⟨x_b, rfl, r1⟩ := dec_I h1
  obtain ⟨_, _, rfl, h2, g3⟩ := okTKs_cons g2
  obtain ⟨x_c, rfl, r2⟩ := dec_I h2
  obtain rfl := okTKs_nil g3
  exact mkF_eq F_FnExactSortedBox_inj ((⟨x_a, x_b, x_c⟩ : T3)) ⟨r0, r1, r2⟩

def E_FnExactFitsIn : T3 × T3 → List V := fun (x, y) => [.int .i64 x.a, .int .i64 x.b, .int .i64 x.c, .int .i64 y.a, .int .i64 y.b, .int .i64 y.c]
noncomputable def F_FnExactFitsIn : List V → Option (List V) := mkF E_FnExactFitsIn (fun (x, y) => wfI x.a ∧ wfI x.b ∧ wfI x.c ∧ wfI y.a ∧ wfI y.b ∧ wfI y.c) (fun (_, _) => [.bool true])
theorem F_FnExactFitsIn_inj : ∀ x y, E_FnExactFitsIn x = E_FnExactFitsIn y → x = y := by
  rintro ⟨⟨xa, xb, xc⟩, ⟨ya, yb, yc⟩⟩ ⟨⟨xa', xb', xc'⟩, ⟨ya', yb', yc'⟩⟩ h
  simpa [E_FnExactFitsIn, and_assoc] using h
theorem F_FnExactFitsIn_elim {P : List V → List V → Prop} (h : ∀ (x : T3) (y : T3), (wfI x.a ∧ wfI x.b ∧ wfI x.c ∧ wfI y.a ∧ wfI y.b ∧ wfI y.c) → P [.int .i64 x.a, .int .i64 x.b, .int .i64 x.c, .int .i64 y.a, .int .i64 y.b, .int .i64 y.c] [.bool true]) : ∀ ds outs, F_FnExactFitsIn ds = some outs → P ds outs := by
  intro ds outs hh
  obtain ⟨⟨x, y⟩, rfl, hp, rfl⟩ := mkF_inv hh
  exact h x y hp
theorem p_FnExactFitsIn {x_a : Int} {x_b : Int} {x_c : Int} {y_a : Int} {y_b : Int} {y_c : Int} {nr_ : Nat} {kk_ : V → Prop} (hp : wfI (⟨x_a, x_b, x_c⟩ : T3).a ∧ wfI (⟨x_a, x_b, x_c⟩ : T3).b ∧ wfI (⟨x_a, x_b, x_c⟩ : T3).c ∧ wfI (⟨y_a, y_b, y_c⟩ : T3).a ∧ wfI (⟨y_a, y_b, y_c⟩ : T3).b ∧ wfI (⟨y_a, y_b, y_c⟩ : T3).c) : P1 (.call F_FnExactFitsIn 0 nr_) [.int .i64 x_a, .int .i64 x_b, .int .i64 x_c, .int .i64 y_a, .int .i64 y_b, .int .i64 y_c] kk_ ↔ kk_ (.bool true) :=
  P1_callF (by unfold F_FnExactFitsIn; exact mkF_eq F_FnExactFitsIn_inj ((⟨x_a, x_b, x_c⟩ : T3), (⟨y_a, y_b, y_c⟩ : T3)) hp)
theorem F_FnExactFitsIn_law : ∀ ds, okTKs [.int .i64, .int .i64, .int .i64, .int .i64, .int .i64, .int .i64] ds → F_FnExactFitsIn ds = some [.bool true] := by
  intro ds g0
  obtain ⟨_, _, rfl, h0, g1⟩ := okTKs_cons g0
  obtain ⟨x_a, rfl, r0⟩ := dec_I h0
  obtain ⟨_, _, rfl, h1, g2⟩ := okTKs_cons g1
  obtain ⟨x_b, rfl, r1⟩ := dec_I h1
  obtain ⟨_, _, rfl, h2, g3⟩ := okTKs_cons g2
  obtain ⟨x_c, rfl, r2⟩ := dec_I h2
  obtain ⟨_, _, rfl, h3, g4⟩ := okTKs_cons g3
  obtain ⟨y_a, rfl, r3⟩ := dec_I h3
  obtain ⟨_, _, rfl, h4, g5⟩ := okTKs_cons g4
  obtain ⟨y_b, rfl, r4⟩ := dec_I h4
  obtain ⟨_, _, rfl, h5, g6⟩ := okTKs_cons g5
  obtain ⟨y_c, rfl, r5⟩ := dec_I h5
  obtain rfl := okTKs_nil g6
  exact mkF_eq F_FnExactFitsIn_inj ((⟨x_a, x_b, x_c⟩ : T3), (⟨y_a, y_b, y_c⟩ : T3)) ⟨r0, r1, r2, r3, r4, r5⟩

def E_FnExactLeftOver : T3 × T3 → List V := fun (x, y) => [.int .i64 x.a, .int .i64 x.b, .int .i64 x.c, .int .i64 y.a, .int .i64 y.b, .int .i64 y.c]
noncomputable def F_FnExactLeftOver : List V → Option (List V) := mkF E_FnExactLeftOver (fun (x, y) => wfI x.a ∧ wfI x.b ∧ wfI x.c ∧ wfI y.a ∧ wfI y.b ∧ wfI y.c) (fun (_, _) => [.bool true])
theorem F_FnExactLeftOver_inj : ∀ x y, E_FnExactLeftOver x = E_FnExactLeftOver y → x = y := by
  rintro ⟨⟨xa, xb, xc⟩, ⟨ya, yb, yc⟩⟩ ⟨⟨xa', xb', xc'⟩, ⟨ya', yb', yc'⟩⟩ h
  simpa [E_FnExactLeftOver, and_assoc] using h
theorem F_FnExactLeftOver_elim {P : List V → List V → Prop} (h : ∀ (x : T3) (y : T3), (wfI x.a ∧ wfI x.b ∧ wfI x.c ∧ wfI y.a ∧ wfI y.b ∧ wfI y.c) → P [.int .i64 x.a, .int .i64 x.b, .int .i64 x.c, .int .i64 y.a, .int .i64 y.b, .int .i64 y.c] [.bool true]) : ∀ ds outs, F_FnExactLeftOver ds = some outs → P ds outs := by
  intro ds outs hh
  obtain ⟨⟨x, y⟩, rfl, hp, rfl⟩ := mkF_inv hh
  exact h x y hp
theorem p_FnExactLeftOver {x_a : Int} {x_b : Int} {x_c : Int} {y_a : Int} {y_b : Int} {y_c : Int} {nr_ : Nat} {kk_ : V → Prop} (hp : wfI (⟨x_a, x_b, x_c⟩ : T3).a ∧ wfI (⟨x_a, x_b, x_c⟩ : T3).b ∧ wfI (⟨x_a, x_b, x_c⟩ : T3).c ∧ wfI (⟨y_a, y_b, y_c⟩ : T3).a ∧ wfI (⟨y_a, y_b, y_c⟩ : T3).b ∧ wfI (⟨y_a, y_b, y_c⟩ : T3).c) : P1 (.call F_FnExactLeftOver 0 nr_) [.int .i64 x_a, .int .i64 x_b, .int .i64 x_c, .int .i64 y_a, .int .i64 y_b, .int .i64 y_c] kk_ ↔ kk_ (.bool true) :=
  P1_callF (by unfold F_FnExactLeftOver; exact mkF_eq F_FnExactLeftOver_inj ((⟨x_a, x_b, x_c⟩ : T3), (⟨y_a, y_b, y_c⟩ : T3)) hp)
theorem F_FnExactLeftOver_law : ∀ ds, okTKs [.int .i64, .int .i64, .int .i64, .int .i64, .int .i64, .int .i64] ds → F_FnExactLeftOver ds = some [.bool true] := by
  intro ds g0
  obtain ⟨_, _, rfl, h0, g1⟩ := okTKs_cons g0
  obtain ⟨x_a, rfl, r0⟩ := dec_I h0
  obtain ⟨_, _, rfl, h1, g2⟩ := okTKs_cons g1
  obtain ⟨x_b, rfl, r1⟩ := dec_I h1
  obtain ⟨_, _, rfl, h2, g3⟩ := okTKs_cons g2
  obtain ⟨x_c, rfl, r2⟩ := dec_I h2
  obtain ⟨_, _, rfl, h3, g4⟩ := okTKs_cons g3
  obtain ⟨y_a, rfl, r3⟩ := dec_I h3
  obtain ⟨_, _, rfl, h4, g5⟩ := okTKs_cons g4
  obtain ⟨y_b, rfl, r4⟩ := dec_I h4
  obtain ⟨_, _, rfl, h5, g6⟩ := okTKs_cons g5
  obtain ⟨y_c, rfl, r5⟩ := dec_I h5
  obtain rfl := okTKs_nil g6
  exact mkF_eq F_FnExactLeftOver_inj ((⟨x_a, x_b, x_c⟩ : T3), (⟨y_a, y_b, y_c⟩ : T3)) ⟨r0, r1, r2, r3, r4, r5⟩

def E_FnExactPiecesOk (l : List T2) : List V := [vL I2 v2 l]
noncomputable def F_FnExactPiecesOk : List V → Option (List V) := mkF E_FnExactPiecesOk (fun l => wfL2 l) (fun _ => [.bool true])
theorem F_FnExactPiecesOk_inj : ∀ x y, E_FnExactPiecesOk x = E_FnExactPiecesOk y → x = y := by
  rintro l l' h
  simpa [E_FnExactPiecesOk] using h
theorem F_FnExactPiecesOk_elim {P : List V → List V → Prop} (h : ∀ (l : List T2), (wfL2 l) → P [vL I2 v2 l] [.bool true]) : ∀ ds outs, F_FnExactPiecesOk ds = some outs → P ds outs := by
  intro ds outs hh
  obtain ⟨l, rfl, hp, rfl⟩ := mkF_inv hh
  exact h l hp
theorem p_FnExactPiecesOk {l : List T2} {nr_ : Nat} {kk_ : V → Prop} (hp : wfL2 l) : P1 (.call F_FnExactPiecesOk 0 nr_) [vL I2 v2 l] kk_ ↔ kk_ (.bool true) :=
  P1_callF (by unfold F_FnExactPiecesOk; exact mkF_eq F_FnExactPiecesOk_inj (l) hp)
theorem F_FnExactPiecesOk_law : ∀ ds, okTKs [.list true [.int .i64, .int .i64]] ds → F_FnExactPiecesOk ds = some [.bool true] := by
  intro ds g0
  obtain ⟨_, _, rfl, h0, g1⟩ := okTKs_cons g0
  obtain ⟨l, rfl, r0⟩ := dec_L2 h0
  obtain rfl := okTKs_nil g1
  exact mkF_eq F_FnExactPiecesOk_inj (l) r0


end Go.Mw

/- Functions of the program, as small pure programs (printed by a program of ours). -/
namespace Go.Mw
noncomputable section

def laws_toBox_L : L := .seq (.rg []) (.seq (.rg []) (.seq (.rg []) (.seq (.rg []) (.seq (.rg []) (.seq (.rg []) (.ret [.v 0, .v 1, .v 2]))))))
theorem laws_toBox_L_sh (Q : QT) (x0 x1 x2 : V) : shL laws_toBox_L Q [x0, x1, x2] = (
  Q .ret [x0, x1, x2]) := by kernel_rfl
def laws_toBox_S : Sig := ⟨[.val true [.sc, .sc, .sc]], [(true, [.sc, .sc, .sc])], F_toBox⟩
def laws_toBox_hs : List NF := []

def spec_l01In_L : L := .seq (.rg []) (.seq (.rg [⟨[], .bin .geq, [.v 0, .v 1], 1⟩, ⟨[(.v 3, true)], .bin .leq, [.v 0, .v 2], 1⟩, ⟨[], .pick, [.v 3, .v 4, .k (.bool false)], 1⟩]) (.ret [.v 5]))
theorem spec_l01In_L_sh (Q : QT) (x0 x1 x2 : V) : shL spec_l01In_L Q [x0, x1, x2] = (
  P1 (.bin .geq) [x0, x1] fun v0 =>
  ifB v0 (
    P1 (.bin .leq) [x0, x2] fun v1 =>
    Q .ret [v1]) (
    Q .ret [.bool false])) := by kernel_rfl
def spec_l01In_S : Sig := ⟨[.val false [.sc], .val false [.sc], .val false [.sc]], [(false, [.sc])], F_l01In⟩
def spec_l01In_hs : List NF := []

def spec_BoxOk_L : L := .seq (.rg []) (.seq (.rg [⟨[], .call F_l01In 0 1, [.v 0, .k (.int .i64 1), .k (.int .i64 500)], 1⟩, ⟨[(.v 3, true)], .call F_l01In 0 1, [.v 1, .k (.int .i64 1), .k (.int .i64 500)], 1⟩, ⟨[], .pick, [.v 3, .v 4, .k (.bool false)], 1⟩, ⟨[(.v 5, true)], .call F_l01In 0 1, [.v 2, .k (.int .i64 1), .k (.int .i64 500)], 1⟩, ⟨[], .pick, [.v 5, .v 6, .k (.bool false)], 1⟩]) (.ret [.v 7]))
theorem spec_BoxOk_L_sh (Q : QT) (x0 x1 x2 : V) : shL spec_BoxOk_L Q [x0, x1, x2] = (
  P1 (.call F_l01In 0 1) [x0, .int .i64 1, .int .i64 500] fun v0 =>
  ifB v0 (
    P1 (.call F_l01In 0 1) [x1, .int .i64 1, .int .i64 500] fun v1 =>
    ifB v1 (
      P1 (.call F_l01In 0 1) [x2, .int .i64 1, .int .i64 500] fun v2 =>
      Q .ret [v2]) (
      Q .ret [.bool false])) (
    Q .ret [.bool false])) := by kernel_rfl
def spec_BoxOk_S : Sig := ⟨[.val true [.sc, .sc, .sc]], [(false, [.sc])], F_BoxOk⟩
def spec_BoxOk_hs : List NF := []

def impl_within_L : L := .seq (.rg []) (.seq (.rg [⟨[], .bin .geq, [.v 0, .v 1], 1⟩, ⟨[(.v 3, true)], .bin .leq, [.v 0, .v 2], 1⟩, ⟨[], .pick, [.v 3, .v 4, .k (.bool false)], 1⟩]) (.ret [.v 5]))
theorem impl_within_L_sh (Q : QT) (x0 x1 x2 : V) : shL impl_within_L Q [x0, x1, x2] = (
  P1 (.bin .geq) [x0, x1] fun v0 =>
  ifB v0 (
    P1 (.bin .leq) [x0, x2] fun v1 =>
    Q .ret [v1]) (
    Q .ret [.bool false])) := by kernel_rfl
def impl_within_S : Sig := ⟨[.val false [.sc], .val false [.sc], .val false [.sc]], [(false, [.sc])], F_within⟩
def impl_within_hs : List NF := []

def impl_BoxOk_L : L := .seq (.rg []) (.seq (.rg [⟨[], .call F_within 0 1, [.v 0, .k (.int .i64 1), .k (.int .i64 500)], 1⟩, ⟨[(.v 3, true)], .call F_within 0 1, [.v 1, .k (.int .i64 1), .k (.int .i64 500)], 1⟩, ⟨[], .pick, [.v 3, .v 4, .k (.bool false)], 1⟩, ⟨[(.v 5, true)], .call F_within 0 1, [.v 2, .k (.int .i64 1), .k (.int .i64 500)], 1⟩, ⟨[], .pick, [.v 5, .v 6, .k (.bool false)], 1⟩]) (.ret [.v 7]))
theorem impl_BoxOk_L_sh (Q : QT) (x0 x1 x2 : V) : shL impl_BoxOk_L Q [x0, x1, x2] = (
  P1 (.call F_within 0 1) [x0, .int .i64 1, .int .i64 500] fun v0 =>
  ifB v0 (
    P1 (.call F_within 0 1) [x1, .int .i64 1, .int .i64 500] fun v1 =>
    ifB v1 (
      P1 (.call F_within 0 1) [x2, .int .i64 1, .int .i64 500] fun v2 =>
      Q .ret [v2]) (
      Q .ret [.bool false])) (
    Q .ret [.bool false])) := by kernel_rfl
def impl_BoxOk_S : Sig := ⟨[.val true [.sc, .sc, .sc]], [(false, [.sc])], F_BoxOk⟩
def impl_BoxOk_hs : List NF := []

def laws_FnExactBoxOk_L : L := .seq (.rg []) (.seq (.rg [⟨[], .call F_toBox 0 3, [.v 0, .v 1, .v 2], 3⟩, ⟨[], .call F_BoxOk 0 1, [.v 3, .v 4, .v 5], 1⟩]) (.seq (.rg [⟨[], .call F_toBox 0 3, [.v 0, .v 1, .v 2], 3⟩, ⟨[], .call F_BoxOk 0 1, [.v 7, .v 8, .v 9], 1⟩]) (.seq (.seq (.rg [⟨[], .binb .neq, [.v 10, .v 6], 1⟩]) (.ite (.v 11) (.seq (.rg []) (.ret [.k (.bool false)])) (.skip))) (.seq (.rg []) (.ret [.k (.bool true)])))))
theorem laws_FnExactBoxOk_L_sh (Q : QT) (x0 x1 x2 : V) : shL laws_FnExactBoxOk_L Q [x0, x1, x2] = (
  P3 (.call F_toBox 0 3) [x0, x1, x2] fun v0 v1 v2 =>
  P1 (.call F_BoxOk 0 1) [v0, v1, v2] fun v3 =>
  P3 (.call F_toBox 0 3) [x0, x1, x2] fun v4 v5 v6 =>
  P1 (.call F_BoxOk 0 1) [v4, v5, v6] fun v7 =>
  P1 (.binb .neq) [v7, v3] fun v8 =>
  ifB v8 (
    Q .ret [.bool false]) (
    Q .ret [.bool true])) := by kernel_rfl
def laws_FnExactBoxOk_S : Sig := ⟨[.val true [.sc, .sc, .sc]], [(false, [.sc])], F_FnExactBoxOk⟩
def laws_FnExactBoxOk_hs : List NF := []

def laws_toAct_L : L := .seq (.rg []) (.seq (.rg []) (.seq (.rg []) (.seq (.rg []) (.seq (.rg []) (.seq (.rg []) (.ret [.v 0, .v 1, .v 2]))))))
theorem laws_toAct_L_sh (Q : QT) (x0 x1 x2 : V) : shL laws_toAct_L Q [x0, x1, x2] = (
  Q .ret [x0, x1, x2]) := by kernel_rfl
def laws_toAct_S : Sig := ⟨[.val true [.sc, .sc, .sc]], [(true, [.sc, .sc, .sc])], F_toAct⟩
def laws_toAct_hs : List NF := []

def spec_ActOk_L : L := .seq (.rg []) (.seq (.seq (.rg []) (.block 0 (.seq (.seq (.rg [⟨[], .bin .eql, [.v 0, .k (.int .i64 1)], 1⟩]) (.ite (.v 3) (.seq (.rg [⟨[], .call F_l01In 0 1, [.v 1, .k (.int .i64 0), .k (.int .i64 99)], 1⟩, ⟨[(.v 4, true)], .call F_l01In 0 1, [.v 2, .k (.int .i64 0), .k (.int .i64 95)], 1⟩, ⟨[], .pick, [.v 4, .v 5, .k (.bool false)], 1⟩]) (.ret [.v 6])) (.seq (.rg [⟨[], .bin .eql, [.v 0, .k (.int .i64 2)], 1⟩]) (.ite (.v 4) (.seq (.rg [⟨[], .call F_l01In 0 1, [.v 1, .k (.int .i64 0), .k (.int .i64 99)], 1⟩, ⟨[(.v 5, true)], .bin .eql, [.v 2, .k (.int .i64 0)], 1⟩, ⟨[], .pick, [.v 5, .v 6, .k (.bool false)], 1⟩]) (.ret [.v 7])) (.seq (.rg [⟨[], .bin .eql, [.v 0, .k (.int .i64 4)], 1⟩]) (.ite (.v 5) (.seq (.rg [⟨[], .call F_l01In 0 1, [.v 1, .k (.int .i64 0), .k (.int .i64 100)], 1⟩, ⟨[(.v 6, true)], .bin .eql, [.v 2, .k (.int .i64 0)], 1⟩, ⟨[], .pick, [.v 6, .v 7, .k (.bool false)], 1⟩]) (.ret [.v 8])) (.seq (.seq (.rg [⟨[], .bin .eql, [.v 0, .k (.int .i64 3)], 1⟩]) (.ite (.v 6) (.seq (.skip) (.tup [.v 6, .v 0, .v 1, .v 2])) (.seq (.seq (.rg [⟨[], .bin .eql, [.v 0, .k (.int .i64 5)], 1⟩]) (.ite (.v 7) (.seq (.skip) (.tup [.v 7, .v 0, .v 1, .v 2])) (.seq (.rg [⟨[], .bin .eql, [.v 0, .k (.int .i64 6)], 1⟩]) (.tup [.v 8, .v 0, .v 1, .v 2])))) (.tup [.v 0, .v 1, .v 2, .v 3])))) (.ite (.v 0) (.seq (.rg [⟨[], .bin .eql, [.v 2, .k (.int .i64 0)], 1⟩, ⟨[(.v 4, true)], .bin .eql, [.v 3, .k (.int .i64 0)], 1⟩, ⟨[], .pick, [.v 4, .v 5, .k (.bool false)], 1⟩]) (.ret [.v 6])) (.skip))))))))) (.tup [])))) (.seq (.rg []) (.ret [.k (.bool false)])))
theorem spec_ActOk_L_sh (Q : QT) (x0 x1 x2 : V) : shL spec_ActOk_L Q [x0, x1, x2] = (
  P1 (.bin .eql) [x0, .int .i64 1] fun v0 =>
  ifB v0 (
    P1 (.call F_l01In 0 1) [x1, .int .i64 0, .int .i64 99] fun v1 =>
    ifB v1 (
      P1 (.call F_l01In 0 1) [x2, .int .i64 0, .int .i64 95] fun v2 =>
      Q .ret [v2]) (
      Q .ret [.bool false])) (
    P1 (.bin .eql) [x0, .int .i64 2] fun v3 =>
    ifB v3 (
      P1 (.call F_l01In 0 1) [x1, .int .i64 0, .int .i64 99] fun v4 =>
      ifB v4 (
        P1 (.bin .eql) [x2, .int .i64 0] fun v5 =>
        Q .ret [v5]) (
        Q .ret [.bool false])) (
      P1 (.bin .eql) [x0, .int .i64 4] fun v6 =>
      ifB v6 (
        P1 (.call F_l01In 0 1) [x1, .int .i64 0, .int .i64 100] fun v7 =>
        ifB v7 (
          P1 (.bin .eql) [x2, .int .i64 0] fun v8 =>
          Q .ret [v8]) (
          Q .ret [.bool false])) (
        P1 (.bin .eql) [x0, .int .i64 3] fun v9 =>
        ifB v9 (
          P1 (.bin .eql) [x1, .int .i64 0] fun v10 =>
          ifB v10 (
            P1 (.bin .eql) [x2, .int .i64 0] fun v11 =>
            Q .ret [v11]) (
            Q .ret [.bool false])) (
          P1 (.bin .eql) [x0, .int .i64 5] fun v12 =>
          ifB v12 (
            P1 (.bin .eql) [x1, .int .i64 0] fun v13 =>
            ifB v13 (
              P1 (.bin .eql) [x2, .int .i64 0] fun v14 =>
              Q .ret [v14]) (
              Q .ret [.bool false])) (
            P1 (.bin .eql) [x0, .int .i64 6] fun v15 =>
            ifB v15 (
              P1 (.bin .eql) [x1, .int .i64 0] fun v16 =>
              ifB v16 (
                P1 (.bin .eql) [x2, .int .i64 0] fun v17 =>
                Q .ret [v17]) (
                Q .ret [.bool false])) (
              Q .ret [.bool false]))))))) := by kernel_rfl
def spec_ActOk_S : Sig := ⟨[.val true [.sc, .sc, .sc]], [(false, [.sc])], F_ActOk⟩
def spec_ActOk_hs : List NF := [⟨[], [], [], 64⟩, ⟨[(1, .ptr 64 0), (35, .sc false [.sc])], [], [(64, [.sc, .sc, .sc])], 65⟩, ⟨[(1, .ptr 64 0), (35, .sc false [.sc])], [], [(64, [.sc, .sc, .sc])], 65⟩]

def impl_ActOk_L : L := .seq (.rg []) (.seq (.seq (.rg []) (.block 0 (.seq (.seq (.rg [⟨[], .bin .eql, [.v 0, .k (.int .i64 1)], 1⟩]) (.ite (.v 3) (.seq (.rg [⟨[], .call F_within 0 1, [.v 1, .k (.int .i64 0), .k (.int .i64 99)], 1⟩, ⟨[(.v 4, true)], .call F_within 0 1, [.v 2, .k (.int .i64 0), .k (.int .i64 95)], 1⟩, ⟨[], .pick, [.v 4, .v 5, .k (.bool false)], 1⟩]) (.ret [.v 6])) (.seq (.rg [⟨[], .bin .eql, [.v 0, .k (.int .i64 2)], 1⟩]) (.ite (.v 4) (.seq (.rg [⟨[], .call F_within 0 1, [.v 1, .k (.int .i64 0), .k (.int .i64 99)], 1⟩, ⟨[(.v 5, true)], .bin .eql, [.v 2, .k (.int .i64 0)], 1⟩, ⟨[], .pick, [.v 5, .v 6, .k (.bool false)], 1⟩]) (.ret [.v 7])) (.seq (.rg [⟨[], .bin .eql, [.v 0, .k (.int .i64 4)], 1⟩]) (.ite (.v 5) (.seq (.rg [⟨[], .call F_within 0 1, [.v 1, .k (.int .i64 0), .k (.int .i64 100)], 1⟩, ⟨[(.v 6, true)], .bin .eql, [.v 2, .k (.int .i64 0)], 1⟩, ⟨[], .pick, [.v 6, .v 7, .k (.bool false)], 1⟩]) (.ret [.v 8])) (.seq (.seq (.rg [⟨[], .bin .eql, [.v 0, .k (.int .i64 3)], 1⟩]) (.ite (.v 6) (.seq (.skip) (.tup [.v 6, .v 0, .v 1, .v 2])) (.seq (.seq (.rg [⟨[], .bin .eql, [.v 0, .k (.int .i64 5)], 1⟩]) (.ite (.v 7) (.seq (.skip) (.tup [.v 7, .v 0, .v 1, .v 2])) (.seq (.rg [⟨[], .bin .eql, [.v 0, .k (.int .i64 6)], 1⟩]) (.tup [.v 8, .v 0, .v 1, .v 2])))) (.tup [.v 0, .v 1, .v 2, .v 3])))) (.ite (.v 0) (.seq (.rg [⟨[], .bin .eql, [.v 2, .k (.int .i64 0)], 1⟩, ⟨[(.v 4, true)], .bin .eql, [.v 3, .k (.int .i64 0)], 1⟩, ⟨[], .pick, [.v 4, .v 5, .k (.bool false)], 1⟩]) (.ret [.v 6])) (.skip))))))))) (.tup [])))) (.seq (.rg []) (.ret [.k (.bool false)])))
theorem impl_ActOk_L_sh (Q : QT) (x0 x1 x2 : V) : shL impl_ActOk_L Q [x0, x1, x2] = (
  P1 (.bin .eql) [x0, .int .i64 1] fun v0 =>
  ifB v0 (
    P1 (.call F_within 0 1) [x1, .int .i64 0, .int .i64 99] fun v1 =>
    ifB v1 (
      P1 (.call F_within 0 1) [x2, .int .i64 0, .int .i64 95] fun v2 =>
      Q .ret [v2]) (
      Q .ret [.bool false])) (
    P1 (.bin .eql) [x0, .int .i64 2] fun v3 =>
    ifB v3 (
      P1 (.call F_within 0 1) [x1, .int .i64 0, .int .i64 99] fun v4 =>
      ifB v4 (
        P1 (.bin .eql) [x2, .int .i64 0] fun v5 =>
        Q .ret [v5]) (
        Q .ret [.bool false])) (
      P1 (.bin .eql) [x0, .int .i64 4] fun v6 =>
      ifB v6 (
        P1 (.call F_within 0 1) [x1, .int .i64 0, .int .i64 100] fun v7 =>
        ifB v7 (
          P1 (.bin .eql) [x2, .int .i64 0] fun v8 =>
          Q .ret [v8]) (
          Q .ret [.bool false])) (
        P1 (.bin .eql) [x0, .int .i64 3] fun v9 =>
        ifB v9 (
          P1 (.bin .eql) [x1, .int .i64 0] fun v10 =>
          ifB v10 (
            P1 (.bin .eql) [x2, .int .i64 0] fun v11 =>
            Q .ret [v11]) (
            Q .ret [.bool false])) (
          P1 (.bin .eql) [x0, .int .i64 5] fun v12 =>
          ifB v12 (
            P1 (.bin .eql) [x1, .int .i64 0] fun v13 =>
            ifB v13 (
              P1 (.bin .eql) [x2, .int .i64 0] fun v14 =>
              Q .ret [v14]) (
              Q .ret [.bool false])) (
            P1 (.bin .eql) [x0, .int .i64 6] fun v15 =>
            ifB v15 (
              P1 (.bin .eql) [x1, .int .i64 0] fun v16 =>
              ifB v16 (
                P1 (.bin .eql) [x2, .int .i64 0] fun v17 =>
                Q .ret [v17]) (
                Q .ret [.bool false])) (
              Q .ret [.bool false]))))))) := by kernel_rfl
def impl_ActOk_S : Sig := ⟨[.val true [.sc, .sc, .sc]], [(false, [.sc])], F_ActOk⟩
def impl_ActOk_hs : List NF := [⟨[], [], [], 64⟩, ⟨[(1, .ptr 64 0), (35, .sc false [.sc])], [], [(64, [.sc, .sc, .sc])], 65⟩, ⟨[(1, .ptr 64 0), (35, .sc false [.sc])], [], [(64, [.sc, .sc, .sc])], 65⟩]

def laws_FnExactActOk_L : L := .seq (.rg []) (.seq (.rg [⟨[], .call F_toAct 0 3, [.v 0, .v 1, .v 2], 3⟩, ⟨[], .call F_ActOk 0 1, [.v 3, .v 4, .v 5], 1⟩]) (.seq (.rg [⟨[], .call F_toAct 0 3, [.v 0, .v 1, .v 2], 3⟩, ⟨[], .call F_ActOk 0 1, [.v 7, .v 8, .v 9], 1⟩]) (.seq (.seq (.rg [⟨[], .binb .neq, [.v 10, .v 6], 1⟩]) (.ite (.v 11) (.seq (.rg []) (.ret [.k (.bool false)])) (.skip))) (.seq (.rg []) (.ret [.k (.bool true)])))))
theorem laws_FnExactActOk_L_sh (Q : QT) (x0 x1 x2 : V) : shL laws_FnExactActOk_L Q [x0, x1, x2] = (
  P3 (.call F_toAct 0 3) [x0, x1, x2] fun v0 v1 v2 =>
  P1 (.call F_ActOk 0 1) [v0, v1, v2] fun v3 =>
  P3 (.call F_toAct 0 3) [x0, x1, x2] fun v4 v5 v6 =>
  P1 (.call F_ActOk 0 1) [v4, v5, v6] fun v7 =>
  P1 (.binb .neq) [v7, v3] fun v8 =>
  ifB v8 (
    Q .ret [.bool false]) (
    Q .ret [.bool true])) := by kernel_rfl
def laws_FnExactActOk_S : Sig := ⟨[.val true [.sc, .sc, .sc]], [(false, [.sc])], F_FnExactActOk⟩
def laws_FnExactActOk_hs : List NF := []

def spec_SortedBox_L : L := .seq (.rg []) (.seq (.seq (.rg [⟨[], .call F_BoxOk 0 1, [.v 0, .v 1, .v 2], 1⟩, ⟨[], .un .not, [.v 3], 1⟩]) (.ite (.v 4) (.seq (.rg []) (.ret [.k (.int .i64 0), .k (.int .i64 0), .k (.int .i64 0)])) (.skip))) (.seq (.rg [⟨[], .mx, [.v 1, .v 2], 1⟩, ⟨[], .mx, [.v 0, .v 5], 1⟩]) (.seq (.rg [⟨[], .mn, [.v 1, .v 2], 1⟩, ⟨[], .mn, [.v 0, .v 7], 1⟩]) (.seq (.rg [⟨[], .bin .add, [.v 0, .v 1], 1⟩, ⟨[], .bin .add, [.v 9, .v 2], 1⟩, ⟨[], .bin .sub, [.v 10, .v 6], 1⟩, ⟨[], .bin .sub, [.v 11, .v 8], 1⟩]) (.ret [.v 6, .v 12, .v 8])))))
theorem spec_SortedBox_L_sh (Q : QT) (x0 x1 x2 : V) : shL spec_SortedBox_L Q [x0, x1, x2] = (
  P1 (.call F_BoxOk 0 1) [x0, x1, x2] fun v0 =>
  P1 (.un .not) [v0] fun v1 =>
  ifB v1 (
    Q .ret [.int .i64 0, .int .i64 0, .int .i64 0]) (
    P1 (.mx) [x1, x2] fun v2 =>
    P1 (.mx) [x0, v2] fun v3 =>
    P1 (.mn) [x1, x2] fun v4 =>
    P1 (.mn) [x0, v4] fun v5 =>
    P1 (.bin .add) [x0, x1] fun v6 =>
    P1 (.bin .add) [v6, x2] fun v7 =>
    P1 (.bin .sub) [v7, v3] fun v8 =>
    P1 (.bin .sub) [v8, v5] fun v9 =>
    Q .ret [v3, v9, v5])) := by kernel_rfl
def spec_SortedBox_S : Sig := ⟨[.val true [.sc, .sc, .sc]], [(true, [.sc, .sc, .sc])], F_SortedBox⟩
def spec_SortedBox_hs : List NF := []

def impl_SortedBox_L : L := .seq (.rg []) (.seq (.seq (.rg [⟨[], .call F_BoxOk 0 1, [.v 0, .v 1, .v 2], 1⟩, ⟨[], .un .not, [.v 3], 1⟩]) (.ite (.v 4) (.seq (.rg []) (.ret [.k (.int .i64 0), .k (.int .i64 0), .k (.int .i64 0)])) (.skip))) (.seq (.rg [⟨[], .mx, [.v 0, .v 1, .v 2], 1⟩]) (.seq (.rg [⟨[], .mn, [.v 0, .v 1, .v 2], 1⟩]) (.seq (.rg [⟨[], .bin .add, [.v 0, .v 1], 1⟩, ⟨[], .bin .add, [.v 7, .v 2], 1⟩, ⟨[], .bin .sub, [.v 8, .v 5], 1⟩, ⟨[], .bin .sub, [.v 9, .v 6], 1⟩]) (.ret [.v 5, .v 10, .v 6])))))
theorem impl_SortedBox_L_sh (Q : QT) (x0 x1 x2 : V) : shL impl_SortedBox_L Q [x0, x1, x2] = (
  P1 (.call F_BoxOk 0 1) [x0, x1, x2] fun v0 =>
  P1 (.un .not) [v0] fun v1 =>
  ifB v1 (
    Q .ret [.int .i64 0, .int .i64 0, .int .i64 0]) (
    P1 (.mx) [x0, x1, x2] fun v2 =>
    P1 (.mn) [x0, x1, x2] fun v3 =>
    P1 (.bin .add) [x0, x1] fun v4 =>
    P1 (.bin .add) [v4, x2] fun v5 =>
    P1 (.bin .sub) [v5, v2] fun v6 =>
    P1 (.bin .sub) [v6, v3] fun v7 =>
    Q .ret [v2, v7, v3])) := by kernel_rfl
def impl_SortedBox_S : Sig := ⟨[.val true [.sc, .sc, .sc]], [(true, [.sc, .sc, .sc])], F_SortedBox⟩
def impl_SortedBox_hs : List NF := []

def laws_eqBox_L : L := .seq (.rg []) (.seq (.seq (.rg [⟨[], .bin .neq, [.v 0, .v 3], 1⟩]) (.ite (.v 6) (.seq (.rg []) (.ret [.k (.bool false)])) (.skip))) (.seq (.seq (.rg [⟨[], .bin .neq, [.v 1, .v 4], 1⟩]) (.ite (.v 7) (.seq (.rg []) (.ret [.k (.bool false)])) (.skip))) (.seq (.seq (.rg [⟨[], .bin .neq, [.v 2, .v 5], 1⟩]) (.ite (.v 8) (.seq (.rg []) (.ret [.k (.bool false)])) (.skip))) (.seq (.rg []) (.ret [.k (.bool true)])))))
theorem laws_eqBox_L_sh (Q : QT) (x0 x1 x2 x3 x4 x5 : V) : shL laws_eqBox_L Q [x0, x1, x2, x3, x4, x5] = (
  P1 (.bin .neq) [x0, x3] fun v0 =>
  ifB v0 (
    Q .ret [.bool false]) (
    P1 (.bin .neq) [x1, x4] fun v1 =>
    ifB v1 (
      Q .ret [.bool false]) (
      P1 (.bin .neq) [x2, x5] fun v2 =>
      ifB v2 (
        Q .ret [.bool false]) (
        Q .ret [.bool true])))) := by kernel_rfl
def laws_eqBox_S : Sig := ⟨[.val true [.sc, .sc, .sc], .val true [.sc, .sc, .sc]], [(false, [.sc])], F_eqBox⟩
def laws_eqBox_hs : List NF := []

def laws_FnExactSortedBox_L : L := .seq (.rg []) (.seq (.rg [⟨[], .call F_toBox 0 3, [.v 0, .v 1, .v 2], 3⟩, ⟨[], .call F_SortedBox 0 3, [.v 3, .v 4, .v 5], 3⟩]) (.seq (.rg [⟨[], .call F_toBox 0 3, [.v 0, .v 1, .v 2], 3⟩, ⟨[], .call F_SortedBox 0 3, [.v 9, .v 10, .v 11], 3⟩]) (.seq (.seq (.rg [⟨[], .call F_eqBox 0 1, [.v 12, .v 13, .v 14, .v 6, .v 7, .v 8], 1⟩, ⟨[], .un .not, [.v 15], 1⟩]) (.ite (.v 16) (.seq (.rg []) (.ret [.k (.bool false)])) (.skip))) (.seq (.rg []) (.ret [.k (.bool true)])))))
theorem laws_FnExactSortedBox_L_sh (Q : QT) (x0 x1 x2 : V) : shL laws_FnExactSortedBox_L Q [x0, x1, x2] = (
  P3 (.call F_toBox 0 3) [x0, x1, x2] fun v0 v1 v2 =>
  P3 (.call F_SortedBox 0 3) [v0, v1, v2] fun v3 v4 v5 =>
  P3 (.call F_toBox 0 3) [x0, x1, x2] fun v6 v7 v8 =>
  P3 (.call F_SortedBox 0 3) [v6, v7, v8] fun v9 v10 v11 =>
  P1 (.call F_eqBox 0 1) [v9, v10, v11, v3, v4, v5] fun v12 =>
  P1 (.un .not) [v12] fun v13 =>
  ifB v13 (
    Q .ret [.bool false]) (
    Q .ret [.bool true])) := by kernel_rfl
def laws_FnExactSortedBox_S : Sig := ⟨[.val true [.sc, .sc, .sc]], [(false, [.sc])], F_FnExactSortedBox⟩
def laws_FnExactSortedBox_hs : List NF := []

def spec_FitsIn_L : L := .seq (.rg []) (.seq (.seq (.rg [⟨[], .call F_BoxOk 0 1, [.v 0, .v 1, .v 2], 1⟩, ⟨[], .un .not, [.v 6], 1⟩, ⟨[(.v 7, false)], .call F_BoxOk 0 1, [.v 3, .v 4, .v 5], 1⟩, ⟨[(.v 7, false)], .un .not, [.v 8], 1⟩, ⟨[], .pick, [.v 7, .k (.bool true), .v 9], 1⟩]) (.ite (.v 10) (.seq (.rg []) (.ret [.k (.bool false)])) (.skip))) (.seq (.rg [⟨[], .call F_SortedBox 0 3, [.v 0, .v 1, .v 2], 3⟩]) (.seq (.rg [⟨[], .call F_SortedBox 0 3, [.v 3, .v 4, .v 5], 3⟩]) (.seq (.rg [⟨[], .bin .leq, [.v 11, .v 14], 1⟩, ⟨[(.v 17, true)], .bin .leq, [.v 12, .v 15], 1⟩, ⟨[], .pick, [.v 17, .v 18, .k (.bool false)], 1⟩, ⟨[(.v 19, true)], .bin .leq, [.v 13, .v 16], 1⟩, ⟨[], .pick, [.v 19, .v 20, .k (.bool false)], 1⟩]) (.ret [.v 21])))))
theorem spec_FitsIn_L_sh (Q : QT) (x0 x1 x2 x3 x4 x5 : V) : shL spec_FitsIn_L Q [x0, x1, x2, x3, x4, x5] = (
  P1 (.call F_BoxOk 0 1) [x0, x1, x2] fun v0 =>
  P1 (.un .not) [v0] fun v1 =>
  ifB v1 (
    Q .ret [.bool false]) (
    P1 (.call F_BoxOk 0 1) [x3, x4, x5] fun v2 =>
    P1 (.un .not) [v2] fun v3 =>
    ifB v3 (
      Q .ret [.bool false]) (
      P3 (.call F_SortedBox 0 3) [x0, x1, x2] fun v4 v5 v6 =>
      P3 (.call F_SortedBox 0 3) [x3, x4, x5] fun v7 v8 v9 =>
      P1 (.bin .leq) [v4, v7] fun v10 =>
      ifB v10 (
        P1 (.bin .leq) [v5, v8] fun v11 =>
        ifB v11 (
          P1 (.bin .leq) [v6, v9] fun v12 =>
          Q .ret [v12]) (
          Q .ret [.bool false])) (
        Q .ret [.bool false])))) := by kernel_rfl
def spec_FitsIn_S : Sig := ⟨[.val true [.sc, .sc, .sc], .val true [.sc, .sc, .sc]], [(false, [.sc])], F_FitsIn⟩
def spec_FitsIn_hs : List NF := []

def impl_FitsIn_L : L := .seq (.rg []) (.seq (.seq (.rg [⟨[], .call F_BoxOk 0 1, [.v 0, .v 1, .v 2], 1⟩, ⟨[], .un .not, [.v 6], 1⟩, ⟨[(.v 7, false)], .call F_BoxOk 0 1, [.v 3, .v 4, .v 5], 1⟩, ⟨[(.v 7, false)], .un .not, [.v 8], 1⟩, ⟨[], .pick, [.v 7, .k (.bool true), .v 9], 1⟩]) (.ite (.v 10) (.seq (.rg []) (.ret [.k (.bool false)])) (.skip))) (.seq (.rg [⟨[], .call F_SortedBox 0 3, [.v 0, .v 1, .v 2], 3⟩, ⟨[], .call F_SortedBox 0 3, [.v 3, .v 4, .v 5], 3⟩]) (.seq (.rg [⟨[], .bin .leq, [.v 11, .v 14], 1⟩, ⟨[(.v 17, true)], .bin .leq, [.v 12, .v 15], 1⟩, ⟨[], .pick, [.v 17, .v 18, .k (.bool false)], 1⟩, ⟨[(.v 19, true)], .bin .leq, [.v 13, .v 16], 1⟩, ⟨[], .pick, [.v 19, .v 20, .k (.bool false)], 1⟩]) (.ret [.v 21]))))
theorem impl_FitsIn_L_sh (Q : QT) (x0 x1 x2 x3 x4 x5 : V) : shL impl_FitsIn_L Q [x0, x1, x2, x3, x4, x5] = (
  P1 (.call F_BoxOk 0 1) [x0, x1, x2] fun v0 =>
  P1 (.un .not) [v0] fun v1 =>
  ifB v1 (
    Q .ret [.bool false]) (
    P1 (.call F_BoxOk 0 1) [x3, x4, x5] fun v2 =>
    P1 (.un .not) [v2] fun v3 =>
    ifB v3 (
      Q .ret [.bool false]) (
      P3 (.call F_SortedBox 0 3) [x0, x1, x2] fun v4 v5 v6 =>
      P3 (.call F_SortedBox 0 3) [x3, x4, x5] fun v7 v8 v9 =>
      P1 (.bin .leq) [v4, v7] fun v10 =>
      ifB v10 (
        P1 (.bin .leq) [v5, v8] fun v11 =>
        ifB v11 (
          P1 (.bin .leq) [v6, v9] fun v12 =>
          Q .ret [v12]) (
          Q .ret [.bool false])) (
        Q .ret [.bool false])))) := by kernel_rfl
def impl_FitsIn_S : Sig := ⟨[.val true [.sc, .sc, .sc], .val true [.sc, .sc, .sc]], [(false, [.sc])], F_FitsIn⟩
def impl_FitsIn_hs : List NF := []

def laws_FnExactFitsIn_L : L := .seq (.rg []) (.seq (.rg [⟨[], .call F_toBox 0 3, [.v 0, .v 1, .v 2], 3⟩, ⟨[], .call F_toBox 0 3, [.v 3, .v 4, .v 5], 3⟩, ⟨[], .call F_FitsIn 0 1, [.v 6, .v 7, .v 8, .v 9, .v 10, .v 11], 1⟩]) (.seq (.rg [⟨[], .call F_toBox 0 3, [.v 0, .v 1, .v 2], 3⟩, ⟨[], .call F_toBox 0 3, [.v 3, .v 4, .v 5], 3⟩, ⟨[], .call F_FitsIn 0 1, [.v 13, .v 14, .v 15, .v 16, .v 17, .v 18], 1⟩]) (.seq (.seq (.rg [⟨[], .binb .neq, [.v 19, .v 12], 1⟩]) (.ite (.v 20) (.seq (.rg []) (.ret [.k (.bool false)])) (.skip))) (.seq (.rg []) (.ret [.k (.bool true)])))))
theorem laws_FnExactFitsIn_L_sh (Q : QT) (x0 x1 x2 x3 x4 x5 : V) : shL laws_FnExactFitsIn_L Q [x0, x1, x2, x3, x4, x5] = (
  P3 (.call F_toBox 0 3) [x0, x1, x2] fun v0 v1 v2 =>
  P3 (.call F_toBox 0 3) [x3, x4, x5] fun v3 v4 v5 =>
  P1 (.call F_FitsIn 0 1) [v0, v1, v2, v3, v4, v5] fun v6 =>
  P3 (.call F_toBox 0 3) [x0, x1, x2] fun v7 v8 v9 =>
  P3 (.call F_toBox 0 3) [x3, x4, x5] fun v10 v11 v12 =>
  P1 (.call F_FitsIn 0 1) [v7, v8, v9, v10, v11, v12] fun v13 =>
  P1 (.binb .neq) [v13, v6] fun v14 =>
  ifB v14 (
    Q .ret [.bool false]) (
    Q .ret [.bool true])) := by kernel_rfl
def laws_FnExactFitsIn_S : Sig := ⟨[.val true [.sc, .sc, .sc], .val true [.sc, .sc, .sc]], [(false, [.sc])], F_FnExactFitsIn⟩
def laws_FnExactFitsIn_hs : List NF := []

def spec_LeftOver_L : L := .seq (.rg []) (.seq (.seq (.rg [⟨[], .call F_FitsIn 0 1, [.v 0, .v 1, .v 2, .v 3, .v 4, .v 5], 1⟩, ⟨[], .un .not, [.v 6], 1⟩]) (.ite (.v 7) (.seq (.rg []) (.ret [.k (.int .i64 (-1))])) (.skip))) (.seq (.rg [⟨[], .bin .mul, [.v 3, .v 4], 1⟩, ⟨[], .bin .mul, [.v 8, .v 5], 1⟩, ⟨[], .bin .mul, [.v 0, .v 1], 1⟩, ⟨[], .bin .mul, [.v 10, .v 2], 1⟩, ⟨[], .bin .sub, [.v 9, .v 11], 1⟩]) (.ret [.v 12])))
theorem spec_LeftOver_L_sh (Q : QT) (x0 x1 x2 x3 x4 x5 : V) : shL spec_LeftOver_L Q [x0, x1, x2, x3, x4, x5] = (
  P1 (.call F_FitsIn 0 1) [x0, x1, x2, x3, x4, x5] fun v0 =>
  P1 (.un .not) [v0] fun v1 =>
  ifB v1 (
    Q .ret [.int .i64 (-1)]) (
    P1 (.bin .mul) [x3, x4] fun v2 =>
    P1 (.bin .mul) [v2, x5] fun v3 =>
    P1 (.bin .mul) [x0, x1] fun v4 =>
    P1 (.bin .mul) [v4, x2] fun v5 =>
    P1 (.bin .sub) [v3, v5] fun v6 =>
    Q .ret [v6])) := by kernel_rfl
def spec_LeftOver_S : Sig := ⟨[.val true [.sc, .sc, .sc], .val true [.sc, .sc, .sc]], [(false, [.sc])], F_LeftOver⟩
def spec_LeftOver_hs : List NF := []

def impl_LeftOver_L : L := .seq (.rg []) (.seq (.seq (.rg [⟨[], .call F_FitsIn 0 1, [.v 0, .v 1, .v 2, .v 3, .v 4, .v 5], 1⟩, ⟨[], .un .not, [.v 6], 1⟩]) (.ite (.v 7) (.seq (.rg []) (.ret [.k (.int .i64 (-1))])) (.skip))) (.seq (.rg [⟨[], .bin .mul, [.v 3, .v 4], 1⟩, ⟨[], .bin .mul, [.v 8, .v 5], 1⟩, ⟨[], .bin .mul, [.v 0, .v 1], 1⟩, ⟨[], .bin .mul, [.v 10, .v 2], 1⟩, ⟨[], .bin .sub, [.v 9, .v 11], 1⟩]) (.ret [.v 12])))
theorem impl_LeftOver_L_sh (Q : QT) (x0 x1 x2 x3 x4 x5 : V) : shL impl_LeftOver_L Q [x0, x1, x2, x3, x4, x5] = (
  P1 (.call F_FitsIn 0 1) [x0, x1, x2, x3, x4, x5] fun v0 =>
  P1 (.un .not) [v0] fun v1 =>
  ifB v1 (
    Q .ret [.int .i64 (-1)]) (
    P1 (.bin .mul) [x3, x4] fun v2 =>
    P1 (.bin .mul) [v2, x5] fun v3 =>
    P1 (.bin .mul) [x0, x1] fun v4 =>
    P1 (.bin .mul) [v4, x2] fun v5 =>
    P1 (.bin .sub) [v3, v5] fun v6 =>
    Q .ret [v6])) := by kernel_rfl
def impl_LeftOver_S : Sig := ⟨[.val true [.sc, .sc, .sc], .val true [.sc, .sc, .sc]], [(false, [.sc])], F_LeftOver⟩
def impl_LeftOver_hs : List NF := []

def laws_FnExactLeftOver_L : L := .seq (.rg []) (.seq (.rg [⟨[], .call F_toBox 0 3, [.v 0, .v 1, .v 2], 3⟩, ⟨[], .call F_toBox 0 3, [.v 3, .v 4, .v 5], 3⟩, ⟨[], .call F_LeftOver 0 1, [.v 6, .v 7, .v 8, .v 9, .v 10, .v 11], 1⟩]) (.seq (.rg [⟨[], .call F_toBox 0 3, [.v 0, .v 1, .v 2], 3⟩, ⟨[], .call F_toBox 0 3, [.v 3, .v 4, .v 5], 3⟩, ⟨[], .call F_LeftOver 0 1, [.v 13, .v 14, .v 15, .v 16, .v 17, .v 18], 1⟩]) (.seq (.seq (.rg [⟨[], .bin .neq, [.v 19, .v 12], 1⟩]) (.ite (.v 20) (.seq (.rg []) (.ret [.k (.bool false)])) (.skip))) (.seq (.rg []) (.ret [.k (.bool true)])))))
theorem laws_FnExactLeftOver_L_sh (Q : QT) (x0 x1 x2 x3 x4 x5 : V) : shL laws_FnExactLeftOver_L Q [x0, x1, x2, x3, x4, x5] = (
  P3 (.call F_toBox 0 3) [x0, x1, x2] fun v0 v1 v2 =>
  P3 (.call F_toBox 0 3) [x3, x4, x5] fun v3 v4 v5 =>
  P1 (.call F_LeftOver 0 1) [v0, v1, v2, v3, v4, v5] fun v6 =>
  P3 (.call F_toBox 0 3) [x0, x1, x2] fun v7 v8 v9 =>
  P3 (.call F_toBox 0 3) [x3, x4, x5] fun v10 v11 v12 =>
  P1 (.call F_LeftOver 0 1) [v7, v8, v9, v10, v11, v12] fun v13 =>
  P1 (.bin .neq) [v13, v6] fun v14 =>
  ifB v14 (
    Q .ret [.bool false]) (
    Q .ret [.bool true])) := by kernel_rfl
def laws_FnExactLeftOver_S : Sig := ⟨[.val true [.sc, .sc, .sc], .val true [.sc, .sc, .sc]], [(false, [.sc])], F_FnExactLeftOver⟩
def laws_FnExactLeftOver_hs : List NF := []

def laws_szPieceS_L : L := .seq (.rg []) (.seq (.rg [⟨[], .len, [.v 0], 1⟩, ⟨[], .bin .sub, [.v 1, .v 2], 1⟩]) (.seq (.seq (.rg [⟨[], .bin .lss, [.v 3, .k (.int .i64 0)], 1⟩]) (.ite (.v 4) (.seq (.rg []) (.ret [.k (.int .i64 (-1))])) (.skip))) (.seq (.rg []) (.ret [.v 3]))))
theorem laws_szPieceS_L_sh (Q : QT) (x0 x1 : V) : shL laws_szPieceS_L Q [x0, x1] = (
  P1 (.len) [x0] fun v0 =>
  P1 (.bin .sub) [x1, v0] fun v1 =>
  P1 (.bin .lss) [v1, .int .i64 0] fun v2 =>
  ifB v2 (
    Q .ret [.int .i64 (-1)]) (
    Q .ret [v1])) := by kernel_rfl
def laws_szPieceS_S : Sig := ⟨[.val false [.sl [.sc, .sc]], .val false [.sc]], [(false, [.sc])], F_szPieceS⟩
def laws_szPieceS_hs : List NF := []

def laws_toPiece_L : L := .seq (.rg []) (.seq (.rg []) (.seq (.rg []) (.seq (.rg []) (.seq (.rg []) (.ret [.v 0, .v 1])))))
theorem laws_toPiece_L_sh (Q : QT) (x0 x1 : V) : shL laws_toPiece_L Q [x0, x1] = (
  Q .ret [x0, x1]) := by kernel_rfl
def laws_toPiece_S : Sig := ⟨[.val true [.sc, .sc]], [(true, [.sc, .sc])], F_toPiece⟩
def laws_toPiece_hs : List NF := []

def laws_toPieceS_b0 : L := .seq (.seq (.seq (.rg [⟨[], .len, [.v 0], 1⟩, ⟨[], .bin .lss, [.v 1, .v 3], 1⟩]) (.ite (.v 4) (.skip) (.seq (.tup [.v 2]) (.exit 0)))) (.seq (.block 1 (.seq (.rg [⟨[], .idx [.sc, .sc], [.v 0, .v 1], 2⟩, ⟨[], .call F_toPiece 0 2, [.v 5, .v 6], 2⟩, ⟨[], .idx [.sc, .sc], [.v 2, .v 1], 2⟩, ⟨[], .set [.sc, .sc] 0, [.v 2, .v 1, .v 7, .v 8], 1⟩]) (.tup [.v 0, .v 1, .v 11]))) (.rg [⟨[], .bin .add, [.v 1, .k (.int .i64 1)], 1⟩]))) (.tup [.v 0, .v 3, .v 2])
theorem laws_toPieceS_b0_sh (Q : QT) (x0 x1 x2 : V) : shL laws_toPieceS_b0 Q [x0, x1, x2] = (
  P1 (.len) [x0] fun v0 =>
  P1 (.bin .lss) [x1, v0] fun v1 =>
  ifB v1 (
    P2 (.idx [.sc, .sc]) [x0, x1] fun v2 v3 =>
    P2 (.call F_toPiece 0 2) [v2, v3] fun v4 v5 =>
    P2 (.idx [.sc, .sc]) [x2, x1] fun _ _ =>
    P1 (.set [.sc, .sc] 0) [x2, x1, v4, v5] fun v8 =>
    P1 (.bin .add) [x1, .int .i64 1] fun v9 =>
    Q .normal [x0, v9, v8]) (
    Q (.exit 0) [x2])) := by kernel_rfl

def laws_toPieceS_r1 : L := .seq (.rg []) (.ret [.v 0])
theorem laws_toPieceS_r1_sh (Q : QT) (x0 : V) : shL laws_toPieceS_r1 Q [x0] = (
  Q .ret [x0]) := by kernel_rfl

def laws_toPieceS_L : L := .seq (.rg []) (.seq (.rg [⟨[], .len, [.v 0], 1⟩, ⟨[], .mk [.sc, .sc] (.agg [.int .i64 0, .int .i64 0]) 16, [.v 1, .v 1], 1⟩]) (.seq (.seq (.rg []) (.block 0 (.seq (.tup [.v 0, .k (.int .i64 0), .v 2]) (.loop (laws_toPieceS_b0))))) (laws_toPieceS_r1)))
theorem laws_toPieceS_L_sh (Q : QT) (x0 : V) : shL laws_toPieceS_L Q [x0] = (
  P1 (.len) [x0] fun v0 =>
  P1 (.mk [.sc, .sc] (.agg [.int .i64 0, .int .i64 0]) 16) [v0, v0] fun v1 =>
  shL (.loop laws_toPieceS_b0) (qB 0 (qS (shL laws_toPieceS_r1 Q) Q)) [x0, .int .i64 0, v1]) := by kernel_rfl
def laws_toPieceS_S : Sig := ⟨[.val false [.sl [.sc, .sc]]], [(false, [.sl [.sc, .sc]])], F_toPieceS⟩
def laws_toPieceS_hs : List NF := [⟨[(3, .sc false [.own 64])], [(64, true, [.sc, .sc])], [], 65⟩, ⟨[(0, .sc false [.ro [.sc, .sc]]), (3, .sc false [.own 64]), (4, .sc false [.sc])], [(64, true, [.sc, .sc])], [], 65⟩, ⟨[(0, .sc false [.ro [.sc, .sc]]), (3, .sc false [.own 64]), (4, .sc false [.sc])], [(64, true, [.sc, .sc])], [], 65⟩]

def spec_PiecesOk_b0 : L := .seq (.seq (.seq (.rg [⟨[], .len, [.v 0], 1⟩, ⟨[], .bin .lss, [.v 1, .v 2], 1⟩]) (.ite (.v 3) (.skip) (.seq (.tup [.v 0]) (.exit 0)))) (.seq (.block 1 (.seq (.seq (.rg [⟨[], .idx [.sc, .sc], [.v 0, .v 1], 2⟩, ⟨[], .call F_l01In 0 1, [.v 4, .k (.int .i64 1), .k (.int .i64 600)], 1⟩, ⟨[], .un .not, [.v 6], 1⟩, ⟨[(.v 7, false)], .idx [.sc, .sc], [.v 0, .v 1], 2⟩, ⟨[(.v 7, false)], .call F_l01In 0 1, [.v 9, .k (.int .i64 0), .k (.int .i64 9)], 1⟩, ⟨[(.v 7, false)], .un .not, [.v 10], 1⟩, ⟨[], .pick, [.v 7, .k (.bool true), .v 11], 1⟩]) (.ite (.v 12) (.seq (.rg []) (.ret [.k (.bool false)])) (.skip))) (.tup [.v 0, .v 1]))) (.rg [⟨[], .bin .add, [.v 1, .k (.int .i64 1)], 1⟩]))) (.tup [.v 0, .v 2])
theorem spec_PiecesOk_b0_sh (Q : QT) (x0 x1 : V) : shL spec_PiecesOk_b0 Q [x0, x1] = (
  P1 (.len) [x0] fun v0 =>
  P1 (.bin .lss) [x1, v0] fun v1 =>
  ifB v1 (
    P2 (.idx [.sc, .sc]) [x0, x1] fun v2 _ =>
    P1 (.call F_l01In 0 1) [v2, .int .i64 1, .int .i64 600] fun v4 =>
    P1 (.un .not) [v4] fun v5 =>
    ifB v5 (
      Q .ret [.bool false]) (
      P2 (.idx [.sc, .sc]) [x0, x1] fun _ v7 =>
      P1 (.call F_l01In 0 1) [v7, .int .i64 0, .int .i64 9] fun v8 =>
      P1 (.un .not) [v8] fun v9 =>
      ifB v9 (
        Q .ret [.bool false]) (
        P1 (.bin .add) [x1, .int .i64 1] fun v10 =>
        Q .normal [x0, v10]))) (
    Q (.exit 0) [x0])) := by kernel_rfl

def spec_PiecesOk_r1 : L := .seq (.rg [⟨[], .len, [.v 0], 1⟩, ⟨[], .bin .leq, [.v 1, .k (.int .i64 9)], 1⟩]) (.ret [.v 2])
theorem spec_PiecesOk_r1_sh (Q : QT) (x0 : V) : shL spec_PiecesOk_r1 Q [x0] = (
  P1 (.len) [x0] fun v0 =>
  P1 (.bin .leq) [v0, .int .i64 9] fun v1 =>
  Q .ret [v1]) := by kernel_rfl

def spec_PiecesOk_L : L := .seq (.rg []) (.seq (.seq (.rg []) (.block 0 (.seq (.tup [.v 0, .k (.int .i64 0)]) (.loop (spec_PiecesOk_b0))))) (spec_PiecesOk_r1))
theorem spec_PiecesOk_L_sh (Q : QT) (x0 : V) : shL spec_PiecesOk_L Q [x0] = (
  shL (.loop spec_PiecesOk_b0) (qB 0 (qS (shL spec_PiecesOk_r1 Q) Q)) [x0, .int .i64 0]) := by kernel_rfl
def spec_PiecesOk_S : Sig := ⟨[.val false [.sl [.sc, .sc]]], [(false, [.sc])], F_PiecesOk⟩
def spec_PiecesOk_hs : List NF := [⟨[(0, .sc false [.ro [.sc, .sc]])], [], [], 64⟩, ⟨[(0, .sc false [.ro [.sc, .sc]]), (3, .sc false [.sc])], [], [], 64⟩, ⟨[(0, .sc false [.ro [.sc, .sc]]), (3, .sc false [.sc])], [], [], 64⟩]

def impl_PiecesOk_b0 : L := .seq (.seq (.rg [⟨[], .bin .lss, [.v 2, .v 1], 1⟩]) (.seq (.ite (.v 3) (.skip) (.seq (.tup []) (.exit 0))) (.seq (.block 1 (.seq (.seq (.rg [⟨[], .idx [.sc, .sc], [.v 0, .v 2], 2⟩]) (.seq (.rg [⟨[], .call F_within 0 1, [.v 4, .k (.int .i64 1), .k (.int .i64 600)], 1⟩, ⟨[], .un .not, [.v 6], 1⟩, ⟨[(.v 7, false)], .call F_within 0 1, [.v 5, .k (.int .i64 0), .k (.int .i64 9)], 1⟩, ⟨[(.v 7, false)], .un .not, [.v 8], 1⟩, ⟨[], .pick, [.v 7, .k (.bool true), .v 9], 1⟩]) (.ite (.v 10) (.seq (.rg []) (.ret [.k (.bool false)])) (.skip)))) (.tup [.v 0, .v 1, .v 2]))) (.rg [⟨[], .bin .add, [.v 2, .k (.int .i64 1)], 1⟩])))) (.tup [.v 0, .v 1, .v 3])
theorem impl_PiecesOk_b0_sh (Q : QT) (x0 x1 x2 : V) : shL impl_PiecesOk_b0 Q [x0, x1, x2] = (
  P1 (.bin .lss) [x2, x1] fun v0 =>
  ifB v0 (
    P2 (.idx [.sc, .sc]) [x0, x2] fun v1 v2 =>
    P1 (.call F_within 0 1) [v1, .int .i64 1, .int .i64 600] fun v3 =>
    P1 (.un .not) [v3] fun v4 =>
    ifB v4 (
      Q .ret [.bool false]) (
      P1 (.call F_within 0 1) [v2, .int .i64 0, .int .i64 9] fun v5 =>
      P1 (.un .not) [v5] fun v6 =>
      ifB v6 (
        Q .ret [.bool false]) (
        P1 (.bin .add) [x2, .int .i64 1] fun v7 =>
        Q .normal [x0, x1, v7]))) (
    Q (.exit 0) [])) := by kernel_rfl

def impl_PiecesOk_r1 : L := .seq (.rg []) (.ret [.k (.bool true)])
theorem impl_PiecesOk_r1_sh (Q : QT) : shL impl_PiecesOk_r1 Q [] = (
  Q .ret [.bool true]) := by kernel_rfl

def impl_PiecesOk_L : L := .seq (.rg []) (.seq (.seq (.rg [⟨[], .len, [.v 0], 1⟩, ⟨[], .bin .gtr, [.v 1, .k (.int .i64 9)], 1⟩]) (.ite (.v 2) (.seq (.rg []) (.ret [.k (.bool false)])) (.skip))) (.seq (.seq (.rg [⟨[], .len, [.v 0], 1⟩]) (.block 0 (.seq (.tup [.v 0, .v 3, .k (.int .i64 0)]) (.loop (impl_PiecesOk_b0))))) (impl_PiecesOk_r1)))
theorem impl_PiecesOk_L_sh (Q : QT) (x0 : V) : shL impl_PiecesOk_L Q [x0] = (
  P1 (.len) [x0] fun v0 =>
  P1 (.bin .gtr) [v0, .int .i64 9] fun v1 =>
  ifB v1 (
    Q .ret [.bool false]) (
    P1 (.len) [x0] fun v2 =>
    shL (.loop impl_PiecesOk_b0) (qB 0 (qS (shL impl_PiecesOk_r1 Q) Q)) [x0, v2, .int .i64 0])) := by kernel_rfl
def impl_PiecesOk_S : Sig := ⟨[.val false [.sl [.sc, .sc]]], [(false, [.sc])], F_PiecesOk⟩
def impl_PiecesOk_hs : List NF := [⟨[], [], [], 64⟩, ⟨[(8, .sc false [.ro [.sc, .sc]]), (9, .sc false [.sc]), (10, .sc false [.sc])], [], [], 64⟩, ⟨[(8, .sc false [.ro [.sc, .sc]]), (9, .sc false [.sc]), (10, .sc false [.sc])], [], [], 64⟩]

def laws_eqPiece_L : L := .seq (.rg []) (.seq (.seq (.rg [⟨[], .bin .neq, [.v 0, .v 2], 1⟩]) (.ite (.v 4) (.seq (.rg []) (.ret [.k (.bool false)])) (.skip))) (.seq (.seq (.rg [⟨[], .bin .neq, [.v 1, .v 3], 1⟩]) (.ite (.v 5) (.seq (.rg []) (.ret [.k (.bool false)])) (.skip))) (.seq (.rg []) (.ret [.k (.bool true)]))))
theorem laws_eqPiece_L_sh (Q : QT) (x0 x1 x2 x3 : V) : shL laws_eqPiece_L Q [x0, x1, x2, x3] = (
  P1 (.bin .neq) [x0, x2] fun v0 =>
  ifB v0 (
    Q .ret [.bool false]) (
    P1 (.bin .neq) [x1, x3] fun v1 =>
    ifB v1 (
      Q .ret [.bool false]) (
      Q .ret [.bool true]))) := by kernel_rfl
def laws_eqPiece_S : Sig := ⟨[.val true [.sc, .sc], .val true [.sc, .sc]], [(false, [.sc])], F_eqPiece⟩
def laws_eqPiece_hs : List NF := []

def laws_eqPieceS_b0 : L := .seq (.seq (.seq (.rg [⟨[], .len, [.v 0], 1⟩, ⟨[], .bin .lss, [.v 2, .v 3], 1⟩]) (.ite (.v 4) (.skip) (.seq (.tup []) (.exit 0)))) (.seq (.block 1 (.seq (.seq (.rg [⟨[], .idx [.sc, .sc], [.v 0, .v 2], 2⟩, ⟨[], .idx [.sc, .sc], [.v 1, .v 2], 2⟩, ⟨[], .call F_eqPiece 0 1, [.v 5, .v 6, .v 7, .v 8], 1⟩, ⟨[], .un .not, [.v 9], 1⟩]) (.ite (.v 10) (.seq (.rg []) (.ret [.k (.bool false)])) (.skip))) (.tup [.v 0, .v 1, .v 2]))) (.rg [⟨[], .bin .add, [.v 2, .k (.int .i64 1)], 1⟩]))) (.tup [.v 0, .v 1, .v 3])
theorem laws_eqPieceS_b0_sh (Q : QT) (x0 x1 x2 : V) : shL laws_eqPieceS_b0 Q [x0, x1, x2] = (
  P1 (.len) [x0] fun v0 =>
  P1 (.bin .lss) [x2, v0] fun v1 =>
  ifB v1 (
    P2 (.idx [.sc, .sc]) [x0, x2] fun v2 v3 =>
    P2 (.idx [.sc, .sc]) [x1, x2] fun v4 v5 =>
    P1 (.call F_eqPiece 0 1) [v2, v3, v4, v5] fun v6 =>
    P1 (.un .not) [v6] fun v7 =>
    ifB v7 (
      Q .ret [.bool false]) (
      P1 (.bin .add) [x2, .int .i64 1] fun v8 =>
      Q .normal [x0, x1, v8])) (
    Q (.exit 0) [])) := by kernel_rfl

def laws_eqPieceS_r1 : L := .seq (.rg []) (.ret [.k (.bool true)])
theorem laws_eqPieceS_r1_sh (Q : QT) : shL laws_eqPieceS_r1 Q [] = (
  Q .ret [.bool true]) := by kernel_rfl

def laws_eqPieceS_L : L := .seq (.rg []) (.seq (.seq (.rg [⟨[], .len, [.v 0], 1⟩, ⟨[], .len, [.v 1], 1⟩, ⟨[], .bin .neq, [.v 2, .v 3], 1⟩]) (.ite (.v 4) (.seq (.rg []) (.ret [.k (.bool false)])) (.skip))) (.seq (.seq (.rg []) (.block 0 (.seq (.tup [.v 0, .v 1, .k (.int .i64 0)]) (.loop (laws_eqPieceS_b0))))) (laws_eqPieceS_r1)))
theorem laws_eqPieceS_L_sh (Q : QT) (x0 x1 : V) : shL laws_eqPieceS_L Q [x0, x1] = (
  P1 (.len) [x0] fun v0 =>
  P1 (.len) [x1] fun v1 =>
  P1 (.bin .neq) [v0, v1] fun v2 =>
  ifB v2 (
    Q .ret [.bool false]) (
    shL (.loop laws_eqPieceS_b0) (qB 0 (qS (shL laws_eqPieceS_r1 Q) Q)) [x0, x1, .int .i64 0])) := by kernel_rfl
def laws_eqPieceS_S : Sig := ⟨[.val false [.sl [.sc, .sc]], .val false [.sl [.sc, .sc]]], [(false, [.sc])], F_eqPieceS⟩
def laws_eqPieceS_hs : List NF := [⟨[], [], [], 64⟩, ⟨[(0, .sc false [.ro [.sc, .sc]]), (1, .sc false [.ro [.sc, .sc]]), (5, .sc false [.sc])], [], [], 64⟩, ⟨[(0, .sc false [.ro [.sc, .sc]]), (1, .sc false [.ro [.sc, .sc]]), (5, .sc false [.sc])], [], [], 64⟩]

def laws_FnExactPiecesOk_L : L := .seq (.rg []) (.seq (.rg []) (.seq (.rg [⟨[], .call F_szPieceS 0 1, [.v 0, .k (.int .i64 1048576)], 1⟩]) (.seq (.seq (.rg [⟨[], .bin .lss, [.v 1, .k (.int .i64 0)], 1⟩]) (.ite (.v 2) (.seq (.rg []) (.ret [.k (.bool true)])) (.skip))) (.seq (.rg [⟨[], .call F_toPieceS 0 1, [.v 0], 1⟩, ⟨[], .call F_PiecesOk 0 1, [.v 3], 1⟩]) (.seq (.rg [⟨[], .call F_toPieceS 0 1, [.v 0], 1⟩]) (.seq (.rg [⟨[], .call F_PiecesOk 0 1, [.v 5], 1⟩]) (.seq (.seq (.rg [⟨[], .binb .neq, [.v 6, .v 4], 1⟩]) (.ite (.v 7) (.seq (.rg []) (.ret [.k (.bool false)])) (.skip))) (.seq (.seq (.rg [⟨[], .call F_toPieceS 0 1, [.v 0], 1⟩, ⟨[], .call F_eqPieceS 0 1, [.v 5, .v 8], 1⟩, ⟨[], .un .not, [.v 9], 1⟩]) (.ite (.v 10) (.seq (.rg []) (.ret [.k (.bool false)])) (.skip))) (.seq (.rg []) (.ret [.k (.bool true)]))))))))))
theorem laws_FnExactPiecesOk_L_sh (Q : QT) (x0 : V) : shL laws_FnExactPiecesOk_L Q [x0] = (
  P1 (.call F_szPieceS 0 1) [x0, .int .i64 1048576] fun v0 =>
  P1 (.bin .lss) [v0, .int .i64 0] fun v1 =>
  ifB v1 (
    Q .ret [.bool true]) (
    P1 (.call F_toPieceS 0 1) [x0] fun v2 =>
    P1 (.call F_PiecesOk 0 1) [v2] fun v3 =>
    P1 (.call F_toPieceS 0 1) [x0] fun v4 =>
    P1 (.call F_PiecesOk 0 1) [v4] fun v5 =>
    P1 (.binb .neq) [v5, v3] fun v6 =>
    ifB v6 (
      Q .ret [.bool false]) (
      P1 (.call F_toPieceS 0 1) [x0] fun v7 =>
      P1 (.call F_eqPieceS 0 1) [v4, v7] fun v8 =>
      P1 (.un .not) [v8] fun v9 =>
      ifB v9 (
        Q .ret [.bool false]) (
        Q .ret [.bool true])))) := by kernel_rfl
def laws_FnExactPiecesOk_S : Sig := ⟨[.val false [.sl [.sc, .sc]]], [(false, [.sc])], F_FnExactPiecesOk⟩
def laws_FnExactPiecesOk_hs : List NF := []

end
end Go.Mw

/- The functions of the first rows compute what was said. -/
namespace Go.Mw

theorem laws_toBox_ok : ∀ ds outs, F_toBox ds = some outs → shL laws_toBox_L (qRet outs) ds := F_toBox_elim fun x => by
  rw [laws_toBox_L_sh]; simp
theorem laws_toAct_ok : ∀ ds outs, F_toAct ds = some outs → shL laws_toAct_L (qRet outs) ds := F_toAct_elim fun x => by
  rw [laws_toAct_L_sh]; simp
theorem spec_l01In_ok : ∀ ds outs, F_l01In ds = some outs → shL spec_l01In_L (qRet outs) ds := F_within_elim fun a b c => by
  rw [spec_l01In_L_sh]; simp [within]; grind
theorem impl_within_ok : ∀ ds outs, F_within ds = some outs → shL impl_within_L (qRet outs) ds := F_within_elim fun a b c => by
  rw [impl_within_L_sh]; simp [within]; grind
theorem impl_BoxOk_ok : ∀ ds outs, F_BoxOk ds = some outs → shL impl_BoxOk_L (qRet outs) ds := F_BoxOk_elim fun x => by
  rw [impl_BoxOk_L_sh]; simp +contextual [boxOk]
theorem spec_BoxOk_ok : ∀ ds outs, F_BoxOk ds = some outs → shL spec_BoxOk_L (qRet outs) ds := F_BoxOk_elim fun x => by
  rw [spec_BoxOk_L_sh]; simp +contextual [boxOk]
theorem laws_FnExactBoxOk_ok : ∀ ds outs, F_FnExactBoxOk ds = some outs → shL laws_FnExactBoxOk_L (qRet outs) ds := F_FnExactBoxOk_elim fun x _ => by
  rw [laws_FnExactBoxOk_L_sh]; simp
theorem impl_ActOk_ok : ∀ ds outs, F_ActOk ds = some outs → shL impl_ActOk_L (qRet outs) ds := F_ActOk_elim fun x => by
  rw [impl_ActOk_L_sh]; simp [actOk]; grind
theorem spec_ActOk_ok : ∀ ds outs, F_ActOk ds = some outs → shL spec_ActOk_L (qRet outs) ds := F_ActOk_elim fun x => by
  rw [spec_ActOk_L_sh]; simp [actOk]; grind
theorem laws_FnExactActOk_ok : ∀ ds outs, F_FnExactActOk ds = some outs → shL laws_FnExactActOk_L (qRet outs) ds := F_FnExactActOk_elim fun x _ => by
  rw [laws_FnExactActOk_L_sh]; simp

theorem boxOk_iff (x : T3) : boxOk x = true ↔ (1 ≤ x.a ∧ x.a ≤ 500) ∧ (1 ≤ x.b ∧ x.b ≤ 500) ∧ (1 ≤ x.c ∧ x.c ≤ 500) := by
  simp [boxOk, within, and_assoc]

theorem impl_SortedBox_ok : ∀ ds outs, F_SortedBox ds = some outs → shL impl_SortedBox_L (qRet outs) ds := F_SortedBox_elim fun x => by
  rw [impl_SortedBox_L_sh]
  cases h : boxOk x with
  | false => simp [h, sortedBox]
  | true =>
    have hb := (boxOk_iff x).1 h
    simp (disch := omega) [h, sortedBox, wrap_id]
theorem spec_SortedBox_ok : ∀ ds outs, F_SortedBox ds = some outs → shL spec_SortedBox_L (qRet outs) ds := F_SortedBox_elim fun x => by
  rw [spec_SortedBox_L_sh]
  cases h : boxOk x with
  | false => simp [h, sortedBox]
  | true =>
    have hb := (boxOk_iff x).1 h
    simp (disch := omega) [h, sortedBox, wrap_id]
theorem laws_eqBox_ok : ∀ ds outs, F_eqBox ds = some outs → shL laws_eqBox_L (qRet outs) ds := F_eqBox_elim fun x y => by
  rw [laws_eqBox_L_sh]
  cases x; cases y
  simp
  grind
theorem laws_FnExactSortedBox_ok : ∀ ds outs, F_FnExactSortedBox ds = some outs → shL laws_FnExactSortedBox_L (qRet outs) ds := F_FnExactSortedBox_elim fun x _ => by
  rw [laws_FnExactSortedBox_L_sh]; simp
theorem impl_FitsIn_ok : ∀ ds outs, F_FitsIn ds = some outs → shL impl_FitsIn_L (qRet outs) ds := F_FitsIn_elim fun x y => by
  rw [impl_FitsIn_L_sh]; simp [fitsIn]; grind
theorem spec_FitsIn_ok : ∀ ds outs, F_FitsIn ds = some outs → shL spec_FitsIn_L (qRet outs) ds := F_FitsIn_elim fun x y => by
  rw [spec_FitsIn_L_sh]; simp [fitsIn]; grind
theorem laws_FnExactFitsIn_ok : ∀ ds outs, F_FnExactFitsIn ds = some outs → shL laws_FnExactFitsIn_L (qRet outs) ds := F_FnExactFitsIn_elim fun x y _ => by
  rw [laws_FnExactFitsIn_L_sh]; simp
theorem impl_LeftOver_ok : ∀ ds outs, F_LeftOver ds = some outs → shL impl_LeftOver_L (qRet outs) ds := F_LeftOver_elim fun x y => by
  rw [impl_LeftOver_L_sh]; simp +contextual [leftOver]
theorem spec_LeftOver_ok : ∀ ds outs, F_LeftOver ds = some outs → shL spec_LeftOver_L (qRet outs) ds := F_LeftOver_elim fun x y => by
  rw [spec_LeftOver_L_sh]; simp +contextual [leftOver]
theorem laws_FnExactLeftOver_ok : ∀ ds outs, F_FnExactLeftOver ds = some outs → shL laws_FnExactLeftOver_L (qRet outs) ds := F_FnExactLeftOver_elim fun x y _ => by
  rw [laws_FnExactLeftOver_L_sh]; simp

theorem laws_szPieceS_ok : ∀ ds outs, F_szPieceS ds = some outs → shL laws_szPieceS_L (qRet outs) ds := F_szPieceS_elim fun l n hp => by
  rw [laws_szPieceS_L_sh]
  simp (disch := omega) [wrap_id]
  grind
theorem laws_toPiece_ok : ∀ ds outs, F_toPiece ds = some outs → shL laws_toPiece_L (qRet outs) ds := F_toPiece_elim fun x => by
  rw [laws_toPiece_L_sh]; simp

theorem laws_toPieceS_ok : ∀ ds outs, F_toPieceS ds = some outs → shL laws_toPieceS_L (qRet outs) ds := F_toPieceS_elim fun l hp => by
  rw [laws_toPieceS_L_sh]
  simp
  refine ⟨by omega, ?_⟩
  refine loop_upto l.length (fun k => [vL I2 v2 l, .int .i64 k, vL I2 v2 (l.take k ++ List.replicate (l.length - k) ⟨0, 0⟩)]) (by intro i j _ _ h; simp at h; omega) (fun _ => True) (by simp) trivial ?_
  intro k hk _
  rw [laws_toPieceS_b0_sh]
  simp
  refine ⟨fun h => ?_, fun h => ?_⟩
  · rw [fill_get h (by omega)]
    simp (disch := omega) [h, fill_set h, wrap_id]
  · obtain rfl : k = l.length := by omega
    simp [laws_toPieceS_r1_sh]
theorem impl_PiecesOk_ok : ∀ ds outs, F_PiecesOk ds = some outs → shL impl_PiecesOk_L (qRet outs) ds := F_PiecesOk_elim fun l hp => by
  rw [impl_PiecesOk_L_sh]
  simp
  refine ⟨fun h => by simp [piecesOk]; intro h; omega, fun h9 => ?_⟩
  refine loop_upto l.length (fun k => [vL I2 v2 l, .int .i64 l.length, .int .i64 k]) (by intro i j _ _ h; simp at h; omega) (fun k => ∀ x ∈ l.take k, pieceOk x = true) (by simp) (by simp) ?_
  intro k hk hP
  rw [impl_PiecesOk_b0_sh]
  simp
  refine ⟨fun h => ?_, fun h => ?_⟩
  · have hno : pieceOk l[k] = false → piecesOk l = false := by
      intro hf
      simp only [piecesOk, Bool.and_eq_false_iff, List.all_eq_false]
      exact .inr ⟨l[k], by simp, by simp [hf]⟩
    simp (disch := omega) only [h, List.getElem?_eq_getElem, Option.some.injEq, exists_eq_left', wrap_id, all_take_succ h]
    cases h1 : within l[k].a 1 600 <;> cases h2 : within l[k].b 0 9 <;> simp_all [pieceOk]
  · obtain rfl : k = l.length := by omega
    simp [impl_PiecesOk_r1_sh, piecesOk]
    simp at hP
    exact ⟨by omega, hP⟩
theorem spec_PiecesOk_ok : ∀ ds outs, F_PiecesOk ds = some outs → shL spec_PiecesOk_L (qRet outs) ds := F_PiecesOk_elim fun l hp => by
  rw [spec_PiecesOk_L_sh]
  refine loop_upto l.length (fun k => [vL I2 v2 l, .int .i64 k]) (by intro i j _ _ h; simp at h; omega) (fun k => ∀ x ∈ l.take k, pieceOk x = true) (by simp) (by simp) ?_
  intro k hk hP
  rw [spec_PiecesOk_b0_sh]
  simp
  refine ⟨fun h => ?_, fun h => ?_⟩
  · have hno : pieceOk l[k] = false → piecesOk l = false := by
      intro hf
      simp only [piecesOk, Bool.and_eq_false_iff, List.all_eq_false]
      exact .inr ⟨l[k], by simp, by simp [hf]⟩
    simp (disch := omega) only [h, List.getElem?_eq_getElem, Option.some.injEq, exists_eq_left', wrap_id, all_take_succ h]
    cases h1 : within l[k].a 1 600 <;> cases h2 : within l[k].b 0 9 <;> simp_all [pieceOk]
  · obtain rfl : k = l.length := by omega
    simp [spec_PiecesOk_r1_sh, piecesOk]
    simp at hP
    grind
theorem laws_eqPiece_ok : ∀ ds outs, F_eqPiece ds = some outs → shL laws_eqPiece_L (qRet outs) ds := F_eqPiece_elim fun x y => by
  rw [laws_eqPiece_L_sh]
  cases x; cases y
  simp
  grind
theorem laws_eqPieceS_ok : ∀ ds outs, F_eqPieceS ds = some outs → shL laws_eqPieceS_L (qRet outs) ds := F_eqPieceS_elim fun l m hp => by
  rw [laws_eqPieceS_L_sh]
  simp
  refine ⟨fun h => ?_, fun hl => ?_⟩
  · rintro rfl; omega
  refine loop_upto l.length (fun k => [vL I2 v2 l, vL I2 v2 m, .int .i64 k]) (by intro i j _ _ h; simp at h; omega) (fun k => l.take k = m.take k) (by simp) (by simp) ?_
  intro k hk hP
  rw [laws_eqPieceS_b0_sh]
  simp
  refine ⟨fun h => ?_, fun h => ?_⟩
  · have h2 : k < m.length := by omega
    simp (disch := omega) [h, wrap_id]
    refine ⟨fun hne he => ?_, fun h3 => ?_⟩
    · subst he; exact hne rfl
    · rw [take_succ_get h, take_succ_get h2, hP, h3]
  · obtain rfl : k = l.length := by omega
    rw [List.take_length, List.take_of_length_le (by omega)] at hP
    simp [laws_eqPieceS_r1_sh, hP]
theorem laws_FnExactPiecesOk_ok : ∀ ds outs, F_FnExactPiecesOk ds = some outs → shL laws_FnExactPiecesOk_L (qRet outs) ds := F_FnExactPiecesOk_elim fun l hp => by
  rw [laws_FnExactPiecesOk_L_sh]
  rw [p_szPieceS (by have := hp.1; omega)]
  by_cases h : (l.length : Int) ≤ 1048576
  · have h' : l.length ≤ 1048576 := by omega
    simp [h, h', p_toPieceS, p_PiecesOk, p_eqPieceS]
  · simp [h]
end Go.Mw

