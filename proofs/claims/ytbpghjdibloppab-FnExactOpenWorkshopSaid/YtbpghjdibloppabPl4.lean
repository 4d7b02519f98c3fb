/- What functions of the program compute, as small pure programs, shown against plain Lean functions: no condition. -/
import Derived.KernelRfl
import Derived.Test.YtbpghjdibloppabPl3
/- What functions compute, in plain terms: benches and workshops. -/
namespace Go.Mw

/-! memory -/
def tot2 (l : List (List T2)) : Nat := l.length + (l.map List.length).sum
def sum2 (l : List (List T2)) : Nat := (l.map List.length).sum
def fitLL (l : List (List T2)) : Prop := l.length ≤ 1048576 ∧ ∀ x ∈ l, x.length ≤ 1048576
def markLL2 : List (List T2) → Int → List (List T2)
  | [], _ => []
  | x :: r, k => markL2 x.length k :: markLL2 r (k + 2 * x.length)
def E_szIntS : List Int × Int → List V := fun (l, n) => [vL I1 v1 l, .int .i64 n]
noncomputable def F_szIntS : List V → Option (List V) := mkF E_szIntS (fun (l, n) => l.length ≤ 9223372036854775807 ∧ 0 ≤ n ∧ n ≤ 1048576) (fun (l, n) => [.int .i64 (if (l.length : Int) ≤ n then n - l.length else -1)])
theorem F_szIntS_inj : ∀ x y, E_szIntS x = E_szIntS y → x = y := by
  rintro ⟨l, n⟩ ⟨l', n'⟩ h
  simpa [E_szIntS] using h
theorem F_szIntS_elim {P : List V → List V → Prop} (h : ∀ (l : List Int) (n : Int), (l.length ≤ 9223372036854775807 ∧ 0 ≤ n ∧ n ≤ 1048576) → P [vL I1 v1 l, .int .i64 n] [.int .i64 (if (l.length : Int) ≤ n then n - l.length else -1)]) : ∀ ds outs, F_szIntS ds = some outs → P ds outs := by
  intro ds outs hh
  obtain ⟨⟨l, n⟩, rfl, hp, rfl⟩ := mkF_inv hh
  exact h l n hp
theorem p_szIntS {l : List Int} {n : Int} {nr_ : Nat} {kk_ : V → Prop} (hp : l.length ≤ 9223372036854775807 ∧ 0 ≤ n ∧ n ≤ 1048576) : P1 (.call F_szIntS 0 nr_) [vL I1 v1 l, .int .i64 n] kk_ ↔ kk_ (.int .i64 (if (l.length : Int) ≤ n then n - l.length else -1)) :=
  P1_callF (by unfold F_szIntS; exact mkF_eq F_szIntS_inj (l, n) hp)

def E_heldPinS : List T2 × Int → List V := fun (l, k) => [vL I2 v2 l, .int .i64 k]
noncomputable def F_heldPinS : List V → Option (List V) := mkF E_heldPinS (fun (l, k) => l.length ≤ 4194304 ∧ 0 ≤ k ∧ k ≤ 1099511627776) (fun (l, k) => [.int .i64 (if l = markL2 l.length k then k + 2 * l.length else -1)])
theorem F_heldPinS_inj : ∀ x y, E_heldPinS x = E_heldPinS y → x = y := by
  rintro ⟨l, k⟩ ⟨l', k'⟩ h
  simpa [E_heldPinS] using h
theorem F_heldPinS_elim {P : List V → List V → Prop} (h : ∀ (l : List T2) (k : Int), (l.length ≤ 4194304 ∧ 0 ≤ k ∧ k ≤ 1099511627776) → P [vL I2 v2 l, .int .i64 k] [.int .i64 (if l = markL2 l.length k then k + 2 * l.length else -1)]) : ∀ ds outs, F_heldPinS ds = some outs → P ds outs := by
  intro ds outs hh
  obtain ⟨⟨l, k⟩, rfl, hp, rfl⟩ := mkF_inv hh
  exact h l k hp
theorem p_heldPinS {l : List T2} {k : Int} {nr_ : Nat} {kk_ : V → Prop} (hp : l.length ≤ 4194304 ∧ 0 ≤ k ∧ k ≤ 1099511627776) : P1 (.call F_heldPinS 0 nr_) [vL I2 v2 l, .int .i64 k] kk_ ↔ kk_ (.int .i64 (if l = markL2 l.length k then k + 2 * l.length else -1)) :=
  P1_callF (by unfold F_heldPinS; exact mkF_eq F_heldPinS_inj (l, k) hp)

def E_heldCylinder : Cyl × Int → List V := fun (x, k) => [.int .i64 x.s, .int .i64 x.t, vL I2 v2 x.p, .int .i64 k]
noncomputable def F_heldCylinder : List V → Option (List V) := mkF E_heldCylinder (fun (x, k) => x.p.length ≤ 4194304 ∧ 0 ≤ k ∧ k ≤ 1099511627776) (fun (x, k) => [.int .i64 (if x.p = markL2 x.p.length k then k + 2 * x.p.length else -1)])
theorem F_heldCylinder_inj : ∀ x y, E_heldCylinder x = E_heldCylinder y → x = y := by
  rintro ⟨⟨xs, xt, xp⟩, k⟩ ⟨⟨xs', xt', xp'⟩, k'⟩ h
  simpa [E_heldCylinder, and_assoc] using h
theorem F_heldCylinder_elim {P : List V → List V → Prop} (h : ∀ (x : Cyl) (k : Int), (x.p.length ≤ 4194304 ∧ 0 ≤ k ∧ k ≤ 1099511627776) → P [.int .i64 x.s, .int .i64 x.t, vL I2 v2 x.p, .int .i64 k] [.int .i64 (if x.p = markL2 x.p.length k then k + 2 * x.p.length else -1)]) : ∀ ds outs, F_heldCylinder ds = some outs → P ds outs := by
  intro ds outs hh
  obtain ⟨⟨x, k⟩, rfl, hp, rfl⟩ := mkF_inv hh
  exact h x k hp
theorem p_heldCylinder {x_s : Int} {x_t : Int} {x_p : List T2} {k : Int} {nr_ : Nat} {kk_ : V → Prop} (hp : (⟨x_s, x_t, x_p⟩ : Cyl).p.length ≤ 4194304 ∧ 0 ≤ k ∧ k ≤ 1099511627776) : P1 (.call F_heldCylinder 0 nr_) [.int .i64 x_s, .int .i64 x_t, vL I2 v2 x_p, .int .i64 k] kk_ ↔ kk_ (.int .i64 (if (⟨x_s, x_t, x_p⟩ : Cyl).p = markL2 (⟨x_s, x_t, x_p⟩ : Cyl).p.length k then k + 2 * (⟨x_s, x_t, x_p⟩ : Cyl).p.length else -1)) :=
  P1_callF (by unfold F_heldCylinder; exact mkF_eq F_heldCylinder_inj ((⟨x_s, x_t, x_p⟩ : Cyl), k) hp)

def E_szPinSS : List (List T2) × Int → List V := fun (l, n) => [vL IL2 vLL2 l, .int .i64 n]
noncomputable def F_szPinSS : List V → Option (List V) := mkF E_szPinSS (fun (l, n) => l.length ≤ 9223372036854775807 ∧ (∀ x ∈ l, x.length ≤ 9223372036854775807) ∧ 0 ≤ n ∧ n ≤ 1048576) (fun (l, n) => [.int .i64 (if (tot2 l : Int) ≤ n then n - tot2 l else -1)])
theorem F_szPinSS_inj : ∀ x y, E_szPinSS x = E_szPinSS y → x = y := by
  rintro ⟨l, n⟩ ⟨l', n'⟩ h
  simpa [E_szPinSS] using h
theorem F_szPinSS_elim {P : List V → List V → Prop} (h : ∀ (l : List (List T2)) (n : Int), (l.length ≤ 9223372036854775807 ∧ (∀ x ∈ l, x.length ≤ 9223372036854775807) ∧ 0 ≤ n ∧ n ≤ 1048576) → P [vL IL2 vLL2 l, .int .i64 n] [.int .i64 (if (tot2 l : Int) ≤ n then n - tot2 l else -1)]) : ∀ ds outs, F_szPinSS ds = some outs → P ds outs := by
  intro ds outs hh
  obtain ⟨⟨l, n⟩, rfl, hp, rfl⟩ := mkF_inv hh
  exact h l n hp
theorem p_szPinSS {l : List (List T2)} {n : Int} {nr_ : Nat} {kk_ : V → Prop} (hp : l.length ≤ 9223372036854775807 ∧ (∀ x ∈ l, x.length ≤ 9223372036854775807) ∧ 0 ≤ n ∧ n ≤ 1048576) : P1 (.call F_szPinSS 0 nr_) [vL IL2 vLL2 l, .int .i64 n] kk_ ↔ kk_ (.int .i64 (if (tot2 l : Int) ≤ n then n - tot2 l else -1)) :=
  P1_callF (by unfold F_szPinSS; exact mkF_eq F_szPinSS_inj (l, n) hp)

def E_toPinSS (l : List (List T2)) : List V := [vL IL2 vLL2 l]
noncomputable def F_toPinSS : List V → Option (List V) := mkF E_toPinSS (fun l => fitLL l) (fun l => [vL IL2 vLL2 l])
theorem F_toPinSS_inj : ∀ x y, E_toPinSS x = E_toPinSS y → x = y := by
  rintro l l' h
  simpa [E_toPinSS] using h
theorem F_toPinSS_elim {P : List V → List V → Prop} (h : ∀ (l : List (List T2)), (fitLL l) → P [vL IL2 vLL2 l] [vL IL2 vLL2 l]) : ∀ ds outs, F_toPinSS ds = some outs → P ds outs := by
  intro ds outs hh
  obtain ⟨l, rfl, hp, rfl⟩ := mkF_inv hh
  exact h l hp
theorem p_toPinSS {l : List (List T2)} {nr_ : Nat} {kk_ : V → Prop} (hp : fitLL l) : P1 (.call F_toPinSS 0 nr_) [vL IL2 vLL2 l] kk_ ↔ kk_ (vL IL2 vLL2 l) :=
  P1_callF (by unfold F_toPinSS; exact mkF_eq F_toPinSS_inj (l) hp)

def E_eqPinSS : List (List T2) × List (List T2) → List V := fun (l, m) => [vL IL2 vLL2 l, vL IL2 vLL2 m]
noncomputable def F_eqPinSS : List V → Option (List V) := mkF E_eqPinSS (fun (l, m) => fitLL l ∧ fitLL m) (fun (l, m) => [.bool (decide (l = m))])
theorem F_eqPinSS_inj : ∀ x y, E_eqPinSS x = E_eqPinSS y → x = y := by
  rintro ⟨l, m⟩ ⟨l', m'⟩ h
  simpa [E_eqPinSS] using h
theorem F_eqPinSS_elim {P : List V → List V → Prop} (h : ∀ (l : List (List T2)) (m : List (List T2)), (fitLL l ∧ fitLL m) → P [vL IL2 vLL2 l, vL IL2 vLL2 m] [.bool (decide (l = m))]) : ∀ ds outs, F_eqPinSS ds = some outs → P ds outs := by
  intro ds outs hh
  obtain ⟨⟨l, m⟩, rfl, hp, rfl⟩ := mkF_inv hh
  exact h l m hp
theorem p_eqPinSS {l : List (List T2)} {m : List (List T2)} {nr_ : Nat} {kk_ : V → Prop} (hp : fitLL l ∧ fitLL m) : P1 (.call F_eqPinSS 0 nr_) [vL IL2 vLL2 l, vL IL2 vLL2 m] kk_ ↔ kk_ (.bool (decide (l = m))) :=
  P1_callF (by unfold F_eqPinSS; exact mkF_eq F_eqPinSS_inj (l, m) hp)

def E_markPinSS : List (List T2) × Int → List V := fun (l, k) => [vL IL2 vLL2 l, .int .i64 k]
noncomputable def F_markPinSS : List V → Option (List V) := mkF E_markPinSS (fun (l, k) => fitLL l ∧ 0 ≤ k ∧ k + 2 * sum2 l ≤ 1099511627776) (fun (l, k) => [.int .i64 (k + 2 * sum2 l), vL IL2 vLL2 (markLL2 l k)])
theorem F_markPinSS_inj : ∀ x y, E_markPinSS x = E_markPinSS y → x = y := by
  rintro ⟨l, k⟩ ⟨l', k'⟩ h
  simpa [E_markPinSS] using h
theorem F_markPinSS_elim {P : List V → List V → Prop} (h : ∀ (l : List (List T2)) (k : Int), (fitLL l ∧ 0 ≤ k ∧ k + 2 * sum2 l ≤ 1099511627776) → P [vL IL2 vLL2 l, .int .i64 k] [.int .i64 (k + 2 * sum2 l), vL IL2 vLL2 (markLL2 l k)]) : ∀ ds outs, F_markPinSS ds = some outs → P ds outs := by
  intro ds outs hh
  obtain ⟨⟨l, k⟩, rfl, hp, rfl⟩ := mkF_inv hh
  exact h l k hp
theorem p_markPinSS {l : List (List T2)} {k : Int} {kk_ : V → V → Prop} (hp : fitLL l ∧ 0 ≤ k ∧ k + 2 * sum2 l ≤ 1099511627776) : P2 (.call F_markPinSS 1 1) [vL IL2 vLL2 l, .int .i64 k, vL IL2 vLL2 l] kk_ ↔ kk_ (.int .i64 (k + 2 * sum2 l)) (vL IL2 vLL2 (markLL2 l k)) :=
  P2_of (callIo_run (as := [vL IL2 vLL2 l, .int .i64 k]) (rs := [vL IL2 vLL2 l]) (n := 1) (nr := 1) rfl (by simp) (by unfold F_markPinSS; exact mkF_eq F_markPinSS_inj (l, k) hp) (by simp [ksAll, vL, AK.eqs_refl]))

def E_heldPinSS : List (List T2) × Int → List V := fun (l, k) => [vL IL2 vLL2 l, .int .i64 k]
noncomputable def F_heldPinSS : List V → Option (List V) := mkF E_heldPinSS (fun (l, k) => fitLL l ∧ 0 ≤ k ∧ k + 2 * sum2 l ≤ 1099511627776) (fun (l, k) => [.int .i64 (if l = markLL2 l k then k + 2 * sum2 l else -1)])
theorem F_heldPinSS_inj : ∀ x y, E_heldPinSS x = E_heldPinSS y → x = y := by
  rintro ⟨l, k⟩ ⟨l', k'⟩ h
  simpa [E_heldPinSS] using h
theorem F_heldPinSS_elim {P : List V → List V → Prop} (h : ∀ (l : List (List T2)) (k : Int), (fitLL l ∧ 0 ≤ k ∧ k + 2 * sum2 l ≤ 1099511627776) → P [vL IL2 vLL2 l, .int .i64 k] [.int .i64 (if l = markLL2 l k then k + 2 * sum2 l else -1)]) : ∀ ds outs, F_heldPinSS ds = some outs → P ds outs := by
  intro ds outs hh
  obtain ⟨⟨l, k⟩, rfl, hp, rfl⟩ := mkF_inv hh
  exact h l k hp
theorem p_heldPinSS {l : List (List T2)} {k : Int} {nr_ : Nat} {kk_ : V → Prop} (hp : fitLL l ∧ 0 ≤ k ∧ k + 2 * sum2 l ≤ 1099511627776) : P1 (.call F_heldPinSS 0 nr_) [vL IL2 vLL2 l, .int .i64 k] kk_ ↔ kk_ (.int .i64 (if l = markLL2 l k then k + 2 * sum2 l else -1)) :=
  P1_callF (by unfold F_heldPinSS; exact mkF_eq F_heldPinSS_inj (l, k) hp)

def E_szBench : Bench × Int → List V := fun (x, n) => [.int .i64 x.s, .int .i64 x.t, vL I2 v2 x.p, vL IL2 vLL2 x.o, .int .i64 n]
noncomputable def F_szBench : List V → Option (List V) := mkF E_szBench (fun (x, n) => x.p.length ≤ 9223372036854775807 ∧ x.o.length ≤ 9223372036854775807 ∧ (∀ y ∈ x.o, y.length ≤ 9223372036854775807) ∧ 0 ≤ n ∧ n ≤ 1048576) (fun (x, n) => [.int .i64 (if (x.p.length : Int) + tot2 x.o ≤ n then n - x.p.length - tot2 x.o else -1)])
theorem F_szBench_inj : ∀ x y, E_szBench x = E_szBench y → x = y := by
  rintro ⟨⟨xs, xt, xp, xo⟩, n⟩ ⟨⟨xs', xt', xp', xo'⟩, n'⟩ h
  simpa [E_szBench, and_assoc] using h
theorem F_szBench_elim {P : List V → List V → Prop} (h : ∀ (x : Bench) (n : Int), (x.p.length ≤ 9223372036854775807 ∧ x.o.length ≤ 9223372036854775807 ∧ (∀ y ∈ x.o, y.length ≤ 9223372036854775807) ∧ 0 ≤ n ∧ n ≤ 1048576) → P [.int .i64 x.s, .int .i64 x.t, vL I2 v2 x.p, vL IL2 vLL2 x.o, .int .i64 n] [.int .i64 (if (x.p.length : Int) + tot2 x.o ≤ n then n - x.p.length - tot2 x.o else -1)]) : ∀ ds outs, F_szBench ds = some outs → P ds outs := by
  intro ds outs hh
  obtain ⟨⟨x, n⟩, rfl, hp, rfl⟩ := mkF_inv hh
  exact h x n hp
theorem p_szBench {x_s : Int} {x_t : Int} {x_p : List T2} {x_o : List (List T2)} {n : Int} {nr_ : Nat} {kk_ : V → Prop} (hp : (⟨x_s, x_t, x_p, x_o⟩ : Bench).p.length ≤ 9223372036854775807 ∧ (⟨x_s, x_t, x_p, x_o⟩ : Bench).o.length ≤ 9223372036854775807 ∧ (∀ y ∈ (⟨x_s, x_t, x_p, x_o⟩ : Bench).o, y.length ≤ 9223372036854775807) ∧ 0 ≤ n ∧ n ≤ 1048576) : P1 (.call F_szBench 0 nr_) [.int .i64 x_s, .int .i64 x_t, vL I2 v2 x_p, vL IL2 vLL2 x_o, .int .i64 n] kk_ ↔ kk_ (.int .i64 (if ((⟨x_s, x_t, x_p, x_o⟩ : Bench).p.length : Int) + tot2 (⟨x_s, x_t, x_p, x_o⟩ : Bench).o ≤ n then n - (⟨x_s, x_t, x_p, x_o⟩ : Bench).p.length - tot2 (⟨x_s, x_t, x_p, x_o⟩ : Bench).o else -1)) :=
  P1_callF (by unfold F_szBench; exact mkF_eq F_szBench_inj ((⟨x_s, x_t, x_p, x_o⟩ : Bench), n) hp)

def E_toBench (x : Bench) : List V := [.int .i64 x.s, .int .i64 x.t, vL I2 v2 x.p, vL IL2 vLL2 x.o]
noncomputable def F_toBench : List V → Option (List V) := mkF E_toBench (fun x => x.p.length ≤ 1048576 ∧ fitLL x.o) (fun x => [.int .i64 x.s, .int .i64 x.t, vL I2 v2 x.p, vL IL2 vLL2 x.o])
theorem F_toBench_inj : ∀ x y, E_toBench x = E_toBench y → x = y := by
  rintro ⟨xs, xt, xp, xo⟩ ⟨xs', xt', xp', xo'⟩ h
  simpa [E_toBench] using h
theorem F_toBench_elim {P : List V → List V → Prop} (h : ∀ (x : Bench), (x.p.length ≤ 1048576 ∧ fitLL x.o) → P [.int .i64 x.s, .int .i64 x.t, vL I2 v2 x.p, vL IL2 vLL2 x.o] [.int .i64 x.s, .int .i64 x.t, vL I2 v2 x.p, vL IL2 vLL2 x.o]) : ∀ ds outs, F_toBench ds = some outs → P ds outs := by
  intro ds outs hh
  obtain ⟨x, rfl, hp, rfl⟩ := mkF_inv hh
  exact h x hp
theorem p_toBench {x_s : Int} {x_t : Int} {x_p : List T2} {x_o : List (List T2)} {nr_ : Nat} {kk_ : V → V → V → V → Prop} (hp : (⟨x_s, x_t, x_p, x_o⟩ : Bench).p.length ≤ 1048576 ∧ fitLL (⟨x_s, x_t, x_p, x_o⟩ : Bench).o) : P4 (.call F_toBench 0 nr_) [.int .i64 x_s, .int .i64 x_t, vL I2 v2 x_p, vL IL2 vLL2 x_o] kk_ ↔ kk_ (.int .i64 ((⟨x_s, x_t, x_p, x_o⟩ : Bench)).s) (.int .i64 ((⟨x_s, x_t, x_p, x_o⟩ : Bench)).t) (vL I2 v2 ((⟨x_s, x_t, x_p, x_o⟩ : Bench)).p) (vL IL2 vLL2 ((⟨x_s, x_t, x_p, x_o⟩ : Bench)).o) :=
  P4_callF (by unfold F_toBench; exact mkF_eq F_toBench_inj ((⟨x_s, x_t, x_p, x_o⟩ : Bench)) hp)

def E_eqBench : Bench × Bench → List V := fun (x, y) => [.int .i64 x.s, .int .i64 x.t, vL I2 v2 x.p, vL IL2 vLL2 x.o, .int .i64 y.s, .int .i64 y.t, vL I2 v2 y.p, vL IL2 vLL2 y.o]
noncomputable def F_eqBench : List V → Option (List V) := mkF E_eqBench (fun (x, y) => x.p.length ≤ 1048576 ∧ fitLL x.o ∧ y.p.length ≤ 1048576 ∧ fitLL y.o) (fun (x, y) => [.bool (decide (x.s = y.s ∧ x.t = y.t ∧ x.p = y.p ∧ x.o = y.o))])
theorem F_eqBench_inj : ∀ x y, E_eqBench x = E_eqBench y → x = y := by
  rintro ⟨⟨xs, xt, xp, xo⟩, ⟨ys, yt, yp, yo⟩⟩ ⟨⟨xs', xt', xp', xo'⟩, ⟨ys', yt', yp', yo'⟩⟩ h
  simpa [E_eqBench, and_assoc] using h
theorem F_eqBench_elim {P : List V → List V → Prop} (h : ∀ (x : Bench) (y : Bench), (x.p.length ≤ 1048576 ∧ fitLL x.o ∧ y.p.length ≤ 1048576 ∧ fitLL y.o) → P [.int .i64 x.s, .int .i64 x.t, vL I2 v2 x.p, vL IL2 vLL2 x.o, .int .i64 y.s, .int .i64 y.t, vL I2 v2 y.p, vL IL2 vLL2 y.o] [.bool (decide (x.s = y.s ∧ x.t = y.t ∧ x.p = y.p ∧ x.o = y.o))]) : ∀ ds outs, F_eqBench ds = some outs → P ds outs := by
  intro ds outs hh
  obtain ⟨⟨x, y⟩, rfl, hp, rfl⟩ := mkF_inv hh
  exact h x y hp
theorem p_eqBench {x_s : Int} {x_t : Int} {x_p : List T2} {x_o : List (List T2)} {y_s : Int} {y_t : Int} {y_p : List T2} {y_o : List (List T2)} {nr_ : Nat} {kk_ : V → Prop} (hp : (⟨x_s, x_t, x_p, x_o⟩ : Bench).p.length ≤ 1048576 ∧ fitLL (⟨x_s, x_t, x_p, x_o⟩ : Bench).o ∧ (⟨y_s, y_t, y_p, y_o⟩ : Bench).p.length ≤ 1048576 ∧ fitLL (⟨y_s, y_t, y_p, y_o⟩ : Bench).o) : P1 (.call F_eqBench 0 nr_) [.int .i64 x_s, .int .i64 x_t, vL I2 v2 x_p, vL IL2 vLL2 x_o, .int .i64 y_s, .int .i64 y_t, vL I2 v2 y_p, vL IL2 vLL2 y_o] kk_ ↔ kk_ (.bool (decide ((⟨x_s, x_t, x_p, x_o⟩ : Bench).s = (⟨y_s, y_t, y_p, y_o⟩ : Bench).s ∧ (⟨x_s, x_t, x_p, x_o⟩ : Bench).t = (⟨y_s, y_t, y_p, y_o⟩ : Bench).t ∧ (⟨x_s, x_t, x_p, x_o⟩ : Bench).p = (⟨y_s, y_t, y_p, y_o⟩ : Bench).p ∧ (⟨x_s, x_t, x_p, x_o⟩ : Bench).o = (⟨y_s, y_t, y_p, y_o⟩ : Bench).o))) :=
  P1_callF (by unfold F_eqBench; exact mkF_eq F_eqBench_inj ((⟨x_s, x_t, x_p, x_o⟩ : Bench), (⟨y_s, y_t, y_p, y_o⟩ : Bench)) hp)

def E_markBench : Bench × Int → List V := fun (x, k) => [.int .i64 x.s, .int .i64 x.t, vL I2 v2 x.p, vL IL2 vLL2 x.o, .int .i64 k]
noncomputable def F_markBench : List V → Option (List V) := mkF E_markBench (fun (x, k) => x.p.length ≤ 1048576 ∧ fitLL x.o ∧ 0 ≤ k ∧ k + 2 * x.p.length + 2 * sum2 x.o ≤ 1099511627776) (fun (x, k) => [.int .i64 (k + 2 * x.p.length + 2 * sum2 x.o), vL I2 v2 (markL2 x.p.length k), vL IL2 vLL2 (markLL2 x.o (k + 2 * x.p.length))])
theorem F_markBench_inj : ∀ x y, E_markBench x = E_markBench y → x = y := by
  rintro ⟨⟨xs, xt, xp, xo⟩, k⟩ ⟨⟨xs', xt', xp', xo'⟩, k'⟩ h
  simpa [E_markBench, and_assoc] using h
theorem F_markBench_elim {P : List V → List V → Prop} (h : ∀ (x : Bench) (k : Int), (x.p.length ≤ 1048576 ∧ fitLL x.o ∧ 0 ≤ k ∧ k + 2 * x.p.length + 2 * sum2 x.o ≤ 1099511627776) → P [.int .i64 x.s, .int .i64 x.t, vL I2 v2 x.p, vL IL2 vLL2 x.o, .int .i64 k] [.int .i64 (k + 2 * x.p.length + 2 * sum2 x.o), vL I2 v2 (markL2 x.p.length k), vL IL2 vLL2 (markLL2 x.o (k + 2 * x.p.length))]) : ∀ ds outs, F_markBench ds = some outs → P ds outs := by
  intro ds outs hh
  obtain ⟨⟨x, k⟩, rfl, hp, rfl⟩ := mkF_inv hh
  exact h x k hp
theorem p_markBench {x_s : Int} {x_t : Int} {x_p : List T2} {x_o : List (List T2)} {k : Int} {kk_ : V → V → V → Prop} (hp : (⟨x_s, x_t, x_p, x_o⟩ : Bench).p.length ≤ 1048576 ∧ fitLL (⟨x_s, x_t, x_p, x_o⟩ : Bench).o ∧ 0 ≤ k ∧ k + 2 * (⟨x_s, x_t, x_p, x_o⟩ : Bench).p.length + 2 * sum2 (⟨x_s, x_t, x_p, x_o⟩ : Bench).o ≤ 1099511627776) : P3 (.call F_markBench 2 1) [.int .i64 x_s, .int .i64 x_t, vL I2 v2 x_p, vL IL2 vLL2 x_o, .int .i64 k, vL I2 v2 x_p, vL IL2 vLL2 x_o] kk_ ↔ kk_ (.int .i64 (k + 2 * (⟨x_s, x_t, x_p, x_o⟩ : Bench).p.length + 2 * sum2 (⟨x_s, x_t, x_p, x_o⟩ : Bench).o)) (vL I2 v2 (markL2 (⟨x_s, x_t, x_p, x_o⟩ : Bench).p.length k)) (vL IL2 vLL2 (markLL2 (⟨x_s, x_t, x_p, x_o⟩ : Bench).o (k + 2 * (⟨x_s, x_t, x_p, x_o⟩ : Bench).p.length))) :=
  P3_of (callIo_run (as := [.int .i64 x_s, .int .i64 x_t, vL I2 v2 x_p, vL IL2 vLL2 x_o, .int .i64 k]) (rs := [vL I2 v2 x_p, vL IL2 vLL2 x_o]) (n := 2) (nr := 1) rfl (by simp) (by unfold F_markBench; exact mkF_eq F_markBench_inj ((⟨x_s, x_t, x_p, x_o⟩ : Bench), k) hp) (by simp [ksAll, vL, AK.eqs_refl]))

def E_heldBench : Bench × Int → List V := fun (x, k) => [.int .i64 x.s, .int .i64 x.t, vL I2 v2 x.p, vL IL2 vLL2 x.o, .int .i64 k]
noncomputable def F_heldBench : List V → Option (List V) := mkF E_heldBench (fun (x, k) => x.p.length ≤ 1048576 ∧ fitLL x.o ∧ 0 ≤ k ∧ k + 2 * x.p.length + 2 * sum2 x.o ≤ 1099511627776) (fun (x, k) => [.int .i64 (if x.p = markL2 x.p.length k ∧ x.o = markLL2 x.o (k + 2 * x.p.length) then k + 2 * x.p.length + 2 * sum2 x.o else -1)])
theorem F_heldBench_inj : ∀ x y, E_heldBench x = E_heldBench y → x = y := by
  rintro ⟨⟨xs, xt, xp, xo⟩, k⟩ ⟨⟨xs', xt', xp', xo'⟩, k'⟩ h
  simpa [E_heldBench, and_assoc] using h
theorem F_heldBench_elim {P : List V → List V → Prop} (h : ∀ (x : Bench) (k : Int), (x.p.length ≤ 1048576 ∧ fitLL x.o ∧ 0 ≤ k ∧ k + 2 * x.p.length + 2 * sum2 x.o ≤ 1099511627776) → P [.int .i64 x.s, .int .i64 x.t, vL I2 v2 x.p, vL IL2 vLL2 x.o, .int .i64 k] [.int .i64 (if x.p = markL2 x.p.length k ∧ x.o = markLL2 x.o (k + 2 * x.p.length) then k + 2 * x.p.length + 2 * sum2 x.o else -1)]) : ∀ ds outs, F_heldBench ds = some outs → P ds outs := by
  intro ds outs hh
  obtain ⟨⟨x, k⟩, rfl, hp, rfl⟩ := mkF_inv hh
  exact h x k hp
theorem p_heldBench {x_s : Int} {x_t : Int} {x_p : List T2} {x_o : List (List T2)} {k : Int} {nr_ : Nat} {kk_ : V → Prop} (hp : (⟨x_s, x_t, x_p, x_o⟩ : Bench).p.length ≤ 1048576 ∧ fitLL (⟨x_s, x_t, x_p, x_o⟩ : Bench).o ∧ 0 ≤ k ∧ k + 2 * (⟨x_s, x_t, x_p, x_o⟩ : Bench).p.length + 2 * sum2 (⟨x_s, x_t, x_p, x_o⟩ : Bench).o ≤ 1099511627776) : P1 (.call F_heldBench 0 nr_) [.int .i64 x_s, .int .i64 x_t, vL I2 v2 x_p, vL IL2 vLL2 x_o, .int .i64 k] kk_ ↔ kk_ (.int .i64 (if (⟨x_s, x_t, x_p, x_o⟩ : Bench).p = markL2 (⟨x_s, x_t, x_p, x_o⟩ : Bench).p.length k ∧ (⟨x_s, x_t, x_p, x_o⟩ : Bench).o = markLL2 (⟨x_s, x_t, x_p, x_o⟩ : Bench).o (k + 2 * (⟨x_s, x_t, x_p, x_o⟩ : Bench).p.length) then k + 2 * (⟨x_s, x_t, x_p, x_o⟩ : Bench).p.length + 2 * sum2 (⟨x_s, x_t, x_p, x_o⟩ : Bench).o else -1)) :=
  P1_callF (by unfold F_heldBench; exact mkF_eq F_heldBench_inj ((⟨x_s, x_t, x_p, x_o⟩ : Bench), k) hp)


/-! benches -/
def benchOk (b : Bench) : Bool := cylOk ⟨b.s, b.t, b.p⟩ && (decide (b.o.length ≤ 30) && b.o.all fun p => cylOk ⟨b.s, b.t, p⟩)
def E_BenchOk (x : Bench) : List V := [.int .i64 x.s, .int .i64 x.t, vL I2 v2 x.p, vL IL2 vLL2 x.o]
noncomputable def F_BenchOk : List V → Option (List V) := mkF E_BenchOk (fun x => x.p.length ≤ 1048576 ∧ fitLL x.o) (fun x => [.bool (benchOk x)])
theorem F_BenchOk_inj : ∀ x y, E_BenchOk x = E_BenchOk y → x = y := by
  rintro ⟨xs, xt, xp, xo⟩ ⟨xs', xt', xp', xo'⟩ h
  simpa [E_BenchOk] using h
theorem F_BenchOk_elim {P : List V → List V → Prop} (h : ∀ (x : Bench), (x.p.length ≤ 1048576 ∧ fitLL x.o) → P [.int .i64 x.s, .int .i64 x.t, vL I2 v2 x.p, vL IL2 vLL2 x.o] [.bool (benchOk x)]) : ∀ ds outs, F_BenchOk ds = some outs → P ds outs := by
  intro ds outs hh
  obtain ⟨x, rfl, hp, rfl⟩ := mkF_inv hh
  exact h x hp
theorem p_BenchOk {x_s : Int} {x_t : Int} {x_p : List T2} {x_o : List (List T2)} {nr_ : Nat} {kk_ : V → Prop} (hp : (⟨x_s, x_t, x_p, x_o⟩ : Bench).p.length ≤ 1048576 ∧ fitLL (⟨x_s, x_t, x_p, x_o⟩ : Bench).o) : P1 (.call F_BenchOk 0 nr_) [.int .i64 x_s, .int .i64 x_t, vL I2 v2 x_p, vL IL2 vLL2 x_o] kk_ ↔ kk_ (.bool (benchOk (⟨x_s, x_t, x_p, x_o⟩ : Bench))) :=
  P1_callF (by unfold F_BenchOk; exact mkF_eq F_BenchOk_inj ((⟨x_s, x_t, x_p, x_o⟩ : Bench)) hp)

def newBench (s t : Int) : Bench := if benchOk ⟨s, t, [], []⟩ then ⟨s, t, [], []⟩ else ⟨0, 0, [], []⟩
def E_NewBench : Int × Int → List V := fun (s, t) => [.int .i64 s, .int .i64 t]
noncomputable def F_NewBench : List V → Option (List V) := mkF E_NewBench (fun (_, _) => True) (fun (s, t) => [.int .i64 (newBench s t).s, .int .i64 (newBench s t).t, vL I2 v2 (newBench s t).p, vL IL2 vLL2 (newBench s t).o, .bool (benchOk ⟨s, t, [], []⟩)])
theorem F_NewBench_inj : ∀ x y, E_NewBench x = E_NewBench y → x = y := by
  rintro ⟨s, t⟩ ⟨s', t'⟩ h
  simpa [E_NewBench] using h
theorem F_NewBench_elim {P : List V → List V → Prop} (h : ∀ (s : Int) (t : Int), P [.int .i64 s, .int .i64 t] [.int .i64 (newBench s t).s, .int .i64 (newBench s t).t, vL I2 v2 (newBench s t).p, vL IL2 vLL2 (newBench s t).o, .bool (benchOk ⟨s, t, [], []⟩)]) : ∀ ds outs, F_NewBench ds = some outs → P ds outs := by
  intro ds outs hh
  obtain ⟨⟨s, t⟩, rfl, -, rfl⟩ := mkF_inv hh
  exact h s t
@[simp] theorem p_NewBench {s : Int} {t : Int} {nr_ : Nat} {kk_ : V → V → V → V → V → Prop} : P5 (.call F_NewBench 0 nr_) [.int .i64 s, .int .i64 t] kk_ ↔ kk_ (.int .i64 (newBench s t).s) (.int .i64 (newBench s t).t) (vL I2 v2 (newBench s t).p) (vL IL2 vLL2 (newBench s t).o) (.bool (benchOk ⟨s, t, [], []⟩)) :=
  P5_callF (by unfold F_NewBench; exact mkF_eq F_NewBench_inj (s, t) trivial)

def E_copyPins (l : List T2) : List V := [vL I2 v2 l]
noncomputable def F_copyPins : List V → Option (List V) := mkF E_copyPins (fun l => l.length ≤ 4194304) (fun l => [vL I2 v2 l])
theorem F_copyPins_inj : ∀ x y, E_copyPins x = E_copyPins y → x = y := by
  rintro l l' h
  simpa [E_copyPins] using h
theorem F_copyPins_elim {P : List V → List V → Prop} (h : ∀ (l : List T2), (l.length ≤ 4194304) → P [vL I2 v2 l] [vL I2 v2 l]) : ∀ ds outs, F_copyPins ds = some outs → P ds outs := by
  intro ds outs hh
  obtain ⟨l, rfl, hp, rfl⟩ := mkF_inv hh
  exact h l hp
theorem p_copyPins {l : List T2} {nr_ : Nat} {kk_ : V → Prop} (hp : l.length ≤ 4194304) : P1 (.call F_copyPins 0 nr_) [vL I2 v2 l] kk_ ↔ kk_ (vL I2 v2 l) :=
  P1_callF (by unfold F_copyPins; exact mkF_eq F_copyPins_inj (l) hp)

def E_copyCylinder (x : Cyl) : List V := [.int .i64 x.s, .int .i64 x.t, vL I2 v2 x.p]
noncomputable def F_copyCylinder : List V → Option (List V) := mkF E_copyCylinder (fun x => x.p.length ≤ 4194304) (fun x => [.int .i64 x.s, .int .i64 x.t, vL I2 v2 x.p])
theorem F_copyCylinder_inj : ∀ x y, E_copyCylinder x = E_copyCylinder y → x = y := by
  rintro ⟨xs, xt, xp⟩ ⟨xs', xt', xp'⟩ h
  simpa [E_copyCylinder] using h
theorem F_copyCylinder_elim {P : List V → List V → Prop} (h : ∀ (x : Cyl), (x.p.length ≤ 4194304) → P [.int .i64 x.s, .int .i64 x.t, vL I2 v2 x.p] [.int .i64 x.s, .int .i64 x.t, vL I2 v2 x.p]) : ∀ ds outs, F_copyCylinder ds = some outs → P ds outs := by
  intro ds outs hh
  obtain ⟨x, rfl, hp, rfl⟩ := mkF_inv hh
  exact h x hp
theorem p_copyCylinder {x_s : Int} {x_t : Int} {x_p : List T2} {nr_ : Nat} {kk_ : V → V → V → Prop} (hp : (⟨x_s, x_t, x_p⟩ : Cyl).p.length ≤ 4194304) : P3 (.call F_copyCylinder 0 nr_) [.int .i64 x_s, .int .i64 x_t, vL I2 v2 x_p] kk_ ↔ kk_ (.int .i64 ((⟨x_s, x_t, x_p⟩ : Cyl)).s) (.int .i64 ((⟨x_s, x_t, x_p⟩ : Cyl)).t) (vL I2 v2 ((⟨x_s, x_t, x_p⟩ : Cyl)).p) :=
  P3_callF (by unfold F_copyCylinder; exact mkF_eq F_copyCylinder_inj ((⟨x_s, x_t, x_p⟩ : Cyl)) hp)

def E_l06Copy (x : Cyl) : List V := [.int .i64 x.s, .int .i64 x.t, vL I2 v2 x.p]
noncomputable def F_l06Copy : List V → Option (List V) := mkF E_l06Copy (fun x => x.p.length ≤ 4194304) (fun x => [.int .i64 x.s, .int .i64 x.t, vL I2 v2 x.p])
theorem F_l06Copy_inj : ∀ x y, E_l06Copy x = E_l06Copy y → x = y := by
  rintro ⟨xs, xt, xp⟩ ⟨xs', xt', xp'⟩ h
  simpa [E_l06Copy] using h
theorem F_l06Copy_elim {P : List V → List V → Prop} (h : ∀ (x : Cyl), (x.p.length ≤ 4194304) → P [.int .i64 x.s, .int .i64 x.t, vL I2 v2 x.p] [.int .i64 x.s, .int .i64 x.t, vL I2 v2 x.p]) : ∀ ds outs, F_l06Copy ds = some outs → P ds outs := by
  intro ds outs hh
  obtain ⟨x, rfl, hp, rfl⟩ := mkF_inv hh
  exact h x hp
theorem p_l06Copy {x_s : Int} {x_t : Int} {x_p : List T2} {nr_ : Nat} {kk_ : V → V → V → Prop} (hp : (⟨x_s, x_t, x_p⟩ : Cyl).p.length ≤ 4194304) : P3 (.call F_l06Copy 0 nr_) [.int .i64 x_s, .int .i64 x_t, vL I2 v2 x_p] kk_ ↔ kk_ (.int .i64 ((⟨x_s, x_t, x_p⟩ : Cyl)).s) (.int .i64 ((⟨x_s, x_t, x_p⟩ : Cyl)).t) (vL I2 v2 ((⟨x_s, x_t, x_p⟩ : Cyl)).p) :=
  P3_callF (by unfold F_l06Copy; exact mkF_eq F_l06Copy_inj ((⟨x_s, x_t, x_p⟩ : Cyl)) hp)

def E_copyBench (x : Bench) : List V := [.int .i64 x.s, .int .i64 x.t, vL I2 v2 x.p, vL IL2 vLL2 x.o]
noncomputable def F_copyBench : List V → Option (List V) := mkF E_copyBench (fun x => x.p.length ≤ 1048576 ∧ fitLL x.o) (fun x => [.int .i64 x.s, .int .i64 x.t, vL I2 v2 x.p, vL IL2 vLL2 x.o])
theorem F_copyBench_inj : ∀ x y, E_copyBench x = E_copyBench y → x = y := by
  rintro ⟨xs, xt, xp, xo⟩ ⟨xs', xt', xp', xo'⟩ h
  simpa [E_copyBench] using h
theorem F_copyBench_elim {P : List V → List V → Prop} (h : ∀ (x : Bench), (x.p.length ≤ 1048576 ∧ fitLL x.o) → P [.int .i64 x.s, .int .i64 x.t, vL I2 v2 x.p, vL IL2 vLL2 x.o] [.int .i64 x.s, .int .i64 x.t, vL I2 v2 x.p, vL IL2 vLL2 x.o]) : ∀ ds outs, F_copyBench ds = some outs → P ds outs := by
  intro ds outs hh
  obtain ⟨x, rfl, hp, rfl⟩ := mkF_inv hh
  exact h x hp
theorem p_copyBench {x_s : Int} {x_t : Int} {x_p : List T2} {x_o : List (List T2)} {nr_ : Nat} {kk_ : V → V → V → V → Prop} (hp : (⟨x_s, x_t, x_p, x_o⟩ : Bench).p.length ≤ 1048576 ∧ fitLL (⟨x_s, x_t, x_p, x_o⟩ : Bench).o) : P4 (.call F_copyBench 0 nr_) [.int .i64 x_s, .int .i64 x_t, vL I2 v2 x_p, vL IL2 vLL2 x_o] kk_ ↔ kk_ (.int .i64 ((⟨x_s, x_t, x_p, x_o⟩ : Bench)).s) (.int .i64 ((⟨x_s, x_t, x_p, x_o⟩ : Bench)).t) (vL I2 v2 ((⟨x_s, x_t, x_p, x_o⟩ : Bench)).p) (vL IL2 vLL2 ((⟨x_s, x_t, x_p, x_o⟩ : Bench)).o) :=
  P4_callF (by unfold F_copyBench; exact mkF_eq F_copyBench_inj ((⟨x_s, x_t, x_p, x_o⟩ : Bench)) hp)

def E_l37Copy (x : Bench) : List V := [.int .i64 x.s, .int .i64 x.t, vL I2 v2 x.p, vL IL2 vLL2 x.o]
noncomputable def F_l37Copy : List V → Option (List V) := mkF E_l37Copy (fun x => x.p.length ≤ 1048576 ∧ fitLL x.o) (fun x => [.int .i64 x.s, .int .i64 x.t, vL I2 v2 x.p, vL IL2 vLL2 x.o])
theorem F_l37Copy_inj : ∀ x y, E_l37Copy x = E_l37Copy y → x = y := by
  rintro ⟨xs, xt, xp, xo⟩ ⟨xs', xt', xp', xo'⟩ h
  simpa [E_l37Copy] using h
theorem F_l37Copy_elim {P : List V → List V → Prop} (h : ∀ (x : Bench), (x.p.length ≤ 1048576 ∧ fitLL x.o) → P [.int .i64 x.s, .int .i64 x.t, vL I2 v2 x.p, vL IL2 vLL2 x.o] [.int .i64 x.s, .int .i64 x.t, vL I2 v2 x.p, vL IL2 vLL2 x.o]) : ∀ ds outs, F_l37Copy ds = some outs → P ds outs := by
  intro ds outs hh
  obtain ⟨x, rfl, hp, rfl⟩ := mkF_inv hh
  exact h x hp
theorem p_l37Copy {x_s : Int} {x_t : Int} {x_p : List T2} {x_o : List (List T2)} {nr_ : Nat} {kk_ : V → V → V → V → Prop} (hp : (⟨x_s, x_t, x_p, x_o⟩ : Bench).p.length ≤ 1048576 ∧ fitLL (⟨x_s, x_t, x_p, x_o⟩ : Bench).o) : P4 (.call F_l37Copy 0 nr_) [.int .i64 x_s, .int .i64 x_t, vL I2 v2 x_p, vL IL2 vLL2 x_o] kk_ ↔ kk_ (.int .i64 ((⟨x_s, x_t, x_p, x_o⟩ : Bench)).s) (.int .i64 ((⟨x_s, x_t, x_p, x_o⟩ : Bench)).t) (vL I2 v2 ((⟨x_s, x_t, x_p, x_o⟩ : Bench)).p) (vL IL2 vLL2 ((⟨x_s, x_t, x_p, x_o⟩ : Bench)).o) :=
  P4_callF (by unfold F_l37Copy; exact mkF_eq F_l37Copy_inj ((⟨x_s, x_t, x_p, x_o⟩ : Bench)) hp)

def E_hasPin : List T2 × T2 → List V := fun (l, x) => [vL I2 v2 l, .int .i64 x.a, .int .i64 x.b]
noncomputable def F_hasPin : List V → Option (List V) := mkF E_hasPin (fun (l, _) => l.length ≤ 1048576) (fun (l, x) => [.bool (decide (x ∈ l))])
theorem F_hasPin_inj : ∀ x y, E_hasPin x = E_hasPin y → x = y := by
  rintro ⟨l, ⟨xa, xb⟩⟩ ⟨l', ⟨xa', xb'⟩⟩ h
  simpa [E_hasPin, and_assoc] using h
theorem F_hasPin_elim {P : List V → List V → Prop} (h : ∀ (l : List T2) (x : T2), (l.length ≤ 1048576) → P [vL I2 v2 l, .int .i64 x.a, .int .i64 x.b] [.bool (decide (x ∈ l))]) : ∀ ds outs, F_hasPin ds = some outs → P ds outs := by
  intro ds outs hh
  obtain ⟨⟨l, x⟩, rfl, hp, rfl⟩ := mkF_inv hh
  exact h l x hp
theorem p_hasPin {l : List T2} {x_a : Int} {x_b : Int} {nr_ : Nat} {kk_ : V → Prop} (hp : l.length ≤ 1048576) : P1 (.call F_hasPin 0 nr_) [vL I2 v2 l, .int .i64 x_a, .int .i64 x_b] kk_ ↔ kk_ (.bool (decide ((⟨x_a, x_b⟩ : T2) ∈ l))) :=
  P1_callF (by unfold F_hasPin; exact mkF_eq F_hasPin_inj (l, (⟨x_a, x_b⟩ : T2)) hp)

def missing (a b : List T2) : Int := (a.filter fun p => decide (p ∉ b)).length
def E_l37Missing : List T2 × List T2 → List V := fun (l, m) => [vL I2 v2 l, vL I2 v2 m]
noncomputable def F_l37Missing : List V → Option (List V) := mkF E_l37Missing (fun (l, m) => l.length ≤ 1048576 ∧ m.length ≤ 1048576) (fun (l, m) => [.int .i64 (missing l m)])
theorem F_l37Missing_inj : ∀ x y, E_l37Missing x = E_l37Missing y → x = y := by
  rintro ⟨l, m⟩ ⟨l', m'⟩ h
  simpa [E_l37Missing] using h
theorem F_l37Missing_elim {P : List V → List V → Prop} (h : ∀ (l : List T2) (m : List T2), (l.length ≤ 1048576 ∧ m.length ≤ 1048576) → P [vL I2 v2 l, vL I2 v2 m] [.int .i64 (missing l m)]) : ∀ ds outs, F_l37Missing ds = some outs → P ds outs := by
  intro ds outs hh
  obtain ⟨⟨l, m⟩, rfl, hp, rfl⟩ := mkF_inv hh
  exact h l m hp
theorem p_l37Missing {l : List T2} {m : List T2} {nr_ : Nat} {kk_ : V → Prop} (hp : l.length ≤ 1048576 ∧ m.length ≤ 1048576) : P1 (.call F_l37Missing 0 nr_) [vL I2 v2 l, vL I2 v2 m] kk_ ↔ kk_ (.int .i64 (missing l m)) :=
  P1_callF (by unfold F_l37Missing; exact mkF_eq F_l37Missing_inj (l, m) hp)

def changedPins (b : Bench) : Int := if benchOk b then (match b.o with
  | [] => 0
  | q :: _ => missing b.p q + missing q b.p) else -1
def E_ChangedPins (x : Bench) : List V := [.int .i64 x.s, .int .i64 x.t, vL I2 v2 x.p, vL IL2 vLL2 x.o]
noncomputable def F_ChangedPins : List V → Option (List V) := mkF E_ChangedPins (fun x => x.p.length ≤ 1048576 ∧ fitLL x.o) (fun x => [.int .i64 (changedPins x)])
theorem F_ChangedPins_inj : ∀ x y, E_ChangedPins x = E_ChangedPins y → x = y := by
  rintro ⟨xs, xt, xp, xo⟩ ⟨xs', xt', xp', xo'⟩ h
  simpa [E_ChangedPins] using h
theorem F_ChangedPins_elim {P : List V → List V → Prop} (h : ∀ (x : Bench), (x.p.length ≤ 1048576 ∧ fitLL x.o) → P [.int .i64 x.s, .int .i64 x.t, vL I2 v2 x.p, vL IL2 vLL2 x.o] [.int .i64 (changedPins x)]) : ∀ ds outs, F_ChangedPins ds = some outs → P ds outs := by
  intro ds outs hh
  obtain ⟨x, rfl, hp, rfl⟩ := mkF_inv hh
  exact h x hp
theorem p_ChangedPins {x_s : Int} {x_t : Int} {x_p : List T2} {x_o : List (List T2)} {nr_ : Nat} {kk_ : V → Prop} (hp : (⟨x_s, x_t, x_p, x_o⟩ : Bench).p.length ≤ 1048576 ∧ fitLL (⟨x_s, x_t, x_p, x_o⟩ : Bench).o) : P1 (.call F_ChangedPins 0 nr_) [.int .i64 x_s, .int .i64 x_t, vL I2 v2 x_p, vL IL2 vLL2 x_o] kk_ ↔ kk_ (.int .i64 (changedPins (⟨x_s, x_t, x_p, x_o⟩ : Bench))) :=
  P1_callF (by unfold F_ChangedPins; exact mkF_eq F_ChangedPins_inj ((⟨x_s, x_t, x_p, x_o⟩ : Bench)) hp)

def pullPin (c : Cyl) (k : Int) : List T2 := if cylOk c && (decide (0 ≤ k) && decide (k < c.p.length)) then c.p.take k.toNat ++ c.p.drop (k.toNat + 1) else c.p
def E_PullPin : Cyl × Int → List V := fun (x, k) => [.int .i64 x.s, .int .i64 x.t, vL I2 v2 x.p, .int .i64 k]
noncomputable def F_PullPin : List V → Option (List V) := mkF E_PullPin (fun (x, _) => x.p.length ≤ 1048576) (fun (x, k) => [.int .i64 ((⟨x.s, x.t, pullPin x k⟩ : Cyl)).s, .int .i64 ((⟨x.s, x.t, pullPin x k⟩ : Cyl)).t, vL I2 v2 ((⟨x.s, x.t, pullPin x k⟩ : Cyl)).p, .bool (cylOk x && (decide (0 ≤ k) && decide (k < x.p.length)))])
theorem F_PullPin_inj : ∀ x y, E_PullPin x = E_PullPin y → x = y := by
  rintro ⟨⟨xs, xt, xp⟩, k⟩ ⟨⟨xs', xt', xp'⟩, k'⟩ h
  simpa [E_PullPin, and_assoc] using h
theorem F_PullPin_elim {P : List V → List V → Prop} (h : ∀ (x : Cyl) (k : Int), (x.p.length ≤ 1048576) → P [.int .i64 x.s, .int .i64 x.t, vL I2 v2 x.p, .int .i64 k] [.int .i64 ((⟨x.s, x.t, pullPin x k⟩ : Cyl)).s, .int .i64 ((⟨x.s, x.t, pullPin x k⟩ : Cyl)).t, vL I2 v2 ((⟨x.s, x.t, pullPin x k⟩ : Cyl)).p, .bool (cylOk x && (decide (0 ≤ k) && decide (k < x.p.length)))]) : ∀ ds outs, F_PullPin ds = some outs → P ds outs := by
  intro ds outs hh
  obtain ⟨⟨x, k⟩, rfl, hp, rfl⟩ := mkF_inv hh
  exact h x k hp
theorem p_PullPin {x_s : Int} {x_t : Int} {x_p : List T2} {k : Int} {nr_ : Nat} {kk_ : V → V → V → V → Prop} (hp : (⟨x_s, x_t, x_p⟩ : Cyl).p.length ≤ 1048576) : P4 (.call F_PullPin 0 nr_) [.int .i64 x_s, .int .i64 x_t, vL I2 v2 x_p, .int .i64 k] kk_ ↔ kk_ (.int .i64 ((⟨(⟨x_s, x_t, x_p⟩ : Cyl).s, (⟨x_s, x_t, x_p⟩ : Cyl).t, pullPin (⟨x_s, x_t, x_p⟩ : Cyl) k⟩ : Cyl)).s) (.int .i64 ((⟨(⟨x_s, x_t, x_p⟩ : Cyl).s, (⟨x_s, x_t, x_p⟩ : Cyl).t, pullPin (⟨x_s, x_t, x_p⟩ : Cyl) k⟩ : Cyl)).t) (vL I2 v2 ((⟨(⟨x_s, x_t, x_p⟩ : Cyl).s, (⟨x_s, x_t, x_p⟩ : Cyl).t, pullPin (⟨x_s, x_t, x_p⟩ : Cyl) k⟩ : Cyl)).p) (.bool (cylOk (⟨x_s, x_t, x_p⟩ : Cyl) && (decide (0 ≤ k) && decide (k < (⟨x_s, x_t, x_p⟩ : Cyl).p.length)))) :=
  P4_callF (by unfold F_PullPin; exact mkF_eq F_PullPin_inj ((⟨x_s, x_t, x_p⟩ : Cyl), k) hp)


/-! workshops -/
def upward : List Int → Bool
  | [] => true
  | [_] => true
  | a :: b :: r => decide (a ≤ b) && upward (b :: r)
def combOk (l : List Int) : Bool := within l.length 1 24 && (l.all (within · 0 60) && upward l)
def E_CombOk (l : List Int) : List V := [vL I1 v1 l]
noncomputable def F_CombOk : List V → Option (List V) := mkF E_CombOk (fun l => l.length ≤ 1048576) (fun l => [.bool (combOk l)])
theorem F_CombOk_inj : ∀ x y, E_CombOk x = E_CombOk y → x = y := by
  rintro l l' h
  simpa [E_CombOk] using h
theorem F_CombOk_elim {P : List V → List V → Prop} (h : ∀ (l : List Int), (l.length ≤ 1048576) → P [vL I1 v1 l] [.bool (combOk l)]) : ∀ ds outs, F_CombOk ds = some outs → P ds outs := by
  intro ds outs hh
  obtain ⟨l, rfl, hp, rfl⟩ := mkF_inv hh
  exact h l hp
theorem p_CombOk {l : List Int} {nr_ : Nat} {kk_ : V → Prop} (hp : l.length ≤ 1048576) : P1 (.call F_CombOk 0 nr_) [vL I1 v1 l] kk_ ↔ kk_ (.bool (combOk l)) :=
  P1_callF (by unfold F_CombOk; exact mkF_eq F_CombOk_inj (l) hp)

def springOk (s : T3) : Bool := within s.b 1 50 && (within s.a 0 s.b && within s.c 1 10000)
def E_SpringOk (x : T3) : List V := [.int .i64 x.a, .int .i64 x.b, .int .i64 x.c]
noncomputable def F_SpringOk : List V → Option (List V) := mkF E_SpringOk (fun _ => True) (fun x => [.bool (springOk x)])
theorem F_SpringOk_inj : ∀ x y, E_SpringOk x = E_SpringOk y → x = y := by
  rintro ⟨xa, xb, xc⟩ ⟨xa', xb', xc'⟩ h
  simpa [E_SpringOk] using h
theorem F_SpringOk_elim {P : List V → List V → Prop} (h : ∀ (x : T3), P [.int .i64 x.a, .int .i64 x.b, .int .i64 x.c] [.bool (springOk x)]) : ∀ ds outs, F_SpringOk ds = some outs → P ds outs := by
  intro ds outs hh
  obtain ⟨x, rfl, -, rfl⟩ := mkF_inv hh
  exact h x
@[simp] theorem p_SpringOk {x_a : Int} {x_b : Int} {x_c : Int} {nr_ : Nat} {kk_ : V → Prop} : P1 (.call F_SpringOk 0 nr_) [.int .i64 x_a, .int .i64 x_b, .int .i64 x_c] kk_ ↔ kk_ (.bool (springOk (⟨x_a, x_b, x_c⟩ : T3))) :=
  P1_callF (by unfold F_SpringOk; exact mkF_eq F_SpringOk_inj ((⟨x_a, x_b, x_c⟩ : T3)) trivial)

def E_toSpring (x : T3) : List V := [.int .i64 x.a, .int .i64 x.b, .int .i64 x.c]
noncomputable def F_toSpring : List V → Option (List V) := mkF E_toSpring (fun _ => True) (fun x => [.int .i64 x.a, .int .i64 x.b, .int .i64 x.c])
theorem F_toSpring_inj : ∀ x y, E_toSpring x = E_toSpring y → x = y := by
  rintro ⟨xa, xb, xc⟩ ⟨xa', xb', xc'⟩ h
  simpa [E_toSpring] using h
theorem F_toSpring_elim {P : List V → List V → Prop} (h : ∀ (x : T3), P [.int .i64 x.a, .int .i64 x.b, .int .i64 x.c] [.int .i64 x.a, .int .i64 x.b, .int .i64 x.c]) : ∀ ds outs, F_toSpring ds = some outs → P ds outs := by
  intro ds outs hh
  obtain ⟨x, rfl, -, rfl⟩ := mkF_inv hh
  exact h x
@[simp] theorem p_toSpring {x_a : Int} {x_b : Int} {x_c : Int} {nr_ : Nat} {kk_ : V → V → V → Prop} : P3 (.call F_toSpring 0 nr_) [.int .i64 x_a, .int .i64 x_b, .int .i64 x_c] kk_ ↔ kk_ (.int .i64 ((⟨x_a, x_b, x_c⟩ : T3)).a) (.int .i64 ((⟨x_a, x_b, x_c⟩ : T3)).b) (.int .i64 ((⟨x_a, x_b, x_c⟩ : T3)).c) :=
  P3_callF (by unfold F_toSpring; exact mkF_eq F_toSpring_inj ((⟨x_a, x_b, x_c⟩ : T3)) trivial)

def E_eqSpring : T3 × T3 → List V := fun (x, y) => [.int .i64 x.a, .int .i64 x.b, .int .i64 x.c, .int .i64 y.a, .int .i64 y.b, .int .i64 y.c]
noncomputable def F_eqSpring : List V → Option (List V) := mkF E_eqSpring (fun (_, _) => True) (fun (x, y) => [.bool (decide (x = y))])
theorem F_eqSpring_inj : ∀ x y, E_eqSpring x = E_eqSpring y → x = y := by
  rintro ⟨⟨xa, xb, xc⟩, ⟨ya, yb, yc⟩⟩ ⟨⟨xa', xb', xc'⟩, ⟨ya', yb', yc'⟩⟩ h
  simpa [E_eqSpring, and_assoc] using h
theorem F_eqSpring_elim {P : List V → List V → Prop} (h : ∀ (x : T3) (y : T3), P [.int .i64 x.a, .int .i64 x.b, .int .i64 x.c, .int .i64 y.a, .int .i64 y.b, .int .i64 y.c] [.bool (decide (x = y))]) : ∀ ds outs, F_eqSpring ds = some outs → P ds outs := by
  intro ds outs hh
  obtain ⟨⟨x, y⟩, rfl, -, rfl⟩ := mkF_inv hh
  exact h x y
@[simp] theorem p_eqSpring {x_a : Int} {x_b : Int} {x_c : Int} {y_a : Int} {y_b : Int} {y_c : Int} {nr_ : Nat} {kk_ : V → Prop} : P1 (.call F_eqSpring 0 nr_) [.int .i64 x_a, .int .i64 x_b, .int .i64 x_c, .int .i64 y_a, .int .i64 y_b, .int .i64 y_c] kk_ ↔ kk_ (.bool (decide ((⟨x_a, x_b, x_c⟩ : T3) = (⟨y_a, y_b, y_c⟩ : T3)))) :=
  P1_callF (by unfold F_eqSpring; exact mkF_eq F_eqSpring_inj ((⟨x_a, x_b, x_c⟩ : T3), (⟨y_a, y_b, y_c⟩ : T3)) trivial)

def Shop.bench (w : Shop) : Bench := ⟨w.s, w.t, w.p, w.o⟩
def shopOk (w : Shop) : Bool := benchOk w.bench && (combOk w.c && (springOk ⟨w.u, w.m, w.f⟩ && (decide (w.t = w.c.length) && (within w.y 0 1000000 && within w.d 0 1000000))))
def E_WorkshopOk (x : Shop) : List V := [.int .i64 x.s, .int .i64 x.t, vL I2 v2 x.p, vL IL2 vLL2 x.o, vL I1 v1 x.c, .int .i64 x.u, .int .i64 x.m, .int .i64 x.f, .int .i64 x.y, .int .i64 x.d]
noncomputable def F_WorkshopOk : List V → Option (List V) := mkF E_WorkshopOk (fun x => x.p.length ≤ 1048576 ∧ fitLL x.o ∧ x.c.length ≤ 1048576) (fun x => [.bool (shopOk x)])
theorem F_WorkshopOk_inj : ∀ x y, E_WorkshopOk x = E_WorkshopOk y → x = y := by
  rintro ⟨xs, xt, xp, xo, xc, xu, xm, xf, xy, xd⟩ ⟨xs', xt', xp', xo', xc', xu', xm', xf', xy', xd'⟩ h
  simpa [E_WorkshopOk] using h
theorem F_WorkshopOk_elim {P : List V → List V → Prop} (h : ∀ (x : Shop), (x.p.length ≤ 1048576 ∧ fitLL x.o ∧ x.c.length ≤ 1048576) → P [.int .i64 x.s, .int .i64 x.t, vL I2 v2 x.p, vL IL2 vLL2 x.o, vL I1 v1 x.c, .int .i64 x.u, .int .i64 x.m, .int .i64 x.f, .int .i64 x.y, .int .i64 x.d] [.bool (shopOk x)]) : ∀ ds outs, F_WorkshopOk ds = some outs → P ds outs := by
  intro ds outs hh
  obtain ⟨x, rfl, hp, rfl⟩ := mkF_inv hh
  exact h x hp
theorem p_WorkshopOk {x_s : Int} {x_t : Int} {x_p : List T2} {x_o : List (List T2)} {x_c : List Int} {x_u : Int} {x_m : Int} {x_f : Int} {x_y : Int} {x_d : Int} {nr_ : Nat} {kk_ : V → Prop} (hp : (⟨x_s, x_t, x_p, x_o, x_c, x_u, x_m, x_f, x_y, x_d⟩ : Shop).p.length ≤ 1048576 ∧ fitLL (⟨x_s, x_t, x_p, x_o, x_c, x_u, x_m, x_f, x_y, x_d⟩ : Shop).o ∧ (⟨x_s, x_t, x_p, x_o, x_c, x_u, x_m, x_f, x_y, x_d⟩ : Shop).c.length ≤ 1048576) : P1 (.call F_WorkshopOk 0 nr_) [.int .i64 x_s, .int .i64 x_t, vL I2 v2 x_p, vL IL2 vLL2 x_o, vL I1 v1 x_c, .int .i64 x_u, .int .i64 x_m, .int .i64 x_f, .int .i64 x_y, .int .i64 x_d] kk_ ↔ kk_ (.bool (shopOk (⟨x_s, x_t, x_p, x_o, x_c, x_u, x_m, x_f, x_y, x_d⟩ : Shop))) :=
  P1_callF (by unfold F_WorkshopOk; exact mkF_eq F_WorkshopOk_inj ((⟨x_s, x_t, x_p, x_o, x_c, x_u, x_m, x_f, x_y, x_d⟩ : Shop)) hp)

def E_szWorkshop : Shop × Int → List V := fun (x, n) => [.int .i64 x.s, .int .i64 x.t, vL I2 v2 x.p, vL IL2 vLL2 x.o, vL I1 v1 x.c, .int .i64 x.u, .int .i64 x.m, .int .i64 x.f, .int .i64 x.y, .int .i64 x.d, .int .i64 n]
noncomputable def F_szWorkshop : List V → Option (List V) := mkF E_szWorkshop (fun (x, n) => x.p.length ≤ 9223372036854775807 ∧ x.o.length ≤ 9223372036854775807 ∧ (∀ y ∈ x.o, y.length ≤ 9223372036854775807) ∧ x.c.length ≤ 9223372036854775807 ∧ 0 ≤ n ∧ n ≤ 1048576) (fun (x, n) => [.int .i64 (if (x.p.length : Int) + tot2 x.o + x.c.length ≤ n then n - x.p.length - tot2 x.o - x.c.length else -1)])
theorem F_szWorkshop_inj : ∀ x y, E_szWorkshop x = E_szWorkshop y → x = y := by
  rintro ⟨⟨xs, xt, xp, xo, xc, xu, xm, xf, xy, xd⟩, n⟩ ⟨⟨xs', xt', xp', xo', xc', xu', xm', xf', xy', xd'⟩, n'⟩ h
  simpa [E_szWorkshop, and_assoc] using h
theorem F_szWorkshop_elim {P : List V → List V → Prop} (h : ∀ (x : Shop) (n : Int), (x.p.length ≤ 9223372036854775807 ∧ x.o.length ≤ 9223372036854775807 ∧ (∀ y ∈ x.o, y.length ≤ 9223372036854775807) ∧ x.c.length ≤ 9223372036854775807 ∧ 0 ≤ n ∧ n ≤ 1048576) → P [.int .i64 x.s, .int .i64 x.t, vL I2 v2 x.p, vL IL2 vLL2 x.o, vL I1 v1 x.c, .int .i64 x.u, .int .i64 x.m, .int .i64 x.f, .int .i64 x.y, .int .i64 x.d, .int .i64 n] [.int .i64 (if (x.p.length : Int) + tot2 x.o + x.c.length ≤ n then n - x.p.length - tot2 x.o - x.c.length else -1)]) : ∀ ds outs, F_szWorkshop ds = some outs → P ds outs := by
  intro ds outs hh
  obtain ⟨⟨x, n⟩, rfl, hp, rfl⟩ := mkF_inv hh
  exact h x n hp
theorem p_szWorkshop {x_s : Int} {x_t : Int} {x_p : List T2} {x_o : List (List T2)} {x_c : List Int} {x_u : Int} {x_m : Int} {x_f : Int} {x_y : Int} {x_d : Int} {n : Int} {nr_ : Nat} {kk_ : V → Prop} (hp : (⟨x_s, x_t, x_p, x_o, x_c, x_u, x_m, x_f, x_y, x_d⟩ : Shop).p.length ≤ 9223372036854775807 ∧ (⟨x_s, x_t, x_p, x_o, x_c, x_u, x_m, x_f, x_y, x_d⟩ : Shop).o.length ≤ 9223372036854775807 ∧ (∀ y ∈ (⟨x_s, x_t, x_p, x_o, x_c, x_u, x_m, x_f, x_y, x_d⟩ : Shop).o, y.length ≤ 9223372036854775807) ∧ (⟨x_s, x_t, x_p, x_o, x_c, x_u, x_m, x_f, x_y, x_d⟩ : Shop).c.length ≤ 9223372036854775807 ∧ 0 ≤ n ∧ n ≤ 1048576) : P1 (.call F_szWorkshop 0 nr_) [.int .i64 x_s, .int .i64 x_t, vL I2 v2 x_p, vL IL2 vLL2 x_o, vL I1 v1 x_c, .int .i64 x_u, .int .i64 x_m, .int .i64 x_f, .int .i64 x_y, .int .i64 x_d, .int .i64 n] kk_ ↔ kk_ (.int .i64 (if ((⟨x_s, x_t, x_p, x_o, x_c, x_u, x_m, x_f, x_y, x_d⟩ : Shop).p.length : Int) + tot2 (⟨x_s, x_t, x_p, x_o, x_c, x_u, x_m, x_f, x_y, x_d⟩ : Shop).o + (⟨x_s, x_t, x_p, x_o, x_c, x_u, x_m, x_f, x_y, x_d⟩ : Shop).c.length ≤ n then n - (⟨x_s, x_t, x_p, x_o, x_c, x_u, x_m, x_f, x_y, x_d⟩ : Shop).p.length - tot2 (⟨x_s, x_t, x_p, x_o, x_c, x_u, x_m, x_f, x_y, x_d⟩ : Shop).o - (⟨x_s, x_t, x_p, x_o, x_c, x_u, x_m, x_f, x_y, x_d⟩ : Shop).c.length else -1)) :=
  P1_callF (by unfold F_szWorkshop; exact mkF_eq F_szWorkshop_inj ((⟨x_s, x_t, x_p, x_o, x_c, x_u, x_m, x_f, x_y, x_d⟩ : Shop), n) hp)

def E_toWorkshop (x : Shop) : List V := [.int .i64 x.s, .int .i64 x.t, vL I2 v2 x.p, vL IL2 vLL2 x.o, vL I1 v1 x.c, .int .i64 x.u, .int .i64 x.m, .int .i64 x.f, .int .i64 x.y, .int .i64 x.d]
noncomputable def F_toWorkshop : List V → Option (List V) := mkF E_toWorkshop (fun x => x.p.length ≤ 1048576 ∧ fitLL x.o ∧ x.c.length ≤ 1048576) (fun x => [.int .i64 x.s, .int .i64 x.t, vL I2 v2 x.p, vL IL2 vLL2 x.o, vL I1 v1 x.c, .int .i64 x.u, .int .i64 x.m, .int .i64 x.f, .int .i64 x.y, .int .i64 x.d])
theorem F_toWorkshop_inj : ∀ x y, E_toWorkshop x = E_toWorkshop y → x = y := by
  rintro ⟨xs, xt, xp, xo, xc, xu, xm, xf, xy, xd⟩ ⟨xs', xt', xp', xo', xc', xu', xm', xf', xy', xd'⟩ h
  simpa [E_toWorkshop] using h
theorem F_toWorkshop_elim {P : List V → List V → Prop} (h : ∀ (x : Shop), (x.p.length ≤ 1048576 ∧ fitLL x.o ∧ x.c.length ≤ 1048576) → P [.int .i64 x.s, .int .i64 x.t, vL I2 v2 x.p, vL IL2 vLL2 x.o, vL I1 v1 x.c, .int .i64 x.u, .int .i64 x.m, .int .i64 x.f, .int .i64 x.y, .int .i64 x.d] [.int .i64 x.s, .int .i64 x.t, vL I2 v2 x.p, vL IL2 vLL2 x.o, vL I1 v1 x.c, .int .i64 x.u, .int .i64 x.m, .int .i64 x.f, .int .i64 x.y, .int .i64 x.d]) : ∀ ds outs, F_toWorkshop ds = some outs → P ds outs := by
  intro ds outs hh
  obtain ⟨x, rfl, hp, rfl⟩ := mkF_inv hh
  exact h x hp
theorem p_toWorkshop {x_s : Int} {x_t : Int} {x_p : List T2} {x_o : List (List T2)} {x_c : List Int} {x_u : Int} {x_m : Int} {x_f : Int} {x_y : Int} {x_d : Int} {nr_ : Nat} {kk_ : V → V → V → V → V → V → V → V → V → V → Prop} (hp : (⟨x_s, x_t, x_p, x_o, x_c, x_u, x_m, x_f, x_y, x_d⟩ : Shop).p.length ≤ 1048576 ∧ fitLL (⟨x_s, x_t, x_p, x_o, x_c, x_u, x_m, x_f, x_y, x_d⟩ : Shop).o ∧ (⟨x_s, x_t, x_p, x_o, x_c, x_u, x_m, x_f, x_y, x_d⟩ : Shop).c.length ≤ 1048576) : P10 (.call F_toWorkshop 0 nr_) [.int .i64 x_s, .int .i64 x_t, vL I2 v2 x_p, vL IL2 vLL2 x_o, vL I1 v1 x_c, .int .i64 x_u, .int .i64 x_m, .int .i64 x_f, .int .i64 x_y, .int .i64 x_d] kk_ ↔ kk_ (.int .i64 ((⟨x_s, x_t, x_p, x_o, x_c, x_u, x_m, x_f, x_y, x_d⟩ : Shop)).s) (.int .i64 ((⟨x_s, x_t, x_p, x_o, x_c, x_u, x_m, x_f, x_y, x_d⟩ : Shop)).t) (vL I2 v2 ((⟨x_s, x_t, x_p, x_o, x_c, x_u, x_m, x_f, x_y, x_d⟩ : Shop)).p) (vL IL2 vLL2 ((⟨x_s, x_t, x_p, x_o, x_c, x_u, x_m, x_f, x_y, x_d⟩ : Shop)).o) (vL I1 v1 ((⟨x_s, x_t, x_p, x_o, x_c, x_u, x_m, x_f, x_y, x_d⟩ : Shop)).c) (.int .i64 ((⟨x_s, x_t, x_p, x_o, x_c, x_u, x_m, x_f, x_y, x_d⟩ : Shop)).u) (.int .i64 ((⟨x_s, x_t, x_p, x_o, x_c, x_u, x_m, x_f, x_y, x_d⟩ : Shop)).m) (.int .i64 ((⟨x_s, x_t, x_p, x_o, x_c, x_u, x_m, x_f, x_y, x_d⟩ : Shop)).f) (.int .i64 ((⟨x_s, x_t, x_p, x_o, x_c, x_u, x_m, x_f, x_y, x_d⟩ : Shop)).y) (.int .i64 ((⟨x_s, x_t, x_p, x_o, x_c, x_u, x_m, x_f, x_y, x_d⟩ : Shop)).d) :=
  P10_callF (by unfold F_toWorkshop; exact mkF_eq F_toWorkshop_inj ((⟨x_s, x_t, x_p, x_o, x_c, x_u, x_m, x_f, x_y, x_d⟩ : Shop)) hp)

def E_eqWorkshop : Shop × Shop → List V := fun (x, y) => [.int .i64 x.s, .int .i64 x.t, vL I2 v2 x.p, vL IL2 vLL2 x.o, vL I1 v1 x.c, .int .i64 x.u, .int .i64 x.m, .int .i64 x.f, .int .i64 x.y, .int .i64 x.d, .int .i64 y.s, .int .i64 y.t, vL I2 v2 y.p, vL IL2 vLL2 y.o, vL I1 v1 y.c, .int .i64 y.u, .int .i64 y.m, .int .i64 y.f, .int .i64 y.y, .int .i64 y.d]
noncomputable def F_eqWorkshop : List V → Option (List V) := mkF E_eqWorkshop (fun (x, y) => x.p.length ≤ 1048576 ∧ fitLL x.o ∧ x.c.length ≤ 1048576 ∧ y.p.length ≤ 1048576 ∧ fitLL y.o ∧ y.c.length ≤ 1048576) (fun (x, y) => [.bool (decide (x = y))])
theorem F_eqWorkshop_inj : ∀ x y, E_eqWorkshop x = E_eqWorkshop y → x = y := by
  rintro ⟨⟨xs, xt, xp, xo, xc, xu, xm, xf, xy, xd⟩, ⟨ys, yt, yp, yo, yc, yu, ym, yf, yy, yd⟩⟩ ⟨⟨xs', xt', xp', xo', xc', xu', xm', xf', xy', xd'⟩, ⟨ys', yt', yp', yo', yc', yu', ym', yf', yy', yd'⟩⟩ h
  simpa [E_eqWorkshop, and_assoc] using h
theorem F_eqWorkshop_elim {P : List V → List V → Prop} (h : ∀ (x : Shop) (y : Shop), (x.p.length ≤ 1048576 ∧ fitLL x.o ∧ x.c.length ≤ 1048576 ∧ y.p.length ≤ 1048576 ∧ fitLL y.o ∧ y.c.length ≤ 1048576) → P [.int .i64 x.s, .int .i64 x.t, vL I2 v2 x.p, vL IL2 vLL2 x.o, vL I1 v1 x.c, .int .i64 x.u, .int .i64 x.m, .int .i64 x.f, .int .i64 x.y, .int .i64 x.d, .int .i64 y.s, .int .i64 y.t, vL I2 v2 y.p, vL IL2 vLL2 y.o, vL I1 v1 y.c, .int .i64 y.u, .int .i64 y.m, .int .i64 y.f, .int .i64 y.y, .int .i64 y.d] [.bool (decide (x = y))]) : ∀ ds outs, F_eqWorkshop ds = some outs → P ds outs := by
  intro ds outs hh
  obtain ⟨⟨x, y⟩, rfl, hp, rfl⟩ := mkF_inv hh
  exact h x y hp
theorem p_eqWorkshop {x_s : Int} {x_t : Int} {x_p : List T2} {x_o : List (List T2)} {x_c : List Int} {x_u : Int} {x_m : Int} {x_f : Int} {x_y : Int} {x_d : Int} {y_s : Int} {y_t : Int} {y_p : List T2} {y_o : List (List T2)} {y_c : List Int} {y_u : Int} {y_m : Int} {y_f : Int} {y_y : Int} {y_d : Int} {nr_ : Nat} {kk_ : V → Prop} (hp : (⟨x_s, x_t, x_p, x_o, x_c, x_u, x_m, x_f, x_y, x_d⟩ : Shop).p.length ≤ 1048576 ∧ fitLL (⟨x_s, x_t, x_p, x_o, x_c, x_u, x_m, x_f, x_y, x_d⟩ : Shop).o ∧ (⟨x_s, x_t, x_p, x_o, x_c, x_u, x_m, x_f, x_y, x_d⟩ : Shop).c.length ≤ 1048576 ∧ (⟨y_s, y_t, y_p, y_o, y_c, y_u, y_m, y_f, y_y, y_d⟩ : Shop).p.length ≤ 1048576 ∧ fitLL (⟨y_s, y_t, y_p, y_o, y_c, y_u, y_m, y_f, y_y, y_d⟩ : Shop).o ∧ (⟨y_s, y_t, y_p, y_o, y_c, y_u, y_m, y_f, y_y, y_d⟩ : Shop).c.length ≤ 1048576) : P1 (.call F_eqWorkshop 0 nr_) [.int .i64 x_s, .int .i64 x_t, vL I2 v2 x_p, vL IL2 vLL2 x_o, vL I1 v1 x_c, .int .i64 x_u, .int .i64 x_m, .int .i64 x_f, .int .i64 x_y, .int .i64 x_d, .int .i64 y_s, .int .i64 y_t, vL I2 v2 y_p, vL IL2 vLL2 y_o, vL I1 v1 y_c, .int .i64 y_u, .int .i64 y_m, .int .i64 y_f, .int .i64 y_y, .int .i64 y_d] kk_ ↔ kk_ (.bool (decide ((⟨x_s, x_t, x_p, x_o, x_c, x_u, x_m, x_f, x_y, x_d⟩ : Shop) = (⟨y_s, y_t, y_p, y_o, y_c, y_u, y_m, y_f, y_y, y_d⟩ : Shop)))) :=
  P1_callF (by unfold F_eqWorkshop; exact mkF_eq F_eqWorkshop_inj ((⟨x_s, x_t, x_p, x_o, x_c, x_u, x_m, x_f, x_y, x_d⟩ : Shop), (⟨y_s, y_t, y_p, y_o, y_c, y_u, y_m, y_f, y_y, y_d⟩ : Shop)) hp)

def E_markWorkshop : Shop × Int → List V := fun (x, k) => [.int .i64 x.s, .int .i64 x.t, vL I2 v2 x.p, vL IL2 vLL2 x.o, vL I1 v1 x.c, .int .i64 x.u, .int .i64 x.m, .int .i64 x.f, .int .i64 x.y, .int .i64 x.d, .int .i64 k]
noncomputable def F_markWorkshop : List V → Option (List V) := mkF E_markWorkshop (fun (x, k) => x.p.length ≤ 1048576 ∧ fitLL x.o ∧ x.c.length ≤ 1048576 ∧ 0 ≤ k ∧ k + 2 * x.p.length + 2 * sum2 x.o ≤ 1099511627776) (fun (x, k) => [.int .i64 (k + 2 * x.p.length + 2 * sum2 x.o + x.c.length), vL I2 v2 (markL2 x.p.length k), vL IL2 vLL2 (markLL2 x.o (k + 2 * x.p.length)), vL I1 v1 (markL1 x.c.length (k + 2 * x.p.length + 2 * sum2 x.o))])
theorem F_markWorkshop_inj : ∀ x y, E_markWorkshop x = E_markWorkshop y → x = y := by
  rintro ⟨⟨xs, xt, xp, xo, xc, xu, xm, xf, xy, xd⟩, k⟩ ⟨⟨xs', xt', xp', xo', xc', xu', xm', xf', xy', xd'⟩, k'⟩ h
  simpa [E_markWorkshop, and_assoc] using h
theorem F_markWorkshop_elim {P : List V → List V → Prop} (h : ∀ (x : Shop) (k : Int), (x.p.length ≤ 1048576 ∧ fitLL x.o ∧ x.c.length ≤ 1048576 ∧ 0 ≤ k ∧ k + 2 * x.p.length + 2 * sum2 x.o ≤ 1099511627776) → P [.int .i64 x.s, .int .i64 x.t, vL I2 v2 x.p, vL IL2 vLL2 x.o, vL I1 v1 x.c, .int .i64 x.u, .int .i64 x.m, .int .i64 x.f, .int .i64 x.y, .int .i64 x.d, .int .i64 k] [.int .i64 (k + 2 * x.p.length + 2 * sum2 x.o + x.c.length), vL I2 v2 (markL2 x.p.length k), vL IL2 vLL2 (markLL2 x.o (k + 2 * x.p.length)), vL I1 v1 (markL1 x.c.length (k + 2 * x.p.length + 2 * sum2 x.o))]) : ∀ ds outs, F_markWorkshop ds = some outs → P ds outs := by
  intro ds outs hh
  obtain ⟨⟨x, k⟩, rfl, hp, rfl⟩ := mkF_inv hh
  exact h x k hp
theorem p_markWorkshop {x_s : Int} {x_t : Int} {x_p : List T2} {x_o : List (List T2)} {x_c : List Int} {x_u : Int} {x_m : Int} {x_f : Int} {x_y : Int} {x_d : Int} {k : Int} {kk_ : V → V → V → V → Prop} (hp : (⟨x_s, x_t, x_p, x_o, x_c, x_u, x_m, x_f, x_y, x_d⟩ : Shop).p.length ≤ 1048576 ∧ fitLL (⟨x_s, x_t, x_p, x_o, x_c, x_u, x_m, x_f, x_y, x_d⟩ : Shop).o ∧ (⟨x_s, x_t, x_p, x_o, x_c, x_u, x_m, x_f, x_y, x_d⟩ : Shop).c.length ≤ 1048576 ∧ 0 ≤ k ∧ k + 2 * (⟨x_s, x_t, x_p, x_o, x_c, x_u, x_m, x_f, x_y, x_d⟩ : Shop).p.length + 2 * sum2 (⟨x_s, x_t, x_p, x_o, x_c, x_u, x_m, x_f, x_y, x_d⟩ : Shop).o ≤ 1099511627776) : P4 (.call F_markWorkshop 3 1) [.int .i64 x_s, .int .i64 x_t, vL I2 v2 x_p, vL IL2 vLL2 x_o, vL I1 v1 x_c, .int .i64 x_u, .int .i64 x_m, .int .i64 x_f, .int .i64 x_y, .int .i64 x_d, .int .i64 k, vL I2 v2 x_p, vL IL2 vLL2 x_o, vL I1 v1 x_c] kk_ ↔ kk_ (.int .i64 (k + 2 * (⟨x_s, x_t, x_p, x_o, x_c, x_u, x_m, x_f, x_y, x_d⟩ : Shop).p.length + 2 * sum2 (⟨x_s, x_t, x_p, x_o, x_c, x_u, x_m, x_f, x_y, x_d⟩ : Shop).o + (⟨x_s, x_t, x_p, x_o, x_c, x_u, x_m, x_f, x_y, x_d⟩ : Shop).c.length)) (vL I2 v2 (markL2 (⟨x_s, x_t, x_p, x_o, x_c, x_u, x_m, x_f, x_y, x_d⟩ : Shop).p.length k)) (vL IL2 vLL2 (markLL2 (⟨x_s, x_t, x_p, x_o, x_c, x_u, x_m, x_f, x_y, x_d⟩ : Shop).o (k + 2 * (⟨x_s, x_t, x_p, x_o, x_c, x_u, x_m, x_f, x_y, x_d⟩ : Shop).p.length))) (vL I1 v1 (markL1 (⟨x_s, x_t, x_p, x_o, x_c, x_u, x_m, x_f, x_y, x_d⟩ : Shop).c.length (k + 2 * (⟨x_s, x_t, x_p, x_o, x_c, x_u, x_m, x_f, x_y, x_d⟩ : Shop).p.length + 2 * sum2 (⟨x_s, x_t, x_p, x_o, x_c, x_u, x_m, x_f, x_y, x_d⟩ : Shop).o))) :=
  P4_of (callIo_run (as := [.int .i64 x_s, .int .i64 x_t, vL I2 v2 x_p, vL IL2 vLL2 x_o, vL I1 v1 x_c, .int .i64 x_u, .int .i64 x_m, .int .i64 x_f, .int .i64 x_y, .int .i64 x_d, .int .i64 k]) (rs := [vL I2 v2 x_p, vL IL2 vLL2 x_o, vL I1 v1 x_c]) (n := 3) (nr := 1) rfl (by simp) (by unfold F_markWorkshop; exact mkF_eq F_markWorkshop_inj ((⟨x_s, x_t, x_p, x_o, x_c, x_u, x_m, x_f, x_y, x_d⟩ : Shop), k) hp) (by simp [ksAll, vL, AK.eqs_refl]))

def E_heldWorkshop : Shop × Int → List V := fun (x, k) => [.int .i64 x.s, .int .i64 x.t, vL I2 v2 x.p, vL IL2 vLL2 x.o, vL I1 v1 x.c, .int .i64 x.u, .int .i64 x.m, .int .i64 x.f, .int .i64 x.y, .int .i64 x.d, .int .i64 k]
noncomputable def F_heldWorkshop : List V → Option (List V) := mkF E_heldWorkshop (fun (x, k) => x.p.length ≤ 1048576 ∧ fitLL x.o ∧ x.c.length ≤ 1048576 ∧ 0 ≤ k ∧ k + 2 * x.p.length + 2 * sum2 x.o ≤ 1099511627776) (fun (x, k) => [.int .i64 (if x.p = markL2 x.p.length k ∧ x.o = markLL2 x.o (k + 2 * x.p.length) ∧ x.c = markL1 x.c.length (k + 2 * x.p.length + 2 * sum2 x.o) then k + 2 * x.p.length + 2 * sum2 x.o + x.c.length else -1)])
theorem F_heldWorkshop_inj : ∀ x y, E_heldWorkshop x = E_heldWorkshop y → x = y := by
  rintro ⟨⟨xs, xt, xp, xo, xc, xu, xm, xf, xy, xd⟩, k⟩ ⟨⟨xs', xt', xp', xo', xc', xu', xm', xf', xy', xd'⟩, k'⟩ h
  simpa [E_heldWorkshop, and_assoc] using h
theorem F_heldWorkshop_elim {P : List V → List V → Prop} (h : ∀ (x : Shop) (k : Int), (x.p.length ≤ 1048576 ∧ fitLL x.o ∧ x.c.length ≤ 1048576 ∧ 0 ≤ k ∧ k + 2 * x.p.length + 2 * sum2 x.o ≤ 1099511627776) → P [.int .i64 x.s, .int .i64 x.t, vL I2 v2 x.p, vL IL2 vLL2 x.o, vL I1 v1 x.c, .int .i64 x.u, .int .i64 x.m, .int .i64 x.f, .int .i64 x.y, .int .i64 x.d, .int .i64 k] [.int .i64 (if x.p = markL2 x.p.length k ∧ x.o = markLL2 x.o (k + 2 * x.p.length) ∧ x.c = markL1 x.c.length (k + 2 * x.p.length + 2 * sum2 x.o) then k + 2 * x.p.length + 2 * sum2 x.o + x.c.length else -1)]) : ∀ ds outs, F_heldWorkshop ds = some outs → P ds outs := by
  intro ds outs hh
  obtain ⟨⟨x, k⟩, rfl, hp, rfl⟩ := mkF_inv hh
  exact h x k hp
theorem p_heldWorkshop {x_s : Int} {x_t : Int} {x_p : List T2} {x_o : List (List T2)} {x_c : List Int} {x_u : Int} {x_m : Int} {x_f : Int} {x_y : Int} {x_d : Int} {k : Int} {nr_ : Nat} {kk_ : V → Prop} (hp : (⟨x_s, x_t, x_p, x_o, x_c, x_u, x_m, x_f, x_y, x_d⟩ : Shop).p.length ≤ 1048576 ∧ fitLL (⟨x_s, x_t, x_p, x_o, x_c, x_u, x_m, x_f, x_y, x_d⟩ : Shop).o ∧ (⟨x_s, x_t, x_p, x_o, x_c, x_u, x_m, x_f, x_y, x_d⟩ : Shop).c.length ≤ 1048576 ∧ 0 ≤ k ∧ k + 2 * (⟨x_s, x_t, x_p, x_o, x_c, x_u, x_m, x_f, x_y, x_d⟩ : Shop).p.length + 2 * sum2 (⟨x_s, x_t, x_p, x_o, x_c, x_u, x_m, x_f, x_y, x_d⟩ : Shop).o ≤ 1099511627776) : P1 (.call F_heldWorkshop 0 nr_) [.int .i64 x_s, .int .i64 x_t, vL I2 v2 x_p, vL IL2 vLL2 x_o, vL I1 v1 x_c, .int .i64 x_u, .int .i64 x_m, .int .i64 x_f, .int .i64 x_y, .int .i64 x_d, .int .i64 k] kk_ ↔ kk_ (.int .i64 (if (⟨x_s, x_t, x_p, x_o, x_c, x_u, x_m, x_f, x_y, x_d⟩ : Shop).p = markL2 (⟨x_s, x_t, x_p, x_o, x_c, x_u, x_m, x_f, x_y, x_d⟩ : Shop).p.length k ∧ (⟨x_s, x_t, x_p, x_o, x_c, x_u, x_m, x_f, x_y, x_d⟩ : Shop).o = markLL2 (⟨x_s, x_t, x_p, x_o, x_c, x_u, x_m, x_f, x_y, x_d⟩ : Shop).o (k + 2 * (⟨x_s, x_t, x_p, x_o, x_c, x_u, x_m, x_f, x_y, x_d⟩ : Shop).p.length) ∧ (⟨x_s, x_t, x_p, x_o, x_c, x_u, x_m, x_f, x_y, x_d⟩ : Shop).c = markL1 (⟨x_s, x_t, x_p, x_o, x_c, x_u, x_m, x_f, x_y, x_d⟩ : Shop).c.length (k + 2 * (⟨x_s, x_t, x_p, x_o, x_c, x_u, x_m, x_f, x_y, x_d⟩ : Shop).p.length + 2 * sum2 (⟨x_s, x_t, x_p, x_o, x_c, x_u, x_m, x_f, x_y, x_d⟩ : Shop).o) then k + 2 * (⟨x_s, x_t, x_p, x_o, x_c, x_u, x_m, x_f, x_y, x_d⟩ : Shop).p.length + 2 * sum2 (⟨x_s, x_t, x_p, x_o, x_c, x_u, x_m, x_f, x_y, x_d⟩ : Shop).o + (⟨x_s, x_t, x_p, x_o, x_c, x_u, x_m, x_f, x_y, x_d⟩ : Shop).c.length else -1)) :=
  P1_callF (by unfold F_heldWorkshop; exact mkF_eq F_heldWorkshop_inj ((⟨x_s, x_t, x_p, x_o, x_c, x_u, x_m, x_f, x_y, x_d⟩ : Shop), k) hp)

def opened (s : Int) (c : List Int) (m : Int) : Shop := ⟨(newBench s c.length).s, (newBench s c.length).t, [], [], c, 0, 10, 100, m, 0⟩
def openShop (s : Int) (c : List Int) (m : Int) : Shop := if shopOk (opened s c m) then opened s c m else ⟨0, 0, [], [], [], 0, 0, 0, 0, 0⟩
def E_OpenWorkshop : Int × List Int × Int → List V := fun (s, l, m) => [.int .i64 s, vL I1 v1 l, .int .i64 m]
noncomputable def F_OpenWorkshop : List V → Option (List V) := mkF E_OpenWorkshop (fun (_, l, _) => l.length ≤ 1048576) (fun (s, l, m) => [.int .i64 (openShop s l m).s, .int .i64 (openShop s l m).t, vL I2 v2 (openShop s l m).p, vL IL2 vLL2 (openShop s l m).o, vL I1 v1 (openShop s l m).c, .int .i64 (openShop s l m).u, .int .i64 (openShop s l m).m, .int .i64 (openShop s l m).f, .int .i64 (openShop s l m).y, .int .i64 (openShop s l m).d, .bool (shopOk (opened s l m))])
theorem F_OpenWorkshop_inj : ∀ x y, E_OpenWorkshop x = E_OpenWorkshop y → x = y := by
  rintro ⟨s, l, m⟩ ⟨s', l', m'⟩ h
  simpa [E_OpenWorkshop] using h
theorem F_OpenWorkshop_elim {P : List V → List V → Prop} (h : ∀ (s : Int) (l : List Int) (m : Int), (l.length ≤ 1048576) → P [.int .i64 s, vL I1 v1 l, .int .i64 m] [.int .i64 (openShop s l m).s, .int .i64 (openShop s l m).t, vL I2 v2 (openShop s l m).p, vL IL2 vLL2 (openShop s l m).o, vL I1 v1 (openShop s l m).c, .int .i64 (openShop s l m).u, .int .i64 (openShop s l m).m, .int .i64 (openShop s l m).f, .int .i64 (openShop s l m).y, .int .i64 (openShop s l m).d, .bool (shopOk (opened s l m))]) : ∀ ds outs, F_OpenWorkshop ds = some outs → P ds outs := by
  intro ds outs hh
  obtain ⟨⟨s, l, m⟩, rfl, hp, rfl⟩ := mkF_inv hh
  exact h s l m hp
theorem p_OpenWorkshop {s : Int} {l : List Int} {m : Int} {nr_ : Nat} {kk_ : V → V → V → V → V → V → V → V → V → V → V → Prop} (hp : l.length ≤ 1048576) : P11 (.call F_OpenWorkshop 0 nr_) [.int .i64 s, vL I1 v1 l, .int .i64 m] kk_ ↔ kk_ (.int .i64 (openShop s l m).s) (.int .i64 (openShop s l m).t) (vL I2 v2 (openShop s l m).p) (vL IL2 vLL2 (openShop s l m).o) (vL I1 v1 (openShop s l m).c) (.int .i64 (openShop s l m).u) (.int .i64 (openShop s l m).m) (.int .i64 (openShop s l m).f) (.int .i64 (openShop s l m).y) (.int .i64 (openShop s l m).d) (.bool (shopOk (opened s l m))) :=
  P11_callF (by unfold F_OpenWorkshop; exact mkF_eq F_OpenWorkshop_inj (s, l, m) hp)

def E_SampleWorkshop (_ : Unit) : List V := []
noncomputable def F_SampleWorkshop : List V → Option (List V) := mkF E_SampleWorkshop (fun _ => True) (fun _ => [.int .i64 (openShop 16 [12, 12, 16, 19] 40).s, .int .i64 (openShop 16 [12, 12, 16, 19] 40).t, vL I2 v2 (openShop 16 [12, 12, 16, 19] 40).p, vL IL2 vLL2 (openShop 16 [12, 12, 16, 19] 40).o, vL I1 v1 (openShop 16 [12, 12, 16, 19] 40).c, .int .i64 (openShop 16 [12, 12, 16, 19] 40).u, .int .i64 (openShop 16 [12, 12, 16, 19] 40).m, .int .i64 (openShop 16 [12, 12, 16, 19] 40).f, .int .i64 (openShop 16 [12, 12, 16, 19] 40).y, .int .i64 (openShop 16 [12, 12, 16, 19] 40).d])
theorem F_SampleWorkshop_inj : ∀ x y, E_SampleWorkshop x = E_SampleWorkshop y → x = y := fun _ _ _ => rfl
theorem F_SampleWorkshop_elim {P : List V → List V → Prop} (h : ∀ _u : Unit, P [] [.int .i64 (openShop 16 [12, 12, 16, 19] 40).s, .int .i64 (openShop 16 [12, 12, 16, 19] 40).t, vL I2 v2 (openShop 16 [12, 12, 16, 19] 40).p, vL IL2 vLL2 (openShop 16 [12, 12, 16, 19] 40).o, vL I1 v1 (openShop 16 [12, 12, 16, 19] 40).c, .int .i64 (openShop 16 [12, 12, 16, 19] 40).u, .int .i64 (openShop 16 [12, 12, 16, 19] 40).m, .int .i64 (openShop 16 [12, 12, 16, 19] 40).f, .int .i64 (openShop 16 [12, 12, 16, 19] 40).y, .int .i64 (openShop 16 [12, 12, 16, 19] 40).d]) : ∀ ds outs, F_SampleWorkshop ds = some outs → P ds outs := by
  intro ds outs hh
  obtain ⟨x, rfl, -, rfl⟩ := mkF_inv hh
  exact h ()
@[simp] theorem p_SampleWorkshop  {nr_ : Nat} {kk_ : V → V → V → V → V → V → V → V → V → V → Prop} : P10 (.call F_SampleWorkshop 0 nr_) [] kk_ ↔ kk_ (.int .i64 (openShop 16 [12, 12, 16, 19] 40).s) (.int .i64 (openShop 16 [12, 12, 16, 19] 40).t) (vL I2 v2 (openShop 16 [12, 12, 16, 19] 40).p) (vL IL2 vLL2 (openShop 16 [12, 12, 16, 19] 40).o) (vL I1 v1 (openShop 16 [12, 12, 16, 19] 40).c) (.int .i64 (openShop 16 [12, 12, 16, 19] 40).u) (.int .i64 (openShop 16 [12, 12, 16, 19] 40).m) (.int .i64 (openShop 16 [12, 12, 16, 19] 40).f) (.int .i64 (openShop 16 [12, 12, 16, 19] 40).y) (.int .i64 (openShop 16 [12, 12, 16, 19] 40).d) :=
  P10_callF (by unfold F_SampleWorkshop; exact mkF_eq F_SampleWorkshop_inj () trivial)


def E_FnExactBenchOk (x : Bench) : List V := [.int .i64 x.s, .int .i64 x.t, vL I2 v2 x.p, vL IL2 vLL2 x.o]
noncomputable def F_FnExactBenchOk : List V → Option (List V) := mkF E_FnExactBenchOk (fun x => wfI x.s ∧ wfI x.t ∧ wfL2 x.p ∧ wfLL2 x.o) (fun _ => [.bool true])
theorem F_FnExactBenchOk_inj : ∀ x y, E_FnExactBenchOk x = E_FnExactBenchOk y → x = y := by
  rintro ⟨xs, xt, xp, xo⟩ ⟨xs', xt', xp', xo'⟩ h
  simpa [E_FnExactBenchOk] using h
theorem F_FnExactBenchOk_elim {P : List V → List V → Prop} (h : ∀ (x : Bench), (wfI x.s ∧ wfI x.t ∧ wfL2 x.p ∧ wfLL2 x.o) → P [.int .i64 x.s, .int .i64 x.t, vL I2 v2 x.p, vL IL2 vLL2 x.o] [.bool true]) : ∀ ds outs, F_FnExactBenchOk ds = some outs → P ds outs := by
  intro ds outs hh
  obtain ⟨x, rfl, hp, rfl⟩ := mkF_inv hh
  exact h x hp
theorem p_FnExactBenchOk {x_s : Int} {x_t : Int} {x_p : List T2} {x_o : List (List T2)} {nr_ : Nat} {kk_ : V → Prop} (hp : wfI (⟨x_s, x_t, x_p, x_o⟩ : Bench).s ∧ wfI (⟨x_s, x_t, x_p, x_o⟩ : Bench).t ∧ wfL2 (⟨x_s, x_t, x_p, x_o⟩ : Bench).p ∧ wfLL2 (⟨x_s, x_t, x_p, x_o⟩ : Bench).o) : P1 (.call F_FnExactBenchOk 0 nr_) [.int .i64 x_s, .int .i64 x_t, vL I2 v2 x_p, vL IL2 vLL2 x_o] kk_ ↔ kk_ (.bool true) :=
  P1_callF (by unfold F_FnExactBenchOk; exact mkF_eq F_FnExactBenchOk_inj ((⟨x_s, x_t, x_p, x_o⟩ : Bench)) hp)
theorem F_FnExactBenchOk_law : ∀ ds, okTKs [.int .i64, .int .i64, .list true [.int .i64, .int .i64], .list false [.list true [.int .i64, .int .i64]]] ds → F_FnExactBenchOk ds = some [.bool true] := by
  intro ds g0
  obtain ⟨_, _, rfl, h0, g1⟩ := okTKs_cons g0
  obtain ⟨x_s, rfl, r0⟩ := dec_I h0
  obtain ⟨_, _, rfl, h1, g2⟩ := okTKs_cons g1
  obtain ⟨x_t, rfl, r1⟩ := dec_I h1
  obtain ⟨_, _, rfl, h2, g3⟩ := okTKs_cons g2
  obtain ⟨x_p, rfl, r2⟩ := dec_L2 h2
  obtain ⟨_, _, rfl, h3, g4⟩ := okTKs_cons g3
  obtain ⟨x_o, rfl, r3⟩ := dec_LL2 h3
  obtain rfl := okTKs_nil g4
  exact mkF_eq F_FnExactBenchOk_inj ((⟨x_s, x_t, x_p, x_o⟩ : Bench)) ⟨r0, r1, r2, r3⟩

def E_FnExactNewBench : Int × Int → List V := fun (s, t) => [.int .i64 s, .int .i64 t]
noncomputable def F_FnExactNewBench : List V → Option (List V) := mkF E_FnExactNewBench (fun (s, t) => wfI s ∧ wfI t) (fun (_, _) => [.bool true])
theorem F_FnExactNewBench_inj : ∀ x y, E_FnExactNewBench x = E_FnExactNewBench y → x = y := by
  rintro ⟨s, t⟩ ⟨s', t'⟩ h
  simpa [E_FnExactNewBench] using h
theorem F_FnExactNewBench_elim {P : List V → List V → Prop} (h : ∀ (s : Int) (t : Int), (wfI s ∧ wfI t) → P [.int .i64 s, .int .i64 t] [.bool true]) : ∀ ds outs, F_FnExactNewBench ds = some outs → P ds outs := by
  intro ds outs hh
  obtain ⟨⟨s, t⟩, rfl, hp, rfl⟩ := mkF_inv hh
  exact h s t hp
theorem p_FnExactNewBench {s : Int} {t : Int} {nr_ : Nat} {kk_ : V → Prop} (hp : wfI s ∧ wfI t) : P1 (.call F_FnExactNewBench 0 nr_) [.int .i64 s, .int .i64 t] kk_ ↔ kk_ (.bool true) :=
  P1_callF (by unfold F_FnExactNewBench; exact mkF_eq F_FnExactNewBench_inj (s, t) hp)
theorem F_FnExactNewBench_law : ∀ ds, okTKs [.int .i64, .int .i64] ds → F_FnExactNewBench ds = some [.bool true] := by
  intro ds g0
  obtain ⟨_, _, rfl, h0, g1⟩ := okTKs_cons g0
  obtain ⟨s, rfl, r0⟩ := dec_I h0
  obtain ⟨_, _, rfl, h1, g2⟩ := okTKs_cons g1
  obtain ⟨t, rfl, r1⟩ := dec_I h1
  obtain rfl := okTKs_nil g2
  exact mkF_eq F_FnExactNewBench_inj (s, t) ⟨r0, r1⟩

def E_FnExactChangedPins (x : Bench) : List V := [.int .i64 x.s, .int .i64 x.t, vL I2 v2 x.p, vL IL2 vLL2 x.o]
noncomputable def F_FnExactChangedPins : List V → Option (List V) := mkF E_FnExactChangedPins (fun x => wfI x.s ∧ wfI x.t ∧ wfL2 x.p ∧ wfLL2 x.o) (fun _ => [.bool true])
theorem F_FnExactChangedPins_inj : ∀ x y, E_FnExactChangedPins x = E_FnExactChangedPins y → x = y := by
  rintro ⟨xs, xt, xp, xo⟩ ⟨xs', xt', xp', xo'⟩ h
  simpa [E_FnExactChangedPins] using h
theorem F_FnExactChangedPins_elim {P : List V → List V → Prop} (h : ∀ (x : Bench), (wfI x.s ∧ wfI x.t ∧ wfL2 x.p ∧ wfLL2 x.o) → P [.int .i64 x.s, .int .i64 x.t, vL I2 v2 x.p, vL IL2 vLL2 x.o] [.bool true]) : ∀ ds outs, F_FnExactChangedPins ds = some outs → P ds outs := by
  intro ds outs hh
  obtain ⟨x, rfl, hp, rfl⟩ := mkF_inv hh
  exact h x hp
theorem p_FnExactChangedPins {x_s : Int} {x_t : Int} {x_p : List T2} {x_o : List (List T2)} {nr_ : Nat} {kk_ : V → Prop} (hp : wfI (⟨x_s, x_t, x_p, x_o⟩ : Bench).s ∧ wfI (⟨x_s, x_t, x_p, x_o⟩ : Bench).t ∧ wfL2 (⟨x_s, x_t, x_p, x_o⟩ : Bench).p ∧ wfLL2 (⟨x_s, x_t, x_p, x_o⟩ : Bench).o) : P1 (.call F_FnExactChangedPins 0 nr_) [.int .i64 x_s, .int .i64 x_t, vL I2 v2 x_p, vL IL2 vLL2 x_o] kk_ ↔ kk_ (.bool true) :=
  P1_callF (by unfold F_FnExactChangedPins; exact mkF_eq F_FnExactChangedPins_inj ((⟨x_s, x_t, x_p, x_o⟩ : Bench)) hp)
theorem F_FnExactChangedPins_law : ∀ ds, okTKs [.int .i64, .int .i64, .list true [.int .i64, .int .i64], .list false [.list true [.int .i64, .int .i64]]] ds → F_FnExactChangedPins ds = some [.bool true] := by
  intro ds g0
  obtain ⟨_, _, rfl, h0, g1⟩ := okTKs_cons g0
  obtain ⟨x_s, rfl, r0⟩ := dec_I h0
  obtain ⟨_, _, rfl, h1, g2⟩ := okTKs_cons g1
  obtain ⟨x_t, rfl, r1⟩ := dec_I h1
  obtain ⟨_, _, rfl, h2, g3⟩ := okTKs_cons g2
  obtain ⟨x_p, rfl, r2⟩ := dec_L2 h2
  obtain ⟨_, _, rfl, h3, g4⟩ := okTKs_cons g3
  obtain ⟨x_o, rfl, r3⟩ := dec_LL2 h3
  obtain rfl := okTKs_nil g4
  exact mkF_eq F_FnExactChangedPins_inj ((⟨x_s, x_t, x_p, x_o⟩ : Bench)) ⟨r0, r1, r2, r3⟩

def E_FnExactWorkshopOk (x : Shop) : List V := [.int .i64 x.s, .int .i64 x.t, vL I2 v2 x.p, vL IL2 vLL2 x.o, vL I1 v1 x.c, .int .i64 x.u, .int .i64 x.m, .int .i64 x.f, .int .i64 x.y, .int .i64 x.d]
noncomputable def F_FnExactWorkshopOk : List V → Option (List V) := mkF E_FnExactWorkshopOk (fun x => wfI x.s ∧ wfI x.t ∧ wfL2 x.p ∧ wfLL2 x.o ∧ wfL1 x.c ∧ wfI x.u ∧ wfI x.m ∧ wfI x.f ∧ wfI x.y ∧ wfI x.d) (fun _ => [.bool true])
theorem F_FnExactWorkshopOk_inj : ∀ x y, E_FnExactWorkshopOk x = E_FnExactWorkshopOk y → x = y := by
  rintro ⟨xs, xt, xp, xo, xc, xu, xm, xf, xy, xd⟩ ⟨xs', xt', xp', xo', xc', xu', xm', xf', xy', xd'⟩ h
  simpa [E_FnExactWorkshopOk] using h
theorem F_FnExactWorkshopOk_elim {P : List V → List V → Prop} (h : ∀ (x : Shop), (wfI x.s ∧ wfI x.t ∧ wfL2 x.p ∧ wfLL2 x.o ∧ wfL1 x.c ∧ wfI x.u ∧ wfI x.m ∧ wfI x.f ∧ wfI x.y ∧ wfI x.d) → P [.int .i64 x.s, .int .i64 x.t, vL I2 v2 x.p, vL IL2 vLL2 x.o, vL I1 v1 x.c, .int .i64 x.u, .int .i64 x.m, .int .i64 x.f, .int .i64 x.y, .int .i64 x.d] [.bool true]) : ∀ ds outs, F_FnExactWorkshopOk ds = some outs → P ds outs := by
  intro ds outs hh
  obtain ⟨x, rfl, hp, rfl⟩ := mkF_inv hh
  exact h x hp
theorem p_FnExactWorkshopOk {x_s : Int} {x_t : Int} {x_p : List T2} {x_o : List (List T2)} {x_c : List Int} {x_u : Int} {x_m : Int} {x_f : Int} {x_y : Int} {x_d : Int} {nr_ : Nat} {kk_ : V → Prop} (hp : wfI (⟨x_s, x_t, x_p, x_o, x_c, x_u, x_m, x_f, x_y, x_d⟩ : Shop).s ∧ wfI (⟨x_s, x_t, x_p, x_o, x_c, x_u, x_m, x_f, x_y, x_d⟩ : Shop).t ∧ wfL2 (⟨x_s, x_t, x_p, x_o, x_c, x_u, x_m, x_f, x_y, x_d⟩ : Shop).p ∧ wfLL2 (⟨x_s, x_t, x_p, x_o, x_c, x_u, x_m, x_f, x_y, x_d⟩ : Shop).o ∧ wfL1 (⟨x_s, x_t, x_p, x_o, x_c, x_u, x_m, x_f, x_y, x_d⟩ : Shop).c ∧ wfI (⟨x_s, x_t, x_p, x_o, x_c, x_u, x_m, x_f, x_y, x_d⟩ : Shop).u ∧ wfI (⟨x_s, x_t, x_p, x_o, x_c, x_u, x_m, x_f, x_y, x_d⟩ : Shop).m ∧ wfI (⟨x_s, x_t, x_p, x_o, x_c, x_u, x_m, x_f, x_y, x_d⟩ : Shop).f ∧ wfI (⟨x_s, x_t, x_p, x_o, x_c, x_u, x_m, x_f, x_y, x_d⟩ : Shop).y ∧ wfI (⟨x_s, x_t, x_p, x_o, x_c, x_u, x_m, x_f, x_y, x_d⟩ : Shop).d) : P1 (.call F_FnExactWorkshopOk 0 nr_) [.int .i64 x_s, .int .i64 x_t, vL I2 v2 x_p, vL IL2 vLL2 x_o, vL I1 v1 x_c, .int .i64 x_u, .int .i64 x_m, .int .i64 x_f, .int .i64 x_y, .int .i64 x_d] kk_ ↔ kk_ (.bool true) :=
  P1_callF (by unfold F_FnExactWorkshopOk; exact mkF_eq F_FnExactWorkshopOk_inj ((⟨x_s, x_t, x_p, x_o, x_c, x_u, x_m, x_f, x_y, x_d⟩ : Shop)) hp)
theorem F_FnExactWorkshopOk_law : ∀ ds, okTKs [.int .i64, .int .i64, .list true [.int .i64, .int .i64], .list false [.list true [.int .i64, .int .i64]], .list false [.int .i64], .int .i64, .int .i64, .int .i64, .int .i64, .int .i64] ds → F_FnExactWorkshopOk ds = some [.bool true] := by
  intro ds g0
  obtain ⟨_, _, rfl, h0, g1⟩ := okTKs_cons g0
  obtain ⟨x_s, rfl, r0⟩ := dec_I h0
  obtain ⟨_, _, rfl, h1, g2⟩ := okTKs_cons g1
  obtain ⟨x_t, rfl, r1⟩ := dec_I h1
  obtain ⟨_, _, rfl, h2, g3⟩ := okTKs_cons g2
  obtain ⟨x_p, rfl, r2⟩ := dec_L2 h2
  obtain ⟨_, _, rfl, h3, g4⟩ := okTKs_cons g3
  obtain ⟨x_o, rfl, r3⟩ := dec_LL2 h3
  obtain ⟨_, _, rfl, h4, g5⟩ := okTKs_cons g4
  obtain ⟨x_c, rfl, r4⟩ := dec_L1 h4
  obtain ⟨_, _, rfl, h5, g6⟩ := okTKs_cons g5
  obtain ⟨x_u, rfl, r5⟩ := dec_I h5
  obtain ⟨_, _, rfl, h6, g7⟩ := okTKs_cons g6
  obtain ⟨x_m, rfl, r6⟩ := dec_I h6
  obtain ⟨_, _, rfl, h7, g8⟩ := okTKs_cons g7
  obtain ⟨x_f, rfl, r7⟩ := dec_I h7
  obtain ⟨_, _, rfl, h8, g9⟩ := okTKs_cons g8
  obtain ⟨x_y, rfl, r8⟩ := dec_I h8
  obtain ⟨_, _, rfl, h9, g10⟩ := okTKs_cons g9
  obtain ⟨x_d, rfl, r9⟩ := dec_I h9
  obtain rfl := okTKs_nil g10
  exact mkF_eq F_FnExactWorkshopOk_inj ((⟨x_s, x_t, x_p, x_o, x_c, x_u, x_m, x_f, x_y, x_d⟩ : Shop)) ⟨r0, r1, r2, r3, r4, r5, r6, r7, r8, r9⟩

def E_FnExactOpenWorkshop : Int × List Int × Int → List V := fun (s, l, m) => [.int .i64 s, vL I1 v1 l, .int .i64 m]
noncomputable def F_FnExactOpenWorkshop : List V → Option (List V) := mkF E_FnExactOpenWorkshop (fun (s, l, m) => wfI s ∧ wfL1 l ∧ wfI m) (fun (_, _, _) => [.bool true])
theorem F_FnExactOpenWorkshop_inj : ∀ x y, E_FnExactOpenWorkshop x = E_FnExactOpenWorkshop y → x = y := by
  rintro ⟨s, l, m⟩ ⟨s', l', m'⟩ h
  simpa [E_FnExactOpenWorkshop] using h
theorem F_FnExactOpenWorkshop_elim {P : List V → List V → Prop} (h : ∀ (s : Int) (l : List Int) (m : Int), (wfI s ∧ wfL1 l ∧ wfI m) → P [.int .i64 s, vL I1 v1 l, .int .i64 m] [.bool true]) : ∀ ds outs, F_FnExactOpenWorkshop ds = some outs → P ds outs := by
  intro ds outs hh
  obtain ⟨⟨s, l, m⟩, rfl, hp, rfl⟩ := mkF_inv hh
  exact h s l m hp
theorem p_FnExactOpenWorkshop {s : Int} {l : List Int} {m : Int} {nr_ : Nat} {kk_ : V → Prop} (hp : wfI s ∧ wfL1 l ∧ wfI m) : P1 (.call F_FnExactOpenWorkshop 0 nr_) [.int .i64 s, vL I1 v1 l, .int .i64 m] kk_ ↔ kk_ (.bool true) :=
  P1_callF (by unfold F_FnExactOpenWorkshop; exact mkF_eq F_FnExactOpenWorkshop_inj (s, l, m) hp)
theorem F_FnExactOpenWorkshop_law : ∀ ds, okTKs [.int .i64, .list false [.int .i64], .int .i64] ds → F_FnExactOpenWorkshop ds = some [.bool true] := by
  intro ds g0
  obtain ⟨_, _, rfl, h0, g1⟩ := okTKs_cons g0
  obtain ⟨s, rfl, r0⟩ := dec_I h0
  obtain ⟨_, _, rfl, h1, g2⟩ := okTKs_cons g1
  obtain ⟨l, rfl, r1⟩ := dec_L1 h1
  obtain ⟨_, _, rfl, h2, g3⟩ := okTKs_cons g2
  obtain ⟨m, rfl, r2⟩ := dec_I h2
  obtain rfl := okTKs_nil g3
  exact mkF_eq F_FnExactOpenWorkshop_inj (s, l, m) ⟨r0, r1, r2⟩

def E_FnExactSampleWorkshop (_ : Unit) : List V := []
noncomputable def F_FnExactSampleWorkshop : List V → Option (List V) := mkF E_FnExactSampleWorkshop (fun _ => True) (fun _ => [.bool true])
theorem F_FnExactSampleWorkshop_inj : ∀ x y, E_FnExactSampleWorkshop x = E_FnExactSampleWorkshop y → x = y := fun _ _ _ => rfl
theorem F_FnExactSampleWorkshop_elim {P : List V → List V → Prop} (h : ∀ _u : Unit, P [] [.bool true]) : ∀ ds outs, F_FnExactSampleWorkshop ds = some outs → P ds outs := by
  intro ds outs hh
  obtain ⟨x, rfl, -, rfl⟩ := mkF_inv hh
  exact h ()
@[simp] theorem p_FnExactSampleWorkshop  {nr_ : Nat} {kk_ : V → Prop} : P1 (.call F_FnExactSampleWorkshop 0 nr_) [] kk_ ↔ kk_ (.bool true) :=
  P1_callF (by unfold F_FnExactSampleWorkshop; exact mkF_eq F_FnExactSampleWorkshop_inj () trivial)
theorem F_FnExactSampleWorkshop_law : ∀ ds, okTKs [] ds → F_FnExactSampleWorkshop ds = some [.bool true] := by
  intro ds g0
  obtain rfl := okTKs_nil g0
  exact mkF_eq F_FnExactSampleWorkshop_inj (()) trivial


end Go.Mw

/- Functions of the program, as small pure programs (printed by a program of ours). -/
namespace Go.Mw
noncomputable section

def laws_szPinSS_b0 : L := .seq (.seq (.seq (.rg [⟨[], .len, [.v 0], 1⟩, ⟨[], .bin .lss, [.v 2, .v 3], 1⟩]) (.ite (.v 4) (.skip) (.seq (.tup [.v 1]) (.exit 0)))) (.seq (.block 1 (.seq (.seq (.rg [⟨[], .idx [.sl [.sc, .sc]], [.v 0, .v 2], 1⟩, ⟨[], .call F_szPinS 0 1, [.v 5, .v 1], 1⟩]) (.seq (.rg [⟨[], .bin .lss, [.v 6, .k (.int .i64 0)], 1⟩]) (.ite (.v 7) (.seq (.rg []) (.ret [.k (.int .i64 (-1))])) (.skip)))) (.tup [.v 0, .v 6, .v 2]))) (.rg [⟨[], .bin .add, [.v 2, .k (.int .i64 1)], 1⟩]))) (.tup [.v 0, .v 1, .v 3])
theorem laws_szPinSS_b0_sh (Q : QT) (x0 x1 x2 : V) : shL laws_szPinSS_b0 Q [x0, x1, x2] = (
  P1 (.len) [x0] fun v0 =>
  P1 (.bin .lss) [x2, v0] fun v1 =>
  ifB v1 (
    P1 (.idx [.sl [.sc, .sc]]) [x0, x2] fun v2 =>
    P1 (.call F_szPinS 0 1) [v2, x1] fun v3 =>
    P1 (.bin .lss) [v3, .int .i64 0] fun v4 =>
    ifB v4 (
      Q .ret [.int .i64 (-1)]) (
      P1 (.bin .add) [x2, .int .i64 1] fun v5 =>
      Q .normal [x0, v3, v5])) (
    Q (.exit 0) [x1])) := by kernel_rfl

def laws_szPinSS_r1 : L := .seq (.rg []) (.ret [.v 0])
theorem laws_szPinSS_r1_sh (Q : QT) (x0 : V) : shL laws_szPinSS_r1 Q [x0] = (
  Q .ret [x0]) := by kernel_rfl

def laws_szPinSS_L : L := .seq (.rg []) (.seq (.rg [⟨[], .len, [.v 0], 1⟩, ⟨[], .bin .sub, [.v 1, .v 2], 1⟩]) (.seq (.seq (.rg [⟨[], .bin .lss, [.v 3, .k (.int .i64 0)], 1⟩]) (.ite (.v 4) (.seq (.rg []) (.ret [.k (.int .i64 (-1))])) (.skip))) (.seq (.seq (.rg []) (.block 0 (.seq (.tup [.v 0, .v 3, .k (.int .i64 0)]) (.loop (laws_szPinSS_b0))))) (laws_szPinSS_r1))))
theorem laws_szPinSS_L_sh (Q : QT) (x0 x1 : V) : shL laws_szPinSS_L Q [x0, x1] = (
  P1 (.len) [x0] fun v0 =>
  P1 (.bin .sub) [x1, v0] fun v1 =>
  P1 (.bin .lss) [v1, .int .i64 0] fun v2 =>
  ifB v2 (
    Q .ret [.int .i64 (-1)]) (
    shL (.loop laws_szPinSS_b0) (qB 0 (qS (shL laws_szPinSS_r1 Q) Q)) [x0, v1, .int .i64 0])) := by kernel_rfl
def laws_szPinSS_S : Sig := ⟨[.val false [.sl [.sl [.sc, .sc]]], .val false [.sc]], [(false, [.sc])], F_szPinSS⟩
def laws_szPinSS_hs : List NF := [⟨[(1, .sc false [.sc])], [], [], 64⟩, ⟨[(0, .sc false [.ro [.sl [.sc, .sc]]]), (1, .sc false [.sc]), (5, .sc false [.sc])], [], [], 64⟩, ⟨[(0, .sc false [.ro [.sl [.sc, .sc]]]), (1, .sc false [.sc]), (5, .sc false [.sc])], [], [], 64⟩]

def laws_szBench_L : L := .seq (.rg []) (.seq (.rg [⟨[], .call F_szCylinder 0 1, [.v 0, .v 1, .v 2, .v 4], 1⟩]) (.seq (.seq (.rg [⟨[], .bin .lss, [.v 5, .k (.int .i64 0)], 1⟩]) (.ite (.v 6) (.seq (.rg []) (.ret [.k (.int .i64 (-1))])) (.skip))) (.seq (.rg [⟨[], .call F_szPinSS 0 1, [.v 3, .v 5], 1⟩]) (.seq (.seq (.rg [⟨[], .bin .lss, [.v 7, .k (.int .i64 0)], 1⟩]) (.ite (.v 8) (.seq (.rg []) (.ret [.k (.int .i64 (-1))])) (.skip))) (.seq (.rg []) (.ret [.v 7]))))))
theorem laws_szBench_L_sh (Q : QT) (x0 x1 x2 x3 x4 : V) : shL laws_szBench_L Q [x0, x1, x2, x3, x4] = (
  P1 (.call F_szCylinder 0 1) [x0, x1, x2, x4] fun v0 =>
  P1 (.bin .lss) [v0, .int .i64 0] fun v1 =>
  ifB v1 (
    Q .ret [.int .i64 (-1)]) (
    P1 (.call F_szPinSS 0 1) [x3, v0] fun v2 =>
    P1 (.bin .lss) [v2, .int .i64 0] fun v3 =>
    ifB v3 (
      Q .ret [.int .i64 (-1)]) (
      Q .ret [v2]))) := by kernel_rfl
def laws_szBench_S : Sig := ⟨[.val true [.sc, .sc, .sl [.sc, .sc], .sl [.sl [.sc, .sc]]], .val false [.sc]], [(false, [.sc])], F_szBench⟩
def laws_szBench_hs : List NF := []

def laws_toPinSS_b0 : L := .seq (.seq (.seq (.rg [⟨[], .len, [.v 0], 1⟩, ⟨[], .bin .lss, [.v 1, .v 3], 1⟩]) (.ite (.v 4) (.skip) (.seq (.tup [.v 2]) (.exit 0)))) (.seq (.block 1 (.seq (.rg [⟨[], .idx [.sl [.sc, .sc]], [.v 0, .v 1], 1⟩, ⟨[], .call F_toPinS 0 1, [.v 5], 1⟩, ⟨[], .idx [.sl [.sc, .sc]], [.v 2, .v 1], 1⟩, ⟨[], .set [.sl [.sc, .sc]] 0, [.v 2, .v 1, .v 6], 1⟩]) (.tup [.v 0, .v 1, .v 8]))) (.rg [⟨[], .bin .add, [.v 1, .k (.int .i64 1)], 1⟩]))) (.tup [.v 0, .v 3, .v 2])
theorem laws_toPinSS_b0_sh (Q : QT) (x0 x1 x2 : V) : shL laws_toPinSS_b0 Q [x0, x1, x2] = (
  P1 (.len) [x0] fun v0 =>
  P1 (.bin .lss) [x1, v0] fun v1 =>
  ifB v1 (
    P1 (.idx [.sl [.sc, .sc]]) [x0, x1] fun v2 =>
    P1 (.call F_toPinS 0 1) [v2] fun v3 =>
    P1 (.idx [.sl [.sc, .sc]]) [x2, x1] fun _ =>
    P1 (.set [.sl [.sc, .sc]] 0) [x2, x1, v3] fun v5 =>
    P1 (.bin .add) [x1, .int .i64 1] fun v6 =>
    Q .normal [x0, v6, v5]) (
    Q (.exit 0) [x2])) := by kernel_rfl

def laws_toPinSS_r1 : L := .seq (.rg []) (.ret [.v 0])
theorem laws_toPinSS_r1_sh (Q : QT) (x0 : V) : shL laws_toPinSS_r1 Q [x0] = (
  Q .ret [x0]) := by kernel_rfl

def laws_toPinSS_L : L := .seq (.rg []) (.seq (.rg [⟨[], .len, [.v 0], 1⟩, ⟨[], .mk [.sl [.sc, .sc]] (.list [.sc, .sc] []) 24, [.v 1, .v 1], 1⟩]) (.seq (.seq (.rg []) (.block 0 (.seq (.tup [.v 0, .k (.int .i64 0), .v 2]) (.loop (laws_toPinSS_b0))))) (laws_toPinSS_r1)))
theorem laws_toPinSS_L_sh (Q : QT) (x0 : V) : shL laws_toPinSS_L Q [x0] = (
  P1 (.len) [x0] fun v0 =>
  P1 (.mk [.sl [.sc, .sc]] (.list [.sc, .sc] []) 24) [v0, v0] fun v1 =>
  shL (.loop laws_toPinSS_b0) (qB 0 (qS (shL laws_toPinSS_r1 Q) Q)) [x0, .int .i64 0, v1]) := by kernel_rfl
def laws_toPinSS_S : Sig := ⟨[.val false [.sl [.sl [.sc, .sc]]]], [(false, [.sl [.sl [.sc, .sc]]])], F_toPinSS⟩
def laws_toPinSS_hs : List NF := [⟨[(3, .sc false [.own 64])], [(64, true, [.sl [.sc, .sc]])], [], 65⟩, ⟨[(0, .sc false [.ro [.sl [.sc, .sc]]]), (3, .sc false [.own 64]), (4, .sc false [.sc])], [(64, true, [.sl [.sc, .sc]])], [], 65⟩, ⟨[(0, .sc false [.ro [.sl [.sc, .sc]]]), (3, .sc false [.own 64]), (4, .sc false [.sc])], [(64, true, [.sl [.sc, .sc]])], [], 65⟩]

def laws_toBench_L : L := .seq (.rg []) (.seq (.rg []) (.seq (.rg [⟨[], .call F_toCylinder 0 3, [.v 0, .v 1, .v 2], 3⟩]) (.seq (.rg [⟨[], .call F_toPinSS 0 1, [.v 3], 1⟩]) (.seq (.rg []) (.ret [.v 4, .v 5, .v 6, .v 7])))))
theorem laws_toBench_L_sh (Q : QT) (x0 x1 x2 x3 : V) : shL laws_toBench_L Q [x0, x1, x2, x3] = (
  P3 (.call F_toCylinder 0 3) [x0, x1, x2] fun v0 v1 v2 =>
  P1 (.call F_toPinSS 0 1) [x3] fun v3 =>
  Q .ret [v0, v1, v2, v3]) := by kernel_rfl
def laws_toBench_S : Sig := ⟨[.val true [.sc, .sc, .sl [.sc, .sc], .sl [.sl [.sc, .sc]]]], [(true, [.sc, .sc, .sl [.sc, .sc], .sl [.sl [.sc, .sc]]])], F_toBench⟩
def laws_toBench_hs : List NF := []

def spec_BenchOk_b0 : L := .seq (.seq (.seq (.rg [⟨[], .len, [.v 4], 1⟩, ⟨[], .bin .lss, [.v 0, .v 5], 1⟩]) (.ite (.v 6) (.skip) (.seq (.tup [.v 1, .v 2, .v 3, .v 4]) (.exit 0)))) (.seq (.block 1 (.seq (.seq (.rg [⟨[], .idx [.sl [.sc, .sc]], [.v 4, .v 0], 1⟩, ⟨[], .call F_CylinderOk 0 1, [.v 1, .v 2, .v 7], 1⟩, ⟨[], .un .not, [.v 8], 1⟩]) (.ite (.v 9) (.seq (.rg []) (.ret [.k (.bool false)])) (.skip))) (.tup [.v 0, .v 1, .v 2, .v 3, .v 4]))) (.rg [⟨[], .bin .add, [.v 0, .k (.int .i64 1)], 1⟩]))) (.tup [.v 5, .v 1, .v 2, .v 3, .v 4])
theorem spec_BenchOk_b0_sh (Q : QT) (x0 x1 x2 x3 x4 : V) : shL spec_BenchOk_b0 Q [x0, x1, x2, x3, x4] = (
  P1 (.len) [x4] fun v0 =>
  P1 (.bin .lss) [x0, v0] fun v1 =>
  ifB v1 (
    P1 (.idx [.sl [.sc, .sc]]) [x4, x0] fun v2 =>
    P1 (.call F_CylinderOk 0 1) [x1, x2, v2] fun v3 =>
    P1 (.un .not) [v3] fun v4 =>
    ifB v4 (
      Q .ret [.bool false]) (
      P1 (.bin .add) [x0, .int .i64 1] fun v5 =>
      Q .normal [v5, x1, x2, x3, x4])) (
    Q (.exit 0) [x1, x2, x3, x4])) := by kernel_rfl

def spec_BenchOk_r1 : L := .seq (.rg [⟨[], .call F_CylinderOk 0 1, [.v 0, .v 1, .v 2], 1⟩, ⟨[(.v 4, true)], .len, [.v 3], 1⟩, ⟨[(.v 4, true)], .bin .leq, [.v 5, .k (.int .i64 30)], 1⟩, ⟨[], .pick, [.v 4, .v 6, .k (.bool false)], 1⟩]) (.ret [.v 7])
theorem spec_BenchOk_r1_sh (Q : QT) (x0 x1 x2 x3 : V) : shL spec_BenchOk_r1 Q [x0, x1, x2, x3] = (
  P1 (.call F_CylinderOk 0 1) [x0, x1, x2] fun v0 =>
  ifB v0 (
    P1 (.len) [x3] fun v1 =>
    P1 (.bin .leq) [v1, .int .i64 30] fun v2 =>
    Q .ret [v2]) (
    Q .ret [.bool false])) := by kernel_rfl

def spec_BenchOk_L : L := .seq (.rg []) (.seq (.seq (.rg []) (.block 0 (.seq (.tup [.k (.int .i64 0), .v 0, .v 1, .v 2, .v 3]) (.loop (spec_BenchOk_b0))))) (spec_BenchOk_r1))
theorem spec_BenchOk_L_sh (Q : QT) (x0 x1 x2 x3 : V) : shL spec_BenchOk_L Q [x0, x1, x2, x3] = (
  shL (.loop spec_BenchOk_b0) (qB 0 (qS (shL spec_BenchOk_r1 Q) Q)) [.int .i64 0, x0, x1, x2, x3]) := by kernel_rfl
def spec_BenchOk_S : Sig := ⟨[.val true [.sc, .sc, .sl [.sc, .sc], .sl [.sl [.sc, .sc]]]], [(false, [.sc])], F_BenchOk⟩
def spec_BenchOk_hs : List NF := [⟨[(1, .ptr 64 0)], [], [(64, [.sc, .sc, .ro [.sc, .sc], .ro [.sl [.sc, .sc]]])], 65⟩, ⟨[(1, .ptr 64 0), (3, .sc false [.sc])], [], [(64, [.sc, .sc, .ro [.sc, .sc], .ro [.sl [.sc, .sc]]])], 65⟩, ⟨[(1, .ptr 64 0), (3, .sc false [.sc])], [], [(64, [.sc, .sc, .ro [.sc, .sc], .ro [.sl [.sc, .sc]]])], 65⟩]

def impl_BenchOk_b0 : L := .seq (.seq (.rg [⟨[], .bin .lss, [.v 2, .v 1], 1⟩]) (.seq (.ite (.v 7) (.skip) (.seq (.tup []) (.exit 0))) (.seq (.block 1 (.seq (.seq (.rg [⟨[], .idx [.sl [.sc, .sc]], [.v 0, .v 2], 1⟩]) (.seq (.rg [⟨[], .call F_CylinderOk 0 1, [.v 3, .v 4, .v 8], 1⟩, ⟨[], .un .not, [.v 9], 1⟩]) (.ite (.v 10) (.seq (.rg []) (.ret [.k (.bool false)])) (.skip)))) (.tup [.v 0, .v 1, .v 2, .v 3, .v 4, .v 5, .v 6]))) (.rg [⟨[], .bin .add, [.v 2, .k (.int .i64 1)], 1⟩])))) (.tup [.v 0, .v 1, .v 7, .v 3, .v 4, .v 5, .v 6])
theorem impl_BenchOk_b0_sh (Q : QT) (x0 x1 x2 x3 x4 x5 x6 : V) : shL impl_BenchOk_b0 Q [x0, x1, x2, x3, x4, x5, x6] = (
  P1 (.bin .lss) [x2, x1] fun v0 =>
  ifB v0 (
    P1 (.idx [.sl [.sc, .sc]]) [x0, x2] fun v1 =>
    P1 (.call F_CylinderOk 0 1) [x3, x4, v1] fun v2 =>
    P1 (.un .not) [v2] fun v3 =>
    ifB v3 (
      Q .ret [.bool false]) (
      P1 (.bin .add) [x2, .int .i64 1] fun v4 =>
      Q .normal [x0, x1, v4, x3, x4, x5, x6])) (
    Q (.exit 0) [])) := by kernel_rfl

def impl_BenchOk_r1 : L := .seq (.rg []) (.ret [.k (.bool true)])
theorem impl_BenchOk_r1_sh (Q : QT) : shL impl_BenchOk_r1 Q [] = (
  Q .ret [.bool true]) := by kernel_rfl

def impl_BenchOk_L : L := .seq (.rg []) (.seq (.seq (.rg [⟨[], .call F_CylinderOk 0 1, [.v 0, .v 1, .v 2], 1⟩, ⟨[], .un .not, [.v 4], 1⟩, ⟨[(.v 5, false)], .len, [.v 3], 1⟩, ⟨[(.v 5, false)], .bin .gtr, [.v 6, .k (.int .i64 30)], 1⟩, ⟨[], .pick, [.v 5, .k (.bool true), .v 7], 1⟩]) (.ite (.v 8) (.seq (.rg []) (.ret [.k (.bool false)])) (.skip))) (.seq (.seq (.rg [⟨[], .len, [.v 3], 1⟩]) (.block 0 (.seq (.tup [.v 3, .v 9, .k (.int .i64 0), .v 0, .v 1, .v 2, .v 3]) (.loop (impl_BenchOk_b0))))) (impl_BenchOk_r1)))
theorem impl_BenchOk_L_sh (Q : QT) (x0 x1 x2 x3 : V) : shL impl_BenchOk_L Q [x0, x1, x2, x3] = (
  P1 (.call F_CylinderOk 0 1) [x0, x1, x2] fun v0 =>
  P1 (.un .not) [v0] fun v1 =>
  ifB v1 (
    Q .ret [.bool false]) (
    P1 (.len) [x3] fun v2 =>
    P1 (.bin .gtr) [v2, .int .i64 30] fun v3 =>
    ifB v3 (
      Q .ret [.bool false]) (
      P1 (.len) [x3] fun v4 =>
      shL (.loop impl_BenchOk_b0) (qB 0 (qS (shL impl_BenchOk_r1 Q) Q)) [x3, v4, .int .i64 0, x0, x1, x2, x3]))) := by kernel_rfl
def impl_BenchOk_S : Sig := ⟨[.val true [.sc, .sc, .sl [.sc, .sc], .sl [.sl [.sc, .sc]]]], [(false, [.sc])], F_BenchOk⟩
def impl_BenchOk_hs : List NF := [⟨[], [], [], 64⟩, ⟨[(1, .ptr 64 0), (16, .sc false [.ro [.sl [.sc, .sc]]]), (17, .sc false [.sc]), (18, .sc false [.sc])], [], [(64, [.sc, .sc, .ro [.sc, .sc], .ro [.sl [.sc, .sc]]])], 65⟩, ⟨[(1, .ptr 64 0), (16, .sc false [.ro [.sl [.sc, .sc]]]), (17, .sc false [.sc]), (18, .sc false [.sc])], [], [(64, [.sc, .sc, .ro [.sc, .sc], .ro [.sl [.sc, .sc]]])], 65⟩]

def laws_eqPinSS_b0 : L := .seq (.seq (.seq (.rg [⟨[], .len, [.v 0], 1⟩, ⟨[], .bin .lss, [.v 2, .v 3], 1⟩]) (.ite (.v 4) (.skip) (.seq (.tup []) (.exit 0)))) (.seq (.block 1 (.seq (.seq (.rg [⟨[], .idx [.sl [.sc, .sc]], [.v 0, .v 2], 1⟩, ⟨[], .idx [.sl [.sc, .sc]], [.v 1, .v 2], 1⟩, ⟨[], .call F_eqPinS 0 1, [.v 5, .v 6], 1⟩, ⟨[], .un .not, [.v 7], 1⟩]) (.ite (.v 8) (.seq (.rg []) (.ret [.k (.bool false)])) (.skip))) (.tup [.v 0, .v 1, .v 2]))) (.rg [⟨[], .bin .add, [.v 2, .k (.int .i64 1)], 1⟩]))) (.tup [.v 0, .v 1, .v 3])
theorem laws_eqPinSS_b0_sh (Q : QT) (x0 x1 x2 : V) : shL laws_eqPinSS_b0 Q [x0, x1, x2] = (
  P1 (.len) [x0] fun v0 =>
  P1 (.bin .lss) [x2, v0] fun v1 =>
  ifB v1 (
    P1 (.idx [.sl [.sc, .sc]]) [x0, x2] fun v2 =>
    P1 (.idx [.sl [.sc, .sc]]) [x1, x2] fun v3 =>
    P1 (.call F_eqPinS 0 1) [v2, v3] fun v4 =>
    P1 (.un .not) [v4] fun v5 =>
    ifB v5 (
      Q .ret [.bool false]) (
      P1 (.bin .add) [x2, .int .i64 1] fun v6 =>
      Q .normal [x0, x1, v6])) (
    Q (.exit 0) [])) := by kernel_rfl

def laws_eqPinSS_r1 : L := .seq (.rg []) (.ret [.k (.bool true)])
theorem laws_eqPinSS_r1_sh (Q : QT) : shL laws_eqPinSS_r1 Q [] = (
  Q .ret [.bool true]) := by kernel_rfl

def laws_eqPinSS_L : L := .seq (.rg []) (.seq (.seq (.rg [⟨[], .len, [.v 0], 1⟩, ⟨[], .len, [.v 1], 1⟩, ⟨[], .bin .neq, [.v 2, .v 3], 1⟩]) (.ite (.v 4) (.seq (.rg []) (.ret [.k (.bool false)])) (.skip))) (.seq (.seq (.rg []) (.block 0 (.seq (.tup [.v 0, .v 1, .k (.int .i64 0)]) (.loop (laws_eqPinSS_b0))))) (laws_eqPinSS_r1)))
theorem laws_eqPinSS_L_sh (Q : QT) (x0 x1 : V) : shL laws_eqPinSS_L Q [x0, x1] = (
  P1 (.len) [x0] fun v0 =>
  P1 (.len) [x1] fun v1 =>
  P1 (.bin .neq) [v0, v1] fun v2 =>
  ifB v2 (
    Q .ret [.bool false]) (
    shL (.loop laws_eqPinSS_b0) (qB 0 (qS (shL laws_eqPinSS_r1 Q) Q)) [x0, x1, .int .i64 0])) := by kernel_rfl
def laws_eqPinSS_S : Sig := ⟨[.val false [.sl [.sl [.sc, .sc]]], .val false [.sl [.sl [.sc, .sc]]]], [(false, [.sc])], F_eqPinSS⟩
def laws_eqPinSS_hs : List NF := [⟨[], [], [], 64⟩, ⟨[(0, .sc false [.ro [.sl [.sc, .sc]]]), (1, .sc false [.ro [.sl [.sc, .sc]]]), (5, .sc false [.sc])], [], [], 64⟩, ⟨[(0, .sc false [.ro [.sl [.sc, .sc]]]), (1, .sc false [.ro [.sl [.sc, .sc]]]), (5, .sc false [.sc])], [], [], 64⟩]

def laws_eqBench_L : L := .seq (.rg []) (.seq (.seq (.rg [⟨[], .call F_eqCylinder 0 1, [.v 0, .v 1, .v 2, .v 4, .v 5, .v 6], 1⟩, ⟨[], .un .not, [.v 8], 1⟩]) (.ite (.v 9) (.seq (.rg []) (.ret [.k (.bool false)])) (.skip))) (.seq (.seq (.rg [⟨[], .call F_eqPinSS 0 1, [.v 3, .v 7], 1⟩, ⟨[], .un .not, [.v 10], 1⟩]) (.ite (.v 11) (.seq (.rg []) (.ret [.k (.bool false)])) (.skip))) (.seq (.rg []) (.ret [.k (.bool true)]))))
theorem laws_eqBench_L_sh (Q : QT) (x0 x1 x2 x3 x4 x5 x6 x7 : V) : shL laws_eqBench_L Q [x0, x1, x2, x3, x4, x5, x6, x7] = (
  P1 (.call F_eqCylinder 0 1) [x0, x1, x2, x4, x5, x6] fun v0 =>
  P1 (.un .not) [v0] fun v1 =>
  ifB v1 (
    Q .ret [.bool false]) (
    P1 (.call F_eqPinSS 0 1) [x3, x7] fun v2 =>
    P1 (.un .not) [v2] fun v3 =>
    ifB v3 (
      Q .ret [.bool false]) (
      Q .ret [.bool true]))) := by kernel_rfl
def laws_eqBench_S : Sig := ⟨[.val true [.sc, .sc, .sl [.sc, .sc], .sl [.sl [.sc, .sc]]], .val true [.sc, .sc, .sl [.sc, .sc], .sl [.sl [.sc, .sc]]]], [(false, [.sc])], F_eqBench⟩
def laws_eqBench_hs : List NF := []

def laws_FnExactBenchOk_L : L := .seq (.rg []) (.seq (.rg []) (.seq (.rg [⟨[], .call F_szBench 0 1, [.v 0, .v 1, .v 2, .v 3, .k (.int .i64 1048576)], 1⟩]) (.seq (.seq (.rg [⟨[], .bin .lss, [.v 4, .k (.int .i64 0)], 1⟩]) (.ite (.v 5) (.seq (.rg []) (.ret [.k (.bool true)])) (.skip))) (.seq (.rg [⟨[], .call F_toBench 0 4, [.v 0, .v 1, .v 2, .v 3], 4⟩, ⟨[], .call F_BenchOk 0 1, [.v 6, .v 7, .v 8, .v 9], 1⟩]) (.seq (.rg [⟨[], .call F_toBench 0 4, [.v 0, .v 1, .v 2, .v 3], 4⟩]) (.seq (.rg [⟨[], .call F_BenchOk 0 1, [.v 11, .v 12, .v 13, .v 14], 1⟩]) (.seq (.seq (.rg [⟨[], .binb .neq, [.v 15, .v 10], 1⟩]) (.ite (.v 16) (.seq (.rg []) (.ret [.k (.bool false)])) (.skip))) (.seq (.seq (.rg [⟨[], .call F_toBench 0 4, [.v 0, .v 1, .v 2, .v 3], 4⟩, ⟨[], .call F_eqBench 0 1, [.v 11, .v 12, .v 13, .v 14, .v 17, .v 18, .v 19, .v 20], 1⟩, ⟨[], .un .not, [.v 21], 1⟩]) (.ite (.v 22) (.seq (.rg []) (.ret [.k (.bool false)])) (.skip))) (.seq (.rg []) (.ret [.k (.bool true)]))))))))))
theorem laws_FnExactBenchOk_L_sh (Q : QT) (x0 x1 x2 x3 : V) : shL laws_FnExactBenchOk_L Q [x0, x1, x2, x3] = (
  P1 (.call F_szBench 0 1) [x0, x1, x2, x3, .int .i64 1048576] fun v0 =>
  P1 (.bin .lss) [v0, .int .i64 0] fun v1 =>
  ifB v1 (
    Q .ret [.bool true]) (
    P4 (.call F_toBench 0 4) [x0, x1, x2, x3] fun v2 v3 v4 v5 =>
    P1 (.call F_BenchOk 0 1) [v2, v3, v4, v5] fun v6 =>
    P4 (.call F_toBench 0 4) [x0, x1, x2, x3] fun v7 v8 v9 v10 =>
    P1 (.call F_BenchOk 0 1) [v7, v8, v9, v10] fun v11 =>
    P1 (.binb .neq) [v11, v6] fun v12 =>
    ifB v12 (
      Q .ret [.bool false]) (
      P4 (.call F_toBench 0 4) [x0, x1, x2, x3] fun v13 v14 v15 v16 =>
      P1 (.call F_eqBench 0 1) [v7, v8, v9, v10, v13, v14, v15, v16] fun v17 =>
      P1 (.un .not) [v17] fun v18 =>
      ifB v18 (
        Q .ret [.bool false]) (
        Q .ret [.bool true])))) := by kernel_rfl
def laws_FnExactBenchOk_S : Sig := ⟨[.val true [.sc, .sc, .sl [.sc, .sc], .sl [.sl [.sc, .sc]]]], [(false, [.sc])], F_FnExactBenchOk⟩
def laws_FnExactBenchOk_hs : List NF := []

def spec_NewBench_L : L := .seq (.rg []) (.seq (.rg []) (.seq (.seq (.rg [⟨[], .call F_BenchOk 0 1, [.v 0, .v 1, .k (.list [.sc, .sc] []), .k (.list [.sl [.sc, .sc]] [])], 1⟩, ⟨[], .un .not, [.v 2], 1⟩]) (.ite (.v 3) (.seq (.rg []) (.ret [.k (.int .i64 0), .k (.int .i64 0), .k (.list [.sc, .sc] []), .k (.list [.sl [.sc, .sc]] []), .k (.bool false)])) (.skip))) (.seq (.rg []) (.ret [.v 0, .v 1, .k (.list [.sc, .sc] []), .k (.list [.sl [.sc, .sc]] []), .k (.bool true)]))))
theorem spec_NewBench_L_sh (Q : QT) (x0 x1 : V) : shL spec_NewBench_L Q [x0, x1] = (
  P1 (.call F_BenchOk 0 1) [x0, x1, .list [.sc, .sc] [], .list [.sl [.sc, .sc]] []] fun v0 =>
  P1 (.un .not) [v0] fun v1 =>
  ifB v1 (
    Q .ret [.int .i64 0, .int .i64 0, .list [.sc, .sc] [], .list [.sl [.sc, .sc]] [], .bool false]) (
    Q .ret [x0, x1, .list [.sc, .sc] [], .list [.sl [.sc, .sc]] [], .bool true])) := by kernel_rfl
def spec_NewBench_S : Sig := ⟨[.val false [.sc], .val false [.sc]], [(true, [.sc, .sc, .sl [.sc, .sc], .sl [.sl [.sc, .sc]]]), (false, [.sc])], F_NewBench⟩
def spec_NewBench_hs : List NF := []

def impl_NewBench_L : L := .seq (.rg []) (.seq (.rg []) (.seq (.seq (.rg [⟨[], .call F_BenchOk 0 1, [.v 0, .v 1, .k (.list [.sc, .sc] []), .k (.list [.sl [.sc, .sc]] [])], 1⟩, ⟨[], .un .not, [.v 2], 1⟩]) (.ite (.v 3) (.seq (.rg []) (.ret [.k (.int .i64 0), .k (.int .i64 0), .k (.list [.sc, .sc] []), .k (.list [.sl [.sc, .sc]] []), .k (.bool false)])) (.skip))) (.seq (.rg []) (.ret [.v 0, .v 1, .k (.list [.sc, .sc] []), .k (.list [.sl [.sc, .sc]] []), .k (.bool true)]))))
theorem impl_NewBench_L_sh (Q : QT) (x0 x1 : V) : shL impl_NewBench_L Q [x0, x1] = (
  P1 (.call F_BenchOk 0 1) [x0, x1, .list [.sc, .sc] [], .list [.sl [.sc, .sc]] []] fun v0 =>
  P1 (.un .not) [v0] fun v1 =>
  ifB v1 (
    Q .ret [.int .i64 0, .int .i64 0, .list [.sc, .sc] [], .list [.sl [.sc, .sc]] [], .bool false]) (
    Q .ret [x0, x1, .list [.sc, .sc] [], .list [.sl [.sc, .sc]] [], .bool true])) := by kernel_rfl
def impl_NewBench_S : Sig := ⟨[.val false [.sc], .val false [.sc]], [(true, [.sc, .sc, .sl [.sc, .sc], .sl [.sl [.sc, .sc]]]), (false, [.sc])], F_NewBench⟩
def impl_NewBench_hs : List NF := []

def laws_markPinSS_b0 : L := .seq (.seq (.seq (.rg [⟨[], .len, [.v 2], 1⟩, ⟨[], .bin .lss, [.v 1, .v 3], 1⟩]) (.ite (.v 4) (.skip) (.seq (.tup [.v 0, .v 2]) (.exit 0)))) (.seq (.block 1 (.seq (.rg [⟨[], .idx [.sl [.sc, .sc]], [.v 2, .v 1], 1⟩, ⟨[], .callIn F_markPinS 1 [.sl [.sc, .sc]] 0, [.v 5, .v 0, .v 5, .v 2, .v 1], 2⟩]) (.tup [.v 6, .v 1, .v 7]))) (.rg [⟨[], .bin .add, [.v 1, .k (.int .i64 1)], 1⟩]))) (.tup [.v 0, .v 3, .v 2])
theorem laws_markPinSS_b0_sh (Q : QT) (x0 x1 x2 : V) : shL laws_markPinSS_b0 Q [x0, x1, x2] = (
  P1 (.len) [x2] fun v0 =>
  P1 (.bin .lss) [x1, v0] fun v1 =>
  ifB v1 (
    P1 (.idx [.sl [.sc, .sc]]) [x2, x1] fun v2 =>
    P2 (.callIn F_markPinS 1 [.sl [.sc, .sc]] 0) [v2, x0, v2, x2, x1] fun v3 v4 =>
    P1 (.bin .add) [x1, .int .i64 1] fun v5 =>
    Q .normal [v3, v5, v4]) (
    Q (.exit 0) [x0, x2])) := by kernel_rfl

def laws_markPinSS_r1 : L := .seq (.rg []) (.ret [.v 0, .v 1])
theorem laws_markPinSS_r1_sh (Q : QT) (x0 x1 : V) : shL laws_markPinSS_r1 Q [x0, x1] = (
  Q .ret [x0, x1]) := by kernel_rfl

def laws_markPinSS_L : L := .seq (.rg []) (.seq (.seq (.rg []) (.block 0 (.seq (.tup [.v 1, .k (.int .i64 0), .v 0]) (.loop (laws_markPinSS_b0))))) (laws_markPinSS_r1))
theorem laws_markPinSS_L_sh (Q : QT) (x0 x1 : V) : shL laws_markPinSS_L Q [x0, x1] = (
  shL (.loop laws_markPinSS_b0) (qB 0 (qS (shL laws_markPinSS_r1 Q) Q)) [x1, .int .i64 0, x0]) := by kernel_rfl
def laws_markPinSS_S : Sig := ⟨[.io false [.sl [.sl [.sc, .sc]]], .val false [.sc]], [(false, [.sc])], F_markPinSS⟩
def laws_markPinSS_hs : List NF := [⟨[(1, .sc false [.sc])], [(0, false, [.sl [.sc, .sc]])], [], 64⟩, ⟨[(0, .sc false [.own 0]), (1, .sc false [.sc]), (5, .sc false [.sc])], [(0, false, [.sl [.sc, .sc]])], [], 64⟩, ⟨[(0, .sc false [.own 0]), (1, .sc false [.sc]), (5, .sc false [.sc])], [(0, false, [.sl [.sc, .sc]])], [], 64⟩]

def laws_markBench_L : L := .seq (.rg []) (.seq (.rg [⟨[], .call F_markCylinder 1 1, [.v 0, .v 1, .v 2, .v 4, .v 2], 2⟩]) (.seq (.rg [⟨[], .call F_markPinSS 1 1, [.v 3, .v 5, .v 3], 2⟩]) (.seq (.rg []) (.ret [.v 7, .v 6, .v 8]))))
theorem laws_markBench_L_sh (Q : QT) (x0 x1 x2 x3 x4 : V) : shL laws_markBench_L Q [x0, x1, x2, x3, x4] = (
  P2 (.call F_markCylinder 1 1) [x0, x1, x2, x4, x2] fun v0 v1 =>
  P2 (.call F_markPinSS 1 1) [x3, v0, x3] fun v2 v3 =>
  Q .ret [v2, v1, v3]) := by kernel_rfl
def laws_markBench_S : Sig := ⟨[.io true [.sc, .sc, .sl [.sc, .sc], .sl [.sl [.sc, .sc]]], .val false [.sc]], [(false, [.sc])], F_markBench⟩
def laws_markBench_hs : List NF := []

def laws_heldPinS_b0 : L := .seq (.seq (.seq (.rg [⟨[], .len, [.v 0], 1⟩, ⟨[], .bin .lss, [.v 2, .v 3], 1⟩]) (.ite (.v 4) (.skip) (.seq (.tup [.v 1]) (.exit 0)))) (.seq (.block 1 (.seq (.seq (.seq (.rg [⟨[], .idx [.sc, .sc], [.v 0, .v 2], 2⟩, ⟨[], .bin .neq, [.v 5, .v 1], 1⟩]) (.ite (.v 7) (.seq (.rg []) (.ret [.k (.int .i64 (-1))])) (.skip))) (.seq (.rg [⟨[], .bin .add, [.v 1, .k (.int .i64 1)], 1⟩]) (.seq (.seq (.rg [⟨[], .idx [.sc, .sc], [.v 0, .v 2], 2⟩, ⟨[], .bin .neq, [.v 10, .v 8], 1⟩]) (.ite (.v 11) (.seq (.rg []) (.ret [.k (.int .i64 (-1))])) (.skip))) (.rg [⟨[], .bin .add, [.v 8, .k (.int .i64 1)], 1⟩])))) (.tup [.v 0, .v 12, .v 2]))) (.rg [⟨[], .bin .add, [.v 2, .k (.int .i64 1)], 1⟩]))) (.tup [.v 0, .v 1, .v 3])
theorem laws_heldPinS_b0_sh (Q : QT) (x0 x1 x2 : V) : shL laws_heldPinS_b0 Q [x0, x1, x2] = (
  P1 (.len) [x0] fun v0 =>
  P1 (.bin .lss) [x2, v0] fun v1 =>
  ifB v1 (
    P2 (.idx [.sc, .sc]) [x0, x2] fun v2 _ =>
    P1 (.bin .neq) [v2, x1] fun v4 =>
    ifB v4 (
      Q .ret [.int .i64 (-1)]) (
      P1 (.bin .add) [x1, .int .i64 1] fun v5 =>
      P2 (.idx [.sc, .sc]) [x0, x2] fun _ v7 =>
      P1 (.bin .neq) [v7, v5] fun v8 =>
      ifB v8 (
        Q .ret [.int .i64 (-1)]) (
        P1 (.bin .add) [v5, .int .i64 1] fun v9 =>
        P1 (.bin .add) [x2, .int .i64 1] fun v10 =>
        Q .normal [x0, v9, v10]))) (
    Q (.exit 0) [x1])) := by kernel_rfl

def laws_heldPinS_r1 : L := .seq (.rg []) (.ret [.v 0])
theorem laws_heldPinS_r1_sh (Q : QT) (x0 : V) : shL laws_heldPinS_r1 Q [x0] = (
  Q .ret [x0]) := by kernel_rfl

def laws_heldPinS_L : L := .seq (.rg []) (.seq (.seq (.rg []) (.block 0 (.seq (.tup [.v 0, .v 1, .k (.int .i64 0)]) (.loop (laws_heldPinS_b0))))) (laws_heldPinS_r1))
theorem laws_heldPinS_L_sh (Q : QT) (x0 x1 : V) : shL laws_heldPinS_L Q [x0, x1] = (
  shL (.loop laws_heldPinS_b0) (qB 0 (qS (shL laws_heldPinS_r1 Q) Q)) [x0, x1, .int .i64 0]) := by kernel_rfl
def laws_heldPinS_S : Sig := ⟨[.val false [.sl [.sc, .sc]], .val false [.sc]], [(false, [.sc])], F_heldPinS⟩
def laws_heldPinS_hs : List NF := [⟨[(1, .sc false [.sc])], [], [], 64⟩, ⟨[(0, .sc false [.ro [.sc, .sc]]), (1, .sc false [.sc]), (5, .sc false [.sc])], [], [], 64⟩, ⟨[(0, .sc false [.ro [.sc, .sc]]), (1, .sc false [.sc]), (5, .sc false [.sc])], [], [], 64⟩]

def laws_heldCylinder_L : L := .seq (.rg []) (.seq (.rg [⟨[], .call F_heldPinS 0 1, [.v 2, .v 3], 1⟩]) (.seq (.seq (.rg [⟨[], .bin .lss, [.v 4, .k (.int .i64 0)], 1⟩]) (.ite (.v 5) (.seq (.rg []) (.ret [.k (.int .i64 (-1))])) (.skip))) (.seq (.rg []) (.ret [.v 4]))))
theorem laws_heldCylinder_L_sh (Q : QT) (x0 x1 x2 x3 : V) : shL laws_heldCylinder_L Q [x0, x1, x2, x3] = (
  P1 (.call F_heldPinS 0 1) [x2, x3] fun v0 =>
  P1 (.bin .lss) [v0, .int .i64 0] fun v1 =>
  ifB v1 (
    Q .ret [.int .i64 (-1)]) (
    Q .ret [v0])) := by kernel_rfl
def laws_heldCylinder_S : Sig := ⟨[.val true [.sc, .sc, .sl [.sc, .sc]], .val false [.sc]], [(false, [.sc])], F_heldCylinder⟩
def laws_heldCylinder_hs : List NF := []

def laws_heldPinSS_b0 : L := .seq (.seq (.seq (.rg [⟨[], .len, [.v 0], 1⟩, ⟨[], .bin .lss, [.v 2, .v 3], 1⟩]) (.ite (.v 4) (.skip) (.seq (.tup [.v 1]) (.exit 0)))) (.seq (.block 1 (.seq (.seq (.rg [⟨[], .idx [.sl [.sc, .sc]], [.v 0, .v 2], 1⟩, ⟨[], .call F_heldPinS 0 1, [.v 5, .v 1], 1⟩]) (.seq (.rg [⟨[], .bin .lss, [.v 6, .k (.int .i64 0)], 1⟩]) (.ite (.v 7) (.seq (.rg []) (.ret [.k (.int .i64 (-1))])) (.skip)))) (.tup [.v 0, .v 6, .v 2]))) (.rg [⟨[], .bin .add, [.v 2, .k (.int .i64 1)], 1⟩]))) (.tup [.v 0, .v 1, .v 3])
theorem laws_heldPinSS_b0_sh (Q : QT) (x0 x1 x2 : V) : shL laws_heldPinSS_b0 Q [x0, x1, x2] = (
  P1 (.len) [x0] fun v0 =>
  P1 (.bin .lss) [x2, v0] fun v1 =>
  ifB v1 (
    P1 (.idx [.sl [.sc, .sc]]) [x0, x2] fun v2 =>
    P1 (.call F_heldPinS 0 1) [v2, x1] fun v3 =>
    P1 (.bin .lss) [v3, .int .i64 0] fun v4 =>
    ifB v4 (
      Q .ret [.int .i64 (-1)]) (
      P1 (.bin .add) [x2, .int .i64 1] fun v5 =>
      Q .normal [x0, v3, v5])) (
    Q (.exit 0) [x1])) := by kernel_rfl

def laws_heldPinSS_r1 : L := .seq (.rg []) (.ret [.v 0])
theorem laws_heldPinSS_r1_sh (Q : QT) (x0 : V) : shL laws_heldPinSS_r1 Q [x0] = (
  Q .ret [x0]) := by kernel_rfl

def laws_heldPinSS_L : L := .seq (.rg []) (.seq (.seq (.rg []) (.block 0 (.seq (.tup [.v 0, .v 1, .k (.int .i64 0)]) (.loop (laws_heldPinSS_b0))))) (laws_heldPinSS_r1))
theorem laws_heldPinSS_L_sh (Q : QT) (x0 x1 : V) : shL laws_heldPinSS_L Q [x0, x1] = (
  shL (.loop laws_heldPinSS_b0) (qB 0 (qS (shL laws_heldPinSS_r1 Q) Q)) [x0, x1, .int .i64 0]) := by kernel_rfl
def laws_heldPinSS_S : Sig := ⟨[.val false [.sl [.sl [.sc, .sc]]], .val false [.sc]], [(false, [.sc])], F_heldPinSS⟩
def laws_heldPinSS_hs : List NF := [⟨[(1, .sc false [.sc])], [], [], 64⟩, ⟨[(0, .sc false [.ro [.sl [.sc, .sc]]]), (1, .sc false [.sc]), (5, .sc false [.sc])], [], [], 64⟩, ⟨[(0, .sc false [.ro [.sl [.sc, .sc]]]), (1, .sc false [.sc]), (5, .sc false [.sc])], [], [], 64⟩]

def laws_heldBench_L : L := .seq (.rg []) (.seq (.rg [⟨[], .call F_heldCylinder 0 1, [.v 0, .v 1, .v 2, .v 4], 1⟩]) (.seq (.seq (.rg [⟨[], .bin .lss, [.v 5, .k (.int .i64 0)], 1⟩]) (.ite (.v 6) (.seq (.rg []) (.ret [.k (.int .i64 (-1))])) (.skip))) (.seq (.rg [⟨[], .call F_heldPinSS 0 1, [.v 3, .v 5], 1⟩]) (.seq (.seq (.rg [⟨[], .bin .lss, [.v 7, .k (.int .i64 0)], 1⟩]) (.ite (.v 8) (.seq (.rg []) (.ret [.k (.int .i64 (-1))])) (.skip))) (.seq (.rg []) (.ret [.v 7]))))))
theorem laws_heldBench_L_sh (Q : QT) (x0 x1 x2 x3 x4 : V) : shL laws_heldBench_L Q [x0, x1, x2, x3, x4] = (
  P1 (.call F_heldCylinder 0 1) [x0, x1, x2, x4] fun v0 =>
  P1 (.bin .lss) [v0, .int .i64 0] fun v1 =>
  ifB v1 (
    Q .ret [.int .i64 (-1)]) (
    P1 (.call F_heldPinSS 0 1) [x3, v0] fun v2 =>
    P1 (.bin .lss) [v2, .int .i64 0] fun v3 =>
    ifB v3 (
      Q .ret [.int .i64 (-1)]) (
      Q .ret [v2]))) := by kernel_rfl
def laws_heldBench_S : Sig := ⟨[.val true [.sc, .sc, .sl [.sc, .sc], .sl [.sl [.sc, .sc]]], .val false [.sc]], [(false, [.sc])], F_heldBench⟩
def laws_heldBench_hs : List NF := []

def laws_FnExactNewBench_r0 : L := .seq (.rg []) (.seq (.rg [⟨[], .call F_markBench 2 1, [.v 7, .v 8, .v 9, .v 10, .k (.int .i64 1), .v 9, .v 10], 3⟩]) (.seq (.rg []) (.seq (.rg [⟨[], .call F_heldBench 0 1, [.v 7, .v 8, .v 17, .v 18, .k (.int .i64 1)], 1⟩]) (.seq (.seq (.rg [⟨[], .bin .lss, [.v 19, .k (.int .i64 0)], 1⟩]) (.ite (.v 20) (.seq (.rg []) (.ret [.k (.bool false)])) (.skip))) (.seq (.seq (.rg [⟨[], .bin .neq, [.v 19, .v 16], 1⟩]) (.ite (.v 21) (.seq (.rg []) (.ret [.k (.bool false)])) (.skip))) (.seq (.rg [⟨[], .call F_NewBench 0 5, [.v 0, .v 1], 5⟩]) (.seq (.seq (.rg [⟨[], .call F_eqBench 0 1, [.v 22, .v 23, .v 24, .v 25, .v 2, .v 3, .v 4, .v 5], 1⟩, ⟨[], .un .not, [.v 27], 1⟩, ⟨[(.v 28, false)], .binb .neq, [.v 26, .v 6], 1⟩, ⟨[], .pick, [.v 28, .k (.bool true), .v 29], 1⟩]) (.ite (.v 30) (.seq (.rg []) (.ret [.k (.bool false)])) (.skip))) (.seq (.rg []) (.seq (.rg [⟨[], .call F_heldBench 0 1, [.v 7, .v 8, .v 17, .v 18, .k (.int .i64 1)], 1⟩]) (.seq (.seq (.rg [⟨[], .bin .lss, [.v 31, .k (.int .i64 0)], 1⟩]) (.ite (.v 32) (.seq (.rg []) (.ret [.k (.bool false)])) (.skip))) (.seq (.seq (.rg [⟨[], .bin .neq, [.v 31, .v 16], 1⟩]) (.ite (.v 33) (.seq (.rg []) (.ret [.k (.bool false)])) (.skip))) (.seq (.rg []) (.ret [.k (.bool true)])))))))))))))
theorem laws_FnExactNewBench_r0_sh (Q : QT) (x0 x1 x2 x3 x4 x5 x6 x7 x8 x9 x10 x11 x12 x13 x14 x15 : V) : shL laws_FnExactNewBench_r0 Q [x0, x1, x2, x3, x4, x5, x6, x7, x8, x9, x10, x11, x12, x13, x14, x15] = (
  P3 (.call F_markBench 2 1) [x7, x8, x9, x10, .int .i64 1, x9, x10] fun v0 v1 v2 =>
  P1 (.call F_heldBench 0 1) [x7, x8, v1, v2, .int .i64 1] fun v3 =>
  P1 (.bin .lss) [v3, .int .i64 0] fun v4 =>
  ifB v4 (
    Q .ret [.bool false]) (
    P1 (.bin .neq) [v3, v0] fun v5 =>
    ifB v5 (
      Q .ret [.bool false]) (
      P5 (.call F_NewBench 0 5) [x0, x1] fun v6 v7 v8 v9 v10 =>
      P1 (.call F_eqBench 0 1) [v6, v7, v8, v9, x2, x3, x4, x5] fun v11 =>
      P1 (.un .not) [v11] fun v12 =>
      ifB v12 (
        Q .ret [.bool false]) (
        P1 (.binb .neq) [v10, x6] fun v13 =>
        ifB v13 (
          Q .ret [.bool false]) (
          P1 (.call F_heldBench 0 1) [x7, x8, v1, v2, .int .i64 1] fun v14 =>
          P1 (.bin .lss) [v14, .int .i64 0] fun v15 =>
          ifB v15 (
            Q .ret [.bool false]) (
            P1 (.bin .neq) [v14, v0] fun v16 =>
            ifB v16 (
              Q .ret [.bool false]) (
              Q .ret [.bool true]))))))) := by kernel_rfl

def laws_FnExactNewBench_L : L := .seq (.rg []) (.seq (.rg [⟨[], .call F_NewBench 0 5, [.v 0, .v 1], 5⟩]) (.seq (.rg [⟨[], .call F_NewBench 0 5, [.v 0, .v 1], 5⟩]) (.seq (.seq (.rg [⟨[], .call F_eqBench 0 1, [.v 7, .v 8, .v 9, .v 10, .v 2, .v 3, .v 4, .v 5], 1⟩, ⟨[], .un .not, [.v 12], 1⟩, ⟨[(.v 13, false)], .binb .neq, [.v 11, .v 6], 1⟩, ⟨[], .pick, [.v 13, .k (.bool true), .v 14], 1⟩]) (.ite (.v 15) (.seq (.rg []) (.ret [.k (.bool false)])) (.skip))) (laws_FnExactNewBench_r0))))
theorem laws_FnExactNewBench_L_sh (Q : QT) (x0 x1 : V) : shL laws_FnExactNewBench_L Q [x0, x1] = (
  P5 (.call F_NewBench 0 5) [x0, x1] fun v0 v1 v2 v3 v4 =>
  P5 (.call F_NewBench 0 5) [x0, x1] fun v5 v6 v7 v8 v9 =>
  P1 (.call F_eqBench 0 1) [v5, v6, v7, v8, v0, v1, v2, v3] fun v10 =>
  P1 (.un .not) [v10] fun v11 =>
  ifB v11 (
    Q .ret [.bool false]) (
    P1 (.binb .neq) [v9, v4] fun v12 =>
    ifB v12 (
      Q .ret [.bool false]) (
      shL laws_FnExactNewBench_r0 Q [x0, x1, v0, v1, v2, v3, v4, v5, v6, v7, v8, v9, v10, .bool false, v12, .bool false]))) := by kernel_rfl
def laws_FnExactNewBench_S : Sig := ⟨[.val false [.sc], .val false [.sc]], [(false, [.sc])], F_FnExactNewBench⟩
def laws_FnExactNewBench_hs : List NF := []

def spec_l37Missing_b1 : L := .seq (.seq (.seq (.rg [⟨[], .len, [.v 1], 1⟩, ⟨[], .bin .lss, [.v 5, .v 6], 1⟩]) (.ite (.v 7) (.skip) (.seq (.tup [.v 0, .v 1, .v 2, .v 3, .v 4]) (.exit 2)))) (.seq (.block 3 (.seq (.rg [⟨[(.v 4, false)], .idx [.sc, .sc], [.v 0, .v 3], 2⟩, ⟨[(.v 4, false)], .idx [.sc, .sc], [.v 1, .v 5], 2⟩, ⟨[(.v 4, false)], .eqa false [.i, .i], [.v 8, .v 9, .v 10, .v 11], 1⟩, ⟨[], .pick, [.v 4, .k (.bool true), .v 12], 1⟩]) (.tup [.v 0, .v 1, .v 2, .v 3, .v 13, .v 5]))) (.rg [⟨[], .bin .add, [.v 5, .k (.int .i64 1)], 1⟩]))) (.tup [.v 0, .v 1, .v 2, .v 3, .v 4, .v 6])
theorem spec_l37Missing_b1_sh (Q : QT) (x0 x1 x2 x3 x4 x5 : V) : shL spec_l37Missing_b1 Q [x0, x1, x2, x3, x4, x5] = (
  P1 (.len) [x1] fun v0 =>
  P1 (.bin .lss) [x5, v0] fun v1 =>
  ifB v1 (
    ifB x4 (
      P1 (.bin .add) [x5, .int .i64 1] fun v2 =>
      Q .normal [x0, x1, x2, x3, .bool true, v2]) (
      P2 (.idx [.sc, .sc]) [x0, x3] fun v3 v4 =>
      P2 (.idx [.sc, .sc]) [x1, x5] fun v5 v6 =>
      P1 (.eqa false [.i, .i]) [v3, v4, v5, v6] fun v7 =>
      P1 (.bin .add) [x5, .int .i64 1] fun v8 =>
      Q .normal [x0, x1, x2, x3, v7, v8])) (
    Q (.exit 2) [x0, x1, x2, x3, x4])) := by kernel_rfl

def spec_l37Missing_r2 : L := .seq (.rg [⟨[], .un .not, [.v 4], 1⟩]) (.ite (.v 5) (.seq (.rg [⟨[], .bin .add, [.v 2, .k (.int .i64 1)], 1⟩]) (.tup [.v 0, .v 1, .v 6, .v 3])) (.seq (.skip) (.tup [.v 0, .v 1, .v 2, .v 3])))
theorem spec_l37Missing_r2_sh (Q : QT) (x0 x1 x2 x3 x4 : V) : shL spec_l37Missing_r2 Q [x0, x1, x2, x3, x4] = (
  P1 (.un .not) [x4] fun v0 =>
  ifB v0 (
    P1 (.bin .add) [x2, .int .i64 1] fun v1 =>
    Q .normal [x0, x1, v1, x3]) (
    Q .normal [x0, x1, x2, x3])) := by kernel_rfl

def spec_l37Missing_r3 : L := .tup [.v 0, .v 1, .v 2, .v 3]
theorem spec_l37Missing_r3_sh (Q : QT) (x0 x1 x2 x3 : V) : shL spec_l37Missing_r3 Q [x0, x1, x2, x3] = (
  Q .normal [x0, x1, x2, x3]) := by kernel_rfl

def spec_l37Missing_r4 : L := .rg [⟨[], .bin .add, [.v 3, .k (.int .i64 1)], 1⟩]
theorem spec_l37Missing_r4_sh (Q : QT) (x0 x1 x2 x3 : V) : shL spec_l37Missing_r4 Q [x0, x1, x2, x3] = (
  P1 (.bin .add) [x3, .int .i64 1] fun v0 =>
  Q .normal [x0, x1, x2, x3, v0]) := by kernel_rfl

def spec_l37Missing_r5 : L := .tup [.v 0, .v 1, .v 2, .v 4]
theorem spec_l37Missing_r5_sh (Q : QT) (x0 x1 x2 x3 x4 : V) : shL spec_l37Missing_r5 Q [x0, x1, x2, x3, x4] = (
  Q .normal [x0, x1, x2, x4]) := by kernel_rfl

def spec_l37Missing_b0 : L := .seq (.seq (.seq (.rg [⟨[], .len, [.v 0], 1⟩, ⟨[], .bin .lss, [.v 3, .v 4], 1⟩]) (.ite (.v 5) (.skip) (.seq (.tup [.v 2]) (.exit 0)))) (.seq (.block 1 (.seq (.seq (.rg []) (.seq (.seq (.rg []) (.block 2 (.seq (.tup [.v 0, .v 1, .v 2, .v 3, .k (.bool false), .k (.int .i64 0)]) (.loop (spec_l37Missing_b1))))) (spec_l37Missing_r2))) (spec_l37Missing_r3))) (spec_l37Missing_r4))) (spec_l37Missing_r5)
theorem spec_l37Missing_b0_sh (Q : QT) (x0 x1 x2 x3 : V) : shL spec_l37Missing_b0 Q [x0, x1, x2, x3] = (
  P1 (.len) [x0] fun v0 =>
  P1 (.bin .lss) [x3, v0] fun v1 =>
  ifB v1 (
    shL (.loop spec_l37Missing_b1) (qB 2 (qS (shL spec_l37Missing_r2 (qS (shL spec_l37Missing_r3 (qB 1 (qS (shL spec_l37Missing_r4 (qS (shL spec_l37Missing_r5 Q) Q)) (qS (shL spec_l37Missing_r5 Q) Q)))) (qB 1 (qS (shL spec_l37Missing_r4 (qS (shL spec_l37Missing_r5 Q) Q)) (qS (shL spec_l37Missing_r5 Q) Q))))) (qS (shL spec_l37Missing_r3 (qB 1 (qS (shL spec_l37Missing_r4 (qS (shL spec_l37Missing_r5 Q) Q)) (qS (shL spec_l37Missing_r5 Q) Q)))) (qB 1 (qS (shL spec_l37Missing_r4 (qS (shL spec_l37Missing_r5 Q) Q)) (qS (shL spec_l37Missing_r5 Q) Q)))))) [x0, x1, x2, x3, .bool false, .int .i64 0]) (
    Q (.exit 0) [x2])) := by kernel_rfl

def spec_l37Missing_r6 : L := .seq (.rg []) (.ret [.v 0])
theorem spec_l37Missing_r6_sh (Q : QT) (x0 : V) : shL spec_l37Missing_r6 Q [x0] = (
  Q .ret [x0]) := by kernel_rfl

def spec_l37Missing_L : L := .seq (.rg []) (.seq (.rg []) (.seq (.seq (.rg []) (.block 0 (.seq (.tup [.v 0, .v 1, .k (.int .i64 0), .k (.int .i64 0)]) (.loop (spec_l37Missing_b0))))) (spec_l37Missing_r6)))
theorem spec_l37Missing_L_sh (Q : QT) (x0 x1 : V) : shL spec_l37Missing_L Q [x0, x1] = (
  shL (.loop spec_l37Missing_b0) (qB 0 (qS (shL spec_l37Missing_r6 Q) Q)) [x0, x1, .int .i64 0, .int .i64 0]) := by kernel_rfl
def spec_l37Missing_S : Sig := ⟨[.val false [.sl [.sc, .sc]], .val false [.sl [.sc, .sc]]], [(false, [.sc])], F_l37Missing⟩
def spec_l37Missing_hs : List NF := [⟨[(5, .sc false [.sc])], [], [], 64⟩, ⟨[(0, .sc false [.ro [.sc, .sc]]), (1, .sc false [.ro [.sc, .sc]]), (5, .sc false [.sc]), (6, .sc false [.sc])], [], [], 64⟩, ⟨[(0, .sc false [.ro [.sc, .sc]]), (1, .sc false [.ro [.sc, .sc]]), (5, .sc false [.sc]), (6, .sc false [.sc])], [], [], 64⟩, ⟨[(0, .sc false [.ro [.sc, .sc]]), (1, .sc false [.ro [.sc, .sc]]), (5, .sc false [.sc]), (6, .sc false [.sc]), (7, .sc false [.sc])], [], [], 64⟩, ⟨[(0, .sc false [.ro [.sc, .sc]]), (1, .sc false [.ro [.sc, .sc]]), (5, .sc false [.sc]), (6, .sc false [.sc]), (7, .sc false [.sc]), (8, .sc false [.sc])], [], [], 64⟩, ⟨[(0, .sc false [.ro [.sc, .sc]]), (1, .sc false [.ro [.sc, .sc]]), (5, .sc false [.sc]), (6, .sc false [.sc]), (7, .sc false [.sc]), (8, .sc false [.sc])], [], [], 64⟩, ⟨[(0, .sc false [.ro [.sc, .sc]]), (1, .sc false [.ro [.sc, .sc]]), (5, .sc false [.sc]), (6, .sc false [.sc])], [], [], 64⟩]

def spec_ChangedPins_L : L := .seq (.rg []) (.seq (.seq (.rg [⟨[], .call F_BenchOk 0 1, [.v 0, .v 1, .v 2, .v 3], 1⟩, ⟨[], .un .not, [.v 4], 1⟩]) (.ite (.v 5) (.seq (.rg []) (.ret [.k (.int .i64 (-1))])) (.skip))) (.seq (.seq (.rg [⟨[], .len, [.v 3], 1⟩, ⟨[], .bin .eql, [.v 6, .k (.int .i64 0)], 1⟩]) (.ite (.v 7) (.seq (.rg []) (.ret [.k (.int .i64 0)])) (.skip))) (.seq (.rg [⟨[], .idx [.sl [.sc, .sc]], [.v 3, .k (.int .i64 0)], 1⟩, ⟨[], .call F_l37Missing 0 1, [.v 2, .v 8], 1⟩, ⟨[], .idx [.sl [.sc, .sc]], [.v 3, .k (.int .i64 0)], 1⟩, ⟨[], .call F_l37Missing 0 1, [.v 10, .v 2], 1⟩, ⟨[], .bin .add, [.v 9, .v 11], 1⟩]) (.ret [.v 12]))))
theorem spec_ChangedPins_L_sh (Q : QT) (x0 x1 x2 x3 : V) : shL spec_ChangedPins_L Q [x0, x1, x2, x3] = (
  P1 (.call F_BenchOk 0 1) [x0, x1, x2, x3] fun v0 =>
  P1 (.un .not) [v0] fun v1 =>
  ifB v1 (
    Q .ret [.int .i64 (-1)]) (
    P1 (.len) [x3] fun v2 =>
    P1 (.bin .eql) [v2, .int .i64 0] fun v3 =>
    ifB v3 (
      Q .ret [.int .i64 0]) (
      P1 (.idx [.sl [.sc, .sc]]) [x3, .int .i64 0] fun v4 =>
      P1 (.call F_l37Missing 0 1) [x2, v4] fun v5 =>
      P1 (.idx [.sl [.sc, .sc]]) [x3, .int .i64 0] fun v6 =>
      P1 (.call F_l37Missing 0 1) [v6, x2] fun v7 =>
      P1 (.bin .add) [v5, v7] fun v8 =>
      Q .ret [v8]))) := by kernel_rfl
def spec_ChangedPins_S : Sig := ⟨[.val true [.sc, .sc, .sl [.sc, .sc], .sl [.sl [.sc, .sc]]]], [(false, [.sc])], F_ChangedPins⟩
def spec_ChangedPins_hs : List NF := []

def impl_hasPin_b0 : L := .seq (.seq (.rg [⟨[], .bin .lss, [.v 2, .v 1], 1⟩]) (.seq (.ite (.v 5) (.skip) (.seq (.tup []) (.exit 0))) (.seq (.block 1 (.seq (.seq (.rg [⟨[], .idx [.sc, .sc], [.v 0, .v 2], 2⟩]) (.seq (.rg [⟨[], .eqa false [.i, .i], [.v 6, .v 7, .v 3, .v 4], 1⟩]) (.ite (.v 8) (.seq (.rg []) (.ret [.k (.bool true)])) (.skip)))) (.tup [.v 0, .v 1, .v 2, .v 3, .v 4]))) (.rg [⟨[], .bin .add, [.v 2, .k (.int .i64 1)], 1⟩])))) (.tup [.v 0, .v 1, .v 5, .v 3, .v 4])
theorem impl_hasPin_b0_sh (Q : QT) (x0 x1 x2 x3 x4 : V) : shL impl_hasPin_b0 Q [x0, x1, x2, x3, x4] = (
  P1 (.bin .lss) [x2, x1] fun v0 =>
  ifB v0 (
    P2 (.idx [.sc, .sc]) [x0, x2] fun v1 v2 =>
    P1 (.eqa false [.i, .i]) [v1, v2, x3, x4] fun v3 =>
    ifB v3 (
      Q .ret [.bool true]) (
      P1 (.bin .add) [x2, .int .i64 1] fun v4 =>
      Q .normal [x0, x1, v4, x3, x4])) (
    Q (.exit 0) [])) := by kernel_rfl

def impl_hasPin_r1 : L := .seq (.rg []) (.ret [.k (.bool false)])
theorem impl_hasPin_r1_sh (Q : QT) : shL impl_hasPin_r1 Q [] = (
  Q .ret [.bool false]) := by kernel_rfl

def impl_hasPin_L : L := .seq (.rg []) (.seq (.seq (.rg [⟨[], .len, [.v 0], 1⟩]) (.block 0 (.seq (.tup [.v 0, .v 3, .k (.int .i64 0), .v 1, .v 2]) (.loop (impl_hasPin_b0))))) (impl_hasPin_r1))
theorem impl_hasPin_L_sh (Q : QT) (x0 x1 x2 : V) : shL impl_hasPin_L Q [x0, x1, x2] = (
  P1 (.len) [x0] fun v0 =>
  shL (.loop impl_hasPin_b0) (qB 0 (qS (shL impl_hasPin_r1 Q) Q)) [x0, v0, .int .i64 0, x1, x2]) := by kernel_rfl
def impl_hasPin_S : Sig := ⟨[.val false [.sl [.sc, .sc]], .val true [.sc, .sc]], [(false, [.sc])], F_hasPin⟩
def impl_hasPin_hs : List NF := [⟨[], [], [], 64⟩, ⟨[(3, .ptr 64 0), (7, .sc false [.ro [.sc, .sc]]), (8, .sc false [.sc]), (9, .sc false [.sc])], [], [(64, [.sc, .sc])], 65⟩, ⟨[(3, .ptr 64 0), (7, .sc false [.ro [.sc, .sc]]), (8, .sc false [.sc]), (9, .sc false [.sc])], [], [(64, [.sc, .sc])], 65⟩]

def impl_ChangedPins_b0 : L := .seq (.seq (.rg [⟨[], .bin .lss, [.v 3, .v 2], 1⟩]) (.seq (.ite (.v 8) (.skip) (.seq (.tup [.v 0, .v 4, .v 5, .v 6, .v 7]) (.exit 0))) (.seq (.block 1 (.seq (.seq (.rg [⟨[], .idx [.sc, .sc], [.v 1, .v 3], 2⟩]) (.seq (.rg [⟨[], .idx [.sl [.sc, .sc]], [.v 7, .k (.int .i64 0)], 1⟩, ⟨[], .call F_hasPin 0 1, [.v 11, .v 9, .v 10], 1⟩, ⟨[], .un .not, [.v 12], 1⟩]) (.ite (.v 13) (.seq (.rg [⟨[], .bin .add, [.v 0, .k (.int .i64 1)], 1⟩]) (.tup [.v 14, .v 1, .v 2, .v 3, .v 4, .v 5, .v 6, .v 7])) (.seq (.skip) (.tup [.v 0, .v 1, .v 2, .v 3, .v 4, .v 5, .v 6, .v 7]))))) (.tup [.v 0, .v 1, .v 2, .v 3, .v 4, .v 5, .v 6, .v 7]))) (.rg [⟨[], .bin .add, [.v 3, .k (.int .i64 1)], 1⟩])))) (.tup [.v 0, .v 1, .v 2, .v 8, .v 4, .v 5, .v 6, .v 7])
theorem impl_ChangedPins_b0_sh (Q : QT) (x0 x1 x2 x3 x4 x5 x6 x7 : V) : shL impl_ChangedPins_b0 Q [x0, x1, x2, x3, x4, x5, x6, x7] = (
  P1 (.bin .lss) [x3, x2] fun v0 =>
  ifB v0 (
    P2 (.idx [.sc, .sc]) [x1, x3] fun v1 v2 =>
    P1 (.idx [.sl [.sc, .sc]]) [x7, .int .i64 0] fun v3 =>
    P1 (.call F_hasPin 0 1) [v3, v1, v2] fun v4 =>
    P1 (.un .not) [v4] fun v5 =>
    ifB v5 (
      P1 (.bin .add) [x0, .int .i64 1] fun v6 =>
      P1 (.bin .add) [x3, .int .i64 1] fun v7 =>
      Q .normal [v6, x1, x2, v7, x4, x5, x6, x7]) (
      P1 (.bin .add) [x3, .int .i64 1] fun v8 =>
      Q .normal [x0, x1, x2, v8, x4, x5, x6, x7])) (
    Q (.exit 0) [x0, x4, x5, x6, x7])) := by kernel_rfl

def impl_ChangedPins_b2 : L := .seq (.seq (.rg [⟨[], .bin .lss, [.v 3, .v 2], 1⟩]) (.seq (.ite (.v 8) (.skip) (.seq (.tup [.v 0]) (.exit 2))) (.seq (.block 3 (.seq (.seq (.rg [⟨[], .idx [.sc, .sc], [.v 1, .v 3], 2⟩]) (.seq (.rg [⟨[], .call F_hasPin 0 1, [.v 6, .v 9, .v 10], 1⟩, ⟨[], .un .not, [.v 11], 1⟩]) (.ite (.v 12) (.seq (.rg [⟨[], .bin .add, [.v 0, .k (.int .i64 1)], 1⟩]) (.tup [.v 13, .v 1, .v 2, .v 3, .v 4, .v 5, .v 6, .v 7])) (.seq (.skip) (.tup [.v 0, .v 1, .v 2, .v 3, .v 4, .v 5, .v 6, .v 7]))))) (.tup [.v 0, .v 1, .v 2, .v 3, .v 4, .v 5, .v 6, .v 7]))) (.rg [⟨[], .bin .add, [.v 3, .k (.int .i64 1)], 1⟩])))) (.tup [.v 0, .v 1, .v 2, .v 8, .v 4, .v 5, .v 6, .v 7])
theorem impl_ChangedPins_b2_sh (Q : QT) (x0 x1 x2 x3 x4 x5 x6 x7 : V) : shL impl_ChangedPins_b2 Q [x0, x1, x2, x3, x4, x5, x6, x7] = (
  P1 (.bin .lss) [x3, x2] fun v0 =>
  ifB v0 (
    P2 (.idx [.sc, .sc]) [x1, x3] fun v1 v2 =>
    P1 (.call F_hasPin 0 1) [x6, v1, v2] fun v3 =>
    P1 (.un .not) [v3] fun v4 =>
    ifB v4 (
      P1 (.bin .add) [x0, .int .i64 1] fun v5 =>
      P1 (.bin .add) [x3, .int .i64 1] fun v6 =>
      Q .normal [v5, x1, x2, v6, x4, x5, x6, x7]) (
      P1 (.bin .add) [x3, .int .i64 1] fun v7 =>
      Q .normal [x0, x1, x2, v7, x4, x5, x6, x7])) (
    Q (.exit 2) [x0])) := by kernel_rfl

def impl_ChangedPins_r3 : L := .seq (.rg []) (.ret [.v 0])
theorem impl_ChangedPins_r3_sh (Q : QT) (x0 : V) : shL impl_ChangedPins_r3 Q [x0] = (
  Q .ret [x0]) := by kernel_rfl

def impl_ChangedPins_r1 : L := .seq (.seq (.rg [⟨[], .idx [.sl [.sc, .sc]], [.v 4, .k (.int .i64 0)], 1⟩, ⟨[], .len, [.v 5], 1⟩]) (.block 2 (.seq (.tup [.v 0, .v 5, .v 6, .k (.int .i64 0), .v 1, .v 2, .v 3, .v 4]) (.loop (impl_ChangedPins_b2))))) (impl_ChangedPins_r3)
theorem impl_ChangedPins_r1_sh (Q : QT) (x0 x1 x2 x3 x4 : V) : shL impl_ChangedPins_r1 Q [x0, x1, x2, x3, x4] = (
  P1 (.idx [.sl [.sc, .sc]]) [x4, .int .i64 0] fun v0 =>
  P1 (.len) [v0] fun v1 =>
  shL (.loop impl_ChangedPins_b2) (qB 2 (qS (shL impl_ChangedPins_r3 Q) Q)) [x0, v0, v1, .int .i64 0, x1, x2, x3, x4]) := by kernel_rfl

def impl_ChangedPins_L : L := .seq (.rg []) (.seq (.seq (.rg [⟨[], .call F_BenchOk 0 1, [.v 0, .v 1, .v 2, .v 3], 1⟩, ⟨[], .un .not, [.v 4], 1⟩]) (.ite (.v 5) (.seq (.rg []) (.ret [.k (.int .i64 (-1))])) (.skip))) (.seq (.seq (.rg [⟨[], .len, [.v 3], 1⟩, ⟨[], .bin .eql, [.v 6, .k (.int .i64 0)], 1⟩]) (.ite (.v 7) (.seq (.rg []) (.ret [.k (.int .i64 0)])) (.skip))) (.seq (.rg []) (.seq (.seq (.rg [⟨[], .len, [.v 2], 1⟩]) (.block 0 (.seq (.tup [.k (.int .i64 0), .v 2, .v 8, .k (.int .i64 0), .v 0, .v 1, .v 2, .v 3]) (.loop (impl_ChangedPins_b0))))) (impl_ChangedPins_r1)))))
theorem impl_ChangedPins_L_sh (Q : QT) (x0 x1 x2 x3 : V) : shL impl_ChangedPins_L Q [x0, x1, x2, x3] = (
  P1 (.call F_BenchOk 0 1) [x0, x1, x2, x3] fun v0 =>
  P1 (.un .not) [v0] fun v1 =>
  ifB v1 (
    Q .ret [.int .i64 (-1)]) (
    P1 (.len) [x3] fun v2 =>
    P1 (.bin .eql) [v2, .int .i64 0] fun v3 =>
    ifB v3 (
      Q .ret [.int .i64 0]) (
      P1 (.len) [x2] fun v4 =>
      shL (.loop impl_ChangedPins_b0) (qB 0 (qS (shL impl_ChangedPins_r1 Q) Q)) [.int .i64 0, x2, v4, .int .i64 0, x0, x1, x2, x3]))) := by kernel_rfl
def impl_ChangedPins_S : Sig := ⟨[.val true [.sc, .sc, .sl [.sc, .sc], .sl [.sl [.sc, .sc]]]], [(false, [.sc])], F_ChangedPins⟩
def impl_ChangedPins_hs : List NF := [⟨[(1, .ptr 64 0), (3, .sc false [.sc])], [], [(64, [.sc, .sc, .ro [.sc, .sc], .ro [.sl [.sc, .sc]]])], 65⟩, ⟨[(1, .ptr 64 0), (3, .sc false [.sc]), (17, .sc false [.ro [.sc, .sc]]), (18, .sc false [.sc]), (19, .sc false [.sc])], [], [(64, [.sc, .sc, .ro [.sc, .sc], .ro [.sl [.sc, .sc]]])], 65⟩, ⟨[(1, .ptr 64 0), (3, .sc false [.sc]), (17, .sc false [.ro [.sc, .sc]]), (18, .sc false [.sc]), (19, .sc false [.sc])], [], [(64, [.sc, .sc, .ro [.sc, .sc], .ro [.sl [.sc, .sc]]])], 65⟩, ⟨[(1, .ptr 64 0), (3, .sc false [.sc]), (17, .sc false [.ro [.sc, .sc]]), (18, .sc false [.sc]), (19, .sc false [.sc])], [], [(64, [.sc, .sc, .ro [.sc, .sc], .ro [.sl [.sc, .sc]]])], 65⟩, ⟨[(3, .sc false [.sc])], [], [], 64⟩, ⟨[(1, .ptr 64 0), (3, .sc false [.sc]), (36, .sc false [.ro [.sc, .sc]]), (37, .sc false [.sc]), (38, .sc false [.sc])], [], [(64, [.sc, .sc, .ro [.sc, .sc], .ro [.sl [.sc, .sc]]])], 65⟩, ⟨[(1, .ptr 64 0), (3, .sc false [.sc]), (36, .sc false [.ro [.sc, .sc]]), (37, .sc false [.sc]), (38, .sc false [.sc])], [], [(64, [.sc, .sc, .ro [.sc, .sc], .ro [.sl [.sc, .sc]]])], 65⟩, ⟨[(1, .ptr 64 0), (3, .sc false [.sc]), (36, .sc false [.ro [.sc, .sc]]), (37, .sc false [.sc]), (38, .sc false [.sc])], [], [(64, [.sc, .sc, .ro [.sc, .sc], .ro [.sl [.sc, .sc]]])], 65⟩]

def laws_FnExactChangedPins_L : L := .seq (.rg []) (.seq (.rg []) (.seq (.rg [⟨[], .call F_szBench 0 1, [.v 0, .v 1, .v 2, .v 3, .k (.int .i64 1048576)], 1⟩]) (.seq (.seq (.rg [⟨[], .bin .lss, [.v 4, .k (.int .i64 0)], 1⟩]) (.ite (.v 5) (.seq (.rg []) (.ret [.k (.bool true)])) (.skip))) (.seq (.rg [⟨[], .call F_toBench 0 4, [.v 0, .v 1, .v 2, .v 3], 4⟩, ⟨[], .call F_ChangedPins 0 1, [.v 6, .v 7, .v 8, .v 9], 1⟩]) (.seq (.rg [⟨[], .call F_toBench 0 4, [.v 0, .v 1, .v 2, .v 3], 4⟩]) (.seq (.rg [⟨[], .call F_ChangedPins 0 1, [.v 11, .v 12, .v 13, .v 14], 1⟩]) (.seq (.seq (.rg [⟨[], .bin .neq, [.v 15, .v 10], 1⟩]) (.ite (.v 16) (.seq (.rg []) (.ret [.k (.bool false)])) (.skip))) (.seq (.seq (.rg [⟨[], .call F_toBench 0 4, [.v 0, .v 1, .v 2, .v 3], 4⟩, ⟨[], .call F_eqBench 0 1, [.v 11, .v 12, .v 13, .v 14, .v 17, .v 18, .v 19, .v 20], 1⟩, ⟨[], .un .not, [.v 21], 1⟩]) (.ite (.v 22) (.seq (.rg []) (.ret [.k (.bool false)])) (.skip))) (.seq (.rg []) (.ret [.k (.bool true)]))))))))))
theorem laws_FnExactChangedPins_L_sh (Q : QT) (x0 x1 x2 x3 : V) : shL laws_FnExactChangedPins_L Q [x0, x1, x2, x3] = (
  P1 (.call F_szBench 0 1) [x0, x1, x2, x3, .int .i64 1048576] fun v0 =>
  P1 (.bin .lss) [v0, .int .i64 0] fun v1 =>
  ifB v1 (
    Q .ret [.bool true]) (
    P4 (.call F_toBench 0 4) [x0, x1, x2, x3] fun v2 v3 v4 v5 =>
    P1 (.call F_ChangedPins 0 1) [v2, v3, v4, v5] fun v6 =>
    P4 (.call F_toBench 0 4) [x0, x1, x2, x3] fun v7 v8 v9 v10 =>
    P1 (.call F_ChangedPins 0 1) [v7, v8, v9, v10] fun v11 =>
    P1 (.bin .neq) [v11, v6] fun v12 =>
    ifB v12 (
      Q .ret [.bool false]) (
      P4 (.call F_toBench 0 4) [x0, x1, x2, x3] fun v13 v14 v15 v16 =>
      P1 (.call F_eqBench 0 1) [v7, v8, v9, v10, v13, v14, v15, v16] fun v17 =>
      P1 (.un .not) [v17] fun v18 =>
      ifB v18 (
        Q .ret [.bool false]) (
        Q .ret [.bool true])))) := by kernel_rfl
def laws_FnExactChangedPins_S : Sig := ⟨[.val true [.sc, .sc, .sl [.sc, .sc], .sl [.sl [.sc, .sc]]]], [(false, [.sc])], F_FnExactChangedPins⟩
def laws_FnExactChangedPins_hs : List NF := []

def spec_l06Copy_L : L := .seq (.rg []) (.seq (.rg [⟨[], .lst [.sc, .sc] true 0, [], 1⟩, ⟨[], .app [.sc, .sc] 16, [.v 3, .v 2], 1⟩]) (.ret [.v 0, .v 1, .v 4]))
theorem spec_l06Copy_L_sh (Q : QT) (x0 x1 x2 : V) : shL spec_l06Copy_L Q [x0, x1, x2] = (
  P1 (.lst [.sc, .sc] true 0) [] fun v0 =>
  P1 (.app [.sc, .sc] 16) [v0, x2] fun v1 =>
  Q .ret [x0, x1, v1]) := by kernel_rfl
def spec_l06Copy_S : Sig := ⟨[.val true [.sc, .sc, .sl [.sc, .sc]]], [(true, [.sc, .sc, .sl [.sc, .sc]])], F_l06Copy⟩
def spec_l06Copy_hs : List NF := []

def spec_l37Copy_b0 : L := .seq (.seq (.seq (.rg [⟨[], .len, [.v 6], 1⟩, ⟨[], .bin .lss, [.v 0, .v 11], 1⟩]) (.ite (.v 12) (.skip) (.seq (.tup [.v 1, .v 2, .v 7, .v 8, .v 9, .v 10]) (.exit 0)))) (.seq (.block 1 (.seq (.rg [⟨[], .lst [.sc, .sc] true 0, [], 1⟩, ⟨[], .idx [.sl [.sc, .sc]], [.v 6, .v 0], 1⟩, ⟨[], .app [.sc, .sc] 16, [.v 13, .v 14], 1⟩, ⟨[], .lst [.sl [.sc, .sc]] false 1, [.v 15], 1⟩, ⟨[], .app [.sl [.sc, .sc]] 24, [.v 2, .v 16], 1⟩]) (.tup [.v 0, .v 1, .v 17, .v 3, .v 4, .v 5, .v 6, .v 7, .v 8, .v 9, .v 10]))) (.rg [⟨[], .bin .add, [.v 0, .k (.int .i64 1)], 1⟩]))) (.tup [.v 11, .v 1, .v 2, .v 3, .v 4, .v 5, .v 6, .v 7, .v 8, .v 9, .v 10])
theorem spec_l37Copy_b0_sh (Q : QT) (x0 x1 x2 x3 x4 x5 x6 x7 x8 x9 x10 : V) : shL spec_l37Copy_b0 Q [x0, x1, x2, x3, x4, x5, x6, x7, x8, x9, x10] = (
  P1 (.len) [x6] fun v0 =>
  P1 (.bin .lss) [x0, v0] fun v1 =>
  ifB v1 (
    P1 (.lst [.sc, .sc] true 0) [] fun v2 =>
    P1 (.idx [.sl [.sc, .sc]]) [x6, x0] fun v3 =>
    P1 (.app [.sc, .sc] 16) [v2, v3] fun v4 =>
    P1 (.lst [.sl [.sc, .sc]] false 1) [v4] fun v5 =>
    P1 (.app [.sl [.sc, .sc]] 24) [x2, v5] fun v6 =>
    P1 (.bin .add) [x0, .int .i64 1] fun v7 =>
    Q .normal [v7, x1, v6, x3, x4, x5, x6, x7, x8, x9, x10]) (
    Q (.exit 0) [x1, x2, x7, x8, x9, x10])) := by kernel_rfl

def spec_l37Copy_r1 : L := .seq (.rg []) (.ret [.v 4, .v 5, .v 0, .v 1])
theorem spec_l37Copy_r1_sh (Q : QT) (x0 x1 x2 x3 x4 x5 : V) : shL spec_l37Copy_r1 Q [x0, x1, x2, x3, x4, x5] = (
  Q .ret [x4, x5, x0, x1]) := by kernel_rfl

def spec_l37Copy_L : L := .seq (.rg []) (.seq (.rg [⟨[], .call F_l06Copy 0 3, [.v 0, .v 1, .v 2], 3⟩]) (.seq (.seq (.rg []) (.block 0 (.seq (.tup [.k (.int .i64 0), .v 6, .k (.list [.sl [.sc, .sc]] []), .v 0, .v 1, .v 2, .v 3, .k (.int .i64 0), .k (.int .i64 0), .v 4, .v 5]) (.loop (spec_l37Copy_b0))))) (spec_l37Copy_r1)))
theorem spec_l37Copy_L_sh (Q : QT) (x0 x1 x2 x3 : V) : shL spec_l37Copy_L Q [x0, x1, x2, x3] = (
  P3 (.call F_l06Copy 0 3) [x0, x1, x2] fun v0 v1 v2 =>
  shL (.loop spec_l37Copy_b0) (qB 0 (qS (shL spec_l37Copy_r1 Q) Q)) [.int .i64 0, v2, .list [.sl [.sc, .sc]] [], x0, x1, x2, x3, .int .i64 0, .int .i64 0, v0, v1]) := by kernel_rfl
def spec_l37Copy_S : Sig := ⟨[.val true [.sc, .sc, .sl [.sc, .sc], .sl [.sl [.sc, .sc]]]], [(true, [.sc, .sc, .sl [.sc, .sc], .sl [.sl [.sc, .sc]]])], F_l37Copy⟩
def spec_l37Copy_hs : List NF := [⟨[(2, .ptr 64 0), (3, .ptr 65 0)], [(66, true, []), (67, true, [.sl [.sc, .sc]])], [(64, [.sc, .sc, .nil, .nil]), (65, [.sc, .sc, .own 66, .own 67])], 68⟩, ⟨[(1, .ptr 64 0), (2, .ptr 65 0), (3, .ptr 66 0), (4, .sc false [.sc])], [(67, true, []), (68, true, [.sl [.sc, .sc]])], [(64, [.sc, .sc, .ro [.sc, .sc], .ro [.sl [.sc, .sc]]]), (65, [.sc, .sc, .nil, .nil]), (66, [.sc, .sc, .own 67, .own 68])], 69⟩, ⟨[(1, .ptr 64 0), (2, .ptr 65 0), (3, .ptr 66 0), (4, .sc false [.sc])], [(67, true, []), (68, true, [.sl [.sc, .sc]])], [(64, [.sc, .sc, .ro [.sc, .sc], .ro [.sl [.sc, .sc]]]), (65, [.sc, .sc, .nil, .nil]), (66, [.sc, .sc, .own 67, .own 68])], 69⟩]

def impl_copyPins_L : L := .seq (.rg []) (.seq (.rg [⟨[], .lst [.sc, .sc] true 0, [], 1⟩, ⟨[], .app [.sc, .sc] 16, [.v 1, .v 0], 1⟩]) (.ret [.v 2]))
theorem impl_copyPins_L_sh (Q : QT) (x0 : V) : shL impl_copyPins_L Q [x0] = (
  P1 (.lst [.sc, .sc] true 0) [] fun v0 =>
  P1 (.app [.sc, .sc] 16) [v0, x0] fun v1 =>
  Q .ret [v1]) := by kernel_rfl
def impl_copyPins_S : Sig := ⟨[.val false [.sl [.sc, .sc]]], [(false, [.sl [.sc, .sc]])], F_copyPins⟩
def impl_copyPins_hs : List NF := []

def impl_copyCylinder_L : L := .seq (.rg []) (.seq (.rg [⟨[], .call F_copyPins 0 1, [.v 2], 1⟩]) (.seq (.rg []) (.ret [.v 0, .v 1, .v 3])))
theorem impl_copyCylinder_L_sh (Q : QT) (x0 x1 x2 : V) : shL impl_copyCylinder_L Q [x0, x1, x2] = (
  P1 (.call F_copyPins 0 1) [x2] fun v0 =>
  Q .ret [x0, x1, v0]) := by kernel_rfl
def impl_copyCylinder_S : Sig := ⟨[.val true [.sc, .sc, .sl [.sc, .sc]]], [(true, [.sc, .sc, .sl [.sc, .sc]])], F_copyCylinder⟩
def impl_copyCylinder_hs : List NF := []

def impl_copyBench_b0 : L := .seq (.seq (.rg [⟨[], .bin .lss, [.v 2, .v 1], 1⟩]) (.seq (.ite (.v 9) (.skip) (.seq (.tup [.v 3, .v 4, .v 5, .v 6, .v 7, .v 8]) (.exit 0))) (.seq (.block 1 (.seq (.seq (.rg [⟨[], .idx [.sl [.sc, .sc]], [.v 0, .v 2], 1⟩]) (.rg [⟨[], .call F_copyPins 0 1, [.v 10], 1⟩, ⟨[], .lst [.sl [.sc, .sc]] false 1, [.v 11], 1⟩, ⟨[], .app [.sl [.sc, .sc]] 24, [.v 4, .v 12], 1⟩])) (.tup [.v 0, .v 1, .v 2, .v 3, .v 13, .v 5, .v 6, .v 7, .v 8]))) (.rg [⟨[], .bin .add, [.v 2, .k (.int .i64 1)], 1⟩])))) (.tup [.v 0, .v 1, .v 9, .v 3, .v 4, .v 5, .v 6, .v 7, .v 8])
theorem impl_copyBench_b0_sh (Q : QT) (x0 x1 x2 x3 x4 x5 x6 x7 x8 : V) : shL impl_copyBench_b0 Q [x0, x1, x2, x3, x4, x5, x6, x7, x8] = (
  P1 (.bin .lss) [x2, x1] fun v0 =>
  ifB v0 (
    P1 (.idx [.sl [.sc, .sc]]) [x0, x2] fun v1 =>
    P1 (.call F_copyPins 0 1) [v1] fun v2 =>
    P1 (.lst [.sl [.sc, .sc]] false 1) [v2] fun v3 =>
    P1 (.app [.sl [.sc, .sc]] 24) [x4, v3] fun v4 =>
    P1 (.bin .add) [x2, .int .i64 1] fun v5 =>
    Q .normal [x0, x1, v5, x3, v4, x5, x6, x7, x8]) (
    Q (.exit 0) [x3, x4, x5, x6, x7, x8])) := by kernel_rfl

def impl_copyBench_r1 : L := .seq (.rg []) (.ret [.v 4, .v 5, .v 0, .v 1])
theorem impl_copyBench_r1_sh (Q : QT) (x0 x1 x2 x3 x4 x5 : V) : shL impl_copyBench_r1 Q [x0, x1, x2, x3, x4, x5] = (
  Q .ret [x4, x5, x0, x1]) := by kernel_rfl

def impl_copyBench_L : L := .seq (.rg []) (.seq (.rg [⟨[], .call F_copyCylinder 0 3, [.v 0, .v 1, .v 2], 3⟩]) (.seq (.seq (.rg [⟨[], .len, [.v 3], 1⟩]) (.block 0 (.seq (.tup [.v 3, .v 7, .k (.int .i64 0), .v 6, .k (.list [.sl [.sc, .sc]] []), .k (.int .i64 0), .k (.int .i64 0), .v 4, .v 5]) (.loop (impl_copyBench_b0))))) (impl_copyBench_r1)))
theorem impl_copyBench_L_sh (Q : QT) (x0 x1 x2 x3 : V) : shL impl_copyBench_L Q [x0, x1, x2, x3] = (
  P3 (.call F_copyCylinder 0 3) [x0, x1, x2] fun v0 v1 v2 =>
  P1 (.len) [x3] fun v3 =>
  shL (.loop impl_copyBench_b0) (qB 0 (qS (shL impl_copyBench_r1 Q) Q)) [x3, v3, .int .i64 0, v2, .list [.sl [.sc, .sc]] [], .int .i64 0, .int .i64 0, v0, v1]) := by kernel_rfl
def impl_copyBench_S : Sig := ⟨[.val true [.sc, .sc, .sl [.sc, .sc], .sl [.sl [.sc, .sc]]]], [(true, [.sc, .sc, .sl [.sc, .sc], .sl [.sl [.sc, .sc]]])], F_copyBench⟩
def impl_copyBench_hs : List NF := [⟨[(2, .ptr 64 0), (3, .ptr 65 0)], [(66, true, []), (67, true, [.sl [.sc, .sc]])], [(64, [.sc, .sc, .nil, .nil]), (65, [.sc, .sc, .own 66, .own 67])], 68⟩, ⟨[(2, .ptr 64 0), (3, .ptr 65 0), (11, .sc false [.ro [.sl [.sc, .sc]]]), (12, .sc false [.sc]), (13, .sc false [.sc])], [(66, true, []), (67, true, [.sl [.sc, .sc]])], [(64, [.sc, .sc, .nil, .nil]), (65, [.sc, .sc, .own 66, .own 67])], 68⟩, ⟨[(2, .ptr 64 0), (3, .ptr 65 0), (11, .sc false [.ro [.sl [.sc, .sc]]]), (12, .sc false [.sc]), (13, .sc false [.sc])], [(66, true, []), (67, true, [.sl [.sc, .sc]])], [(64, [.sc, .sc, .nil, .nil]), (65, [.sc, .sc, .own 66, .own 67])], 68⟩]

def laws_szIntS_L : L := .seq (.rg []) (.seq (.rg [⟨[], .len, [.v 0], 1⟩, ⟨[], .bin .sub, [.v 1, .v 2], 1⟩]) (.seq (.seq (.rg [⟨[], .bin .lss, [.v 3, .k (.int .i64 0)], 1⟩]) (.ite (.v 4) (.seq (.rg []) (.ret [.k (.int .i64 (-1))])) (.skip))) (.seq (.rg []) (.ret [.v 3]))))
theorem laws_szIntS_L_sh (Q : QT) (x0 x1 : V) : shL laws_szIntS_L Q [x0, x1] = (
  P1 (.len) [x0] fun v0 =>
  P1 (.bin .sub) [x1, v0] fun v1 =>
  P1 (.bin .lss) [v1, .int .i64 0] fun v2 =>
  ifB v2 (
    Q .ret [.int .i64 (-1)]) (
    Q .ret [v1])) := by kernel_rfl
def laws_szIntS_S : Sig := ⟨[.val false [.sl [.sc]], .val false [.sc]], [(false, [.sc])], F_szIntS⟩
def laws_szIntS_hs : List NF := []

def laws_szWorkshop_L : L := .seq (.rg []) (.seq (.rg [⟨[], .call F_szBench 0 1, [.v 0, .v 1, .v 2, .v 3, .v 10], 1⟩]) (.seq (.seq (.rg [⟨[], .bin .lss, [.v 11, .k (.int .i64 0)], 1⟩]) (.ite (.v 12) (.seq (.rg []) (.ret [.k (.int .i64 (-1))])) (.skip))) (.seq (.rg [⟨[], .call F_szIntS 0 1, [.v 4, .v 11], 1⟩]) (.seq (.seq (.rg [⟨[], .bin .lss, [.v 13, .k (.int .i64 0)], 1⟩]) (.ite (.v 14) (.seq (.rg []) (.ret [.k (.int .i64 (-1))])) (.skip))) (.seq (.rg []) (.ret [.v 13]))))))
theorem laws_szWorkshop_L_sh (Q : QT) (x0 x1 x2 x3 x4 x5 x6 x7 x8 x9 x10 : V) : shL laws_szWorkshop_L Q [x0, x1, x2, x3, x4, x5, x6, x7, x8, x9, x10] = (
  P1 (.call F_szBench 0 1) [x0, x1, x2, x3, x10] fun v0 =>
  P1 (.bin .lss) [v0, .int .i64 0] fun v1 =>
  ifB v1 (
    Q .ret [.int .i64 (-1)]) (
    P1 (.call F_szIntS 0 1) [x4, v0] fun v2 =>
    P1 (.bin .lss) [v2, .int .i64 0] fun v3 =>
    ifB v3 (
      Q .ret [.int .i64 (-1)]) (
      Q .ret [v2]))) := by kernel_rfl
def laws_szWorkshop_S : Sig := ⟨[.val true [.sc, .sc, .sl [.sc, .sc], .sl [.sl [.sc, .sc]], .sl [.sc], .sc, .sc, .sc, .sc, .sc], .val false [.sc]], [(false, [.sc])], F_szWorkshop⟩
def laws_szWorkshop_hs : List NF := []

def laws_toSpring_L : L := .seq (.rg []) (.seq (.rg []) (.seq (.rg []) (.seq (.rg []) (.seq (.rg []) (.seq (.rg []) (.ret [.v 0, .v 1, .v 2]))))))
theorem laws_toSpring_L_sh (Q : QT) (x0 x1 x2 : V) : shL laws_toSpring_L Q [x0, x1, x2] = (
  Q .ret [x0, x1, x2]) := by kernel_rfl
def laws_toSpring_S : Sig := ⟨[.val true [.sc, .sc, .sc]], [(true, [.sc, .sc, .sc])], F_toSpring⟩
def laws_toSpring_hs : List NF := []

def laws_toWorkshop_L : L := .seq (.rg []) (.seq (.rg []) (.seq (.rg [⟨[], .call F_toBench 0 4, [.v 0, .v 1, .v 2, .v 3], 4⟩]) (.seq (.rg [⟨[], .call F_toIntS 0 1, [.v 4], 1⟩]) (.seq (.rg [⟨[], .call F_toSpring 0 3, [.v 5, .v 6, .v 7], 3⟩]) (.seq (.rg []) (.seq (.rg []) (.seq (.rg []) (.ret [.v 10, .v 11, .v 12, .v 13, .v 14, .v 15, .v 16, .v 17, .v 8, .v 9]))))))))
theorem laws_toWorkshop_L_sh (Q : QT) (x0 x1 x2 x3 x4 x5 x6 x7 x8 x9 : V) : shL laws_toWorkshop_L Q [x0, x1, x2, x3, x4, x5, x6, x7, x8, x9] = (
  P4 (.call F_toBench 0 4) [x0, x1, x2, x3] fun v0 v1 v2 v3 =>
  P1 (.call F_toIntS 0 1) [x4] fun v4 =>
  P3 (.call F_toSpring 0 3) [x5, x6, x7] fun v5 v6 v7 =>
  Q .ret [v0, v1, v2, v3, v4, v5, v6, v7, x8, x9]) := by kernel_rfl
def laws_toWorkshop_S : Sig := ⟨[.val true [.sc, .sc, .sl [.sc, .sc], .sl [.sl [.sc, .sc]], .sl [.sc], .sc, .sc, .sc, .sc, .sc]], [(true, [.sc, .sc, .sl [.sc, .sc], .sl [.sl [.sc, .sc]], .sl [.sc], .sc, .sc, .sc, .sc, .sc])], F_toWorkshop⟩
def laws_toWorkshop_hs : List NF := []

def spec_CombOk_b0 : L := .seq (.seq (.seq (.rg [⟨[], .len, [.v 0], 1⟩, ⟨[], .bin .lss, [.v 1, .v 2], 1⟩]) (.ite (.v 3) (.skip) (.seq (.tup [.v 0]) (.exit 0)))) (.seq (.block 1 (.seq (.seq (.rg [⟨[], .idx [.sc], [.v 0, .v 1], 1⟩, ⟨[], .call F_l01In 0 1, [.v 4, .k (.int .i64 0), .k (.int .i64 60)], 1⟩, ⟨[], .un .not, [.v 5], 1⟩, ⟨[(.v 6, false)], .bin .gtr, [.v 1, .k (.int .i64 0)], 1⟩, ⟨[(.v 6, false), (.v 7, true)], .idx [.sc], [.v 0, .v 1], 1⟩, ⟨[(.v 6, false), (.v 7, true)], .bin .sub, [.v 1, .k (.int .i64 1)], 1⟩, ⟨[(.v 6, false), (.v 7, true)], .idx [.sc], [.v 0, .v 9], 1⟩, ⟨[(.v 6, false), (.v 7, true)], .bin .lss, [.v 8, .v 10], 1⟩, ⟨[(.v 6, false)], .pick, [.v 7, .v 11, .k (.bool false)], 1⟩, ⟨[], .pick, [.v 6, .k (.bool true), .v 12], 1⟩]) (.ite (.v 13) (.seq (.rg []) (.ret [.k (.bool false)])) (.skip))) (.tup [.v 0, .v 1]))) (.rg [⟨[], .bin .add, [.v 1, .k (.int .i64 1)], 1⟩]))) (.tup [.v 0, .v 2])
theorem spec_CombOk_b0_sh (Q : QT) (x0 x1 : V) : shL spec_CombOk_b0 Q [x0, x1] = (
  P1 (.len) [x0] fun v0 =>
  P1 (.bin .lss) [x1, v0] fun v1 =>
  ifB v1 (
    P1 (.idx [.sc]) [x0, x1] fun v2 =>
    P1 (.call F_l01In 0 1) [v2, .int .i64 0, .int .i64 60] fun v3 =>
    P1 (.un .not) [v3] fun v4 =>
    ifB v4 (
      Q .ret [.bool false]) (
      P1 (.bin .gtr) [x1, .int .i64 0] fun v5 =>
      ifB v5 (
        P1 (.idx [.sc]) [x0, x1] fun v6 =>
        P1 (.bin .sub) [x1, .int .i64 1] fun v7 =>
        P1 (.idx [.sc]) [x0, v7] fun v8 =>
        P1 (.bin .lss) [v6, v8] fun v9 =>
        ifB v9 (
          Q .ret [.bool false]) (
          P1 (.bin .add) [x1, .int .i64 1] fun v10 =>
          Q .normal [x0, v10])) (
        P1 (.bin .add) [x1, .int .i64 1] fun v11 =>
        Q .normal [x0, v11]))) (
    Q (.exit 0) [x0])) := by kernel_rfl

def spec_CombOk_r1 : L := .seq (.rg [⟨[], .len, [.v 0], 1⟩, ⟨[], .call F_l01In 0 1, [.v 1, .k (.int .i64 1), .k (.int .i64 24)], 1⟩]) (.ret [.v 2])
theorem spec_CombOk_r1_sh (Q : QT) (x0 : V) : shL spec_CombOk_r1 Q [x0] = (
  P1 (.len) [x0] fun v0 =>
  P1 (.call F_l01In 0 1) [v0, .int .i64 1, .int .i64 24] fun v1 =>
  Q .ret [v1]) := by kernel_rfl

def spec_CombOk_L : L := .seq (.rg []) (.seq (.seq (.rg []) (.block 0 (.seq (.tup [.v 0, .k (.int .i64 0)]) (.loop (spec_CombOk_b0))))) (spec_CombOk_r1))
theorem spec_CombOk_L_sh (Q : QT) (x0 : V) : shL spec_CombOk_L Q [x0] = (
  shL (.loop spec_CombOk_b0) (qB 0 (qS (shL spec_CombOk_r1 Q) Q)) [x0, .int .i64 0]) := by kernel_rfl
def spec_CombOk_S : Sig := ⟨[.val false [.sl [.sc]]], [(false, [.sc])], F_CombOk⟩
def spec_CombOk_hs : List NF := [⟨[(0, .sc false [.ro [.sc]])], [], [], 64⟩, ⟨[(0, .sc false [.ro [.sc]]), (3, .sc false [.sc])], [], [], 64⟩, ⟨[(0, .sc false [.ro [.sc]]), (3, .sc false [.sc])], [], [], 64⟩]

def spec_SpringOk_L : L := .seq (.rg []) (.seq (.rg [⟨[], .call F_l01In 0 1, [.v 1, .k (.int .i64 1), .k (.int .i64 50)], 1⟩, ⟨[(.v 3, true)], .call F_l01In 0 1, [.v 0, .k (.int .i64 0), .v 1], 1⟩, ⟨[], .pick, [.v 3, .v 4, .k (.bool false)], 1⟩, ⟨[(.v 5, true)], .call F_l01In 0 1, [.v 2, .k (.int .i64 1), .k (.int .i64 10000)], 1⟩, ⟨[], .pick, [.v 5, .v 6, .k (.bool false)], 1⟩]) (.ret [.v 7]))
theorem spec_SpringOk_L_sh (Q : QT) (x0 x1 x2 : V) : shL spec_SpringOk_L Q [x0, x1, x2] = (
  P1 (.call F_l01In 0 1) [x1, .int .i64 1, .int .i64 50] fun v0 =>
  ifB v0 (
    P1 (.call F_l01In 0 1) [x0, .int .i64 0, x1] fun v1 =>
    ifB v1 (
      P1 (.call F_l01In 0 1) [x2, .int .i64 1, .int .i64 10000] fun v2 =>
      Q .ret [v2]) (
      Q .ret [.bool false])) (
    Q .ret [.bool false])) := by kernel_rfl
def spec_SpringOk_S : Sig := ⟨[.val true [.sc, .sc, .sc]], [(false, [.sc])], F_SpringOk⟩
def spec_SpringOk_hs : List NF := []

def spec_WorkshopOk_L : L := .seq (.rg []) (.seq (.rg [⟨[], .call F_BenchOk 0 1, [.v 0, .v 1, .v 2, .v 3], 1⟩, ⟨[(.v 10, true)], .call F_CombOk 0 1, [.v 4], 1⟩, ⟨[], .pick, [.v 10, .v 11, .k (.bool false)], 1⟩, ⟨[(.v 12, true)], .call F_SpringOk 0 1, [.v 5, .v 6, .v 7], 1⟩, ⟨[], .pick, [.v 12, .v 13, .k (.bool false)], 1⟩, ⟨[(.v 14, true)], .len, [.v 4], 1⟩, ⟨[(.v 14, true)], .bin .eql, [.v 1, .v 15], 1⟩, ⟨[], .pick, [.v 14, .v 16, .k (.bool false)], 1⟩, ⟨[(.v 17, true)], .call F_l01In 0 1, [.v 8, .k (.int .i64 0), .k (.int .i64 1000000)], 1⟩, ⟨[], .pick, [.v 17, .v 18, .k (.bool false)], 1⟩, ⟨[(.v 19, true)], .call F_l01In 0 1, [.v 9, .k (.int .i64 0), .k (.int .i64 1000000)], 1⟩, ⟨[], .pick, [.v 19, .v 20, .k (.bool false)], 1⟩]) (.ret [.v 21]))
theorem spec_WorkshopOk_L_sh (Q : QT) (x0 x1 x2 x3 x4 x5 x6 x7 x8 x9 : V) : shL spec_WorkshopOk_L Q [x0, x1, x2, x3, x4, x5, x6, x7, x8, x9] = (
  P1 (.call F_BenchOk 0 1) [x0, x1, x2, x3] fun v0 =>
  ifB v0 (
    P1 (.call F_CombOk 0 1) [x4] fun v1 =>
    ifB v1 (
      P1 (.call F_SpringOk 0 1) [x5, x6, x7] fun v2 =>
      ifB v2 (
        P1 (.len) [x4] fun v3 =>
        P1 (.bin .eql) [x1, v3] fun v4 =>
        ifB v4 (
          P1 (.call F_l01In 0 1) [x8, .int .i64 0, .int .i64 1000000] fun v5 =>
          ifB v5 (
            P1 (.call F_l01In 0 1) [x9, .int .i64 0, .int .i64 1000000] fun v6 =>
            Q .ret [v6]) (
            Q .ret [.bool false])) (
          Q .ret [.bool false])) (
        Q .ret [.bool false])) (
      Q .ret [.bool false])) (
    Q .ret [.bool false])) := by kernel_rfl
def spec_WorkshopOk_S : Sig := ⟨[.val true [.sc, .sc, .sl [.sc, .sc], .sl [.sl [.sc, .sc]], .sl [.sc], .sc, .sc, .sc, .sc, .sc]], [(false, [.sc])], F_WorkshopOk⟩
def spec_WorkshopOk_hs : List NF := []

def impl_CombOk_b0 : L := .seq (.seq (.rg [⟨[], .bin .lss, [.v 3, .v 2], 1⟩]) (.seq (.ite (.v 4) (.skip) (.seq (.tup []) (.exit 0))) (.seq (.block 1 (.seq (.seq (.rg [⟨[], .idx [.sc], [.v 1, .v 3], 1⟩]) (.seq (.rg [⟨[], .call F_within 0 1, [.v 5, .k (.int .i64 0), .k (.int .i64 60)], 1⟩, ⟨[], .un .not, [.v 6], 1⟩, ⟨[(.v 7, false)], .bin .gtr, [.v 3, .k (.int .i64 0)], 1⟩, ⟨[(.v 7, false), (.v 8, true)], .bin .sub, [.v 3, .k (.int .i64 1)], 1⟩, ⟨[(.v 7, false), (.v 8, true)], .idx [.sc], [.v 0, .v 9], 1⟩, ⟨[(.v 7, false), (.v 8, true)], .bin .gtr, [.v 10, .v 5], 1⟩, ⟨[(.v 7, false)], .pick, [.v 8, .v 11, .k (.bool false)], 1⟩, ⟨[], .pick, [.v 7, .k (.bool true), .v 12], 1⟩]) (.ite (.v 13) (.seq (.rg []) (.ret [.k (.bool false)])) (.skip)))) (.tup [.v 0, .v 1, .v 2, .v 3]))) (.rg [⟨[], .bin .add, [.v 3, .k (.int .i64 1)], 1⟩])))) (.tup [.v 0, .v 1, .v 2, .v 4])
theorem impl_CombOk_b0_sh (Q : QT) (x0 x1 x2 x3 : V) : shL impl_CombOk_b0 Q [x0, x1, x2, x3] = (
  P1 (.bin .lss) [x3, x2] fun v0 =>
  ifB v0 (
    P1 (.idx [.sc]) [x1, x3] fun v1 =>
    P1 (.call F_within 0 1) [v1, .int .i64 0, .int .i64 60] fun v2 =>
    P1 (.un .not) [v2] fun v3 =>
    ifB v3 (
      Q .ret [.bool false]) (
      P1 (.bin .gtr) [x3, .int .i64 0] fun v4 =>
      ifB v4 (
        P1 (.bin .sub) [x3, .int .i64 1] fun v5 =>
        P1 (.idx [.sc]) [x0, v5] fun v6 =>
        P1 (.bin .gtr) [v6, v1] fun v7 =>
        ifB v7 (
          Q .ret [.bool false]) (
          P1 (.bin .add) [x3, .int .i64 1] fun v8 =>
          Q .normal [x0, x1, x2, v8])) (
        P1 (.bin .add) [x3, .int .i64 1] fun v9 =>
        Q .normal [x0, x1, x2, v9]))) (
    Q (.exit 0) [])) := by kernel_rfl

def impl_CombOk_r1 : L := .seq (.rg []) (.ret [.k (.bool true)])
theorem impl_CombOk_r1_sh (Q : QT) : shL impl_CombOk_r1 Q [] = (
  Q .ret [.bool true]) := by kernel_rfl

def impl_CombOk_L : L := .seq (.rg []) (.seq (.seq (.rg [⟨[], .len, [.v 0], 1⟩, ⟨[], .bin .lss, [.v 1, .k (.int .i64 1)], 1⟩, ⟨[(.v 2, false)], .len, [.v 0], 1⟩, ⟨[(.v 2, false)], .bin .gtr, [.v 3, .k (.int .i64 24)], 1⟩, ⟨[], .pick, [.v 2, .k (.bool true), .v 4], 1⟩]) (.ite (.v 5) (.seq (.rg []) (.ret [.k (.bool false)])) (.skip))) (.seq (.seq (.rg [⟨[], .len, [.v 0], 1⟩]) (.block 0 (.seq (.tup [.v 0, .v 0, .v 6, .k (.int .i64 0)]) (.loop (impl_CombOk_b0))))) (impl_CombOk_r1)))
theorem impl_CombOk_L_sh (Q : QT) (x0 : V) : shL impl_CombOk_L Q [x0] = (
  P1 (.len) [x0] fun v0 =>
  P1 (.bin .lss) [v0, .int .i64 1] fun v1 =>
  ifB v1 (
    Q .ret [.bool false]) (
    P1 (.len) [x0] fun v2 =>
    P1 (.bin .gtr) [v2, .int .i64 24] fun v3 =>
    ifB v3 (
      Q .ret [.bool false]) (
      P1 (.len) [x0] fun v4 =>
      shL (.loop impl_CombOk_b0) (qB 0 (qS (shL impl_CombOk_r1 Q) Q)) [x0, x0, v4, .int .i64 0]))) := by kernel_rfl
def impl_CombOk_S : Sig := ⟨[.val false [.sl [.sc]]], [(false, [.sc])], F_CombOk⟩
def impl_CombOk_hs : List NF := [⟨[], [], [], 64⟩, ⟨[(0, .sc false [.ro [.sc]]), (13, .sc false [.ro [.sc]]), (14, .sc false [.sc]), (15, .sc false [.sc])], [], [], 64⟩, ⟨[(0, .sc false [.ro [.sc]]), (13, .sc false [.ro [.sc]]), (14, .sc false [.sc]), (15, .sc false [.sc])], [], [], 64⟩]

def impl_SpringOk_L : L := .seq (.rg []) (.seq (.rg [⟨[], .call F_within 0 1, [.v 1, .k (.int .i64 1), .k (.int .i64 50)], 1⟩, ⟨[(.v 3, true)], .call F_within 0 1, [.v 0, .k (.int .i64 0), .v 1], 1⟩, ⟨[], .pick, [.v 3, .v 4, .k (.bool false)], 1⟩, ⟨[(.v 5, true)], .call F_within 0 1, [.v 2, .k (.int .i64 1), .k (.int .i64 10000)], 1⟩, ⟨[], .pick, [.v 5, .v 6, .k (.bool false)], 1⟩]) (.ret [.v 7]))
theorem impl_SpringOk_L_sh (Q : QT) (x0 x1 x2 : V) : shL impl_SpringOk_L Q [x0, x1, x2] = (
  P1 (.call F_within 0 1) [x1, .int .i64 1, .int .i64 50] fun v0 =>
  ifB v0 (
    P1 (.call F_within 0 1) [x0, .int .i64 0, x1] fun v1 =>
    ifB v1 (
      P1 (.call F_within 0 1) [x2, .int .i64 1, .int .i64 10000] fun v2 =>
      Q .ret [v2]) (
      Q .ret [.bool false])) (
    Q .ret [.bool false])) := by kernel_rfl
def impl_SpringOk_S : Sig := ⟨[.val true [.sc, .sc, .sc]], [(false, [.sc])], F_SpringOk⟩
def impl_SpringOk_hs : List NF := []

def impl_WorkshopOk_r0 : L := .seq (.rg [⟨[], .call F_within 0 1, [.v 8, .k (.int .i64 0), .k (.int .i64 1000000)], 1⟩, ⟨[(.v 21, true)], .call F_within 0 1, [.v 9, .k (.int .i64 0), .k (.int .i64 1000000)], 1⟩, ⟨[], .pick, [.v 21, .v 22, .k (.bool false)], 1⟩]) (.ret [.v 23])
theorem impl_WorkshopOk_r0_sh (Q : QT) (x0 x1 x2 x3 x4 x5 x6 x7 x8 x9 x10 x11 x12 x13 x14 x15 x16 x17 x18 x19 x20 : V) : shL impl_WorkshopOk_r0 Q [x0, x1, x2, x3, x4, x5, x6, x7, x8, x9, x10, x11, x12, x13, x14, x15, x16, x17, x18, x19, x20] = (
  P1 (.call F_within 0 1) [x8, .int .i64 0, .int .i64 1000000] fun v0 =>
  ifB v0 (
    P1 (.call F_within 0 1) [x9, .int .i64 0, .int .i64 1000000] fun v1 =>
    Q .ret [v1]) (
    Q .ret [.bool false])) := by kernel_rfl

def impl_WorkshopOk_L : L := .seq (.rg []) (.seq (.seq (.rg [⟨[], .call F_BenchOk 0 1, [.v 0, .v 1, .v 2, .v 3], 1⟩, ⟨[], .un .not, [.v 10], 1⟩, ⟨[(.v 11, false)], .call F_CombOk 0 1, [.v 4], 1⟩, ⟨[(.v 11, false)], .un .not, [.v 12], 1⟩, ⟨[], .pick, [.v 11, .k (.bool true), .v 13], 1⟩, ⟨[(.v 14, false)], .call F_SpringOk 0 1, [.v 5, .v 6, .v 7], 1⟩, ⟨[(.v 14, false)], .un .not, [.v 15], 1⟩, ⟨[], .pick, [.v 14, .k (.bool true), .v 16], 1⟩, ⟨[(.v 17, false)], .len, [.v 4], 1⟩, ⟨[(.v 17, false)], .bin .neq, [.v 1, .v 18], 1⟩, ⟨[], .pick, [.v 17, .k (.bool true), .v 19], 1⟩]) (.ite (.v 20) (.seq (.rg []) (.ret [.k (.bool false)])) (.skip))) (impl_WorkshopOk_r0))
theorem impl_WorkshopOk_L_sh (Q : QT) (x0 x1 x2 x3 x4 x5 x6 x7 x8 x9 : V) : shL impl_WorkshopOk_L Q [x0, x1, x2, x3, x4, x5, x6, x7, x8, x9] = (
  P1 (.call F_BenchOk 0 1) [x0, x1, x2, x3] fun v0 =>
  P1 (.un .not) [v0] fun v1 =>
  ifB v1 (
    Q .ret [.bool false]) (
    P1 (.call F_CombOk 0 1) [x4] fun v2 =>
    P1 (.un .not) [v2] fun v3 =>
    ifB v3 (
      Q .ret [.bool false]) (
      P1 (.call F_SpringOk 0 1) [x5, x6, x7] fun v4 =>
      P1 (.un .not) [v4] fun v5 =>
      ifB v5 (
        Q .ret [.bool false]) (
        P1 (.len) [x4] fun v6 =>
        P1 (.bin .neq) [x1, v6] fun v7 =>
        ifB v7 (
          Q .ret [.bool false]) (
          shL impl_WorkshopOk_r0 Q [x0, x1, x2, x3, x4, x5, x6, x7, x8, x9, v0, .bool false, v2, v3, .bool false, v4, v5, .bool false, v6, v7, .bool false]))))) := by kernel_rfl
def impl_WorkshopOk_S : Sig := ⟨[.val true [.sc, .sc, .sl [.sc, .sc], .sl [.sl [.sc, .sc]], .sl [.sc], .sc, .sc, .sc, .sc, .sc]], [(false, [.sc])], F_WorkshopOk⟩
def impl_WorkshopOk_hs : List NF := []

def laws_eqSpring_L : L := .seq (.rg []) (.seq (.seq (.rg [⟨[], .bin .neq, [.v 0, .v 3], 1⟩]) (.ite (.v 6) (.seq (.rg []) (.ret [.k (.bool false)])) (.skip))) (.seq (.seq (.rg [⟨[], .bin .neq, [.v 1, .v 4], 1⟩]) (.ite (.v 7) (.seq (.rg []) (.ret [.k (.bool false)])) (.skip))) (.seq (.seq (.rg [⟨[], .bin .neq, [.v 2, .v 5], 1⟩]) (.ite (.v 8) (.seq (.rg []) (.ret [.k (.bool false)])) (.skip))) (.seq (.rg []) (.ret [.k (.bool true)])))))
theorem laws_eqSpring_L_sh (Q : QT) (x0 x1 x2 x3 x4 x5 : V) : shL laws_eqSpring_L Q [x0, x1, x2, x3, x4, x5] = (
  P1 (.bin .neq) [x0, x3] fun v0 =>
  ifB v0 (
    Q .ret [.bool false]) (
    P1 (.bin .neq) [x1, x4] fun v1 =>
    ifB v1 (
      Q .ret [.bool false]) (
      P1 (.bin .neq) [x2, x5] fun v2 =>
      ifB v2 (
        Q .ret [.bool false]) (
        Q .ret [.bool true])))) := by kernel_rfl
def laws_eqSpring_S : Sig := ⟨[.val true [.sc, .sc, .sc], .val true [.sc, .sc, .sc]], [(false, [.sc])], F_eqSpring⟩
def laws_eqSpring_hs : List NF := []

def laws_eqWorkshop_L : L := .seq (.rg []) (.seq (.seq (.rg [⟨[], .call F_eqBench 0 1, [.v 0, .v 1, .v 2, .v 3, .v 10, .v 11, .v 12, .v 13], 1⟩, ⟨[], .un .not, [.v 20], 1⟩]) (.ite (.v 21) (.seq (.rg []) (.ret [.k (.bool false)])) (.skip))) (.seq (.seq (.rg [⟨[], .call F_eqIntS 0 1, [.v 4, .v 14], 1⟩, ⟨[], .un .not, [.v 22], 1⟩]) (.ite (.v 23) (.seq (.rg []) (.ret [.k (.bool false)])) (.skip))) (.seq (.seq (.rg [⟨[], .call F_eqSpring 0 1, [.v 5, .v 6, .v 7, .v 15, .v 16, .v 17], 1⟩, ⟨[], .un .not, [.v 24], 1⟩]) (.ite (.v 25) (.seq (.rg []) (.ret [.k (.bool false)])) (.skip))) (.seq (.seq (.rg [⟨[], .bin .neq, [.v 8, .v 18], 1⟩]) (.ite (.v 26) (.seq (.rg []) (.ret [.k (.bool false)])) (.skip))) (.seq (.seq (.rg [⟨[], .bin .neq, [.v 9, .v 19], 1⟩]) (.ite (.v 27) (.seq (.rg []) (.ret [.k (.bool false)])) (.skip))) (.seq (.rg []) (.ret [.k (.bool true)])))))))
theorem laws_eqWorkshop_L_sh (Q : QT) (x0 x1 x2 x3 x4 x5 x6 x7 x8 x9 x10 x11 x12 x13 x14 x15 x16 x17 x18 x19 : V) : shL laws_eqWorkshop_L Q [x0, x1, x2, x3, x4, x5, x6, x7, x8, x9, x10, x11, x12, x13, x14, x15, x16, x17, x18, x19] = (
  P1 (.call F_eqBench 0 1) [x0, x1, x2, x3, x10, x11, x12, x13] fun v0 =>
  P1 (.un .not) [v0] fun v1 =>
  ifB v1 (
    Q .ret [.bool false]) (
    P1 (.call F_eqIntS 0 1) [x4, x14] fun v2 =>
    P1 (.un .not) [v2] fun v3 =>
    ifB v3 (
      Q .ret [.bool false]) (
      P1 (.call F_eqSpring 0 1) [x5, x6, x7, x15, x16, x17] fun v4 =>
      P1 (.un .not) [v4] fun v5 =>
      ifB v5 (
        Q .ret [.bool false]) (
        P1 (.bin .neq) [x8, x18] fun v6 =>
        ifB v6 (
          Q .ret [.bool false]) (
          P1 (.bin .neq) [x9, x19] fun v7 =>
          ifB v7 (
            Q .ret [.bool false]) (
            Q .ret [.bool true])))))) := by kernel_rfl
def laws_eqWorkshop_S : Sig := ⟨[.val true [.sc, .sc, .sl [.sc, .sc], .sl [.sl [.sc, .sc]], .sl [.sc], .sc, .sc, .sc, .sc, .sc], .val true [.sc, .sc, .sl [.sc, .sc], .sl [.sl [.sc, .sc]], .sl [.sc], .sc, .sc, .sc, .sc, .sc]], [(false, [.sc])], F_eqWorkshop⟩
def laws_eqWorkshop_hs : List NF := []

def laws_FnExactWorkshopOk_L : L := .seq (.rg []) (.seq (.rg []) (.seq (.rg [⟨[], .call F_szWorkshop 0 1, [.v 0, .v 1, .v 2, .v 3, .v 4, .v 5, .v 6, .v 7, .v 8, .v 9, .k (.int .i64 1048576)], 1⟩]) (.seq (.seq (.rg [⟨[], .bin .lss, [.v 10, .k (.int .i64 0)], 1⟩]) (.ite (.v 11) (.seq (.rg []) (.ret [.k (.bool true)])) (.skip))) (.seq (.rg [⟨[], .call F_toWorkshop 0 10, [.v 0, .v 1, .v 2, .v 3, .v 4, .v 5, .v 6, .v 7, .v 8, .v 9], 10⟩, ⟨[], .call F_WorkshopOk 0 1, [.v 12, .v 13, .v 14, .v 15, .v 16, .v 17, .v 18, .v 19, .v 20, .v 21], 1⟩]) (.seq (.rg [⟨[], .call F_toWorkshop 0 10, [.v 0, .v 1, .v 2, .v 3, .v 4, .v 5, .v 6, .v 7, .v 8, .v 9], 10⟩]) (.seq (.rg [⟨[], .call F_WorkshopOk 0 1, [.v 23, .v 24, .v 25, .v 26, .v 27, .v 28, .v 29, .v 30, .v 31, .v 32], 1⟩]) (.seq (.seq (.rg [⟨[], .binb .neq, [.v 33, .v 22], 1⟩]) (.ite (.v 34) (.seq (.rg []) (.ret [.k (.bool false)])) (.skip))) (.seq (.seq (.rg [⟨[], .call F_toWorkshop 0 10, [.v 0, .v 1, .v 2, .v 3, .v 4, .v 5, .v 6, .v 7, .v 8, .v 9], 10⟩, ⟨[], .call F_eqWorkshop 0 1, [.v 23, .v 24, .v 25, .v 26, .v 27, .v 28, .v 29, .v 30, .v 31, .v 32, .v 35, .v 36, .v 37, .v 38, .v 39, .v 40, .v 41, .v 42, .v 43, .v 44], 1⟩, ⟨[], .un .not, [.v 45], 1⟩]) (.ite (.v 46) (.seq (.rg []) (.ret [.k (.bool false)])) (.skip))) (.seq (.rg []) (.ret [.k (.bool true)]))))))))))
theorem laws_FnExactWorkshopOk_L_sh (Q : QT) (x0 x1 x2 x3 x4 x5 x6 x7 x8 x9 : V) : shL laws_FnExactWorkshopOk_L Q [x0, x1, x2, x3, x4, x5, x6, x7, x8, x9] = (
  P1 (.call F_szWorkshop 0 1) [x0, x1, x2, x3, x4, x5, x6, x7, x8, x9, .int .i64 1048576] fun v0 =>
  P1 (.bin .lss) [v0, .int .i64 0] fun v1 =>
  ifB v1 (
    Q .ret [.bool true]) (
    P10 (.call F_toWorkshop 0 10) [x0, x1, x2, x3, x4, x5, x6, x7, x8, x9] fun v2 v3 v4 v5 v6 v7 v8 v9 v10 v11 =>
    P1 (.call F_WorkshopOk 0 1) [v2, v3, v4, v5, v6, v7, v8, v9, v10, v11] fun v12 =>
    P10 (.call F_toWorkshop 0 10) [x0, x1, x2, x3, x4, x5, x6, x7, x8, x9] fun v13 v14 v15 v16 v17 v18 v19 v20 v21 v22 =>
    P1 (.call F_WorkshopOk 0 1) [v13, v14, v15, v16, v17, v18, v19, v20, v21, v22] fun v23 =>
    P1 (.binb .neq) [v23, v12] fun v24 =>
    ifB v24 (
      Q .ret [.bool false]) (
      P10 (.call F_toWorkshop 0 10) [x0, x1, x2, x3, x4, x5, x6, x7, x8, x9] fun v25 v26 v27 v28 v29 v30 v31 v32 v33 v34 =>
      P1 (.call F_eqWorkshop 0 1) [v13, v14, v15, v16, v17, v18, v19, v20, v21, v22, v25, v26, v27, v28, v29, v30, v31, v32, v33, v34] fun v35 =>
      P1 (.un .not) [v35] fun v36 =>
      ifB v36 (
        Q .ret [.bool false]) (
        Q .ret [.bool true])))) := by kernel_rfl
def laws_FnExactWorkshopOk_S : Sig := ⟨[.val true [.sc, .sc, .sl [.sc, .sc], .sl [.sl [.sc, .sc]], .sl [.sc], .sc, .sc, .sc, .sc, .sc]], [(false, [.sc])], F_FnExactWorkshopOk⟩
def laws_FnExactWorkshopOk_hs : List NF := []

def spec_PullPin_L : L := .seq (.rg []) (.seq (.rg [⟨[], .call F_l06Copy 0 3, [.v 0, .v 1, .v 2], 3⟩]) (.seq (.seq (.rg [⟨[], .call F_CylinderOk 0 1, [.v 0, .v 1, .v 2], 1⟩, ⟨[], .un .not, [.v 7], 1⟩, ⟨[(.v 8, false)], .len, [.v 2], 1⟩, ⟨[(.v 8, false)], .bin .sub, [.v 9, .k (.int .i64 1)], 1⟩, ⟨[(.v 8, false)], .call F_l01In 0 1, [.v 3, .k (.int .i64 0), .v 10], 1⟩, ⟨[(.v 8, false)], .un .not, [.v 11], 1⟩, ⟨[], .pick, [.v 8, .k (.bool true), .v 12], 1⟩]) (.ite (.v 13) (.seq (.rg []) (.ret [.v 4, .v 5, .v 6, .k (.bool false)])) (.skip))) (.seq (.rg [⟨[], .lst [.sc, .sc] true 0, [], 1⟩, ⟨[], .lsub [.sc, .sc], [.v 2, .k (.int .i64 0), .v 3], 1⟩, ⟨[], .app [.sc, .sc] 16, [.v 14, .v 15], 1⟩, ⟨[], .bin .add, [.v 3, .k (.int .i64 1)], 1⟩, ⟨[], .lsub [.sc, .sc], [.v 2, .v 17], 1⟩, ⟨[], .app [.sc, .sc] 16, [.v 16, .v 18], 1⟩]) (.seq (.rg []) (.ret [.v 4, .v 5, .v 19, .k (.bool true)])))))
theorem spec_PullPin_L_sh (Q : QT) (x0 x1 x2 x3 : V) : shL spec_PullPin_L Q [x0, x1, x2, x3] = (
  P3 (.call F_l06Copy 0 3) [x0, x1, x2] fun v0 v1 v2 =>
  P1 (.call F_CylinderOk 0 1) [x0, x1, x2] fun v3 =>
  P1 (.un .not) [v3] fun v4 =>
  ifB v4 (
    Q .ret [v0, v1, v2, .bool false]) (
    P1 (.len) [x2] fun v5 =>
    P1 (.bin .sub) [v5, .int .i64 1] fun v6 =>
    P1 (.call F_l01In 0 1) [x3, .int .i64 0, v6] fun v7 =>
    P1 (.un .not) [v7] fun v8 =>
    ifB v8 (
      Q .ret [v0, v1, v2, .bool false]) (
      P1 (.lst [.sc, .sc] true 0) [] fun v9 =>
      P1 (.lsub [.sc, .sc]) [x2, .int .i64 0, x3] fun v10 =>
      P1 (.app [.sc, .sc] 16) [v9, v10] fun v11 =>
      P1 (.bin .add) [x3, .int .i64 1] fun v12 =>
      P1 (.lsub [.sc, .sc]) [x2, v12] fun v13 =>
      P1 (.app [.sc, .sc] 16) [v11, v13] fun v14 =>
      Q .ret [v0, v1, v14, .bool true]))) := by kernel_rfl
def spec_PullPin_S : Sig := ⟨[.val true [.sc, .sc, .sl [.sc, .sc]], .val false [.sc]], [(true, [.sc, .sc, .sl [.sc, .sc]]), (false, [.sc])], F_PullPin⟩
def spec_PullPin_hs : List NF := []

def impl_PullPin_L : L := .seq (.rg []) (.seq (.rg [⟨[], .call F_copyCylinder 0 3, [.v 0, .v 1, .v 2], 3⟩]) (.seq (.seq (.rg [⟨[], .call F_CylinderOk 0 1, [.v 0, .v 1, .v 2], 1⟩, ⟨[], .un .not, [.v 7], 1⟩, ⟨[(.v 8, false)], .bin .lss, [.v 3, .k (.int .i64 0)], 1⟩, ⟨[], .pick, [.v 8, .k (.bool true), .v 9], 1⟩, ⟨[(.v 10, false)], .len, [.v 2], 1⟩, ⟨[(.v 10, false)], .bin .geq, [.v 3, .v 11], 1⟩, ⟨[], .pick, [.v 10, .k (.bool true), .v 12], 1⟩]) (.ite (.v 13) (.seq (.rg []) (.ret [.v 4, .v 5, .v 6, .k (.bool false)])) (.skip))) (.seq (.rg [⟨[], .lsub [.sc, .sc], [.v 2, .k (.int .i64 0), .v 3], 1⟩, ⟨[], .call F_copyPins 0 1, [.v 14], 1⟩, ⟨[], .bin .add, [.v 3, .k (.int .i64 1)], 1⟩, ⟨[], .lsub [.sc, .sc], [.v 2, .v 16], 1⟩, ⟨[], .app [.sc, .sc] 16, [.v 15, .v 17], 1⟩]) (.seq (.rg []) (.ret [.v 4, .v 5, .v 18, .k (.bool true)])))))
theorem impl_PullPin_L_sh (Q : QT) (x0 x1 x2 x3 : V) : shL impl_PullPin_L Q [x0, x1, x2, x3] = (
  P3 (.call F_copyCylinder 0 3) [x0, x1, x2] fun v0 v1 v2 =>
  P1 (.call F_CylinderOk 0 1) [x0, x1, x2] fun v3 =>
  P1 (.un .not) [v3] fun v4 =>
  ifB v4 (
    Q .ret [v0, v1, v2, .bool false]) (
    P1 (.bin .lss) [x3, .int .i64 0] fun v5 =>
    ifB v5 (
      Q .ret [v0, v1, v2, .bool false]) (
      P1 (.len) [x2] fun v6 =>
      P1 (.bin .geq) [x3, v6] fun v7 =>
      ifB v7 (
        Q .ret [v0, v1, v2, .bool false]) (
        P1 (.lsub [.sc, .sc]) [x2, .int .i64 0, x3] fun v8 =>
        P1 (.call F_copyPins 0 1) [v8] fun v9 =>
        P1 (.bin .add) [x3, .int .i64 1] fun v10 =>
        P1 (.lsub [.sc, .sc]) [x2, v10] fun v11 =>
        P1 (.app [.sc, .sc] 16) [v9, v11] fun v12 =>
        Q .ret [v0, v1, v12, .bool true])))) := by kernel_rfl
def impl_PullPin_S : Sig := ⟨[.val true [.sc, .sc, .sl [.sc, .sc]], .val false [.sc]], [(true, [.sc, .sc, .sl [.sc, .sc]]), (false, [.sc])], F_PullPin⟩
def impl_PullPin_hs : List NF := []

def spec_OpenWorkshop_L : L := .seq (.rg []) (.seq (.rg [⟨[], .len, [.v 1], 1⟩, ⟨[], .call F_NewBench 0 5, [.v 0, .v 3], 5⟩]) (.seq (.rg [⟨[], .lst [.sc] false 0, [], 1⟩, ⟨[], .app [.sc] 8, [.v 9, .v 1], 1⟩]) (.seq (.seq (.rg [⟨[], .un .not, [.v 8], 1⟩, ⟨[(.v 11, false)], .call F_WorkshopOk 0 1, [.v 4, .v 5, .v 6, .v 7, .v 10, .k (.int .i64 0), .k (.int .i64 10), .k (.int .i64 100), .v 2, .k (.int .i64 0)], 1⟩, ⟨[(.v 11, false)], .un .not, [.v 12], 1⟩, ⟨[], .pick, [.v 11, .k (.bool true), .v 13], 1⟩]) (.ite (.v 14) (.seq (.rg []) (.ret [.k (.int .i64 0), .k (.int .i64 0), .k (.list [.sc, .sc] []), .k (.list [.sl [.sc, .sc]] []), .k (.list [.sc] []), .k (.int .i64 0), .k (.int .i64 0), .k (.int .i64 0), .k (.int .i64 0), .k (.int .i64 0), .k (.bool false)])) (.skip))) (.seq (.rg []) (.ret [.v 4, .v 5, .v 6, .v 7, .v 10, .k (.int .i64 0), .k (.int .i64 10), .k (.int .i64 100), .v 2, .k (.int .i64 0), .k (.bool true)])))))
theorem spec_OpenWorkshop_L_sh (Q : QT) (x0 x1 x2 : V) : shL spec_OpenWorkshop_L Q [x0, x1, x2] = (
  P1 (.len) [x1] fun v0 =>
  P5 (.call F_NewBench 0 5) [x0, v0] fun v1 v2 v3 v4 v5 =>
  P1 (.lst [.sc] false 0) [] fun v6 =>
  P1 (.app [.sc] 8) [v6, x1] fun v7 =>
  P1 (.un .not) [v5] fun v8 =>
  ifB v8 (
    Q .ret [.int .i64 0, .int .i64 0, .list [.sc, .sc] [], .list [.sl [.sc, .sc]] [], .list [.sc] [], .int .i64 0, .int .i64 0, .int .i64 0, .int .i64 0, .int .i64 0, .bool false]) (
    P1 (.call F_WorkshopOk 0 1) [v1, v2, v3, v4, v7, .int .i64 0, .int .i64 10, .int .i64 100, x2, .int .i64 0] fun v9 =>
    P1 (.un .not) [v9] fun v10 =>
    ifB v10 (
      Q .ret [.int .i64 0, .int .i64 0, .list [.sc, .sc] [], .list [.sl [.sc, .sc]] [], .list [.sc] [], .int .i64 0, .int .i64 0, .int .i64 0, .int .i64 0, .int .i64 0, .bool false]) (
      Q .ret [v1, v2, v3, v4, v7, .int .i64 0, .int .i64 10, .int .i64 100, x2, .int .i64 0, .bool true]))) := by kernel_rfl
def spec_OpenWorkshop_S : Sig := ⟨[.val false [.sc], .val false [.sl [.sc]], .val false [.sc]], [(true, [.sc, .sc, .sl [.sc, .sc], .sl [.sl [.sc, .sc]], .sl [.sc], .sc, .sc, .sc, .sc, .sc]), (false, [.sc])], F_OpenWorkshop⟩
def spec_OpenWorkshop_hs : List NF := []

def impl_OpenWorkshop_L : L := .seq (.rg []) (.seq (.rg [⟨[], .len, [.v 1], 1⟩, ⟨[], .call F_NewBench 0 5, [.v 0, .v 3], 5⟩]) (.seq (.rg [⟨[], .call F_copyInts 0 1, [.v 1], 1⟩]) (.seq (.seq (.rg [⟨[], .call F_WorkshopOk 0 1, [.v 4, .v 5, .v 6, .v 7, .v 9, .k (.int .i64 0), .k (.int .i64 10), .k (.int .i64 100), .v 2, .k (.int .i64 0)], 1⟩, ⟨[], .un .not, [.v 10], 1⟩]) (.ite (.v 11) (.seq (.rg []) (.ret [.k (.int .i64 0), .k (.int .i64 0), .k (.list [.sc, .sc] []), .k (.list [.sl [.sc, .sc]] []), .k (.list [.sc] []), .k (.int .i64 0), .k (.int .i64 0), .k (.int .i64 0), .k (.int .i64 0), .k (.int .i64 0), .k (.bool false)])) (.skip))) (.seq (.rg []) (.ret [.v 4, .v 5, .v 6, .v 7, .v 9, .k (.int .i64 0), .k (.int .i64 10), .k (.int .i64 100), .v 2, .k (.int .i64 0), .k (.bool true)])))))
theorem impl_OpenWorkshop_L_sh (Q : QT) (x0 x1 x2 : V) : shL impl_OpenWorkshop_L Q [x0, x1, x2] = (
  P1 (.len) [x1] fun v0 =>
  P5 (.call F_NewBench 0 5) [x0, v0] fun v1 v2 v3 v4 _ =>
  P1 (.call F_copyInts 0 1) [x1] fun v6 =>
  P1 (.call F_WorkshopOk 0 1) [v1, v2, v3, v4, v6, .int .i64 0, .int .i64 10, .int .i64 100, x2, .int .i64 0] fun v7 =>
  P1 (.un .not) [v7] fun v8 =>
  ifB v8 (
    Q .ret [.int .i64 0, .int .i64 0, .list [.sc, .sc] [], .list [.sl [.sc, .sc]] [], .list [.sc] [], .int .i64 0, .int .i64 0, .int .i64 0, .int .i64 0, .int .i64 0, .bool false]) (
    Q .ret [v1, v2, v3, v4, v6, .int .i64 0, .int .i64 10, .int .i64 100, x2, .int .i64 0, .bool true])) := by kernel_rfl
def impl_OpenWorkshop_S : Sig := ⟨[.val false [.sc], .val false [.sl [.sc]], .val false [.sc]], [(true, [.sc, .sc, .sl [.sc, .sc], .sl [.sl [.sc, .sc]], .sl [.sc], .sc, .sc, .sc, .sc, .sc]), (false, [.sc])], F_OpenWorkshop⟩
def impl_OpenWorkshop_hs : List NF := []

def laws_markWorkshop_L : L := .seq (.rg []) (.seq (.rg [⟨[], .call F_markBench 2 1, [.v 0, .v 1, .v 2, .v 3, .v 10, .v 2, .v 3], 3⟩]) (.seq (.rg [⟨[], .call F_markIntS 1 1, [.v 4, .v 11, .v 4], 2⟩]) (.seq (.rg []) (.ret [.v 14, .v 12, .v 13, .v 15]))))
theorem laws_markWorkshop_L_sh (Q : QT) (x0 x1 x2 x3 x4 x5 x6 x7 x8 x9 x10 : V) : shL laws_markWorkshop_L Q [x0, x1, x2, x3, x4, x5, x6, x7, x8, x9, x10] = (
  P3 (.call F_markBench 2 1) [x0, x1, x2, x3, x10, x2, x3] fun v0 v1 v2 =>
  P2 (.call F_markIntS 1 1) [x4, v0, x4] fun v3 v4 =>
  Q .ret [v3, v1, v2, v4]) := by kernel_rfl
def laws_markWorkshop_S : Sig := ⟨[.io true [.sc, .sc, .sl [.sc, .sc], .sl [.sl [.sc, .sc]], .sl [.sc], .sc, .sc, .sc, .sc, .sc], .val false [.sc]], [(false, [.sc])], F_markWorkshop⟩
def laws_markWorkshop_hs : List NF := []

def laws_heldWorkshop_L : L := .seq (.rg []) (.seq (.rg [⟨[], .call F_heldBench 0 1, [.v 0, .v 1, .v 2, .v 3, .v 10], 1⟩]) (.seq (.seq (.rg [⟨[], .bin .lss, [.v 11, .k (.int .i64 0)], 1⟩]) (.ite (.v 12) (.seq (.rg []) (.ret [.k (.int .i64 (-1))])) (.skip))) (.seq (.rg [⟨[], .call F_heldIntS 0 1, [.v 4, .v 11], 1⟩]) (.seq (.seq (.rg [⟨[], .bin .lss, [.v 13, .k (.int .i64 0)], 1⟩]) (.ite (.v 14) (.seq (.rg []) (.ret [.k (.int .i64 (-1))])) (.skip))) (.seq (.rg []) (.ret [.v 13]))))))
theorem laws_heldWorkshop_L_sh (Q : QT) (x0 x1 x2 x3 x4 x5 x6 x7 x8 x9 x10 : V) : shL laws_heldWorkshop_L Q [x0, x1, x2, x3, x4, x5, x6, x7, x8, x9, x10] = (
  P1 (.call F_heldBench 0 1) [x0, x1, x2, x3, x10] fun v0 =>
  P1 (.bin .lss) [v0, .int .i64 0] fun v1 =>
  ifB v1 (
    Q .ret [.int .i64 (-1)]) (
    P1 (.call F_heldIntS 0 1) [x4, v0] fun v2 =>
    P1 (.bin .lss) [v2, .int .i64 0] fun v3 =>
    ifB v3 (
      Q .ret [.int .i64 (-1)]) (
      Q .ret [v2]))) := by kernel_rfl
def laws_heldWorkshop_S : Sig := ⟨[.val true [.sc, .sc, .sl [.sc, .sc], .sl [.sl [.sc, .sc]], .sl [.sc], .sc, .sc, .sc, .sc, .sc], .val false [.sc]], [(false, [.sc])], F_heldWorkshop⟩
def laws_heldWorkshop_hs : List NF := []

def laws_FnExactOpenWorkshop_r1 : L := .seq (.rg []) (.seq (.rg [⟨[], .call F_markWorkshop 3 1, [.v 18, .v 19, .v 20, .v 21, .v 22, .v 23, .v 24, .v 25, .v 26, .v 27, .k (.int .i64 1), .v 20, .v 21, .v 22], 4⟩]) (.seq (.rg []) (.seq (.rg [⟨[], .call F_heldWorkshop 0 1, [.v 18, .v 19, .v 45, .v 46, .v 47, .v 23, .v 24, .v 25, .v 26, .v 27, .k (.int .i64 1)], 1⟩]) (.seq (.seq (.rg [⟨[], .bin .lss, [.v 48, .k (.int .i64 0)], 1⟩]) (.ite (.v 49) (.seq (.rg []) (.ret [.k (.bool false)])) (.skip))) (.seq (.seq (.rg [⟨[], .bin .neq, [.v 48, .v 44], 1⟩]) (.ite (.v 50) (.seq (.rg []) (.ret [.k (.bool false)])) (.skip))) (.seq (.rg [⟨[], .call F_toIntS 0 1, [.v 1], 1⟩, ⟨[], .call F_OpenWorkshop 0 11, [.v 0, .v 51, .v 2], 11⟩]) (.seq (.seq (.rg [⟨[], .call F_eqWorkshop 0 1, [.v 52, .v 53, .v 54, .v 55, .v 56, .v 57, .v 58, .v 59, .v 60, .v 61, .v 6, .v 7, .v 8, .v 9, .v 10, .v 11, .v 12, .v 13, .v 14, .v 15], 1⟩, ⟨[], .un .not, [.v 63], 1⟩, ⟨[(.v 64, false)], .binb .neq, [.v 62, .v 16], 1⟩, ⟨[], .pick, [.v 64, .k (.bool true), .v 65], 1⟩]) (.ite (.v 66) (.seq (.rg []) (.ret [.k (.bool false)])) (.skip))) (.seq (.rg []) (.seq (.rg [⟨[], .call F_heldWorkshop 0 1, [.v 18, .v 19, .v 45, .v 46, .v 47, .v 23, .v 24, .v 25, .v 26, .v 27, .k (.int .i64 1)], 1⟩]) (.seq (.seq (.rg [⟨[], .bin .lss, [.v 67, .k (.int .i64 0)], 1⟩]) (.ite (.v 68) (.seq (.rg []) (.ret [.k (.bool false)])) (.skip))) (.seq (.seq (.rg [⟨[], .bin .neq, [.v 67, .v 44], 1⟩]) (.ite (.v 69) (.seq (.rg []) (.ret [.k (.bool false)])) (.skip))) (.seq (.rg []) (.ret [.k (.bool true)])))))))))))))
theorem laws_FnExactOpenWorkshop_r1_sh (Q : QT) (x0 x1 x2 x3 x4 x5 x6 x7 x8 x9 x10 x11 x12 x13 x14 x15 x16 x17 x18 x19 x20 x21 x22 x23 x24 x25 x26 x27 x28 x29 x30 x31 x32 x33 x34 x35 x36 x37 x38 x39 x40 x41 x42 x43 : V) : shL laws_FnExactOpenWorkshop_r1 Q [x0, x1, x2, x3, x4, x5, x6, x7, x8, x9, x10, x11, x12, x13, x14, x15, x16, x17, x18, x19, x20, x21, x22, x23, x24, x25, x26, x27, x28, x29, x30, x31, x32, x33, x34, x35, x36, x37, x38, x39, x40, x41, x42, x43] = (
  P4 (.call F_markWorkshop 3 1) [x18, x19, x20, x21, x22, x23, x24, x25, x26, x27, .int .i64 1, x20, x21, x22] fun v0 v1 v2 v3 =>
  P1 (.call F_heldWorkshop 0 1) [x18, x19, v1, v2, v3, x23, x24, x25, x26, x27, .int .i64 1] fun v4 =>
  P1 (.bin .lss) [v4, .int .i64 0] fun v5 =>
  ifB v5 (
    Q .ret [.bool false]) (
    P1 (.bin .neq) [v4, v0] fun v6 =>
    ifB v6 (
      Q .ret [.bool false]) (
      P1 (.call F_toIntS 0 1) [x1] fun v7 =>
      P11 (.call F_OpenWorkshop 0 11) [x0, v7, x2] fun v8 v9 v10 v11 v12 v13 v14 v15 v16 v17 v18 =>
      P1 (.call F_eqWorkshop 0 1) [v8, v9, v10, v11, v12, v13, v14, v15, v16, v17, x6, x7, x8, x9, x10, x11, x12, x13, x14, x15] fun v19 =>
      P1 (.un .not) [v19] fun v20 =>
      ifB v20 (
        Q .ret [.bool false]) (
        P1 (.binb .neq) [v18, x16] fun v21 =>
        ifB v21 (
          Q .ret [.bool false]) (
          P1 (.call F_heldWorkshop 0 1) [x18, x19, v1, v2, v3, x23, x24, x25, x26, x27, .int .i64 1] fun v22 =>
          P1 (.bin .lss) [v22, .int .i64 0] fun v23 =>
          ifB v23 (
            Q .ret [.bool false]) (
            P1 (.bin .neq) [v22, v0] fun v24 =>
            ifB v24 (
              Q .ret [.bool false]) (
              Q .ret [.bool true]))))))) := by kernel_rfl

def laws_FnExactOpenWorkshop_r0 : L := .seq (.seq (.rg [⟨[], .call F_toIntS 0 1, [.v 1], 1⟩, ⟨[], .call F_eqIntS 0 1, [.v 17, .v 33], 1⟩, ⟨[], .un .not, [.v 34], 1⟩]) (.ite (.v 35) (.seq (.rg []) (.ret [.k (.bool false)])) (.skip))) (.seq (.rg []) (.seq (.rg [⟨[], .call F_markIntS 1 1, [.v 17, .k (.int .i64 1), .v 17], 2⟩]) (.seq (.seq (.rg [⟨[], .bin .lss, [.v 36, .k (.int .i64 0)], 1⟩, ⟨[(.v 38, false)], .call F_eqWorkshop 0 1, [.v 18, .v 19, .v 20, .v 21, .v 22, .v 23, .v 24, .v 25, .v 26, .v 27, .v 6, .v 7, .v 8, .v 9, .v 10, .v 11, .v 12, .v 13, .v 14, .v 15], 1⟩, ⟨[(.v 38, false)], .un .not, [.v 39], 1⟩, ⟨[], .pick, [.v 38, .k (.bool true), .v 40], 1⟩, ⟨[(.v 41, false)], .binb .neq, [.v 28, .v 16], 1⟩, ⟨[], .pick, [.v 41, .k (.bool true), .v 42], 1⟩]) (.ite (.v 43) (.seq (.rg []) (.ret [.k (.bool false)])) (.skip))) (laws_FnExactOpenWorkshop_r1))))
theorem laws_FnExactOpenWorkshop_r0_sh (Q : QT) (x0 x1 x2 x3 x4 x5 x6 x7 x8 x9 x10 x11 x12 x13 x14 x15 x16 x17 x18 x19 x20 x21 x22 x23 x24 x25 x26 x27 x28 x29 x30 x31 x32 : V) : shL laws_FnExactOpenWorkshop_r0 Q [x0, x1, x2, x3, x4, x5, x6, x7, x8, x9, x10, x11, x12, x13, x14, x15, x16, x17, x18, x19, x20, x21, x22, x23, x24, x25, x26, x27, x28, x29, x30, x31, x32] = (
  P1 (.call F_toIntS 0 1) [x1] fun v0 =>
  P1 (.call F_eqIntS 0 1) [x17, v0] fun v1 =>
  P1 (.un .not) [v1] fun v2 =>
  ifB v2 (
    Q .ret [.bool false]) (
    P2 (.call F_markIntS 1 1) [x17, .int .i64 1, x17] fun v3 v4 =>
    P1 (.bin .lss) [v3, .int .i64 0] fun v5 =>
    ifB v5 (
      Q .ret [.bool false]) (
      P1 (.call F_eqWorkshop 0 1) [x18, x19, x20, x21, x22, x23, x24, x25, x26, x27, x6, x7, x8, x9, x10, x11, x12, x13, x14, x15] fun v6 =>
      P1 (.un .not) [v6] fun v7 =>
      ifB v7 (
        Q .ret [.bool false]) (
        P1 (.binb .neq) [x28, x16] fun v8 =>
        ifB v8 (
          Q .ret [.bool false]) (
          shL laws_FnExactOpenWorkshop_r1 Q [x0, x1, x2, x3, x4, x5, x6, x7, x8, x9, x10, x11, x12, x13, x14, x15, x16, x17, x18, x19, x20, x21, x22, x23, x24, x25, x26, x27, x28, x29, x30, x31, x32, v0, v1, .bool false, v3, v4, .bool false, v6, v7, .bool false, v8, .bool false]))))) := by kernel_rfl

def laws_FnExactOpenWorkshop_L : L := .seq (.rg []) (.seq (.seq (.rg [⟨[], .len, [.v 1], 1⟩, ⟨[], .bin .gtr, [.v 3, .k (.int .i64 1048576)], 1⟩]) (.ite (.v 4) (.seq (.rg []) (.ret [.k (.bool true)])) (.skip))) (.seq (.rg [⟨[], .call F_toIntS 0 1, [.v 1], 1⟩, ⟨[], .call F_OpenWorkshop 0 11, [.v 0, .v 5, .v 2], 11⟩]) (.seq (.rg [⟨[], .call F_toIntS 0 1, [.v 1], 1⟩]) (.seq (.rg [⟨[], .call F_OpenWorkshop 0 11, [.v 0, .v 17, .v 2], 11⟩]) (.seq (.seq (.rg [⟨[], .call F_eqWorkshop 0 1, [.v 18, .v 19, .v 20, .v 21, .v 22, .v 23, .v 24, .v 25, .v 26, .v 27, .v 6, .v 7, .v 8, .v 9, .v 10, .v 11, .v 12, .v 13, .v 14, .v 15], 1⟩, ⟨[], .un .not, [.v 29], 1⟩, ⟨[(.v 30, false)], .binb .neq, [.v 28, .v 16], 1⟩, ⟨[], .pick, [.v 30, .k (.bool true), .v 31], 1⟩]) (.ite (.v 32) (.seq (.rg []) (.ret [.k (.bool false)])) (.skip))) (laws_FnExactOpenWorkshop_r0))))))
theorem laws_FnExactOpenWorkshop_L_sh (Q : QT) (x0 x1 x2 : V) : shL laws_FnExactOpenWorkshop_L Q [x0, x1, x2] = (
  P1 (.len) [x1] fun v0 =>
  P1 (.bin .gtr) [v0, .int .i64 1048576] fun v1 =>
  ifB v1 (
    Q .ret [.bool true]) (
    P1 (.call F_toIntS 0 1) [x1] fun v2 =>
    P11 (.call F_OpenWorkshop 0 11) [x0, v2, x2] fun v3 v4 v5 v6 v7 v8 v9 v10 v11 v12 v13 =>
    P1 (.call F_toIntS 0 1) [x1] fun v14 =>
    P11 (.call F_OpenWorkshop 0 11) [x0, v14, x2] fun v15 v16 v17 v18 v19 v20 v21 v22 v23 v24 v25 =>
    P1 (.call F_eqWorkshop 0 1) [v15, v16, v17, v18, v19, v20, v21, v22, v23, v24, v3, v4, v5, v6, v7, v8, v9, v10, v11, v12] fun v26 =>
    P1 (.un .not) [v26] fun v27 =>
    ifB v27 (
      Q .ret [.bool false]) (
      P1 (.binb .neq) [v25, v13] fun v28 =>
      ifB v28 (
        Q .ret [.bool false]) (
        shL laws_FnExactOpenWorkshop_r0 Q [x0, x1, x2, v0, .bool false, v2, v3, v4, v5, v6, v7, v8, v9, v10, v11, v12, v13, v14, v15, v16, v17, v18, v19, v20, v21, v22, v23, v24, v25, v26, .bool false, v28, .bool false])))) := by kernel_rfl
def laws_FnExactOpenWorkshop_S : Sig := ⟨[.val false [.sc], .val false [.sl [.sc]], .val false [.sc]], [(false, [.sc])], F_FnExactOpenWorkshop⟩
def laws_FnExactOpenWorkshop_hs : List NF := []

def spec_SampleWorkshop_L : L := .seq (.rg []) (.seq (.rg [⟨[], .lst [.sc] false 4, [.k (.int .i64 12), .k (.int .i64 12), .k (.int .i64 16), .k (.int .i64 19)], 1⟩, ⟨[], .call F_OpenWorkshop 0 11, [.k (.int .i64 16), .v 0, .k (.int .i64 40)], 11⟩]) (.seq (.rg []) (.ret [.v 1, .v 2, .v 3, .v 4, .v 5, .v 6, .v 7, .v 8, .v 9, .v 10])))
theorem spec_SampleWorkshop_L_sh (Q : QT) : shL spec_SampleWorkshop_L Q [] = (
  P1 (.lst [.sc] false 4) [.int .i64 12, .int .i64 12, .int .i64 16, .int .i64 19] fun v0 =>
  P11 (.call F_OpenWorkshop 0 11) [.int .i64 16, v0, .int .i64 40] fun v1 v2 v3 v4 v5 v6 v7 v8 v9 v10 _ =>
  Q .ret [v1, v2, v3, v4, v5, v6, v7, v8, v9, v10]) := by kernel_rfl
def spec_SampleWorkshop_S : Sig := ⟨[], [(true, [.sc, .sc, .sl [.sc, .sc], .sl [.sl [.sc, .sc]], .sl [.sc], .sc, .sc, .sc, .sc, .sc])], F_SampleWorkshop⟩
def spec_SampleWorkshop_hs : List NF := []

def impl_SampleWorkshop_L : L := .seq (.rg []) (.seq (.rg [⟨[], .lst [.sc] false 4, [.k (.int .i64 12), .k (.int .i64 12), .k (.int .i64 16), .k (.int .i64 19)], 1⟩, ⟨[], .call F_OpenWorkshop 0 11, [.k (.int .i64 16), .v 0, .k (.int .i64 40)], 11⟩]) (.seq (.rg []) (.ret [.v 1, .v 2, .v 3, .v 4, .v 5, .v 6, .v 7, .v 8, .v 9, .v 10])))
theorem impl_SampleWorkshop_L_sh (Q : QT) : shL impl_SampleWorkshop_L Q [] = (
  P1 (.lst [.sc] false 4) [.int .i64 12, .int .i64 12, .int .i64 16, .int .i64 19] fun v0 =>
  P11 (.call F_OpenWorkshop 0 11) [.int .i64 16, v0, .int .i64 40] fun v1 v2 v3 v4 v5 v6 v7 v8 v9 v10 _ =>
  Q .ret [v1, v2, v3, v4, v5, v6, v7, v8, v9, v10]) := by kernel_rfl
def impl_SampleWorkshop_S : Sig := ⟨[], [(true, [.sc, .sc, .sl [.sc, .sc], .sl [.sl [.sc, .sc]], .sl [.sc], .sc, .sc, .sc, .sc, .sc])], F_SampleWorkshop⟩
def impl_SampleWorkshop_hs : List NF := []

end
end Go.Mw

