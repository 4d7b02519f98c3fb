/- What functions of the program compute, as small pure programs, shown against plain Lean functions: no condition. -/
import Derived.KernelRfl
import Derived.Test.YtbpghjdibloppabPl1
/- The structs of the program, flat. -/
namespace Go.Mw
/-- A cylinder: steps, tracks, pins (track, angle). -/
structure Cyl where
  s : Int
  t : Int
  p : List T2
/-- A state: angle, on, played. -/
structure Stt where
  a : Int
  n : Bool
  p : Int
  deriving DecidableEq
/-- A bench: its cylinder, and the former pins. -/
structure Bench where
  s : Int
  t : Int
  p : List T2
  o : List (List T2)
/-- A workshop: its bench; comb; spring (turns, most, force); money; played. -/
structure Shop where
  s : Int
  t : Int
  p : List T2
  o : List (List T2)
  c : List Int
  u : Int
  m : Int
  f : Int
  y : Int
  d : Int
  deriving DecidableEq
@[simp] theorem Cyl.eta (x : Cyl) : Cyl.mk x.s x.t x.p = x := rfl
@[simp] theorem Stt.eta (x : Stt) : Stt.mk x.a x.n x.p = x := rfl
@[simp] theorem P1_eqa22 {a b c d : Int} {k : V → Prop} : P1 (.eqa false [.i, .i]) [.int .i64 a, .int .i64 b, .int .i64 c, .int .i64 d] k ↔ k (.bool (decide (a = c ∧ b = d))) := P1_of (by simp only [Prim.run, eqVs, eqV1, List.length_cons, List.length_nil, List.take, List.drop, if_true]; cases h1 : a == c <;> cases h2 : b == d <;> simp_all) k
@[simp] theorem P1_nea22 {a b c d : Int} {k : V → Prop} : P1 (.eqa true [.i, .i]) [.int .i64 a, .int .i64 b, .int .i64 c, .int .i64 d] k ↔ k (.bool (!decide (a = c ∧ b = d))) := P1_of (by simp only [Prim.run, eqVs, eqV1, List.length_cons, List.length_nil, List.take, List.drop, if_true]; cases h1 : a == c <;> cases h2 : b == d <;> simp_all) k
@[simp] theorem P1_eqaX {a c e g : Int} {b f : Bool} {k : V → Prop} : P1 (.eqa false [.i, .b, .i]) [.int .i64 a, .bool b, .int .i64 c, .int .i64 e, .bool f, .int .i64 g] k ↔ k (.bool (decide (a = e ∧ b = f ∧ c = g))) := P1_of (by simp only [Prim.run, eqVs, eqV1, List.length_cons, List.length_nil, List.take, List.drop, if_true]; cases h1 : a == e <;> cases h2 : b == f <;> cases h3 : c == g <;> simp_all) k
theorem P1_lsub2 {α : Type} {ks : List AK} {f : α → V} {l : List α} {κ κ' : IntKind} {i j : Int} {k : V → Prop} : P1 (.lsub ks) [vL ks f l, .int κ i, .int κ' j] k ↔ (0 ≤ i ∧ i ≤ j ∧ j ≤ l.length) ∧ k (vL ks f ((l.take j.toNat).drop i.toNat)) :=
  P1_opt (by simp only [Prim.run, vL, AK.eqs_refl, if_true, subB, List.length_map]; split <;> simp_all [List.map_drop, List.map_take]) k
theorem P1_lsub1 {α : Type} {ks : List AK} {f : α → V} {l : List α} {κ : IntKind} {i : Int} {k : V → Prop} : P1 (.lsub ks) [vL ks f l, .int κ i] k ↔ (0 ≤ i ∧ i ≤ l.length) ∧ k (vL ks f (l.drop i.toNat)) :=
  P1_opt (by simp only [Prim.run, vL, AK.eqs_refl, if_true, subB, List.length_map]; split <;> simp_all [List.map_drop, List.take_of_length_le]) k
@[simp] theorem P1_lsubI_2 {l : List Int} {κ κ' : IntKind} {i j : Int} {k : V → Prop} : P1 (.lsub [.sc]) [vL I1 v1 l, .int κ i, .int κ' j] k ↔ (0 ≤ i ∧ i ≤ j ∧ j ≤ l.length) ∧ k (vL I1 v1 ((l.take j.toNat).drop i.toNat)) := P1_lsub2
@[simp] theorem P1_lsubI_1 {l : List Int} {κ : IntKind} {i : Int} {k : V → Prop} : P1 (.lsub [.sc]) [vL I1 v1 l, .int κ i] k ↔ (0 ≤ i ∧ i ≤ l.length) ∧ k (vL I1 v1 (l.drop i.toNat)) := P1_lsub1
@[simp] theorem P1_appI_ {l m : List Int} {b : Nat} {k : V → Prop} : P1 (.app [.sc] b) [vL I1 v1 l, vL I1 v1 m] k ↔ ((l.length + m.length) * b ≤ 140737488355328 ∧ l.length + m.length ≤ 140737488355328) ∧ k (vL I1 v1 (l ++ m)) := P1_app
@[simp] theorem P1_appI_0 {m : List Int} {b : Nat} {k : V → Prop} : P1 (.app [.sc] b) [.list [.sc] [], vL I1 v1 m] k ↔ (m.length * b ≤ 140737488355328 ∧ m.length ≤ 140737488355328) ∧ k (vL I1 v1 m) := P1_app0
@[simp] theorem P1_appI_1 {l : List Int} {b : Nat} {k : V → Prop} : P1 (.app [.sc] b) [vL I1 v1 l, .list [.sc] []] k ↔ (l.length * b ≤ 140737488355328 ∧ l.length ≤ 140737488355328) ∧ k (vL I1 v1 l) := P1_app1
@[simp] theorem P1_lsubY_2 {l : List UInt8} {κ κ' : IntKind} {i j : Int} {k : V → Prop} : P1 (.lsub [.sc]) [vL I1 vY l, .int κ i, .int κ' j] k ↔ (0 ≤ i ∧ i ≤ j ∧ j ≤ l.length) ∧ k (vL I1 vY ((l.take j.toNat).drop i.toNat)) := P1_lsub2
@[simp] theorem P1_lsubY_1 {l : List UInt8} {κ : IntKind} {i : Int} {k : V → Prop} : P1 (.lsub [.sc]) [vL I1 vY l, .int κ i] k ↔ (0 ≤ i ∧ i ≤ l.length) ∧ k (vL I1 vY (l.drop i.toNat)) := P1_lsub1
@[simp] theorem P1_appY_ {l m : List UInt8} {b : Nat} {k : V → Prop} : P1 (.app [.sc] b) [vL I1 vY l, vL I1 vY m] k ↔ ((l.length + m.length) * b ≤ 140737488355328 ∧ l.length + m.length ≤ 140737488355328) ∧ k (vL I1 vY (l ++ m)) := P1_app
@[simp] theorem P1_appY_0 {m : List UInt8} {b : Nat} {k : V → Prop} : P1 (.app [.sc] b) [.list [.sc] [], vL I1 vY m] k ↔ (m.length * b ≤ 140737488355328 ∧ m.length ≤ 140737488355328) ∧ k (vL I1 vY m) := P1_app0
@[simp] theorem P1_appY_1 {l : List UInt8} {b : Nat} {k : V → Prop} : P1 (.app [.sc] b) [vL I1 vY l, .list [.sc] []] k ↔ (l.length * b ≤ 140737488355328 ∧ l.length ≤ 140737488355328) ∧ k (vL I1 vY l) := P1_app1
@[simp] theorem P1_lsubS_2 {l : List (List UInt8)} {κ κ' : IntKind} {i j : Int} {k : V → Prop} : P1 (.lsub [.sc]) [vL I1 vS l, .int κ i, .int κ' j] k ↔ (0 ≤ i ∧ i ≤ j ∧ j ≤ l.length) ∧ k (vL I1 vS ((l.take j.toNat).drop i.toNat)) := P1_lsub2
@[simp] theorem P1_lsubS_1 {l : List (List UInt8)} {κ : IntKind} {i : Int} {k : V → Prop} : P1 (.lsub [.sc]) [vL I1 vS l, .int κ i] k ↔ (0 ≤ i ∧ i ≤ l.length) ∧ k (vL I1 vS (l.drop i.toNat)) := P1_lsub1
@[simp] theorem P1_appS_ {l m : List (List UInt8)} {b : Nat} {k : V → Prop} : P1 (.app [.sc] b) [vL I1 vS l, vL I1 vS m] k ↔ ((l.length + m.length) * b ≤ 140737488355328 ∧ l.length + m.length ≤ 140737488355328) ∧ k (vL I1 vS (l ++ m)) := P1_app
@[simp] theorem P1_appS_0 {m : List (List UInt8)} {b : Nat} {k : V → Prop} : P1 (.app [.sc] b) [.list [.sc] [], vL I1 vS m] k ↔ (m.length * b ≤ 140737488355328 ∧ m.length ≤ 140737488355328) ∧ k (vL I1 vS m) := P1_app0
@[simp] theorem P1_appS_1 {l : List (List UInt8)} {b : Nat} {k : V → Prop} : P1 (.app [.sc] b) [vL I1 vS l, .list [.sc] []] k ↔ (l.length * b ≤ 140737488355328 ∧ l.length ≤ 140737488355328) ∧ k (vL I1 vS l) := P1_app1
@[simp] theorem P1_lsub2_2 {l : List T2} {κ κ' : IntKind} {i j : Int} {k : V → Prop} : P1 (.lsub [.sc, .sc]) [vL I2 v2 l, .int κ i, .int κ' j] k ↔ (0 ≤ i ∧ i ≤ j ∧ j ≤ l.length) ∧ k (vL I2 v2 ((l.take j.toNat).drop i.toNat)) := P1_lsub2
@[simp] theorem P1_lsub2_1 {l : List T2} {κ : IntKind} {i : Int} {k : V → Prop} : P1 (.lsub [.sc, .sc]) [vL I2 v2 l, .int κ i] k ↔ (0 ≤ i ∧ i ≤ l.length) ∧ k (vL I2 v2 (l.drop i.toNat)) := P1_lsub1
@[simp] theorem P1_app2_ {l m : List T2} {b : Nat} {k : V → Prop} : P1 (.app [.sc, .sc] b) [vL I2 v2 l, vL I2 v2 m] k ↔ ((l.length + m.length) * b ≤ 140737488355328 ∧ l.length + m.length ≤ 140737488355328) ∧ k (vL I2 v2 (l ++ m)) := P1_app
@[simp] theorem P1_app2_0 {m : List T2} {b : Nat} {k : V → Prop} : P1 (.app [.sc, .sc] b) [.list [.sc, .sc] [], vL I2 v2 m] k ↔ (m.length * b ≤ 140737488355328 ∧ m.length ≤ 140737488355328) ∧ k (vL I2 v2 m) := P1_app0
@[simp] theorem P1_app2_1 {l : List T2} {b : Nat} {k : V → Prop} : P1 (.app [.sc, .sc] b) [vL I2 v2 l, .list [.sc, .sc] []] k ↔ (l.length * b ≤ 140737488355328 ∧ l.length ≤ 140737488355328) ∧ k (vL I2 v2 l) := P1_app1
@[simp] theorem P1_lsub3_2 {l : List T3} {κ κ' : IntKind} {i j : Int} {k : V → Prop} : P1 (.lsub [.sc, .sc, .sc]) [vL I3 v3 l, .int κ i, .int κ' j] k ↔ (0 ≤ i ∧ i ≤ j ∧ j ≤ l.length) ∧ k (vL I3 v3 ((l.take j.toNat).drop i.toNat)) := P1_lsub2
@[simp] theorem P1_lsub3_1 {l : List T3} {κ : IntKind} {i : Int} {k : V → Prop} : P1 (.lsub [.sc, .sc, .sc]) [vL I3 v3 l, .int κ i] k ↔ (0 ≤ i ∧ i ≤ l.length) ∧ k (vL I3 v3 (l.drop i.toNat)) := P1_lsub1
@[simp] theorem P1_app3_ {l m : List T3} {b : Nat} {k : V → Prop} : P1 (.app [.sc, .sc, .sc] b) [vL I3 v3 l, vL I3 v3 m] k ↔ ((l.length + m.length) * b ≤ 140737488355328 ∧ l.length + m.length ≤ 140737488355328) ∧ k (vL I3 v3 (l ++ m)) := P1_app
@[simp] theorem P1_app3_0 {m : List T3} {b : Nat} {k : V → Prop} : P1 (.app [.sc, .sc, .sc] b) [.list [.sc, .sc, .sc] [], vL I3 v3 m] k ↔ (m.length * b ≤ 140737488355328 ∧ m.length ≤ 140737488355328) ∧ k (vL I3 v3 m) := P1_app0
@[simp] theorem P1_app3_1 {l : List T3} {b : Nat} {k : V → Prop} : P1 (.app [.sc, .sc, .sc] b) [vL I3 v3 l, .list [.sc, .sc, .sc] []] k ↔ (l.length * b ≤ 140737488355328 ∧ l.length ≤ 140737488355328) ∧ k (vL I3 v3 l) := P1_app1
@[simp] theorem P1_lsubL2_2 {l : List (List T2)} {κ κ' : IntKind} {i j : Int} {k : V → Prop} : P1 (.lsub [.sl [.sc, .sc]]) [vL IL2 vLL2 l, .int κ i, .int κ' j] k ↔ (0 ≤ i ∧ i ≤ j ∧ j ≤ l.length) ∧ k (vL IL2 vLL2 ((l.take j.toNat).drop i.toNat)) := P1_lsub2
@[simp] theorem P1_lsubL2_1 {l : List (List T2)} {κ : IntKind} {i : Int} {k : V → Prop} : P1 (.lsub [.sl [.sc, .sc]]) [vL IL2 vLL2 l, .int κ i] k ↔ (0 ≤ i ∧ i ≤ l.length) ∧ k (vL IL2 vLL2 (l.drop i.toNat)) := P1_lsub1
@[simp] theorem P1_appL2_ {l m : List (List T2)} {b : Nat} {k : V → Prop} : P1 (.app [.sl [.sc, .sc]] b) [vL IL2 vLL2 l, vL IL2 vLL2 m] k ↔ ((l.length + m.length) * b ≤ 140737488355328 ∧ l.length + m.length ≤ 140737488355328) ∧ k (vL IL2 vLL2 (l ++ m)) := P1_app
@[simp] theorem P1_appL2_0 {m : List (List T2)} {b : Nat} {k : V → Prop} : P1 (.app [.sl [.sc, .sc]] b) [.list [.sl [.sc, .sc]] [], vL IL2 vLL2 m] k ↔ (m.length * b ≤ 140737488355328 ∧ m.length ≤ 140737488355328) ∧ k (vL IL2 vLL2 m) := P1_app0
@[simp] theorem P1_appL2_1 {l : List (List T2)} {b : Nat} {k : V → Prop} : P1 (.app [.sl [.sc, .sc]] b) [vL IL2 vLL2 l, .list [.sl [.sc, .sc]] []] k ↔ (l.length * b ≤ 140737488355328 ∧ l.length ≤ 140737488355328) ∧ k (vL IL2 vLL2 l) := P1_app1
end Go.Mw

/- What functions compute, in plain terms: pieces, pins, cylinders, states, digits, boxes. -/
namespace Go.Mw

/-! memory -/
def E_szPinS : List T2 × Int → List V := fun (l, n) => [vL I2 v2 l, .int .i64 n]
noncomputable def F_szPinS : List V → Option (List V) := mkF E_szPinS (fun (l, n) => l.length ≤ 9223372036854775807 ∧ 0 ≤ n ∧ n ≤ 1048576) (fun (l, n) => [.int .i64 (if (l.length : Int) ≤ n then n - l.length else -1)])
theorem F_szPinS_inj : ∀ x y, E_szPinS x = E_szPinS y → x = y := by
  rintro ⟨l, n⟩ ⟨l', n'⟩ h
  simpa [E_szPinS] using h
theorem F_szPinS_elim {P : List V → List V → Prop} (h : ∀ (l : List T2) (n : Int), (l.length ≤ 9223372036854775807 ∧ 0 ≤ n ∧ n ≤ 1048576) → P [vL I2 v2 l, .int .i64 n] [.int .i64 (if (l.length : Int) ≤ n then n - l.length else -1)]) : ∀ ds outs, F_szPinS ds = some outs → P ds outs := by
  intro ds outs hh
  obtain ⟨⟨l, n⟩, rfl, hp, rfl⟩ := mkF_inv hh
  exact h l n hp
theorem p_szPinS {l : List T2} {n : Int} {nr_ : Nat} {kk_ : V → Prop} (hp : l.length ≤ 9223372036854775807 ∧ 0 ≤ n ∧ n ≤ 1048576) : P1 (.call F_szPinS 0 nr_) [vL I2 v2 l, .int .i64 n] kk_ ↔ kk_ (.int .i64 (if (l.length : Int) ≤ n then n - l.length else -1)) :=
  P1_callF (by unfold F_szPinS; exact mkF_eq F_szPinS_inj (l, n) hp)

def E_toPinS (l : List T2) : List V := [vL I2 v2 l]
noncomputable def F_toPinS : List V → Option (List V) := mkF E_toPinS (fun l => l.length ≤ 1048576) (fun l => [vL I2 v2 l])
theorem F_toPinS_inj : ∀ x y, E_toPinS x = E_toPinS y → x = y := by
  rintro l l' h
  simpa [E_toPinS] using h
theorem F_toPinS_elim {P : List V → List V → Prop} (h : ∀ (l : List T2), (l.length ≤ 1048576) → P [vL I2 v2 l] [vL I2 v2 l]) : ∀ ds outs, F_toPinS ds = some outs → P ds outs := by
  intro ds outs hh
  obtain ⟨l, rfl, hp, rfl⟩ := mkF_inv hh
  exact h l hp
theorem p_toPinS {l : List T2} {nr_ : Nat} {kk_ : V → Prop} (hp : l.length ≤ 1048576) : P1 (.call F_toPinS 0 nr_) [vL I2 v2 l] kk_ ↔ kk_ (vL I2 v2 l) :=
  P1_callF (by unfold F_toPinS; exact mkF_eq F_toPinS_inj (l) hp)

def E_eqPinS : List T2 × List T2 → List V := fun (l, m) => [vL I2 v2 l, vL I2 v2 m]
noncomputable def F_eqPinS : List V → Option (List V) := mkF E_eqPinS (fun (l, m) => l.length ≤ 1048576 ∧ m.length ≤ 1048576) (fun (l, m) => [.bool (decide (l = m))])
theorem F_eqPinS_inj : ∀ x y, E_eqPinS x = E_eqPinS y → x = y := by
  rintro ⟨l, m⟩ ⟨l', m'⟩ h
  simpa [E_eqPinS] using h
theorem F_eqPinS_elim {P : List V → List V → Prop} (h : ∀ (l : List T2) (m : List T2), (l.length ≤ 1048576 ∧ m.length ≤ 1048576) → P [vL I2 v2 l, vL I2 v2 m] [.bool (decide (l = m))]) : ∀ ds outs, F_eqPinS ds = some outs → P ds outs := by
  intro ds outs hh
  obtain ⟨⟨l, m⟩, rfl, hp, rfl⟩ := mkF_inv hh
  exact h l m hp
theorem p_eqPinS {l : List T2} {m : List T2} {nr_ : Nat} {kk_ : V → Prop} (hp : l.length ≤ 1048576 ∧ m.length ≤ 1048576) : P1 (.call F_eqPinS 0 nr_) [vL I2 v2 l, vL I2 v2 m] kk_ ↔ kk_ (.bool (decide (l = m))) :=
  P1_callF (by unfold F_eqPinS; exact mkF_eq F_eqPinS_inj (l, m) hp)

def E_toIntS (l : List Int) : List V := [vL I1 v1 l]
noncomputable def F_toIntS : List V → Option (List V) := mkF E_toIntS (fun l => l.length ≤ 1048576) (fun l => [vL I1 v1 l])
theorem F_toIntS_inj : ∀ x y, E_toIntS x = E_toIntS y → x = y := by
  rintro l l' h
  simpa [E_toIntS] using h
theorem F_toIntS_elim {P : List V → List V → Prop} (h : ∀ (l : List Int), (l.length ≤ 1048576) → P [vL I1 v1 l] [vL I1 v1 l]) : ∀ ds outs, F_toIntS ds = some outs → P ds outs := by
  intro ds outs hh
  obtain ⟨l, rfl, hp, rfl⟩ := mkF_inv hh
  exact h l hp
theorem p_toIntS {l : List Int} {nr_ : Nat} {kk_ : V → Prop} (hp : l.length ≤ 1048576) : P1 (.call F_toIntS 0 nr_) [vL I1 v1 l] kk_ ↔ kk_ (vL I1 v1 l) :=
  P1_callF (by unfold F_toIntS; exact mkF_eq F_toIntS_inj (l) hp)

def E_eqIntS : List Int × List Int → List V := fun (l, m) => [vL I1 v1 l, vL I1 v1 m]
noncomputable def F_eqIntS : List V → Option (List V) := mkF E_eqIntS (fun (l, m) => l.length ≤ 1048576 ∧ m.length ≤ 1048576) (fun (l, m) => [.bool (decide (l = m))])
theorem F_eqIntS_inj : ∀ x y, E_eqIntS x = E_eqIntS y → x = y := by
  rintro ⟨l, m⟩ ⟨l', m'⟩ h
  simpa [E_eqIntS] using h
theorem F_eqIntS_elim {P : List V → List V → Prop} (h : ∀ (l : List Int) (m : List Int), (l.length ≤ 1048576 ∧ m.length ≤ 1048576) → P [vL I1 v1 l, vL I1 v1 m] [.bool (decide (l = m))]) : ∀ ds outs, F_eqIntS ds = some outs → P ds outs := by
  intro ds outs hh
  obtain ⟨⟨l, m⟩, rfl, hp, rfl⟩ := mkF_inv hh
  exact h l m hp
theorem p_eqIntS {l : List Int} {m : List Int} {nr_ : Nat} {kk_ : V → Prop} (hp : l.length ≤ 1048576 ∧ m.length ≤ 1048576) : P1 (.call F_eqIntS 0 nr_) [vL I1 v1 l, vL I1 v1 m] kk_ ↔ kk_ (.bool (decide (l = m))) :=
  P1_callF (by unfold F_eqIntS; exact mkF_eq F_eqIntS_inj (l, m) hp)

def E_szBoxS : List T3 × Int → List V := fun (l, n) => [vL I3 v3 l, .int .i64 n]
noncomputable def F_szBoxS : List V → Option (List V) := mkF E_szBoxS (fun (l, n) => l.length ≤ 9223372036854775807 ∧ 0 ≤ n ∧ n ≤ 1048576) (fun (l, n) => [.int .i64 (if (l.length : Int) ≤ n then n - l.length else -1)])
theorem F_szBoxS_inj : ∀ x y, E_szBoxS x = E_szBoxS y → x = y := by
  rintro ⟨l, n⟩ ⟨l', n'⟩ h
  simpa [E_szBoxS] using h
theorem F_szBoxS_elim {P : List V → List V → Prop} (h : ∀ (l : List T3) (n : Int), (l.length ≤ 9223372036854775807 ∧ 0 ≤ n ∧ n ≤ 1048576) → P [vL I3 v3 l, .int .i64 n] [.int .i64 (if (l.length : Int) ≤ n then n - l.length else -1)]) : ∀ ds outs, F_szBoxS ds = some outs → P ds outs := by
  intro ds outs hh
  obtain ⟨⟨l, n⟩, rfl, hp, rfl⟩ := mkF_inv hh
  exact h l n hp
theorem p_szBoxS {l : List T3} {n : Int} {nr_ : Nat} {kk_ : V → Prop} (hp : l.length ≤ 9223372036854775807 ∧ 0 ≤ n ∧ n ≤ 1048576) : P1 (.call F_szBoxS 0 nr_) [vL I3 v3 l, .int .i64 n] kk_ ↔ kk_ (.int .i64 (if (l.length : Int) ≤ n then n - l.length else -1)) :=
  P1_callF (by unfold F_szBoxS; exact mkF_eq F_szBoxS_inj (l, n) hp)

def E_toBoxS (l : List T3) : List V := [vL I3 v3 l]
noncomputable def F_toBoxS : List V → Option (List V) := mkF E_toBoxS (fun l => l.length ≤ 1048576) (fun l => [vL I3 v3 l])
theorem F_toBoxS_inj : ∀ x y, E_toBoxS x = E_toBoxS y → x = y := by
  rintro l l' h
  simpa [E_toBoxS] using h
theorem F_toBoxS_elim {P : List V → List V → Prop} (h : ∀ (l : List T3), (l.length ≤ 1048576) → P [vL I3 v3 l] [vL I3 v3 l]) : ∀ ds outs, F_toBoxS ds = some outs → P ds outs := by
  intro ds outs hh
  obtain ⟨l, rfl, hp, rfl⟩ := mkF_inv hh
  exact h l hp
theorem p_toBoxS {l : List T3} {nr_ : Nat} {kk_ : V → Prop} (hp : l.length ≤ 1048576) : P1 (.call F_toBoxS 0 nr_) [vL I3 v3 l] kk_ ↔ kk_ (vL I3 v3 l) :=
  P1_callF (by unfold F_toBoxS; exact mkF_eq F_toBoxS_inj (l) hp)

def E_eqBoxS : List T3 × List T3 → List V := fun (l, m) => [vL I3 v3 l, vL I3 v3 m]
noncomputable def F_eqBoxS : List V → Option (List V) := mkF E_eqBoxS (fun (l, m) => l.length ≤ 1048576 ∧ m.length ≤ 1048576) (fun (l, m) => [.bool (decide (l = m))])
theorem F_eqBoxS_inj : ∀ x y, E_eqBoxS x = E_eqBoxS y → x = y := by
  rintro ⟨l, m⟩ ⟨l', m'⟩ h
  simpa [E_eqBoxS] using h
theorem F_eqBoxS_elim {P : List V → List V → Prop} (h : ∀ (l : List T3) (m : List T3), (l.length ≤ 1048576 ∧ m.length ≤ 1048576) → P [vL I3 v3 l, vL I3 v3 m] [.bool (decide (l = m))]) : ∀ ds outs, F_eqBoxS ds = some outs → P ds outs := by
  intro ds outs hh
  obtain ⟨⟨l, m⟩, rfl, hp, rfl⟩ := mkF_inv hh
  exact h l m hp
theorem p_eqBoxS {l : List T3} {m : List T3} {nr_ : Nat} {kk_ : V → Prop} (hp : l.length ≤ 1048576 ∧ m.length ≤ 1048576) : P1 (.call F_eqBoxS 0 nr_) [vL I3 v3 l, vL I3 v3 m] kk_ ↔ kk_ (.bool (decide (l = m))) :=
  P1_callF (by unfold F_eqBoxS; exact mkF_eq F_eqBoxS_inj (l, m) hp)

def E_markIntS : List Int × Int → List V := fun (l, k) => [vL I1 v1 l, .int .i64 k]
noncomputable def F_markIntS : List V → Option (List V) := mkF E_markIntS (fun (l, k) => l.length ≤ 4194304 ∧ 0 ≤ k ∧ k ≤ 1099511627776) (fun (l, k) => [.int .i64 (k + 1 * l.length), vL I1 v1 (markL1 l.length k)])
theorem F_markIntS_inj : ∀ x y, E_markIntS x = E_markIntS y → x = y := by
  rintro ⟨l, k⟩ ⟨l', k'⟩ h
  simpa [E_markIntS] using h
theorem F_markIntS_elim {P : List V → List V → Prop} (h : ∀ (l : List Int) (k : Int), (l.length ≤ 4194304 ∧ 0 ≤ k ∧ k ≤ 1099511627776) → P [vL I1 v1 l, .int .i64 k] [.int .i64 (k + 1 * l.length), vL I1 v1 (markL1 l.length k)]) : ∀ ds outs, F_markIntS ds = some outs → P ds outs := by
  intro ds outs hh
  obtain ⟨⟨l, k⟩, rfl, hp, rfl⟩ := mkF_inv hh
  exact h l k hp
theorem p_markIntS {l : List Int} {k : Int} {kk_ : V → V → Prop} (hp : l.length ≤ 4194304 ∧ 0 ≤ k ∧ k ≤ 1099511627776) : P2 (.call F_markIntS 1 1) [vL I1 v1 l, .int .i64 k, vL I1 v1 l] kk_ ↔ kk_ (.int .i64 (k + 1 * l.length)) (vL I1 v1 (markL1 l.length k)) :=
  P2_of (callIo_run (as := [vL I1 v1 l, .int .i64 k]) (rs := [vL I1 v1 l]) (n := 1) (nr := 1) rfl (by simp) (by unfold F_markIntS; exact mkF_eq F_markIntS_inj (l, k) hp) (by simp [ksAll, vL, AK.eqs_refl]))

def E_heldIntS : List Int × Int → List V := fun (l, k) => [vL I1 v1 l, .int .i64 k]
noncomputable def F_heldIntS : List V → Option (List V) := mkF E_heldIntS (fun (l, k) => l.length ≤ 4194304 ∧ 0 ≤ k ∧ k ≤ 1099511627776) (fun (l, k) => [.int .i64 (if l = markL1 l.length k then k + 1 * l.length else -1)])
theorem F_heldIntS_inj : ∀ x y, E_heldIntS x = E_heldIntS y → x = y := by
  rintro ⟨l, k⟩ ⟨l', k'⟩ h
  simpa [E_heldIntS] using h
theorem F_heldIntS_elim {P : List V → List V → Prop} (h : ∀ (l : List Int) (k : Int), (l.length ≤ 4194304 ∧ 0 ≤ k ∧ k ≤ 1099511627776) → P [vL I1 v1 l, .int .i64 k] [.int .i64 (if l = markL1 l.length k then k + 1 * l.length else -1)]) : ∀ ds outs, F_heldIntS ds = some outs → P ds outs := by
  intro ds outs hh
  obtain ⟨⟨l, k⟩, rfl, hp, rfl⟩ := mkF_inv hh
  exact h l k hp
theorem p_heldIntS {l : List Int} {k : Int} {nr_ : Nat} {kk_ : V → Prop} (hp : l.length ≤ 4194304 ∧ 0 ≤ k ∧ k ≤ 1099511627776) : P1 (.call F_heldIntS 0 nr_) [vL I1 v1 l, .int .i64 k] kk_ ↔ kk_ (.int .i64 (if l = markL1 l.length k then k + 1 * l.length else -1)) :=
  P1_callF (by unfold F_heldIntS; exact mkF_eq F_heldIntS_inj (l, k) hp)

def E_markPinS : List T2 × Int → List V := fun (l, k) => [vL I2 v2 l, .int .i64 k]
noncomputable def F_markPinS : List V → Option (List V) := mkF E_markPinS (fun (l, k) => l.length ≤ 4194304 ∧ 0 ≤ k ∧ k ≤ 1099511627776) (fun (l, k) => [.int .i64 (k + 2 * l.length), vL I2 v2 (markL2 l.length k)])
theorem F_markPinS_inj : ∀ x y, E_markPinS x = E_markPinS y → x = y := by
  rintro ⟨l, k⟩ ⟨l', k'⟩ h
  simpa [E_markPinS] using h
theorem F_markPinS_elim {P : List V → List V → Prop} (h : ∀ (l : List T2) (k : Int), (l.length ≤ 4194304 ∧ 0 ≤ k ∧ k ≤ 1099511627776) → P [vL I2 v2 l, .int .i64 k] [.int .i64 (k + 2 * l.length), vL I2 v2 (markL2 l.length k)]) : ∀ ds outs, F_markPinS ds = some outs → P ds outs := by
  intro ds outs hh
  obtain ⟨⟨l, k⟩, rfl, hp, rfl⟩ := mkF_inv hh
  exact h l k hp
theorem p_markPinS {l : List T2} {k : Int} {kk_ : V → V → Prop} (hp : l.length ≤ 4194304 ∧ 0 ≤ k ∧ k ≤ 1099511627776) : P2 (.call F_markPinS 1 1) [vL I2 v2 l, .int .i64 k, vL I2 v2 l] kk_ ↔ kk_ (.int .i64 (k + 2 * l.length)) (vL I2 v2 (markL2 l.length k)) :=
  P2_of (callIo_run (as := [vL I2 v2 l, .int .i64 k]) (rs := [vL I2 v2 l]) (n := 1) (nr := 1) rfl (by simp) (by unfold F_markPinS; exact mkF_eq F_markPinS_inj (l, k) hp) (by simp [ksAll, vL, AK.eqs_refl]))


def E_toPin (x : T2) : List V := [.int .i64 x.a, .int .i64 x.b]
noncomputable def F_toPin : List V → Option (List V) := mkF E_toPin (fun _ => True) (fun x => [.int .i64 x.a, .int .i64 x.b])
theorem F_toPin_inj : ∀ x y, E_toPin x = E_toPin y → x = y := by
  rintro ⟨xa, xb⟩ ⟨xa', xb'⟩ h
  simpa [E_toPin] using h
theorem F_toPin_elim {P : List V → List V → Prop} (h : ∀ (x : T2), P [.int .i64 x.a, .int .i64 x.b] [.int .i64 x.a, .int .i64 x.b]) : ∀ ds outs, F_toPin ds = some outs → P ds outs := by
  intro ds outs hh
  obtain ⟨x, rfl, -, rfl⟩ := mkF_inv hh
  exact h x
@[simp] theorem p_toPin {x_a : Int} {x_b : Int} {nr_ : Nat} {kk_ : V → V → Prop} : P2 (.call F_toPin 0 nr_) [.int .i64 x_a, .int .i64 x_b] kk_ ↔ kk_ (.int .i64 ((⟨x_a, x_b⟩ : T2)).a) (.int .i64 ((⟨x_a, x_b⟩ : T2)).b) :=
  P2_callF (by unfold F_toPin; exact mkF_eq F_toPin_inj ((⟨x_a, x_b⟩ : T2)) trivial)

def E_eqPin : T2 × T2 → List V := fun (x, y) => [.int .i64 x.a, .int .i64 x.b, .int .i64 y.a, .int .i64 y.b]
noncomputable def F_eqPin : List V → Option (List V) := mkF E_eqPin (fun (_, _) => True) (fun (x, y) => [.bool (decide (x = y))])
theorem F_eqPin_inj : ∀ x y, E_eqPin x = E_eqPin y → x = y := by
  rintro ⟨⟨xa, xb⟩, ⟨ya, yb⟩⟩ ⟨⟨xa', xb'⟩, ⟨ya', yb'⟩⟩ h
  simpa [E_eqPin, and_assoc] using h
theorem F_eqPin_elim {P : List V → List V → Prop} (h : ∀ (x : T2) (y : T2), P [.int .i64 x.a, .int .i64 x.b, .int .i64 y.a, .int .i64 y.b] [.bool (decide (x = y))]) : ∀ ds outs, F_eqPin ds = some outs → P ds outs := by
  intro ds outs hh
  obtain ⟨⟨x, y⟩, rfl, -, rfl⟩ := mkF_inv hh
  exact h x y
@[simp] theorem p_eqPin {x_a : Int} {x_b : Int} {y_a : Int} {y_b : Int} {nr_ : Nat} {kk_ : V → Prop} : P1 (.call F_eqPin 0 nr_) [.int .i64 x_a, .int .i64 x_b, .int .i64 y_a, .int .i64 y_b] kk_ ↔ kk_ (.bool (decide ((⟨x_a, x_b⟩ : T2) = (⟨y_a, y_b⟩ : T2)))) :=
  P1_callF (by unfold F_eqPin; exact mkF_eq F_eqPin_inj ((⟨x_a, x_b⟩ : T2), (⟨y_a, y_b⟩ : T2)) trivial)

def E_szCylinder : Cyl × Int → List V := fun (x, n) => [.int .i64 x.s, .int .i64 x.t, vL I2 v2 x.p, .int .i64 n]
noncomputable def F_szCylinder : List V → Option (List V) := mkF E_szCylinder (fun (x, n) => x.p.length ≤ 9223372036854775807 ∧ 0 ≤ n ∧ n ≤ 1048576) (fun (x, n) => [.int .i64 (if (x.p.length : Int) ≤ n then n - x.p.length else -1)])
theorem F_szCylinder_inj : ∀ x y, E_szCylinder x = E_szCylinder y → x = y := by
  rintro ⟨⟨xs, xt, xp⟩, n⟩ ⟨⟨xs', xt', xp'⟩, n'⟩ h
  simpa [E_szCylinder, and_assoc] using h
theorem F_szCylinder_elim {P : List V → List V → Prop} (h : ∀ (x : Cyl) (n : Int), (x.p.length ≤ 9223372036854775807 ∧ 0 ≤ n ∧ n ≤ 1048576) → P [.int .i64 x.s, .int .i64 x.t, vL I2 v2 x.p, .int .i64 n] [.int .i64 (if (x.p.length : Int) ≤ n then n - x.p.length else -1)]) : ∀ ds outs, F_szCylinder ds = some outs → P ds outs := by
  intro ds outs hh
  obtain ⟨⟨x, n⟩, rfl, hp, rfl⟩ := mkF_inv hh
  exact h x n hp
theorem p_szCylinder {x_s : Int} {x_t : Int} {x_p : List T2} {n : Int} {nr_ : Nat} {kk_ : V → Prop} (hp : (⟨x_s, x_t, x_p⟩ : Cyl).p.length ≤ 9223372036854775807 ∧ 0 ≤ n ∧ n ≤ 1048576) : P1 (.call F_szCylinder 0 nr_) [.int .i64 x_s, .int .i64 x_t, vL I2 v2 x_p, .int .i64 n] kk_ ↔ kk_ (.int .i64 (if ((⟨x_s, x_t, x_p⟩ : Cyl).p.length : Int) ≤ n then n - (⟨x_s, x_t, x_p⟩ : Cyl).p.length else -1)) :=
  P1_callF (by unfold F_szCylinder; exact mkF_eq F_szCylinder_inj ((⟨x_s, x_t, x_p⟩ : Cyl), n) hp)

def E_toCylinder (x : Cyl) : List V := [.int .i64 x.s, .int .i64 x.t, vL I2 v2 x.p]
noncomputable def F_toCylinder : List V → Option (List V) := mkF E_toCylinder (fun x => x.p.length ≤ 1048576) (fun x => [.int .i64 x.s, .int .i64 x.t, vL I2 v2 x.p])
theorem F_toCylinder_inj : ∀ x y, E_toCylinder x = E_toCylinder y → x = y := by
  rintro ⟨xs, xt, xp⟩ ⟨xs', xt', xp'⟩ h
  simpa [E_toCylinder] using h
theorem F_toCylinder_elim {P : List V → List V → Prop} (h : ∀ (x : Cyl), (x.p.length ≤ 1048576) → P [.int .i64 x.s, .int .i64 x.t, vL I2 v2 x.p] [.int .i64 x.s, .int .i64 x.t, vL I2 v2 x.p]) : ∀ ds outs, F_toCylinder ds = some outs → P ds outs := by
  intro ds outs hh
  obtain ⟨x, rfl, hp, rfl⟩ := mkF_inv hh
  exact h x hp
theorem p_toCylinder {x_s : Int} {x_t : Int} {x_p : List T2} {nr_ : Nat} {kk_ : V → V → V → Prop} (hp : (⟨x_s, x_t, x_p⟩ : Cyl).p.length ≤ 1048576) : P3 (.call F_toCylinder 0 nr_) [.int .i64 x_s, .int .i64 x_t, vL I2 v2 x_p] kk_ ↔ kk_ (.int .i64 ((⟨x_s, x_t, x_p⟩ : Cyl)).s) (.int .i64 ((⟨x_s, x_t, x_p⟩ : Cyl)).t) (vL I2 v2 ((⟨x_s, x_t, x_p⟩ : Cyl)).p) :=
  P3_callF (by unfold F_toCylinder; exact mkF_eq F_toCylinder_inj ((⟨x_s, x_t, x_p⟩ : Cyl)) hp)

def E_toState (x : Stt) : List V := [.int .i64 x.a, .bool x.n, .int .i64 x.p]
noncomputable def F_toState : List V → Option (List V) := mkF E_toState (fun _ => True) (fun x => [.int .i64 x.a, .bool x.n, .int .i64 x.p])
theorem F_toState_inj : ∀ x y, E_toState x = E_toState y → x = y := by
  rintro ⟨xa, xn, xp⟩ ⟨xa', xn', xp'⟩ h
  simpa [E_toState] using h
theorem F_toState_elim {P : List V → List V → Prop} (h : ∀ (x : Stt), P [.int .i64 x.a, .bool x.n, .int .i64 x.p] [.int .i64 x.a, .bool x.n, .int .i64 x.p]) : ∀ ds outs, F_toState ds = some outs → P ds outs := by
  intro ds outs hh
  obtain ⟨x, rfl, -, rfl⟩ := mkF_inv hh
  exact h x
@[simp] theorem p_toState {x_a : Int} {x_n : Bool} {x_p : Int} {nr_ : Nat} {kk_ : V → V → V → Prop} : P3 (.call F_toState 0 nr_) [.int .i64 x_a, .bool x_n, .int .i64 x_p] kk_ ↔ kk_ (.int .i64 ((⟨x_a, x_n, x_p⟩ : Stt)).a) (.bool ((⟨x_a, x_n, x_p⟩ : Stt)).n) (.int .i64 ((⟨x_a, x_n, x_p⟩ : Stt)).p) :=
  P3_callF (by unfold F_toState; exact mkF_eq F_toState_inj ((⟨x_a, x_n, x_p⟩ : Stt)) trivial)

def E_eqState : Stt × Stt → List V := fun (x, y) => [.int .i64 x.a, .bool x.n, .int .i64 x.p, .int .i64 y.a, .bool y.n, .int .i64 y.p]
noncomputable def F_eqState : List V → Option (List V) := mkF E_eqState (fun (_, _) => True) (fun (x, y) => [.bool (decide (x = y))])
theorem F_eqState_inj : ∀ x y, E_eqState x = E_eqState y → x = y := by
  rintro ⟨⟨xa, xn, xp⟩, ⟨ya, yn, yp⟩⟩ ⟨⟨xa', xn', xp'⟩, ⟨ya', yn', yp'⟩⟩ h
  simpa [E_eqState, and_assoc] using h
theorem F_eqState_elim {P : List V → List V → Prop} (h : ∀ (x : Stt) (y : Stt), P [.int .i64 x.a, .bool x.n, .int .i64 x.p, .int .i64 y.a, .bool y.n, .int .i64 y.p] [.bool (decide (x = y))]) : ∀ ds outs, F_eqState ds = some outs → P ds outs := by
  intro ds outs hh
  obtain ⟨⟨x, y⟩, rfl, -, rfl⟩ := mkF_inv hh
  exact h x y
@[simp] theorem p_eqState {x_a : Int} {x_n : Bool} {x_p : Int} {y_a : Int} {y_n : Bool} {y_p : Int} {nr_ : Nat} {kk_ : V → Prop} : P1 (.call F_eqState 0 nr_) [.int .i64 x_a, .bool x_n, .int .i64 x_p, .int .i64 y_a, .bool y_n, .int .i64 y_p] kk_ ↔ kk_ (.bool (decide ((⟨x_a, x_n, x_p⟩ : Stt) = (⟨y_a, y_n, y_p⟩ : Stt)))) :=
  P1_callF (by unfold F_eqState; exact mkF_eq F_eqState_inj ((⟨x_a, x_n, x_p⟩ : Stt), (⟨y_a, y_n, y_p⟩ : Stt)) trivial)

def E_eqCylinder : Cyl × Cyl → List V := fun (x, y) => [.int .i64 x.s, .int .i64 x.t, vL I2 v2 x.p, .int .i64 y.s, .int .i64 y.t, vL I2 v2 y.p]
noncomputable def F_eqCylinder : List V → Option (List V) := mkF E_eqCylinder (fun (x, y) => x.p.length ≤ 1048576 ∧ y.p.length ≤ 1048576) (fun (x, y) => [.bool (decide (x.s = y.s ∧ x.t = y.t ∧ x.p = y.p))])
theorem F_eqCylinder_inj : ∀ x y, E_eqCylinder x = E_eqCylinder y → x = y := by
  rintro ⟨⟨xs, xt, xp⟩, ⟨ys, yt, yp⟩⟩ ⟨⟨xs', xt', xp'⟩, ⟨ys', yt', yp'⟩⟩ h
  simpa [E_eqCylinder, and_assoc] using h
theorem F_eqCylinder_elim {P : List V → List V → Prop} (h : ∀ (x : Cyl) (y : Cyl), (x.p.length ≤ 1048576 ∧ y.p.length ≤ 1048576) → P [.int .i64 x.s, .int .i64 x.t, vL I2 v2 x.p, .int .i64 y.s, .int .i64 y.t, vL I2 v2 y.p] [.bool (decide (x.s = y.s ∧ x.t = y.t ∧ x.p = y.p))]) : ∀ ds outs, F_eqCylinder ds = some outs → P ds outs := by
  intro ds outs hh
  obtain ⟨⟨x, y⟩, rfl, hp, rfl⟩ := mkF_inv hh
  exact h x y hp
theorem p_eqCylinder {x_s : Int} {x_t : Int} {x_p : List T2} {y_s : Int} {y_t : Int} {y_p : List T2} {nr_ : Nat} {kk_ : V → Prop} (hp : (⟨x_s, x_t, x_p⟩ : Cyl).p.length ≤ 1048576 ∧ (⟨y_s, y_t, y_p⟩ : Cyl).p.length ≤ 1048576) : P1 (.call F_eqCylinder 0 nr_) [.int .i64 x_s, .int .i64 x_t, vL I2 v2 x_p, .int .i64 y_s, .int .i64 y_t, vL I2 v2 y_p] kk_ ↔ kk_ (.bool (decide ((⟨x_s, x_t, x_p⟩ : Cyl).s = (⟨y_s, y_t, y_p⟩ : Cyl).s ∧ (⟨x_s, x_t, x_p⟩ : Cyl).t = (⟨y_s, y_t, y_p⟩ : Cyl).t ∧ (⟨x_s, x_t, x_p⟩ : Cyl).p = (⟨y_s, y_t, y_p⟩ : Cyl).p))) :=
  P1_callF (by unfold F_eqCylinder; exact mkF_eq F_eqCylinder_inj ((⟨x_s, x_t, x_p⟩ : Cyl), (⟨y_s, y_t, y_p⟩ : Cyl)) hp)

def E_markCylinder : Cyl × Int → List V := fun (x, k) => [.int .i64 x.s, .int .i64 x.t, vL I2 v2 x.p, .int .i64 k]
noncomputable def F_markCylinder : List V → Option (List V) := mkF E_markCylinder (fun (x, k) => x.p.length ≤ 4194304 ∧ 0 ≤ k ∧ k ≤ 1099511627776) (fun (x, k) => [.int .i64 (k + 2 * x.p.length), vL I2 v2 (markL2 x.p.length k)])
theorem F_markCylinder_inj : ∀ x y, E_markCylinder x = E_markCylinder y → x = y := by
  rintro ⟨⟨xs, xt, xp⟩, k⟩ ⟨⟨xs', xt', xp'⟩, k'⟩ h
  simpa [E_markCylinder, and_assoc] using h
theorem F_markCylinder_elim {P : List V → List V → Prop} (h : ∀ (x : Cyl) (k : Int), (x.p.length ≤ 4194304 ∧ 0 ≤ k ∧ k ≤ 1099511627776) → P [.int .i64 x.s, .int .i64 x.t, vL I2 v2 x.p, .int .i64 k] [.int .i64 (k + 2 * x.p.length), vL I2 v2 (markL2 x.p.length k)]) : ∀ ds outs, F_markCylinder ds = some outs → P ds outs := by
  intro ds outs hh
  obtain ⟨⟨x, k⟩, rfl, hp, rfl⟩ := mkF_inv hh
  exact h x k hp
theorem p_markCylinder {x_s : Int} {x_t : Int} {x_p : List T2} {k : Int} {kk_ : V → V → Prop} (hp : (⟨x_s, x_t, x_p⟩ : Cyl).p.length ≤ 4194304 ∧ 0 ≤ k ∧ k ≤ 1099511627776) : P2 (.call F_markCylinder 1 1) [.int .i64 x_s, .int .i64 x_t, vL I2 v2 x_p, .int .i64 k, vL I2 v2 x_p] kk_ ↔ kk_ (.int .i64 (k + 2 * (⟨x_s, x_t, x_p⟩ : Cyl).p.length)) (vL I2 v2 (markL2 (⟨x_s, x_t, x_p⟩ : Cyl).p.length k)) :=
  P2_of (callIo_run (as := [.int .i64 x_s, .int .i64 x_t, vL I2 v2 x_p, .int .i64 k]) (rs := [vL I2 v2 x_p]) (n := 1) (nr := 1) rfl (by simp) (by unfold F_markCylinder; exact mkF_eq F_markCylinder_inj ((⟨x_s, x_t, x_p⟩ : Cyl), k) hp) (by simp [ksAll, vL, AK.eqs_refl]))


/-! pieces -/
def showSum (pause : Int) : List T2 → Nat → Int
  | _, 0 => 0
  | l, k + 1 => showSum pause l k + (match l[k]? with | some x => x.a | none => 0) + (if 0 < k then pause else 0)
def showTime (l : List T2) (pause : Int) : Int := if piecesOk l && within pause 0 600 then showSum pause l l.length else -1
def E_ShowTime : List T2 × Int → List V := fun (l, p) => [vL I2 v2 l, .int .i64 p]
noncomputable def F_ShowTime : List V → Option (List V) := mkF E_ShowTime (fun (l, _) => l.length ≤ 1048576) (fun (l, p) => [.int .i64 (showTime l p)])
theorem F_ShowTime_inj : ∀ x y, E_ShowTime x = E_ShowTime y → x = y := by
  rintro ⟨l, p⟩ ⟨l', p'⟩ h
  simpa [E_ShowTime] using h
theorem F_ShowTime_elim {P : List V → List V → Prop} (h : ∀ (l : List T2) (p : Int), (l.length ≤ 1048576) → P [vL I2 v2 l, .int .i64 p] [.int .i64 (showTime l p)]) : ∀ ds outs, F_ShowTime ds = some outs → P ds outs := by
  intro ds outs hh
  obtain ⟨⟨l, p⟩, rfl, hp, rfl⟩ := mkF_inv hh
  exact h l p hp
theorem p_ShowTime {l : List T2} {p : Int} {nr_ : Nat} {kk_ : V → Prop} (hp : l.length ≤ 1048576) : P1 (.call F_ShowTime 0 nr_) [vL I2 v2 l, .int .i64 p] kk_ ↔ kk_ (.int .i64 (showTime l p)) :=
  P1_callF (by unfold F_ShowTime; exact mkF_eq F_ShowTime_inj (l, p) hp)


def mag (n : Int) : Int := if n < 0 then -n else n
def E_magnitude (n : Int) : List V := [.int .i64 n]
noncomputable def F_magnitude : List V → Option (List V) := mkF E_magnitude (fun n => -9223372036854775807 ≤ n ∧ n ≤ 9223372036854775807) (fun n => [.int .i64 (mag n)])
theorem F_magnitude_inj : ∀ x y, E_magnitude x = E_magnitude y → x = y := by
  rintro n n' h
  simpa [E_magnitude] using h
theorem F_magnitude_elim {P : List V → List V → Prop} (h : ∀ (n : Int), (-9223372036854775807 ≤ n ∧ n ≤ 9223372036854775807) → P [.int .i64 n] [.int .i64 (mag n)]) : ∀ ds outs, F_magnitude ds = some outs → P ds outs := by
  intro ds outs hh
  obtain ⟨n, rfl, hp, rfl⟩ := mkF_inv hh
  exact h n hp
theorem p_magnitude {n : Int} {nr_ : Nat} {kk_ : V → Prop} (hp : -9223372036854775807 ≤ n ∧ n ≤ 9223372036854775807) : P1 (.call F_magnitude 0 nr_) [.int .i64 n] kk_ ↔ kk_ (.int .i64 (mag n)) :=
  P1_callF (by unfold F_magnitude; exact mkF_eq F_magnitude_inj (n) hp)

/-- Each number below n stands in the list once, and nothing else. -/
def isPerm (o : List Int) (n : Int) : Bool := decide ((o.length : Int) = n ∧ (∀ x ∈ o, 0 ≤ x ∧ x < n) ∧ o.Nodup)
def E_isPermutation : List Int × Int → List V := fun (o, n) => [vL I1 v1 o, .int .i64 n]
noncomputable def F_isPermutation : List V → Option (List V) := mkF E_isPermutation (fun (o, n) => o.length ≤ 1048576 ∧ n ≤ 1048576) (fun (o, n) => [.bool (isPerm o n)])
theorem F_isPermutation_inj : ∀ x y, E_isPermutation x = E_isPermutation y → x = y := by
  rintro ⟨o, n⟩ ⟨o', n'⟩ h
  simpa [E_isPermutation] using h
theorem F_isPermutation_elim {P : List V → List V → Prop} (h : ∀ (o : List Int) (n : Int), (o.length ≤ 1048576 ∧ n ≤ 1048576) → P [vL I1 v1 o, .int .i64 n] [.bool (isPerm o n)]) : ∀ ds outs, F_isPermutation ds = some outs → P ds outs := by
  intro ds outs hh
  obtain ⟨⟨o, n⟩, rfl, hp, rfl⟩ := mkF_inv hh
  exact h o n hp
theorem p_isPermutation {o : List Int} {n : Int} {nr_ : Nat} {kk_ : V → Prop} (hp : o.length ≤ 1048576 ∧ n ≤ 1048576) : P1 (.call F_isPermutation 0 nr_) [vL I1 v1 o, .int .i64 n] kk_ ↔ kk_ (.bool (isPerm o n)) :=
  P1_callF (by unfold F_isPermutation; exact mkF_eq F_isPermutation_inj (o, n) hp)

def moodOf (l : List T2) (i : Int) : Int := match l[i.toNat]? with | some x => x.b | none => 0
def stepsTo (l : List T2) (o : List Int) : Nat → Int
  | 0 => 0
  | k + 1 => stepsTo l o k + (if 0 < k then mag (moodOf l (o[k]?.getD 0) - moodOf l (o[k - 1]?.getD 0)) else 0)
def moodSteps (l : List T2) (o : List Int) : Int := if piecesOk l && isPerm o l.length then stepsTo l o o.length else -1
def E_MoodSteps : List T2 × List Int → List V := fun (l, o) => [vL I2 v2 l, vL I1 v1 o]
noncomputable def F_MoodSteps : List V → Option (List V) := mkF E_MoodSteps (fun (l, o) => l.length ≤ 1048576 ∧ o.length ≤ 1048576) (fun (l, o) => [.int .i64 (moodSteps l o)])
theorem F_MoodSteps_inj : ∀ x y, E_MoodSteps x = E_MoodSteps y → x = y := by
  rintro ⟨l, o⟩ ⟨l', o'⟩ h
  simpa [E_MoodSteps] using h
theorem F_MoodSteps_elim {P : List V → List V → Prop} (h : ∀ (l : List T2) (o : List Int), (l.length ≤ 1048576 ∧ o.length ≤ 1048576) → P [vL I2 v2 l, vL I1 v1 o] [.int .i64 (moodSteps l o)]) : ∀ ds outs, F_MoodSteps ds = some outs → P ds outs := by
  intro ds outs hh
  obtain ⟨⟨l, o⟩, rfl, hp, rfl⟩ := mkF_inv hh
  exact h l o hp
theorem p_MoodSteps {l : List T2} {o : List Int} {nr_ : Nat} {kk_ : V → Prop} (hp : l.length ≤ 1048576 ∧ o.length ≤ 1048576) : P1 (.call F_MoodSteps 0 nr_) [vL I2 v2 l, vL I1 v1 o] kk_ ↔ kk_ (.int .i64 (moodSteps l o)) :=
  P1_callF (by unfold F_MoodSteps; exact mkF_eq F_MoodSteps_inj (l, o) hp)


/-! pins -/
def pinLess (p q : T2) : Bool := decide (p.b < q.b ∨ p.b = q.b ∧ p.a < q.a)
def E_l06Less : T2 × T2 → List V := fun (x, y) => [.int .i64 x.a, .int .i64 x.b, .int .i64 y.a, .int .i64 y.b]
noncomputable def F_l06Less : List V → Option (List V) := mkF E_l06Less (fun (_, _) => True) (fun (x, y) => [.bool (pinLess x y)])
theorem F_l06Less_inj : ∀ x y, E_l06Less x = E_l06Less y → x = y := by
  rintro ⟨⟨xa, xb⟩, ⟨ya, yb⟩⟩ ⟨⟨xa', xb'⟩, ⟨ya', yb'⟩⟩ h
  simpa [E_l06Less, and_assoc] using h
theorem F_l06Less_elim {P : List V → List V → Prop} (h : ∀ (x : T2) (y : T2), P [.int .i64 x.a, .int .i64 x.b, .int .i64 y.a, .int .i64 y.b] [.bool (pinLess x y)]) : ∀ ds outs, F_l06Less ds = some outs → P ds outs := by
  intro ds outs hh
  obtain ⟨⟨x, y⟩, rfl, -, rfl⟩ := mkF_inv hh
  exact h x y
@[simp] theorem p_l06Less {x_a : Int} {x_b : Int} {y_a : Int} {y_b : Int} {nr_ : Nat} {kk_ : V → Prop} : P1 (.call F_l06Less 0 nr_) [.int .i64 x_a, .int .i64 x_b, .int .i64 y_a, .int .i64 y_b] kk_ ↔ kk_ (.bool (pinLess (⟨x_a, x_b⟩ : T2) (⟨y_a, y_b⟩ : T2))) :=
  P1_callF (by unfold F_l06Less; exact mkF_eq F_l06Less_inj ((⟨x_a, x_b⟩ : T2), (⟨y_a, y_b⟩ : T2)) trivial)

def E_comparePins : T2 × T2 → List V := fun (x, y) => [.int .i64 x.a, .int .i64 x.b, .int .i64 y.a, .int .i64 y.b]
noncomputable def F_comparePins : List V → Option (List V) := mkF E_comparePins (fun (_, _) => True) (fun (x, y) => [.int .i64 (if pinLess x y then -1 else if x = y then 0 else 1)])
theorem F_comparePins_inj : ∀ x y, E_comparePins x = E_comparePins y → x = y := by
  rintro ⟨⟨xa, xb⟩, ⟨ya, yb⟩⟩ ⟨⟨xa', xb'⟩, ⟨ya', yb'⟩⟩ h
  simpa [E_comparePins, and_assoc] using h
theorem F_comparePins_elim {P : List V → List V → Prop} (h : ∀ (x : T2) (y : T2), P [.int .i64 x.a, .int .i64 x.b, .int .i64 y.a, .int .i64 y.b] [.int .i64 (if pinLess x y then -1 else if x = y then 0 else 1)]) : ∀ ds outs, F_comparePins ds = some outs → P ds outs := by
  intro ds outs hh
  obtain ⟨⟨x, y⟩, rfl, -, rfl⟩ := mkF_inv hh
  exact h x y
@[simp] theorem p_comparePins {x_a : Int} {x_b : Int} {y_a : Int} {y_b : Int} {nr_ : Nat} {kk_ : V → Prop} : P1 (.call F_comparePins 0 nr_) [.int .i64 x_a, .int .i64 x_b, .int .i64 y_a, .int .i64 y_b] kk_ ↔ kk_ (.int .i64 (if pinLess (⟨x_a, x_b⟩ : T2) (⟨y_a, y_b⟩ : T2) then -1 else if (⟨x_a, x_b⟩ : T2) = (⟨y_a, y_b⟩ : T2) then 0 else 1)) :=
  P1_callF (by unfold F_comparePins; exact mkF_eq F_comparePins_inj ((⟨x_a, x_b⟩ : T2), (⟨y_a, y_b⟩ : T2)) trivial)

def rising : List T2 → Bool
  | [] => true
  | [_] => true
  | a :: b :: r => pinLess a b && rising (b :: r)
def pinIn (s t : Int) (p : T2) : Bool := within p.a 0 (t - 1) && within p.b 0 (s - 1)
def cylOk (c : Cyl) : Bool := within c.s 4 96 && within c.t 1 100 && decide (c.p.length ≤ 100) && (c.p.all (pinIn c.s c.t) && rising c.p)
def E_CylinderOk (x : Cyl) : List V := [.int .i64 x.s, .int .i64 x.t, vL I2 v2 x.p]
noncomputable def F_CylinderOk : List V → Option (List V) := mkF E_CylinderOk (fun x => x.p.length ≤ 1048576) (fun x => [.bool (cylOk x)])
theorem F_CylinderOk_inj : ∀ x y, E_CylinderOk x = E_CylinderOk y → x = y := by
  rintro ⟨xs, xt, xp⟩ ⟨xs', xt', xp'⟩ h
  simpa [E_CylinderOk] using h
theorem F_CylinderOk_elim {P : List V → List V → Prop} (h : ∀ (x : Cyl), (x.p.length ≤ 1048576) → P [.int .i64 x.s, .int .i64 x.t, vL I2 v2 x.p] [.bool (cylOk x)]) : ∀ ds outs, F_CylinderOk ds = some outs → P ds outs := by
  intro ds outs hh
  obtain ⟨x, rfl, hp, rfl⟩ := mkF_inv hh
  exact h x hp
theorem p_CylinderOk {x_s : Int} {x_t : Int} {x_p : List T2} {nr_ : Nat} {kk_ : V → Prop} (hp : (⟨x_s, x_t, x_p⟩ : Cyl).p.length ≤ 1048576) : P1 (.call F_CylinderOk 0 nr_) [.int .i64 x_s, .int .i64 x_t, vL I2 v2 x_p] kk_ ↔ kk_ (.bool (cylOk (⟨x_s, x_t, x_p⟩ : Cyl))) :=
  P1_callF (by unfold F_CylinderOk; exact mkF_eq F_CylinderOk_inj ((⟨x_s, x_t, x_p⟩ : Cyl)) hp)

def sttOk (c : Cyl) (x : Stt) : Bool := cylOk c && (within x.a 0 (c.s - 1) && within x.p 0 100000)
def E_StateOk : Cyl × Stt → List V := fun (x, y) => [.int .i64 x.s, .int .i64 x.t, vL I2 v2 x.p, .int .i64 y.a, .bool y.n, .int .i64 y.p]
noncomputable def F_StateOk : List V → Option (List V) := mkF E_StateOk (fun (x, _) => x.p.length ≤ 1048576) (fun (x, y) => [.bool (sttOk x y)])
theorem F_StateOk_inj : ∀ x y, E_StateOk x = E_StateOk y → x = y := by
  rintro ⟨⟨xs, xt, xp⟩, ⟨ya, yn, yp⟩⟩ ⟨⟨xs', xt', xp'⟩, ⟨ya', yn', yp'⟩⟩ h
  simpa [E_StateOk, and_assoc] using h
theorem F_StateOk_elim {P : List V → List V → Prop} (h : ∀ (x : Cyl) (y : Stt), (x.p.length ≤ 1048576) → P [.int .i64 x.s, .int .i64 x.t, vL I2 v2 x.p, .int .i64 y.a, .bool y.n, .int .i64 y.p] [.bool (sttOk x y)]) : ∀ ds outs, F_StateOk ds = some outs → P ds outs := by
  intro ds outs hh
  obtain ⟨⟨x, y⟩, rfl, hp, rfl⟩ := mkF_inv hh
  exact h x y hp
theorem p_StateOk {x_s : Int} {x_t : Int} {x_p : List T2} {y_a : Int} {y_n : Bool} {y_p : Int} {nr_ : Nat} {kk_ : V → Prop} (hp : (⟨x_s, x_t, x_p⟩ : Cyl).p.length ≤ 1048576) : P1 (.call F_StateOk 0 nr_) [.int .i64 x_s, .int .i64 x_t, vL I2 v2 x_p, .int .i64 y_a, .bool y_n, .int .i64 y_p] kk_ ↔ kk_ (.bool (sttOk (⟨x_s, x_t, x_p⟩ : Cyl) (⟨y_a, y_n, y_p⟩ : Stt))) :=
  P1_callF (by unfold F_StateOk; exact mkF_eq F_StateOk_inj ((⟨x_s, x_t, x_p⟩ : Cyl), (⟨y_a, y_n, y_p⟩ : Stt)) hp)

def pinSumGo : List T2 → Int → Int
  | [], _ => 0
  | p :: r, k => k * (100 * p.a + p.b + 1) + pinSumGo r (k + 1)
def pinSum (c : Cyl) : Int := if cylOk c then pinSumGo c.p 1 % 9973 else -1
def E_PinSum (x : Cyl) : List V := [.int .i64 x.s, .int .i64 x.t, vL I2 v2 x.p]
noncomputable def F_PinSum : List V → Option (List V) := mkF E_PinSum (fun x => x.p.length ≤ 1048576) (fun x => [.int .i64 (pinSum x)])
theorem F_PinSum_inj : ∀ x y, E_PinSum x = E_PinSum y → x = y := by
  rintro ⟨xs, xt, xp⟩ ⟨xs', xt', xp'⟩ h
  simpa [E_PinSum] using h
theorem F_PinSum_elim {P : List V → List V → Prop} (h : ∀ (x : Cyl), (x.p.length ≤ 1048576) → P [.int .i64 x.s, .int .i64 x.t, vL I2 v2 x.p] [.int .i64 (pinSum x)]) : ∀ ds outs, F_PinSum ds = some outs → P ds outs := by
  intro ds outs hh
  obtain ⟨x, rfl, hp, rfl⟩ := mkF_inv hh
  exact h x hp
theorem p_PinSum {x_s : Int} {x_t : Int} {x_p : List T2} {nr_ : Nat} {kk_ : V → Prop} (hp : (⟨x_s, x_t, x_p⟩ : Cyl).p.length ≤ 1048576) : P1 (.call F_PinSum 0 nr_) [.int .i64 x_s, .int .i64 x_t, vL I2 v2 x_p] kk_ ↔ kk_ (.int .i64 (pinSum (⟨x_s, x_t, x_p⟩ : Cyl))) :=
  P1_callF (by unfold F_PinSum; exact mkF_eq F_PinSum_inj ((⟨x_s, x_t, x_p⟩ : Cyl)) hp)

def E_around : Int × Int → List V := fun (n, s) => [.int .i64 n, .int .i64 s]
noncomputable def F_around : List V → Option (List V) := mkF E_around (fun (n, s) => -1000000 ≤ n ∧ n ≤ 1000000 ∧ 1 ≤ s ∧ s ≤ 1000000) (fun (n, s) => [.int .i64 (n % s)])
theorem F_around_inj : ∀ x y, E_around x = E_around y → x = y := by
  rintro ⟨n, s⟩ ⟨n', s'⟩ h
  simpa [E_around] using h
theorem F_around_elim {P : List V → List V → Prop} (h : ∀ (n : Int) (s : Int), (-1000000 ≤ n ∧ n ≤ 1000000 ∧ 1 ≤ s ∧ s ≤ 1000000) → P [.int .i64 n, .int .i64 s] [.int .i64 (n % s)]) : ∀ ds outs, F_around ds = some outs → P ds outs := by
  intro ds outs hh
  obtain ⟨⟨n, s⟩, rfl, hp, rfl⟩ := mkF_inv hh
  exact h n s hp
theorem p_around {n : Int} {s : Int} {nr_ : Nat} {kk_ : V → Prop} (hp : -1000000 ≤ n ∧ n ≤ 1000000 ∧ 1 ≤ s ∧ s ≤ 1000000) : P1 (.call F_around 0 nr_) [.int .i64 n, .int .i64 s] kk_ ↔ kk_ (.int .i64 (n % s)) :=
  P1_callF (by unfold F_around; exact mkF_eq F_around_inj (n, s) hp)

def E_l06Mod : Int × Int → List V := fun (n, s) => [.int .i64 n, .int .i64 s]
noncomputable def F_l06Mod : List V → Option (List V) := mkF E_l06Mod (fun (n, s) => -1000000 ≤ n ∧ n ≤ 1000000 ∧ 1 ≤ s ∧ s ≤ 1000000) (fun (n, s) => [.int .i64 (n % s)])
theorem F_l06Mod_inj : ∀ x y, E_l06Mod x = E_l06Mod y → x = y := by
  rintro ⟨n, s⟩ ⟨n', s'⟩ h
  simpa [E_l06Mod] using h
theorem F_l06Mod_elim {P : List V → List V → Prop} (h : ∀ (n : Int) (s : Int), (-1000000 ≤ n ∧ n ≤ 1000000 ∧ 1 ≤ s ∧ s ≤ 1000000) → P [.int .i64 n, .int .i64 s] [.int .i64 (n % s)]) : ∀ ds outs, F_l06Mod ds = some outs → P ds outs := by
  intro ds outs hh
  obtain ⟨⟨n, s⟩, rfl, hp, rfl⟩ := mkF_inv hh
  exact h n s hp
theorem p_l06Mod {n : Int} {s : Int} {nr_ : Nat} {kk_ : V → Prop} (hp : -1000000 ≤ n ∧ n ≤ 1000000 ∧ 1 ≤ s ∧ s ≤ 1000000) : P1 (.call F_l06Mod 0 nr_) [.int .i64 n, .int .i64 s] kk_ ↔ kk_ (.int .i64 (n % s)) :=
  P1_callF (by unfold F_l06Mod; exact mkF_eq F_l06Mod_inj (n, s) hp)

def pinsAt (c : Cyl) (a : Int) : List Int := if cylOk c && within a (-1000000) 1000000 then (c.p.filter fun p => p.b == a % c.s).map (·.a) else []
def E_PinsAt : Cyl × Int → List V := fun (x, n) => [.int .i64 x.s, .int .i64 x.t, vL I2 v2 x.p, .int .i64 n]
noncomputable def F_PinsAt : List V → Option (List V) := mkF E_PinsAt (fun (x, _) => x.p.length ≤ 1048576) (fun (x, n) => [vL I1 v1 (pinsAt x n)])
theorem F_PinsAt_inj : ∀ x y, E_PinsAt x = E_PinsAt y → x = y := by
  rintro ⟨⟨xs, xt, xp⟩, n⟩ ⟨⟨xs', xt', xp'⟩, n'⟩ h
  simpa [E_PinsAt, and_assoc] using h
theorem F_PinsAt_elim {P : List V → List V → Prop} (h : ∀ (x : Cyl) (n : Int), (x.p.length ≤ 1048576) → P [.int .i64 x.s, .int .i64 x.t, vL I2 v2 x.p, .int .i64 n] [vL I1 v1 (pinsAt x n)]) : ∀ ds outs, F_PinsAt ds = some outs → P ds outs := by
  intro ds outs hh
  obtain ⟨⟨x, n⟩, rfl, hp, rfl⟩ := mkF_inv hh
  exact h x n hp
theorem p_PinsAt {x_s : Int} {x_t : Int} {x_p : List T2} {n : Int} {nr_ : Nat} {kk_ : V → Prop} (hp : (⟨x_s, x_t, x_p⟩ : Cyl).p.length ≤ 1048576) : P1 (.call F_PinsAt 0 nr_) [.int .i64 x_s, .int .i64 x_t, vL I2 v2 x_p, .int .i64 n] kk_ ↔ kk_ (vL I1 v1 (pinsAt (⟨x_s, x_t, x_p⟩ : Cyl) n)) :=
  P1_callF (by unfold F_PinsAt; exact mkF_eq F_PinsAt_inj ((⟨x_s, x_t, x_p⟩ : Cyl), n) hp)


/-! states -/
def startBox (c : Cyl) (x : Stt) : Stt × Bool := if sttOk c x && !x.n then (⟨x.a, true, x.p⟩, true) else (x, false)
def E_StartBox : Cyl × Stt → List V := fun (x, y) => [.int .i64 x.s, .int .i64 x.t, vL I2 v2 x.p, .int .i64 y.a, .bool y.n, .int .i64 y.p]
noncomputable def F_StartBox : List V → Option (List V) := mkF E_StartBox (fun (x, _) => x.p.length ≤ 1048576) (fun (x, y) => [.int .i64 ((startBox x y).1).a, .bool ((startBox x y).1).n, .int .i64 ((startBox x y).1).p, .bool ((startBox x y).2)])
theorem F_StartBox_inj : ∀ x y, E_StartBox x = E_StartBox y → x = y := by
  rintro ⟨⟨xs, xt, xp⟩, ⟨ya, yn, yp⟩⟩ ⟨⟨xs', xt', xp'⟩, ⟨ya', yn', yp'⟩⟩ h
  simpa [E_StartBox, and_assoc] using h
theorem F_StartBox_elim {P : List V → List V → Prop} (h : ∀ (x : Cyl) (y : Stt), (x.p.length ≤ 1048576) → P [.int .i64 x.s, .int .i64 x.t, vL I2 v2 x.p, .int .i64 y.a, .bool y.n, .int .i64 y.p] [.int .i64 ((startBox x y).1).a, .bool ((startBox x y).1).n, .int .i64 ((startBox x y).1).p, .bool ((startBox x y).2)]) : ∀ ds outs, F_StartBox ds = some outs → P ds outs := by
  intro ds outs hh
  obtain ⟨⟨x, y⟩, rfl, hp, rfl⟩ := mkF_inv hh
  exact h x y hp
theorem p_StartBox {x_s : Int} {x_t : Int} {x_p : List T2} {y_a : Int} {y_n : Bool} {y_p : Int} {nr_ : Nat} {kk_ : V → V → V → V → Prop} (hp : (⟨x_s, x_t, x_p⟩ : Cyl).p.length ≤ 1048576) : P4 (.call F_StartBox 0 nr_) [.int .i64 x_s, .int .i64 x_t, vL I2 v2 x_p, .int .i64 y_a, .bool y_n, .int .i64 y_p] kk_ ↔ kk_ (.int .i64 ((startBox (⟨x_s, x_t, x_p⟩ : Cyl) (⟨y_a, y_n, y_p⟩ : Stt)).1).a) (.bool ((startBox (⟨x_s, x_t, x_p⟩ : Cyl) (⟨y_a, y_n, y_p⟩ : Stt)).1).n) (.int .i64 ((startBox (⟨x_s, x_t, x_p⟩ : Cyl) (⟨y_a, y_n, y_p⟩ : Stt)).1).p) (.bool ((startBox (⟨x_s, x_t, x_p⟩ : Cyl) (⟨y_a, y_n, y_p⟩ : Stt)).2)) :=
  P4_callF (by unfold F_StartBox; exact mkF_eq F_StartBox_inj ((⟨x_s, x_t, x_p⟩ : Cyl), (⟨y_a, y_n, y_p⟩ : Stt)) hp)

def stopBox (c : Cyl) (x : Stt) : Stt × Bool := if sttOk c x && x.n then (⟨x.a, false, x.p⟩, true) else (x, false)
def E_StopBox : Cyl × Stt → List V := fun (x, y) => [.int .i64 x.s, .int .i64 x.t, vL I2 v2 x.p, .int .i64 y.a, .bool y.n, .int .i64 y.p]
noncomputable def F_StopBox : List V → Option (List V) := mkF E_StopBox (fun (x, _) => x.p.length ≤ 1048576) (fun (x, y) => [.int .i64 ((stopBox x y).1).a, .bool ((stopBox x y).1).n, .int .i64 ((stopBox x y).1).p, .bool ((stopBox x y).2)])
theorem F_StopBox_inj : ∀ x y, E_StopBox x = E_StopBox y → x = y := by
  rintro ⟨⟨xs, xt, xp⟩, ⟨ya, yn, yp⟩⟩ ⟨⟨xs', xt', xp'⟩, ⟨ya', yn', yp'⟩⟩ h
  simpa [E_StopBox, and_assoc] using h
theorem F_StopBox_elim {P : List V → List V → Prop} (h : ∀ (x : Cyl) (y : Stt), (x.p.length ≤ 1048576) → P [.int .i64 x.s, .int .i64 x.t, vL I2 v2 x.p, .int .i64 y.a, .bool y.n, .int .i64 y.p] [.int .i64 ((stopBox x y).1).a, .bool ((stopBox x y).1).n, .int .i64 ((stopBox x y).1).p, .bool ((stopBox x y).2)]) : ∀ ds outs, F_StopBox ds = some outs → P ds outs := by
  intro ds outs hh
  obtain ⟨⟨x, y⟩, rfl, hp, rfl⟩ := mkF_inv hh
  exact h x y hp
theorem p_StopBox {x_s : Int} {x_t : Int} {x_p : List T2} {y_a : Int} {y_n : Bool} {y_p : Int} {nr_ : Nat} {kk_ : V → V → V → V → Prop} (hp : (⟨x_s, x_t, x_p⟩ : Cyl).p.length ≤ 1048576) : P4 (.call F_StopBox 0 nr_) [.int .i64 x_s, .int .i64 x_t, vL I2 v2 x_p, .int .i64 y_a, .bool y_n, .int .i64 y_p] kk_ ↔ kk_ (.int .i64 ((stopBox (⟨x_s, x_t, x_p⟩ : Cyl) (⟨y_a, y_n, y_p⟩ : Stt)).1).a) (.bool ((stopBox (⟨x_s, x_t, x_p⟩ : Cyl) (⟨y_a, y_n, y_p⟩ : Stt)).1).n) (.int .i64 ((stopBox (⟨x_s, x_t, x_p⟩ : Cyl) (⟨y_a, y_n, y_p⟩ : Stt)).1).p) (.bool ((stopBox (⟨x_s, x_t, x_p⟩ : Cyl) (⟨y_a, y_n, y_p⟩ : Stt)).2)) :=
  P4_callF (by unfold F_StopBox; exact mkF_eq F_StopBox_inj ((⟨x_s, x_t, x_p⟩ : Cyl), (⟨y_a, y_n, y_p⟩ : Stt)) hp)

def stepsLeft (c : Cyl) (x : Stt) : Int := if sttOk c x then (if x.n then c.s - x.a else 0) else -1
def E_StepsLeft : Cyl × Stt → List V := fun (x, y) => [.int .i64 x.s, .int .i64 x.t, vL I2 v2 x.p, .int .i64 y.a, .bool y.n, .int .i64 y.p]
noncomputable def F_StepsLeft : List V → Option (List V) := mkF E_StepsLeft (fun (x, _) => x.p.length ≤ 1048576) (fun (x, y) => [.int .i64 (stepsLeft x y)])
theorem F_StepsLeft_inj : ∀ x y, E_StepsLeft x = E_StepsLeft y → x = y := by
  rintro ⟨⟨xs, xt, xp⟩, ⟨ya, yn, yp⟩⟩ ⟨⟨xs', xt', xp'⟩, ⟨ya', yn', yp'⟩⟩ h
  simpa [E_StepsLeft, and_assoc] using h
theorem F_StepsLeft_elim {P : List V → List V → Prop} (h : ∀ (x : Cyl) (y : Stt), (x.p.length ≤ 1048576) → P [.int .i64 x.s, .int .i64 x.t, vL I2 v2 x.p, .int .i64 y.a, .bool y.n, .int .i64 y.p] [.int .i64 (stepsLeft x y)]) : ∀ ds outs, F_StepsLeft ds = some outs → P ds outs := by
  intro ds outs hh
  obtain ⟨⟨x, y⟩, rfl, hp, rfl⟩ := mkF_inv hh
  exact h x y hp
theorem p_StepsLeft {x_s : Int} {x_t : Int} {x_p : List T2} {y_a : Int} {y_n : Bool} {y_p : Int} {nr_ : Nat} {kk_ : V → Prop} (hp : (⟨x_s, x_t, x_p⟩ : Cyl).p.length ≤ 1048576) : P1 (.call F_StepsLeft 0 nr_) [.int .i64 x_s, .int .i64 x_t, vL I2 v2 x_p, .int .i64 y_a, .bool y_n, .int .i64 y_p] kk_ ↔ kk_ (.int .i64 (stepsLeft (⟨x_s, x_t, x_p⟩ : Cyl) (⟨y_a, y_n, y_p⟩ : Stt))) :=
  P1_callF (by unfold F_StepsLeft; exact mkF_eq F_StepsLeft_inj ((⟨x_s, x_t, x_p⟩ : Cyl), (⟨y_a, y_n, y_p⟩ : Stt)) hp)

def nextStt (c : Cyl) (x : Stt) : Stt := ⟨(x.a + 1) % c.s, decide ((x.a + 1) % c.s ≠ 0), x.p + (pinsAt c x.a).length⟩
def canStep (c : Cyl) (x : Stt) : Bool := sttOk c x && x.n && sttOk c (nextStt c x)
def E_stepBox : Cyl × Stt → List V := fun (x, y) => [.int .i64 x.s, .int .i64 x.t, vL I2 v2 x.p, .int .i64 y.a, .bool y.n, .int .i64 y.p]
noncomputable def F_stepBox : List V → Option (List V) := mkF E_stepBox (fun (x, _) => x.p.length ≤ 1048576) (fun (x, y) => [.int .i64 (if canStep x y then nextStt x y else y).a, .bool (if canStep x y then nextStt x y else y).n, .int .i64 (if canStep x y then nextStt x y else y).p, vL I1 v1 (if canStep x y then pinsAt x y.a else []), .bool (canStep x y)])
theorem F_stepBox_inj : ∀ x y, E_stepBox x = E_stepBox y → x = y := by
  rintro ⟨⟨xs, xt, xp⟩, ⟨ya, yn, yp⟩⟩ ⟨⟨xs', xt', xp'⟩, ⟨ya', yn', yp'⟩⟩ h
  simpa [E_stepBox, and_assoc] using h
theorem F_stepBox_elim {P : List V → List V → Prop} (h : ∀ (x : Cyl) (y : Stt), (x.p.length ≤ 1048576) → P [.int .i64 x.s, .int .i64 x.t, vL I2 v2 x.p, .int .i64 y.a, .bool y.n, .int .i64 y.p] [.int .i64 (if canStep x y then nextStt x y else y).a, .bool (if canStep x y then nextStt x y else y).n, .int .i64 (if canStep x y then nextStt x y else y).p, vL I1 v1 (if canStep x y then pinsAt x y.a else []), .bool (canStep x y)]) : ∀ ds outs, F_stepBox ds = some outs → P ds outs := by
  intro ds outs hh
  obtain ⟨⟨x, y⟩, rfl, hp, rfl⟩ := mkF_inv hh
  exact h x y hp
theorem p_stepBox {x_s : Int} {x_t : Int} {x_p : List T2} {y_a : Int} {y_n : Bool} {y_p : Int} {nr_ : Nat} {kk_ : V → V → V → V → V → Prop} (hp : (⟨x_s, x_t, x_p⟩ : Cyl).p.length ≤ 1048576) : P5 (.call F_stepBox 0 nr_) [.int .i64 x_s, .int .i64 x_t, vL I2 v2 x_p, .int .i64 y_a, .bool y_n, .int .i64 y_p] kk_ ↔ kk_ (.int .i64 (if canStep (⟨x_s, x_t, x_p⟩ : Cyl) (⟨y_a, y_n, y_p⟩ : Stt) then nextStt (⟨x_s, x_t, x_p⟩ : Cyl) (⟨y_a, y_n, y_p⟩ : Stt) else (⟨y_a, y_n, y_p⟩ : Stt)).a) (.bool (if canStep (⟨x_s, x_t, x_p⟩ : Cyl) (⟨y_a, y_n, y_p⟩ : Stt) then nextStt (⟨x_s, x_t, x_p⟩ : Cyl) (⟨y_a, y_n, y_p⟩ : Stt) else (⟨y_a, y_n, y_p⟩ : Stt)).n) (.int .i64 (if canStep (⟨x_s, x_t, x_p⟩ : Cyl) (⟨y_a, y_n, y_p⟩ : Stt) then nextStt (⟨x_s, x_t, x_p⟩ : Cyl) (⟨y_a, y_n, y_p⟩ : Stt) else (⟨y_a, y_n, y_p⟩ : Stt)).p) (vL I1 v1 (if canStep (⟨x_s, x_t, x_p⟩ : Cyl) (⟨y_a, y_n, y_p⟩ : Stt) then pinsAt (⟨x_s, x_t, x_p⟩ : Cyl) (⟨y_a, y_n, y_p⟩ : Stt).a else [])) (.bool (canStep (⟨x_s, x_t, x_p⟩ : Cyl) (⟨y_a, y_n, y_p⟩ : Stt))) :=
  P5_callF (by unfold F_stepBox; exact mkF_eq F_stepBox_inj ((⟨x_s, x_t, x_p⟩ : Cyl), (⟨y_a, y_n, y_p⟩ : Stt)) hp)

def E_StepBox : Cyl × Stt → List V := fun (x, y) => [.int .i64 x.s, .int .i64 x.t, vL I2 v2 x.p, .int .i64 y.a, .bool y.n, .int .i64 y.p]
noncomputable def F_StepBox : List V → Option (List V) := mkF E_StepBox (fun (x, _) => x.p.length ≤ 1048576) (fun (x, y) => [.int .i64 (if canStep x y then nextStt x y else y).a, .bool (if canStep x y then nextStt x y else y).n, .int .i64 (if canStep x y then nextStt x y else y).p, vL I1 v1 (if canStep x y then pinsAt x y.a else [])])
theorem F_StepBox_inj : ∀ x y, E_StepBox x = E_StepBox y → x = y := by
  rintro ⟨⟨xs, xt, xp⟩, ⟨ya, yn, yp⟩⟩ ⟨⟨xs', xt', xp'⟩, ⟨ya', yn', yp'⟩⟩ h
  simpa [E_StepBox, and_assoc] using h
theorem F_StepBox_elim {P : List V → List V → Prop} (h : ∀ (x : Cyl) (y : Stt), (x.p.length ≤ 1048576) → P [.int .i64 x.s, .int .i64 x.t, vL I2 v2 x.p, .int .i64 y.a, .bool y.n, .int .i64 y.p] [.int .i64 (if canStep x y then nextStt x y else y).a, .bool (if canStep x y then nextStt x y else y).n, .int .i64 (if canStep x y then nextStt x y else y).p, vL I1 v1 (if canStep x y then pinsAt x y.a else [])]) : ∀ ds outs, F_StepBox ds = some outs → P ds outs := by
  intro ds outs hh
  obtain ⟨⟨x, y⟩, rfl, hp, rfl⟩ := mkF_inv hh
  exact h x y hp
theorem p_StepBox {x_s : Int} {x_t : Int} {x_p : List T2} {y_a : Int} {y_n : Bool} {y_p : Int} {nr_ : Nat} {kk_ : V → V → V → V → Prop} (hp : (⟨x_s, x_t, x_p⟩ : Cyl).p.length ≤ 1048576) : P4 (.call F_StepBox 0 nr_) [.int .i64 x_s, .int .i64 x_t, vL I2 v2 x_p, .int .i64 y_a, .bool y_n, .int .i64 y_p] kk_ ↔ kk_ (.int .i64 (if canStep (⟨x_s, x_t, x_p⟩ : Cyl) (⟨y_a, y_n, y_p⟩ : Stt) then nextStt (⟨x_s, x_t, x_p⟩ : Cyl) (⟨y_a, y_n, y_p⟩ : Stt) else (⟨y_a, y_n, y_p⟩ : Stt)).a) (.bool (if canStep (⟨x_s, x_t, x_p⟩ : Cyl) (⟨y_a, y_n, y_p⟩ : Stt) then nextStt (⟨x_s, x_t, x_p⟩ : Cyl) (⟨y_a, y_n, y_p⟩ : Stt) else (⟨y_a, y_n, y_p⟩ : Stt)).n) (.int .i64 (if canStep (⟨x_s, x_t, x_p⟩ : Cyl) (⟨y_a, y_n, y_p⟩ : Stt) then nextStt (⟨x_s, x_t, x_p⟩ : Cyl) (⟨y_a, y_n, y_p⟩ : Stt) else (⟨y_a, y_n, y_p⟩ : Stt)).p) (vL I1 v1 (if canStep (⟨x_s, x_t, x_p⟩ : Cyl) (⟨y_a, y_n, y_p⟩ : Stt) then pinsAt (⟨x_s, x_t, x_p⟩ : Cyl) (⟨y_a, y_n, y_p⟩ : Stt).a else [])) :=
  P4_callF (by unfold F_StepBox; exact mkF_eq F_StepBox_inj ((⟨x_s, x_t, x_p⟩ : Cyl), (⟨y_a, y_n, y_p⟩ : Stt)) hp)

/-- The run: so many steps from x. -/
def itS (c : Cyl) (x : Stt) : Nat → Stt
  | 0 => x
  | k + 1 => nextStt c (itS c x k)
def itL (c : Cyl) (x : Stt) : Nat → List Int
  | 0 => []
  | k + 1 => itL c x k ++ pinsAt c (itS c x k).a
def runN (c : Cyl) (x : Stt) : Nat := (c.s - x.a).toNat
def runOk (c : Cyl) (x : Stt) : Bool := sttOk c x && (x.n && (List.range (runN c x)).all fun k => canStep c (itS c x k))
def runBox (c : Cyl) (x : Stt) : Stt × List Int := if runOk c x then (itS c x (runN c x), itL c x (runN c x)) else (x, [])
def E_RunBox : Cyl × Stt → List V := fun (x, y) => [.int .i64 x.s, .int .i64 x.t, vL I2 v2 x.p, .int .i64 y.a, .bool y.n, .int .i64 y.p]
noncomputable def F_RunBox : List V → Option (List V) := mkF E_RunBox (fun (x, _) => x.p.length ≤ 1048576) (fun (x, y) => [.int .i64 ((runBox x y).1).a, .bool ((runBox x y).1).n, .int .i64 ((runBox x y).1).p, vL I1 v1 ((runBox x y).2)])
theorem F_RunBox_inj : ∀ x y, E_RunBox x = E_RunBox y → x = y := by
  rintro ⟨⟨xs, xt, xp⟩, ⟨ya, yn, yp⟩⟩ ⟨⟨xs', xt', xp'⟩, ⟨ya', yn', yp'⟩⟩ h
  simpa [E_RunBox, and_assoc] using h
theorem F_RunBox_elim {P : List V → List V → Prop} (h : ∀ (x : Cyl) (y : Stt), (x.p.length ≤ 1048576) → P [.int .i64 x.s, .int .i64 x.t, vL I2 v2 x.p, .int .i64 y.a, .bool y.n, .int .i64 y.p] [.int .i64 ((runBox x y).1).a, .bool ((runBox x y).1).n, .int .i64 ((runBox x y).1).p, vL I1 v1 ((runBox x y).2)]) : ∀ ds outs, F_RunBox ds = some outs → P ds outs := by
  intro ds outs hh
  obtain ⟨⟨x, y⟩, rfl, hp, rfl⟩ := mkF_inv hh
  exact h x y hp
theorem p_RunBox {x_s : Int} {x_t : Int} {x_p : List T2} {y_a : Int} {y_n : Bool} {y_p : Int} {nr_ : Nat} {kk_ : V → V → V → V → Prop} (hp : (⟨x_s, x_t, x_p⟩ : Cyl).p.length ≤ 1048576) : P4 (.call F_RunBox 0 nr_) [.int .i64 x_s, .int .i64 x_t, vL I2 v2 x_p, .int .i64 y_a, .bool y_n, .int .i64 y_p] kk_ ↔ kk_ (.int .i64 ((runBox (⟨x_s, x_t, x_p⟩ : Cyl) (⟨y_a, y_n, y_p⟩ : Stt)).1).a) (.bool ((runBox (⟨x_s, x_t, x_p⟩ : Cyl) (⟨y_a, y_n, y_p⟩ : Stt)).1).n) (.int .i64 ((runBox (⟨x_s, x_t, x_p⟩ : Cyl) (⟨y_a, y_n, y_p⟩ : Stt)).1).p) (vL I1 v1 ((runBox (⟨x_s, x_t, x_p⟩ : Cyl) (⟨y_a, y_n, y_p⟩ : Stt)).2)) :=
  P4_callF (by unfold F_RunBox; exact mkF_eq F_RunBox_inj ((⟨x_s, x_t, x_p⟩ : Cyl), (⟨y_a, y_n, y_p⟩ : Stt)) hp)


/-! digits -/
def areDigits (l : List Int) (a b : Int) : Bool := within l.length a b && l.all (within · 0 9)
def E_areDigits : List Int × Int × Int → List V := fun (l, a, b) => [vL I1 v1 l, .int .i64 a, .int .i64 b]
noncomputable def F_areDigits : List V → Option (List V) := mkF E_areDigits (fun (l, _, _) => l.length ≤ 1048576) (fun (l, a, b) => [.bool (areDigits l a b)])
theorem F_areDigits_inj : ∀ x y, E_areDigits x = E_areDigits y → x = y := by
  rintro ⟨l, a, b⟩ ⟨l', a', b'⟩ h
  simpa [E_areDigits] using h
theorem F_areDigits_elim {P : List V → List V → Prop} (h : ∀ (l : List Int) (a : Int) (b : Int), (l.length ≤ 1048576) → P [vL I1 v1 l, .int .i64 a, .int .i64 b] [.bool (areDigits l a b)]) : ∀ ds outs, F_areDigits ds = some outs → P ds outs := by
  intro ds outs hh
  obtain ⟨⟨l, a, b⟩, rfl, hp, rfl⟩ := mkF_inv hh
  exact h l a b hp
theorem p_areDigits {l : List Int} {a : Int} {b : Int} {nr_ : Nat} {kk_ : V → Prop} (hp : l.length ≤ 1048576) : P1 (.call F_areDigits 0 nr_) [vL I1 v1 l, .int .i64 a, .int .i64 b] kk_ ↔ kk_ (.bool (areDigits l a b)) :=
  P1_callF (by unfold F_areDigits; exact mkF_eq F_areDigits_inj (l, a, b) hp)

def E_l33Ok : List Int × Int × Int → List V := fun (l, a, b) => [vL I1 v1 l, .int .i64 a, .int .i64 b]
noncomputable def F_l33Ok : List V → Option (List V) := mkF E_l33Ok (fun (l, _, _) => l.length ≤ 1048576) (fun (l, a, b) => [.bool (areDigits l a b)])
theorem F_l33Ok_inj : ∀ x y, E_l33Ok x = E_l33Ok y → x = y := by
  rintro ⟨l, a, b⟩ ⟨l', a', b'⟩ h
  simpa [E_l33Ok] using h
theorem F_l33Ok_elim {P : List V → List V → Prop} (h : ∀ (l : List Int) (a : Int) (b : Int), (l.length ≤ 1048576) → P [vL I1 v1 l, .int .i64 a, .int .i64 b] [.bool (areDigits l a b)]) : ∀ ds outs, F_l33Ok ds = some outs → P ds outs := by
  intro ds outs hh
  obtain ⟨⟨l, a, b⟩, rfl, hp, rfl⟩ := mkF_inv hh
  exact h l a b hp
theorem p_l33Ok {l : List Int} {a : Int} {b : Int} {nr_ : Nat} {kk_ : V → Prop} (hp : l.length ≤ 1048576) : P1 (.call F_l33Ok 0 nr_) [vL I1 v1 l, .int .i64 a, .int .i64 b] kk_ ↔ kk_ (.bool (areDigits l a b)) :=
  P1_callF (by unfold F_l33Ok; exact mkF_eq F_l33Ok_inj (l, a, b) hp)

def digitSum : List Int → Bool → Int
  | [], _ => 0
  | d :: r, true => 3 * d + digitSum r false
  | d :: r, false => d + digitSum r true
def checkDigit (l : List Int) : Int := if areDigits l 1 20 then (10 - digitSum l true % 10) % 10 else -1
def E_CheckDigit (l : List Int) : List V := [vL I1 v1 l]
noncomputable def F_CheckDigit : List V → Option (List V) := mkF E_CheckDigit (fun l => l.length ≤ 1048576) (fun l => [.int .i64 (checkDigit l)])
theorem F_CheckDigit_inj : ∀ x y, E_CheckDigit x = E_CheckDigit y → x = y := by
  rintro l l' h
  simpa [E_CheckDigit] using h
theorem F_CheckDigit_elim {P : List V → List V → Prop} (h : ∀ (l : List Int), (l.length ≤ 1048576) → P [vL I1 v1 l] [.int .i64 (checkDigit l)]) : ∀ ds outs, F_CheckDigit ds = some outs → P ds outs := by
  intro ds outs hh
  obtain ⟨l, rfl, hp, rfl⟩ := mkF_inv hh
  exact h l hp
theorem p_CheckDigit {l : List Int} {nr_ : Nat} {kk_ : V → Prop} (hp : l.length ≤ 1048576) : P1 (.call F_CheckDigit 0 nr_) [vL I1 v1 l] kk_ ↔ kk_ (.int .i64 (checkDigit l)) :=
  P1_callF (by unfold F_CheckDigit; exact mkF_eq F_CheckDigit_inj (l) hp)

def isChecked (l : List Int) : Bool := decide (2 ≤ l.length) && (decide (0 ≤ checkDigit (l.take (l.length - 1))) && decide (l[l.length - 1]? = some (checkDigit (l.take (l.length - 1)))))
def E_IsChecked (l : List Int) : List V := [vL I1 v1 l]
noncomputable def F_IsChecked : List V → Option (List V) := mkF E_IsChecked (fun l => l.length ≤ 1048576) (fun l => [.bool (isChecked l)])
theorem F_IsChecked_inj : ∀ x y, E_IsChecked x = E_IsChecked y → x = y := by
  rintro l l' h
  simpa [E_IsChecked] using h
theorem F_IsChecked_elim {P : List V → List V → Prop} (h : ∀ (l : List Int), (l.length ≤ 1048576) → P [vL I1 v1 l] [.bool (isChecked l)]) : ∀ ds outs, F_IsChecked ds = some outs → P ds outs := by
  intro ds outs hh
  obtain ⟨l, rfl, hp, rfl⟩ := mkF_inv hh
  exact h l hp
theorem p_IsChecked {l : List Int} {nr_ : Nat} {kk_ : V → Prop} (hp : l.length ≤ 1048576) : P1 (.call F_IsChecked 0 nr_) [vL I1 v1 l] kk_ ↔ kk_ (.bool (isChecked l)) :=
  P1_callF (by unfold F_IsChecked; exact mkF_eq F_IsChecked_inj (l) hp)

def E_copyInts (l : List Int) : List V := [vL I1 v1 l]
noncomputable def F_copyInts : List V → Option (List V) := mkF E_copyInts (fun l => l.length ≤ 4194304) (fun l => [vL I1 v1 l])
theorem F_copyInts_inj : ∀ x y, E_copyInts x = E_copyInts y → x = y := by
  rintro l l' h
  simpa [E_copyInts] using h
theorem F_copyInts_elim {P : List V → List V → Prop} (h : ∀ (l : List Int), (l.length ≤ 4194304) → P [vL I1 v1 l] [vL I1 v1 l]) : ∀ ds outs, F_copyInts ds = some outs → P ds outs := by
  intro ds outs hh
  obtain ⟨l, rfl, hp, rfl⟩ := mkF_inv hh
  exact h l hp
theorem p_copyInts {l : List Int} {nr_ : Nat} {kk_ : V → Prop} (hp : l.length ≤ 4194304) : P1 (.call F_copyInts 0 nr_) [vL I1 v1 l] kk_ ↔ kk_ (vL I1 v1 l) :=
  P1_callF (by unfold F_copyInts; exact mkF_eq F_copyInts_inj (l) hp)

/-- The digits from 9 down, so many of them: the last that is fine. -/
def scanD (f : Int → Bool) : Nat → Int
  | 0 => -1
  | n + 1 => if f (9 - n) then 9 - n else scanD f n
def wrongAt (l : List Int) (k : Nat) : Int := scanD (fun d => decide (some d ≠ l[k]?) && isChecked (l.set k d)) 10
def wrongDigits (l : List Int) : List Int := if areDigits l 2 21 then (List.range l.length).map (wrongAt l) else []
def E_WrongDigits (l : List Int) : List V := [vL I1 v1 l]
noncomputable def F_WrongDigits : List V → Option (List V) := mkF E_WrongDigits (fun l => l.length ≤ 1048576) (fun l => [vL I1 v1 (wrongDigits l)])
theorem F_WrongDigits_inj : ∀ x y, E_WrongDigits x = E_WrongDigits y → x = y := by
  rintro l l' h
  simpa [E_WrongDigits] using h
theorem F_WrongDigits_elim {P : List V → List V → Prop} (h : ∀ (l : List Int), (l.length ≤ 1048576) → P [vL I1 v1 l] [vL I1 v1 (wrongDigits l)]) : ∀ ds outs, F_WrongDigits ds = some outs → P ds outs := by
  intro ds outs hh
  obtain ⟨l, rfl, hp, rfl⟩ := mkF_inv hh
  exact h l hp
theorem p_WrongDigits {l : List Int} {nr_ : Nat} {kk_ : V → Prop} (hp : l.length ≤ 1048576) : P1 (.call F_WrongDigits 0 nr_) [vL I1 v1 l] kk_ ↔ kk_ (vL I1 v1 (wrongDigits l)) :=
  P1_callF (by unfold F_WrongDigits; exact mkF_eq F_WrongDigits_inj (l) hp)


/-! boxes -/
def areBoxes (l : List T3) (n : Int) : Bool := decide ((l.length : Int) ≤ n) && l.all boxOk
def E_areBoxes : List T3 × Int → List V := fun (l, n) => [vL I3 v3 l, .int .i64 n]
noncomputable def F_areBoxes : List V → Option (List V) := mkF E_areBoxes (fun (l, _) => l.length ≤ 1048576) (fun (l, n) => [.bool (areBoxes l n)])
theorem F_areBoxes_inj : ∀ x y, E_areBoxes x = E_areBoxes y → x = y := by
  rintro ⟨l, n⟩ ⟨l', n'⟩ h
  simpa [E_areBoxes] using h
theorem F_areBoxes_elim {P : List V → List V → Prop} (h : ∀ (l : List T3) (n : Int), (l.length ≤ 1048576) → P [vL I3 v3 l, .int .i64 n] [.bool (areBoxes l n)]) : ∀ ds outs, F_areBoxes ds = some outs → P ds outs := by
  intro ds outs hh
  obtain ⟨⟨l, n⟩, rfl, hp, rfl⟩ := mkF_inv hh
  exact h l n hp
theorem p_areBoxes {l : List T3} {n : Int} {nr_ : Nat} {kk_ : V → Prop} (hp : l.length ≤ 1048576) : P1 (.call F_areBoxes 0 nr_) [vL I3 v3 l, .int .i64 n] kk_ ↔ kk_ (.bool (areBoxes l n)) :=
  P1_callF (by unfold F_areBoxes; exact mkF_eq F_areBoxes_inj (l, n) hp)

def inside (x y : T3) : Bool := decide ((sortedBox x).a < (sortedBox y).a) && (decide ((sortedBox x).b < (sortedBox y).b) && decide ((sortedBox x).c < (sortedBox y).c))
def E_isInside : T3 × T3 → List V := fun (x, y) => [.int .i64 x.a, .int .i64 x.b, .int .i64 x.c, .int .i64 y.a, .int .i64 y.b, .int .i64 y.c]
noncomputable def F_isInside : List V → Option (List V) := mkF E_isInside (fun (_, _) => True) (fun (x, y) => [.bool (inside x y)])
theorem F_isInside_inj : ∀ x y, E_isInside x = E_isInside y → x = y := by
  rintro ⟨⟨xa, xb, xc⟩, ⟨ya, yb, yc⟩⟩ ⟨⟨xa', xb', xc'⟩, ⟨ya', yb', yc'⟩⟩ h
  simpa [E_isInside, and_assoc] using h
theorem F_isInside_elim {P : List V → List V → Prop} (h : ∀ (x : T3) (y : T3), P [.int .i64 x.a, .int .i64 x.b, .int .i64 x.c, .int .i64 y.a, .int .i64 y.b, .int .i64 y.c] [.bool (inside x y)]) : ∀ ds outs, F_isInside ds = some outs → P ds outs := by
  intro ds outs hh
  obtain ⟨⟨x, y⟩, rfl, -, rfl⟩ := mkF_inv hh
  exact h x y
@[simp] theorem p_isInside {x_a : Int} {x_b : Int} {x_c : Int} {y_a : Int} {y_b : Int} {y_c : Int} {nr_ : Nat} {kk_ : V → Prop} : P1 (.call F_isInside 0 nr_) [.int .i64 x_a, .int .i64 x_b, .int .i64 x_c, .int .i64 y_a, .int .i64 y_b, .int .i64 y_c] kk_ ↔ kk_ (.bool (inside (⟨x_a, x_b, x_c⟩ : T3) (⟨y_a, y_b, y_c⟩ : T3))) :=
  P1_callF (by unfold F_isInside; exact mkF_eq F_isInside_inj ((⟨x_a, x_b, x_c⟩ : T3), (⟨y_a, y_b, y_c⟩ : T3)) trivial)

/-- The best of the first k boxes: -1 for none. -/
def bestBox (l : List T3) (w : T3) : Nat → Int
  | 0 => -1
  | k + 1 =>
    let b := bestBox l w k
    match l[k]? with
    | none => b
    | some x => if 0 ≤ leftOver w x ∧ (b < 0 ∨ leftOver w x < (match l[b.toNat]? with | some y => leftOver w y | none => 0)) then k else b
def smallestBox (l : List T3) (w : T3) : Int := if areBoxes l 20 && boxOk w then bestBox l w l.length else -1
def E_SmallestBox : List T3 × T3 → List V := fun (l, w) => [vL I3 v3 l, .int .i64 w.a, .int .i64 w.b, .int .i64 w.c]
noncomputable def F_SmallestBox : List V → Option (List V) := mkF E_SmallestBox (fun (l, _) => l.length ≤ 1048576) (fun (l, w) => [.int .i64 (smallestBox l w)])
theorem F_SmallestBox_inj : ∀ x y, E_SmallestBox x = E_SmallestBox y → x = y := by
  rintro ⟨l, ⟨wa, wb, wc⟩⟩ ⟨l', ⟨wa', wb', wc'⟩⟩ h
  simpa [E_SmallestBox, and_assoc] using h
theorem F_SmallestBox_elim {P : List V → List V → Prop} (h : ∀ (l : List T3) (w : T3), (l.length ≤ 1048576) → P [vL I3 v3 l, .int .i64 w.a, .int .i64 w.b, .int .i64 w.c] [.int .i64 (smallestBox l w)]) : ∀ ds outs, F_SmallestBox ds = some outs → P ds outs := by
  intro ds outs hh
  obtain ⟨⟨l, w⟩, rfl, hp, rfl⟩ := mkF_inv hh
  exact h l w hp
theorem p_SmallestBox {l : List T3} {w_a : Int} {w_b : Int} {w_c : Int} {nr_ : Nat} {kk_ : V → Prop} (hp : l.length ≤ 1048576) : P1 (.call F_SmallestBox 0 nr_) [vL I3 v3 l, .int .i64 w_a, .int .i64 w_b, .int .i64 w_c] kk_ ↔ kk_ (.int .i64 (smallestBox l (⟨w_a, w_b, w_c⟩ : T3))) :=
  P1_callF (by unfold F_SmallestBox; exact mkF_eq F_SmallestBox_inj (l, (⟨w_a, w_b, w_c⟩ : T3)) hp)


def E_FnExactShowTime : List T2 × Int → List V := fun (l, p) => [vL I2 v2 l, .int .i64 p]
noncomputable def F_FnExactShowTime : List V → Option (List V) := mkF E_FnExactShowTime (fun (l, p) => wfL2 l ∧ wfI p) (fun (_, _) => [.bool true])
theorem F_FnExactShowTime_inj : ∀ x y, E_FnExactShowTime x = E_FnExactShowTime y → x = y := by
  rintro ⟨l, p⟩ ⟨l', p'⟩ h
  simpa [E_FnExactShowTime] using h
theorem F_FnExactShowTime_elim {P : List V → List V → Prop} (h : ∀ (l : List T2) (p : Int), (wfL2 l ∧ wfI p) → P [vL I2 v2 l, .int .i64 p] [.bool true]) : ∀ ds outs, F_FnExactShowTime ds = some outs → P ds outs := by
  intro ds outs hh
  obtain ⟨⟨l, p⟩, rfl, hp, rfl⟩ := mkF_inv hh
  exact h l p hp
theorem p_FnExactShowTime {l : List T2} {p : Int} {nr_ : Nat} {kk_ : V → Prop} (hp : wfL2 l ∧ wfI p) : P1 (.call F_FnExactShowTime 0 nr_) [vL I2 v2 l, .int .i64 p] kk_ ↔ kk_ (.bool true) :=
  P1_callF (by unfold F_FnExactShowTime; exact mkF_eq F_FnExactShowTime_inj (l, p) hp)
theorem F_FnExactShowTime_law : ∀ ds, okTKs [.list true [.int .i64, .int .i64], .int .i64] ds → F_FnExactShowTime ds = some [.bool true] := by
  intro ds g0
  obtain ⟨_, _, rfl, h0, g1⟩ := okTKs_cons g0
  obtain ⟨l, rfl, r0⟩ := dec_L2 h0
  obtain ⟨_, _, rfl, h1, g2⟩ := okTKs_cons g1
  obtain ⟨p, rfl, r1⟩ := dec_I h1
  obtain rfl := okTKs_nil g2
  exact mkF_eq F_FnExactShowTime_inj (l, p) ⟨r0, r1⟩

def E_FnExactStateOk : Cyl × Stt → List V := fun (x, y) => [.int .i64 x.s, .int .i64 x.t, vL I2 v2 x.p, .int .i64 y.a, .bool y.n, .int .i64 y.p]
noncomputable def F_FnExactStateOk : List V → Option (List V) := mkF E_FnExactStateOk (fun (x, y) => wfI x.s ∧ wfI x.t ∧ wfL2 x.p ∧ wfI y.a ∧ wfB y.n ∧ wfI y.p) (fun (_, _) => [.bool true])
theorem F_FnExactStateOk_inj : ∀ x y, E_FnExactStateOk x = E_FnExactStateOk y → x = y := by
  rintro ⟨⟨xs, xt, xp⟩, ⟨ya, yn, yp⟩⟩ ⟨⟨xs', xt', xp'⟩, ⟨ya', yn', yp'⟩⟩ h
  simpa [E_FnExactStateOk, and_assoc] using h
theorem F_FnExactStateOk_elim {P : List V → List V → Prop} (h : ∀ (x : Cyl) (y : Stt), (wfI x.s ∧ wfI x.t ∧ wfL2 x.p ∧ wfI y.a ∧ wfB y.n ∧ wfI y.p) → P [.int .i64 x.s, .int .i64 x.t, vL I2 v2 x.p, .int .i64 y.a, .bool y.n, .int .i64 y.p] [.bool true]) : ∀ ds outs, F_FnExactStateOk ds = some outs → P ds outs := by
  intro ds outs hh
  obtain ⟨⟨x, y⟩, rfl, hp, rfl⟩ := mkF_inv hh
  exact h x y hp
theorem p_FnExactStateOk {x_s : Int} {x_t : Int} {x_p : List T2} {y_a : Int} {y_n : Bool} {y_p : Int} {nr_ : Nat} {kk_ : V → Prop} (hp : wfI (⟨x_s, x_t, x_p⟩ : Cyl).s ∧ wfI (⟨x_s, x_t, x_p⟩ : Cyl).t ∧ wfL2 (⟨x_s, x_t, x_p⟩ : Cyl).p ∧ wfI (⟨y_a, y_n, y_p⟩ : Stt).a ∧ wfB (⟨y_a, y_n, y_p⟩ : Stt).n ∧ wfI (⟨y_a, y_n, y_p⟩ : Stt).p) : P1 (.call F_FnExactStateOk 0 nr_) [.int .i64 x_s, .int .i64 x_t, vL I2 v2 x_p, .int .i64 y_a, .bool y_n, .int .i64 y_p] kk_ ↔ kk_ (.bool true) :=
  P1_callF (by unfold F_FnExactStateOk; exact mkF_eq F_FnExactStateOk_inj ((⟨x_s, x_t, x_p⟩ : Cyl), (⟨y_a, y_n, y_p⟩ : Stt)) hp)
theorem F_FnExactStateOk_law : ∀ ds, okTKs [.int .i64, .int .i64, .list true [.int .i64, .int .i64], .int .i64, .bool, .int .i64] ds → F_FnExactStateOk ds = some [.bool true] := by
  intro ds g0
  obtain ⟨_, _, rfl, h0, g1⟩ := okTKs_cons g0
  obtain ⟨x_s, rfl, r0⟩ := dec_I h0
  obtain ⟨_, _, rfl, h1, g2⟩ := okTKs_cons g1
  obtain ⟨x_t, rfl, r1⟩ := dec_I h1
  obtain ⟨_, _, rfl, h2, g3⟩ := okTKs_cons g2
  obtain ⟨x_p, rfl, r2⟩ := dec_L2 h2
  obtain ⟨_, _, rfl, h3, g4⟩ := okTKs_cons g3
  obtain ⟨y_a, rfl, r3⟩ := dec_I h3
  obtain ⟨_, _, rfl, h4, g5⟩ := okTKs_cons g4
  obtain ⟨y_n, rfl, r4⟩ := dec_B h4
  obtain ⟨_, _, rfl, h5, g6⟩ := okTKs_cons g5
  obtain ⟨y_p, rfl, r5⟩ := dec_I h5
  obtain rfl := okTKs_nil g6
  exact mkF_eq F_FnExactStateOk_inj ((⟨x_s, x_t, x_p⟩ : Cyl), (⟨y_a, y_n, y_p⟩ : Stt)) ⟨r0, r1, r2, r3, r4, r5⟩

def E_FnExactMoodSteps : List T2 × List Int → List V := fun (l, o) => [vL I2 v2 l, vL I1 v1 o]
noncomputable def F_FnExactMoodSteps : List V → Option (List V) := mkF E_FnExactMoodSteps (fun (l, o) => wfL2 l ∧ wfL1 o) (fun (_, _) => [.bool true])
theorem F_FnExactMoodSteps_inj : ∀ x y, E_FnExactMoodSteps x = E_FnExactMoodSteps y → x = y := by
  rintro ⟨l, o⟩ ⟨l', o'⟩ h
  simpa [E_FnExactMoodSteps] using h
theorem F_FnExactMoodSteps_elim {P : List V → List V → Prop} (h : ∀ (l : List T2) (o : List Int), (wfL2 l ∧ wfL1 o) → P [vL I2 v2 l, vL I1 v1 o] [.bool true]) : ∀ ds outs, F_FnExactMoodSteps ds = some outs → P ds outs := by
  intro ds outs hh
  obtain ⟨⟨l, o⟩, rfl, hp, rfl⟩ := mkF_inv hh
  exact h l o hp
theorem p_FnExactMoodSteps {l : List T2} {o : List Int} {nr_ : Nat} {kk_ : V → Prop} (hp : wfL2 l ∧ wfL1 o) : P1 (.call F_FnExactMoodSteps 0 nr_) [vL I2 v2 l, vL I1 v1 o] kk_ ↔ kk_ (.bool true) :=
  P1_callF (by unfold F_FnExactMoodSteps; exact mkF_eq F_FnExactMoodSteps_inj (l, o) hp)
theorem F_FnExactMoodSteps_law : ∀ ds, okTKs [.list true [.int .i64, .int .i64], .list false [.int .i64]] ds → F_FnExactMoodSteps ds = some [.bool true] := by
  intro ds g0
  obtain ⟨_, _, rfl, h0, g1⟩ := okTKs_cons g0
  obtain ⟨l, rfl, r0⟩ := dec_L2 h0
  obtain ⟨_, _, rfl, h1, g2⟩ := okTKs_cons g1
  obtain ⟨o, rfl, r1⟩ := dec_L1 h1
  obtain rfl := okTKs_nil g2
  exact mkF_eq F_FnExactMoodSteps_inj (l, o) ⟨r0, r1⟩

def E_FnExactPinSum (x : Cyl) : List V := [.int .i64 x.s, .int .i64 x.t, vL I2 v2 x.p]
noncomputable def F_FnExactPinSum : List V → Option (List V) := mkF E_FnExactPinSum (fun x => wfI x.s ∧ wfI x.t ∧ wfL2 x.p) (fun _ => [.bool true])
theorem F_FnExactPinSum_inj : ∀ x y, E_FnExactPinSum x = E_FnExactPinSum y → x = y := by
  rintro ⟨xs, xt, xp⟩ ⟨xs', xt', xp'⟩ h
  simpa [E_FnExactPinSum] using h
theorem F_FnExactPinSum_elim {P : List V → List V → Prop} (h : ∀ (x : Cyl), (wfI x.s ∧ wfI x.t ∧ wfL2 x.p) → P [.int .i64 x.s, .int .i64 x.t, vL I2 v2 x.p] [.bool true]) : ∀ ds outs, F_FnExactPinSum ds = some outs → P ds outs := by
  intro ds outs hh
  obtain ⟨x, rfl, hp, rfl⟩ := mkF_inv hh
  exact h x hp
theorem p_FnExactPinSum {x_s : Int} {x_t : Int} {x_p : List T2} {nr_ : Nat} {kk_ : V → Prop} (hp : wfI (⟨x_s, x_t, x_p⟩ : Cyl).s ∧ wfI (⟨x_s, x_t, x_p⟩ : Cyl).t ∧ wfL2 (⟨x_s, x_t, x_p⟩ : Cyl).p) : P1 (.call F_FnExactPinSum 0 nr_) [.int .i64 x_s, .int .i64 x_t, vL I2 v2 x_p] kk_ ↔ kk_ (.bool true) :=
  P1_callF (by unfold F_FnExactPinSum; exact mkF_eq F_FnExactPinSum_inj ((⟨x_s, x_t, x_p⟩ : Cyl)) hp)
theorem F_FnExactPinSum_law : ∀ ds, okTKs [.int .i64, .int .i64, .list true [.int .i64, .int .i64]] ds → F_FnExactPinSum ds = some [.bool true] := by
  intro ds g0
  obtain ⟨_, _, rfl, h0, g1⟩ := okTKs_cons g0
  obtain ⟨x_s, rfl, r0⟩ := dec_I h0
  obtain ⟨_, _, rfl, h1, g2⟩ := okTKs_cons g1
  obtain ⟨x_t, rfl, r1⟩ := dec_I h1
  obtain ⟨_, _, rfl, h2, g3⟩ := okTKs_cons g2
  obtain ⟨x_p, rfl, r2⟩ := dec_L2 h2
  obtain rfl := okTKs_nil g3
  exact mkF_eq F_FnExactPinSum_inj ((⟨x_s, x_t, x_p⟩ : Cyl)) ⟨r0, r1, r2⟩

def E_FnExactWrongDigits (l : List Int) : List V := [vL I1 v1 l]
noncomputable def F_FnExactWrongDigits : List V → Option (List V) := mkF E_FnExactWrongDigits (fun l => wfL1 l) (fun _ => [.bool true])
theorem F_FnExactWrongDigits_inj : ∀ x y, E_FnExactWrongDigits x = E_FnExactWrongDigits y → x = y := by
  rintro l l' h
  simpa [E_FnExactWrongDigits] using h
theorem F_FnExactWrongDigits_elim {P : List V → List V → Prop} (h : ∀ (l : List Int), (wfL1 l) → P [vL I1 v1 l] [.bool true]) : ∀ ds outs, F_FnExactWrongDigits ds = some outs → P ds outs := by
  intro ds outs hh
  obtain ⟨l, rfl, hp, rfl⟩ := mkF_inv hh
  exact h l hp
theorem p_FnExactWrongDigits {l : List Int} {nr_ : Nat} {kk_ : V → Prop} (hp : wfL1 l) : P1 (.call F_FnExactWrongDigits 0 nr_) [vL I1 v1 l] kk_ ↔ kk_ (.bool true) :=
  P1_callF (by unfold F_FnExactWrongDigits; exact mkF_eq F_FnExactWrongDigits_inj (l) hp)
theorem F_FnExactWrongDigits_law : ∀ ds, okTKs [.list false [.int .i64]] ds → F_FnExactWrongDigits ds = some [.bool true] := by
  intro ds g0
  obtain ⟨_, _, rfl, h0, g1⟩ := okTKs_cons g0
  obtain ⟨l, rfl, r0⟩ := dec_L1 h0
  obtain rfl := okTKs_nil g1
  exact mkF_eq F_FnExactWrongDigits_inj (l) r0

def E_FnExactSmallestBox : List T3 × T3 → List V := fun (l, w) => [vL I3 v3 l, .int .i64 w.a, .int .i64 w.b, .int .i64 w.c]
noncomputable def F_FnExactSmallestBox : List V → Option (List V) := mkF E_FnExactSmallestBox (fun (l, w) => wfL3 l ∧ wfI w.a ∧ wfI w.b ∧ wfI w.c) (fun (_, _) => [.bool true])
theorem F_FnExactSmallestBox_inj : ∀ x y, E_FnExactSmallestBox x = E_FnExactSmallestBox y → x = y := by
  rintro ⟨l, ⟨wa, wb, wc⟩⟩ ⟨l', ⟨wa', wb', wc'⟩⟩ h
  simpa [E_FnExactSmallestBox, and_assoc] using h
theorem F_FnExactSmallestBox_elim {P : List V → List V → Prop} (h : ∀ (l : List T3) (w : T3), (wfL3 l ∧ wfI w.a ∧ wfI w.b ∧ wfI w.c) → P [vL I3 v3 l, .int .i64 w.a, .int .i64 w.b, .int .i64 w.c] [.bool true]) : ∀ ds outs, F_FnExactSmallestBox ds = some outs → P ds outs := by
  intro ds outs hh
  obtain ⟨⟨l, w⟩, rfl, hp, rfl⟩ := mkF_inv hh
  exact h l w hp
theorem p_FnExactSmallestBox {l : List T3} {w_a : Int} {w_b : Int} {w_c : Int} {nr_ : Nat} {kk_ : V → Prop} (hp : wfL3 l ∧ wfI (⟨w_a, w_b, w_c⟩ : T3).a ∧ wfI (⟨w_a, w_b, w_c⟩ : T3).b ∧ wfI (⟨w_a, w_b, w_c⟩ : T3).c) : P1 (.call F_FnExactSmallestBox 0 nr_) [vL I3 v3 l, .int .i64 w_a, .int .i64 w_b, .int .i64 w_c] kk_ ↔ kk_ (.bool true) :=
  P1_callF (by unfold F_FnExactSmallestBox; exact mkF_eq F_FnExactSmallestBox_inj (l, (⟨w_a, w_b, w_c⟩ : T3)) hp)
theorem F_FnExactSmallestBox_law : ∀ ds, okTKs [.list true [.int .i64, .int .i64, .int .i64], .int .i64, .int .i64, .int .i64] ds → F_FnExactSmallestBox ds = some [.bool true] := by
  intro ds g0
  obtain ⟨_, _, rfl, h0, g1⟩ := okTKs_cons g0
  obtain ⟨l, rfl, r0⟩ := dec_L3 h0
  obtain ⟨_, _, rfl, h1, g2⟩ := okTKs_cons g1
  obtain ⟨w_a, rfl, r1⟩ := dec_I h1
  obtain ⟨_, _, rfl, h2, g3⟩ := okTKs_cons g2
  obtain ⟨w_b, rfl, r2⟩ := dec_I h2
  obtain ⟨_, _, rfl, h3, g4⟩ := okTKs_cons g3
  obtain ⟨w_c, rfl, r3⟩ := dec_I h3
  obtain rfl := okTKs_nil g4
  exact mkF_eq F_FnExactSmallestBox_inj (l, (⟨w_a, w_b, w_c⟩ : T3)) ⟨r0, r1, r2, r3⟩

def E_FnExactStepsLeft : Cyl × Stt → List V := fun (x, y) => [.int .i64 x.s, .int .i64 x.t, vL I2 v2 x.p, .int .i64 y.a, .bool y.n, .int .i64 y.p]
noncomputable def F_FnExactStepsLeft : List V → Option (List V) := mkF E_FnExactStepsLeft (fun (x, y) => wfI x.s ∧ wfI x.t ∧ wfL2 x.p ∧ wfI y.a ∧ wfB y.n ∧ wfI y.p) (fun (_, _) => [.bool true])
theorem F_FnExactStepsLeft_inj : ∀ x y, E_FnExactStepsLeft x = E_FnExactStepsLeft y → x = y := by
  rintro ⟨⟨xs, xt, xp⟩, ⟨ya, yn, yp⟩⟩ ⟨⟨xs', xt', xp'⟩, ⟨ya', yn', yp'⟩⟩ h
  simpa [E_FnExactStepsLeft, and_assoc] using h
theorem F_FnExactStepsLeft_elim {P : List V → List V → Prop} (h : ∀ (x : Cyl) (y : Stt), (wfI x.s ∧ wfI x.t ∧ wfL2 x.p ∧ wfI y.a ∧ wfB y.n ∧ wfI y.p) → P [.int .i64 x.s, .int .i64 x.t, vL I2 v2 x.p, .int .i64 y.a, .bool y.n, .int .i64 y.p] [.bool true]) : ∀ ds outs, F_FnExactStepsLeft ds = some outs → P ds outs := by
  intro ds outs hh
  obtain ⟨⟨x, y⟩, rfl, hp, rfl⟩ := mkF_inv hh
  exact h x y hp
theorem p_FnExactStepsLeft {x_s : Int} {x_t : Int} {x_p : List T2} {y_a : Int} {y_n : Bool} {y_p : Int} {nr_ : Nat} {kk_ : V → Prop} (hp : wfI (⟨x_s, x_t, x_p⟩ : Cyl).s ∧ wfI (⟨x_s, x_t, x_p⟩ : Cyl).t ∧ wfL2 (⟨x_s, x_t, x_p⟩ : Cyl).p ∧ wfI (⟨y_a, y_n, y_p⟩ : Stt).a ∧ wfB (⟨y_a, y_n, y_p⟩ : Stt).n ∧ wfI (⟨y_a, y_n, y_p⟩ : Stt).p) : P1 (.call F_FnExactStepsLeft 0 nr_) [.int .i64 x_s, .int .i64 x_t, vL I2 v2 x_p, .int .i64 y_a, .bool y_n, .int .i64 y_p] kk_ ↔ kk_ (.bool true) :=
  P1_callF (by unfold F_FnExactStepsLeft; exact mkF_eq F_FnExactStepsLeft_inj ((⟨x_s, x_t, x_p⟩ : Cyl), (⟨y_a, y_n, y_p⟩ : Stt)) hp)
theorem F_FnExactStepsLeft_law : ∀ ds, okTKs [.int .i64, .int .i64, .list true [.int .i64, .int .i64], .int .i64, .bool, .int .i64] ds → F_FnExactStepsLeft ds = some [.bool true] := by
  intro ds g0
  obtain ⟨_, _, rfl, h0, g1⟩ := okTKs_cons g0
  obtain ⟨x_s, rfl, r0⟩ := dec_I h0
  obtain ⟨_, _, rfl, h1, g2⟩ := okTKs_cons g1
  obtain ⟨x_t, rfl, r1⟩ := dec_I h1
  obtain ⟨_, _, rfl, h2, g3⟩ := okTKs_cons g2
  obtain ⟨x_p, rfl, r2⟩ := dec_L2 h2
  obtain ⟨_, _, rfl, h3, g4⟩ := okTKs_cons g3
  obtain ⟨y_a, rfl, r3⟩ := dec_I h3
  obtain ⟨_, _, rfl, h4, g5⟩ := okTKs_cons g4
  obtain ⟨y_n, rfl, r4⟩ := dec_B h4
  obtain ⟨_, _, rfl, h5, g6⟩ := okTKs_cons g5
  obtain ⟨y_p, rfl, r5⟩ := dec_I h5
  obtain rfl := okTKs_nil g6
  exact mkF_eq F_FnExactStepsLeft_inj ((⟨x_s, x_t, x_p⟩ : Cyl), (⟨y_a, y_n, y_p⟩ : Stt)) ⟨r0, r1, r2, r3, r4, r5⟩

def E_FnExactStartBox : Cyl × Stt → List V := fun (x, y) => [.int .i64 x.s, .int .i64 x.t, vL I2 v2 x.p, .int .i64 y.a, .bool y.n, .int .i64 y.p]
noncomputable def F_FnExactStartBox : List V → Option (List V) := mkF E_FnExactStartBox (fun (x, y) => wfI x.s ∧ wfI x.t ∧ wfL2 x.p ∧ wfI y.a ∧ wfB y.n ∧ wfI y.p) (fun (_, _) => [.bool true])
theorem F_FnExactStartBox_inj : ∀ x y, E_FnExactStartBox x = E_FnExactStartBox y → x = y := by
  rintro ⟨⟨xs, xt, xp⟩, ⟨ya, yn, yp⟩⟩ ⟨⟨xs', xt', xp'⟩, ⟨ya', yn', yp'⟩⟩ h
  simpa [E_FnExactStartBox, and_assoc] using h
theorem F_FnExactStartBox_elim {P : List V → List V → Prop} (h : ∀ (x : Cyl) (y : Stt), (wfI x.s ∧ wfI x.t ∧ wfL2 x.p ∧ wfI y.a ∧ wfB y.n ∧ wfI y.p) → P [.int .i64 x.s, .int .i64 x.t, vL I2 v2 x.p, .int .i64 y.a, .bool y.n, .int .i64 y.p] [.bool true]) : ∀ ds outs, F_FnExactStartBox ds = some outs → P ds outs := by
  intro ds outs hh
  obtain ⟨⟨x, y⟩, rfl, hp, rfl⟩ := mkF_inv hh
  exact h x y hp
theorem p_FnExactStartBox {x_s : Int} {x_t : Int} {x_p : List T2} {y_a : Int} {y_n : Bool} {y_p : Int} {nr_ : Nat} {kk_ : V → Prop} (hp : wfI (⟨x_s, x_t, x_p⟩ : Cyl).s ∧ wfI (⟨x_s, x_t, x_p⟩ : Cyl).t ∧ wfL2 (⟨x_s, x_t, x_p⟩ : Cyl).p ∧ wfI (⟨y_a, y_n, y_p⟩ : Stt).a ∧ wfB (⟨y_a, y_n, y_p⟩ : Stt).n ∧ wfI (⟨y_a, y_n, y_p⟩ : Stt).p) : P1 (.call F_FnExactStartBox 0 nr_) [.int .i64 x_s, .int .i64 x_t, vL I2 v2 x_p, .int .i64 y_a, .bool y_n, .int .i64 y_p] kk_ ↔ kk_ (.bool true) :=
  P1_callF (by unfold F_FnExactStartBox; exact mkF_eq F_FnExactStartBox_inj ((⟨x_s, x_t, x_p⟩ : Cyl), (⟨y_a, y_n, y_p⟩ : Stt)) hp)
theorem F_FnExactStartBox_law : ∀ ds, okTKs [.int .i64, .int .i64, .list true [.int .i64, .int .i64], .int .i64, .bool, .int .i64] ds → F_FnExactStartBox ds = some [.bool true] := by
  intro ds g0
  obtain ⟨_, _, rfl, h0, g1⟩ := okTKs_cons g0
  obtain ⟨x_s, rfl, r0⟩ := dec_I h0
  obtain ⟨_, _, rfl, h1, g2⟩ := okTKs_cons g1
  obtain ⟨x_t, rfl, r1⟩ := dec_I h1
  obtain ⟨_, _, rfl, h2, g3⟩ := okTKs_cons g2
  obtain ⟨x_p, rfl, r2⟩ := dec_L2 h2
  obtain ⟨_, _, rfl, h3, g4⟩ := okTKs_cons g3
  obtain ⟨y_a, rfl, r3⟩ := dec_I h3
  obtain ⟨_, _, rfl, h4, g5⟩ := okTKs_cons g4
  obtain ⟨y_n, rfl, r4⟩ := dec_B h4
  obtain ⟨_, _, rfl, h5, g6⟩ := okTKs_cons g5
  obtain ⟨y_p, rfl, r5⟩ := dec_I h5
  obtain rfl := okTKs_nil g6
  exact mkF_eq F_FnExactStartBox_inj ((⟨x_s, x_t, x_p⟩ : Cyl), (⟨y_a, y_n, y_p⟩ : Stt)) ⟨r0, r1, r2, r3, r4, r5⟩

def E_FnExactStopBox : Cyl × Stt → List V := fun (x, y) => [.int .i64 x.s, .int .i64 x.t, vL I2 v2 x.p, .int .i64 y.a, .bool y.n, .int .i64 y.p]
noncomputable def F_FnExactStopBox : List V → Option (List V) := mkF E_FnExactStopBox (fun (x, y) => wfI x.s ∧ wfI x.t ∧ wfL2 x.p ∧ wfI y.a ∧ wfB y.n ∧ wfI y.p) (fun (_, _) => [.bool true])
theorem F_FnExactStopBox_inj : ∀ x y, E_FnExactStopBox x = E_FnExactStopBox y → x = y := by
  rintro ⟨⟨xs, xt, xp⟩, ⟨ya, yn, yp⟩⟩ ⟨⟨xs', xt', xp'⟩, ⟨ya', yn', yp'⟩⟩ h
  simpa [E_FnExactStopBox, and_assoc] using h
theorem F_FnExactStopBox_elim {P : List V → List V → Prop} (h : ∀ (x : Cyl) (y : Stt), (wfI x.s ∧ wfI x.t ∧ wfL2 x.p ∧ wfI y.a ∧ wfB y.n ∧ wfI y.p) → P [.int .i64 x.s, .int .i64 x.t, vL I2 v2 x.p, .int .i64 y.a, .bool y.n, .int .i64 y.p] [.bool true]) : ∀ ds outs, F_FnExactStopBox ds = some outs → P ds outs := by
  intro ds outs hh
  obtain ⟨⟨x, y⟩, rfl, hp, rfl⟩ := mkF_inv hh
  exact h x y hp
theorem p_FnExactStopBox {x_s : Int} {x_t : Int} {x_p : List T2} {y_a : Int} {y_n : Bool} {y_p : Int} {nr_ : Nat} {kk_ : V → Prop} (hp : wfI (⟨x_s, x_t, x_p⟩ : Cyl).s ∧ wfI (⟨x_s, x_t, x_p⟩ : Cyl).t ∧ wfL2 (⟨x_s, x_t, x_p⟩ : Cyl).p ∧ wfI (⟨y_a, y_n, y_p⟩ : Stt).a ∧ wfB (⟨y_a, y_n, y_p⟩ : Stt).n ∧ wfI (⟨y_a, y_n, y_p⟩ : Stt).p) : P1 (.call F_FnExactStopBox 0 nr_) [.int .i64 x_s, .int .i64 x_t, vL I2 v2 x_p, .int .i64 y_a, .bool y_n, .int .i64 y_p] kk_ ↔ kk_ (.bool true) :=
  P1_callF (by unfold F_FnExactStopBox; exact mkF_eq F_FnExactStopBox_inj ((⟨x_s, x_t, x_p⟩ : Cyl), (⟨y_a, y_n, y_p⟩ : Stt)) hp)
theorem F_FnExactStopBox_law : ∀ ds, okTKs [.int .i64, .int .i64, .list true [.int .i64, .int .i64], .int .i64, .bool, .int .i64] ds → F_FnExactStopBox ds = some [.bool true] := by
  intro ds g0
  obtain ⟨_, _, rfl, h0, g1⟩ := okTKs_cons g0
  obtain ⟨x_s, rfl, r0⟩ := dec_I h0
  obtain ⟨_, _, rfl, h1, g2⟩ := okTKs_cons g1
  obtain ⟨x_t, rfl, r1⟩ := dec_I h1
  obtain ⟨_, _, rfl, h2, g3⟩ := okTKs_cons g2
  obtain ⟨x_p, rfl, r2⟩ := dec_L2 h2
  obtain ⟨_, _, rfl, h3, g4⟩ := okTKs_cons g3
  obtain ⟨y_a, rfl, r3⟩ := dec_I h3
  obtain ⟨_, _, rfl, h4, g5⟩ := okTKs_cons g4
  obtain ⟨y_n, rfl, r4⟩ := dec_B h4
  obtain ⟨_, _, rfl, h5, g6⟩ := okTKs_cons g5
  obtain ⟨y_p, rfl, r5⟩ := dec_I h5
  obtain rfl := okTKs_nil g6
  exact mkF_eq F_FnExactStopBox_inj ((⟨x_s, x_t, x_p⟩ : Cyl), (⟨y_a, y_n, y_p⟩ : Stt)) ⟨r0, r1, r2, r3, r4, r5⟩

def E_FnExactStepBox : Cyl × Stt → List V := fun (x, y) => [.int .i64 x.s, .int .i64 x.t, vL I2 v2 x.p, .int .i64 y.a, .bool y.n, .int .i64 y.p]
noncomputable def F_FnExactStepBox : List V → Option (List V) := mkF E_FnExactStepBox (fun (x, y) => wfI x.s ∧ wfI x.t ∧ wfL2 x.p ∧ wfI y.a ∧ wfB y.n ∧ wfI y.p) (fun (_, _) => [.bool true])
theorem F_FnExactStepBox_inj : ∀ x y, E_FnExactStepBox x = E_FnExactStepBox y → x = y := by
  rintro ⟨⟨xs, xt, xp⟩, ⟨ya, yn, yp⟩⟩ ⟨⟨xs', xt', xp'⟩, ⟨ya', yn', yp'⟩⟩ h
  simpa [E_FnExactStepBox, and_assoc] using h
theorem F_FnExactStepBox_elim {P : List V → List V → Prop} (h : ∀ (x : Cyl) (y : Stt), (wfI x.s ∧ wfI x.t ∧ wfL2 x.p ∧ wfI y.a ∧ wfB y.n ∧ wfI y.p) → P [.int .i64 x.s, .int .i64 x.t, vL I2 v2 x.p, .int .i64 y.a, .bool y.n, .int .i64 y.p] [.bool true]) : ∀ ds outs, F_FnExactStepBox ds = some outs → P ds outs := by
  intro ds outs hh
  obtain ⟨⟨x, y⟩, rfl, hp, rfl⟩ := mkF_inv hh
  exact h x y hp
theorem p_FnExactStepBox {x_s : Int} {x_t : Int} {x_p : List T2} {y_a : Int} {y_n : Bool} {y_p : Int} {nr_ : Nat} {kk_ : V → Prop} (hp : wfI (⟨x_s, x_t, x_p⟩ : Cyl).s ∧ wfI (⟨x_s, x_t, x_p⟩ : Cyl).t ∧ wfL2 (⟨x_s, x_t, x_p⟩ : Cyl).p ∧ wfI (⟨y_a, y_n, y_p⟩ : Stt).a ∧ wfB (⟨y_a, y_n, y_p⟩ : Stt).n ∧ wfI (⟨y_a, y_n, y_p⟩ : Stt).p) : P1 (.call F_FnExactStepBox 0 nr_) [.int .i64 x_s, .int .i64 x_t, vL I2 v2 x_p, .int .i64 y_a, .bool y_n, .int .i64 y_p] kk_ ↔ kk_ (.bool true) :=
  P1_callF (by unfold F_FnExactStepBox; exact mkF_eq F_FnExactStepBox_inj ((⟨x_s, x_t, x_p⟩ : Cyl), (⟨y_a, y_n, y_p⟩ : Stt)) hp)
theorem F_FnExactStepBox_law : ∀ ds, okTKs [.int .i64, .int .i64, .list true [.int .i64, .int .i64], .int .i64, .bool, .int .i64] ds → F_FnExactStepBox ds = some [.bool true] := by
  intro ds g0
  obtain ⟨_, _, rfl, h0, g1⟩ := okTKs_cons g0
  obtain ⟨x_s, rfl, r0⟩ := dec_I h0
  obtain ⟨_, _, rfl, h1, g2⟩ := okTKs_cons g1
  obtain ⟨x_t, rfl, r1⟩ := dec_I h1
  obtain ⟨_, _, rfl, h2, g3⟩ := okTKs_cons g2
  obtain ⟨x_p, rfl, r2⟩ := dec_L2 h2
  obtain ⟨_, _, rfl, h3, g4⟩ := okTKs_cons g3
  obtain ⟨y_a, rfl, r3⟩ := dec_I h3
  obtain ⟨_, _, rfl, h4, g5⟩ := okTKs_cons g4
  obtain ⟨y_n, rfl, r4⟩ := dec_B h4
  obtain ⟨_, _, rfl, h5, g6⟩ := okTKs_cons g5
  obtain ⟨y_p, rfl, r5⟩ := dec_I h5
  obtain rfl := okTKs_nil g6
  exact mkF_eq F_FnExactStepBox_inj ((⟨x_s, x_t, x_p⟩ : Cyl), (⟨y_a, y_n, y_p⟩ : Stt)) ⟨r0, r1, r2, r3, r4, r5⟩

def E_FnExactRunBox : Cyl × Stt → List V := fun (x, y) => [.int .i64 x.s, .int .i64 x.t, vL I2 v2 x.p, .int .i64 y.a, .bool y.n, .int .i64 y.p]
noncomputable def F_FnExactRunBox : List V → Option (List V) := mkF E_FnExactRunBox (fun (x, y) => wfI x.s ∧ wfI x.t ∧ wfL2 x.p ∧ wfI y.a ∧ wfB y.n ∧ wfI y.p) (fun (_, _) => [.bool true])
theorem F_FnExactRunBox_inj : ∀ x y, E_FnExactRunBox x = E_FnExactRunBox y → x = y := by
  rintro ⟨⟨xs, xt, xp⟩, ⟨ya, yn, yp⟩⟩ ⟨⟨xs', xt', xp'⟩, ⟨ya', yn', yp'⟩⟩ h
  simpa [E_FnExactRunBox, and_assoc] using h
theorem F_FnExactRunBox_elim {P : List V → List V → Prop} (h : ∀ (x : Cyl) (y : Stt), (wfI x.s ∧ wfI x.t ∧ wfL2 x.p ∧ wfI y.a ∧ wfB y.n ∧ wfI y.p) → P [.int .i64 x.s, .int .i64 x.t, vL I2 v2 x.p, .int .i64 y.a, .bool y.n, .int .i64 y.p] [.bool true]) : ∀ ds outs, F_FnExactRunBox ds = some outs → P ds outs := by
  intro ds outs hh
  obtain ⟨⟨x, y⟩, rfl, hp, rfl⟩ := mkF_inv hh
  exact h x y hp
theorem p_FnExactRunBox {x_s : Int} {x_t : Int} {x_p : List T2} {y_a : Int} {y_n : Bool} {y_p : Int} {nr_ : Nat} {kk_ : V → Prop} (hp : wfI (⟨x_s, x_t, x_p⟩ : Cyl).s ∧ wfI (⟨x_s, x_t, x_p⟩ : Cyl).t ∧ wfL2 (⟨x_s, x_t, x_p⟩ : Cyl).p ∧ wfI (⟨y_a, y_n, y_p⟩ : Stt).a ∧ wfB (⟨y_a, y_n, y_p⟩ : Stt).n ∧ wfI (⟨y_a, y_n, y_p⟩ : Stt).p) : P1 (.call F_FnExactRunBox 0 nr_) [.int .i64 x_s, .int .i64 x_t, vL I2 v2 x_p, .int .i64 y_a, .bool y_n, .int .i64 y_p] kk_ ↔ kk_ (.bool true) :=
  P1_callF (by unfold F_FnExactRunBox; exact mkF_eq F_FnExactRunBox_inj ((⟨x_s, x_t, x_p⟩ : Cyl), (⟨y_a, y_n, y_p⟩ : Stt)) hp)
theorem F_FnExactRunBox_law : ∀ ds, okTKs [.int .i64, .int .i64, .list true [.int .i64, .int .i64], .int .i64, .bool, .int .i64] ds → F_FnExactRunBox ds = some [.bool true] := by
  intro ds g0
  obtain ⟨_, _, rfl, h0, g1⟩ := okTKs_cons g0
  obtain ⟨x_s, rfl, r0⟩ := dec_I h0
  obtain ⟨_, _, rfl, h1, g2⟩ := okTKs_cons g1
  obtain ⟨x_t, rfl, r1⟩ := dec_I h1
  obtain ⟨_, _, rfl, h2, g3⟩ := okTKs_cons g2
  obtain ⟨x_p, rfl, r2⟩ := dec_L2 h2
  obtain ⟨_, _, rfl, h3, g4⟩ := okTKs_cons g3
  obtain ⟨y_a, rfl, r3⟩ := dec_I h3
  obtain ⟨_, _, rfl, h4, g5⟩ := okTKs_cons g4
  obtain ⟨y_n, rfl, r4⟩ := dec_B h4
  obtain ⟨_, _, rfl, h5, g6⟩ := okTKs_cons g5
  obtain ⟨y_p, rfl, r5⟩ := dec_I h5
  obtain rfl := okTKs_nil g6
  exact mkF_eq F_FnExactRunBox_inj ((⟨x_s, x_t, x_p⟩ : Cyl), (⟨y_a, y_n, y_p⟩ : Stt)) ⟨r0, r1, r2, r3, r4, r5⟩


end Go.Mw

/- Functions of the program, as small pure programs (printed by a program of ours). -/
namespace Go.Mw
noncomputable section

def spec_ShowTime_b0 : L := .seq (.seq (.seq (.rg [⟨[], .len, [.v 0], 1⟩, ⟨[], .bin .lss, [.v 3, .v 4], 1⟩]) (.ite (.v 5) (.skip) (.seq (.tup [.v 2]) (.exit 0)))) (.seq (.block 1 (.seq (.seq (.rg [⟨[], .idx [.sc, .sc], [.v 0, .v 3], 2⟩, ⟨[], .bin .add, [.v 2, .v 6], 1⟩]) (.seq (.rg [⟨[], .bin .gtr, [.v 3, .k (.int .i64 0)], 1⟩]) (.ite (.v 9) (.seq (.rg [⟨[], .bin .add, [.v 8, .v 1], 1⟩]) (.tup [.v 0, .v 1, .v 10, .v 3])) (.seq (.skip) (.tup [.v 0, .v 1, .v 8, .v 3]))))) (.tup [.v 0, .v 1, .v 2, .v 3]))) (.rg [⟨[], .bin .add, [.v 3, .k (.int .i64 1)], 1⟩]))) (.tup [.v 0, .v 1, .v 2, .v 4])
theorem spec_ShowTime_b0_sh (Q : QT) (x0 x1 x2 x3 : V) : shL spec_ShowTime_b0 Q [x0, x1, x2, x3] = (
  P1 (.len) [x0] fun v0 =>
  P1 (.bin .lss) [x3, v0] fun v1 =>
  ifB v1 (
    P2 (.idx [.sc, .sc]) [x0, x3] fun v2 _ =>
    P1 (.bin .add) [x2, v2] fun v4 =>
    P1 (.bin .gtr) [x3, .int .i64 0] fun v5 =>
    ifB v5 (
      P1 (.bin .add) [v4, x1] fun v6 =>
      P1 (.bin .add) [x3, .int .i64 1] fun v7 =>
      Q .normal [x0, x1, v6, v7]) (
      P1 (.bin .add) [x3, .int .i64 1] fun v8 =>
      Q .normal [x0, x1, v4, v8])) (
    Q (.exit 0) [x2])) := by kernel_rfl

def spec_ShowTime_r1 : L := .seq (.rg []) (.ret [.v 0])
theorem spec_ShowTime_r1_sh (Q : QT) (x0 : V) : shL spec_ShowTime_r1 Q [x0] = (
  Q .ret [x0]) := by kernel_rfl

def spec_ShowTime_L : L := .seq (.rg []) (.seq (.seq (.rg [⟨[], .call F_PiecesOk 0 1, [.v 0], 1⟩, ⟨[], .un .not, [.v 2], 1⟩, ⟨[(.v 3, false)], .call F_l01In 0 1, [.v 1, .k (.int .i64 0), .k (.int .i64 600)], 1⟩, ⟨[(.v 3, false)], .un .not, [.v 4], 1⟩, ⟨[], .pick, [.v 3, .k (.bool true), .v 5], 1⟩]) (.ite (.v 6) (.seq (.rg []) (.ret [.k (.int .i64 (-1))])) (.skip))) (.seq (.rg []) (.seq (.seq (.rg []) (.block 0 (.seq (.tup [.v 0, .v 1, .k (.int .i64 0), .k (.int .i64 0)]) (.loop (spec_ShowTime_b0))))) (spec_ShowTime_r1))))
theorem spec_ShowTime_L_sh (Q : QT) (x0 x1 : V) : shL spec_ShowTime_L Q [x0, x1] = (
  P1 (.call F_PiecesOk 0 1) [x0] fun v0 =>
  P1 (.un .not) [v0] fun v1 =>
  ifB v1 (
    Q .ret [.int .i64 (-1)]) (
    P1 (.call F_l01In 0 1) [x1, .int .i64 0, .int .i64 600] fun v2 =>
    P1 (.un .not) [v2] fun v3 =>
    ifB v3 (
      Q .ret [.int .i64 (-1)]) (
      shL (.loop spec_ShowTime_b0) (qB 0 (qS (shL spec_ShowTime_r1 Q) Q)) [x0, x1, .int .i64 0, .int .i64 0]))) := by kernel_rfl
def spec_ShowTime_S : Sig := ⟨[.val false [.sl [.sc, .sc]], .val false [.sc]], [(false, [.sc])], F_ShowTime⟩
def spec_ShowTime_hs : List NF := [⟨[(5, .sc false [.sc])], [], [], 64⟩, ⟨[(0, .sc false [.ro [.sc, .sc]]), (1, .sc false [.sc]), (5, .sc false [.sc]), (6, .sc false [.sc])], [], [], 64⟩, ⟨[(0, .sc false [.ro [.sc, .sc]]), (1, .sc false [.sc]), (5, .sc false [.sc]), (6, .sc false [.sc])], [], [], 64⟩, ⟨[(0, .sc false [.ro [.sc, .sc]]), (1, .sc false [.sc]), (5, .sc false [.sc]), (6, .sc false [.sc])], [], [], 64⟩]

def impl_ShowTime_b0 : L := .seq (.seq (.rg [⟨[], .bin .lss, [.v 4, .v 3], 1⟩]) (.seq (.ite (.v 5) (.skip) (.seq (.tup [.v 1]) (.exit 0))) (.seq (.block 1 (.seq (.seq (.rg [⟨[], .idx [.sc, .sc], [.v 2, .v 4], 2⟩]) (.seq (.rg [⟨[], .bin .add, [.v 1, .v 6], 1⟩]) (.seq (.rg [⟨[], .bin .gtr, [.v 4, .k (.int .i64 0)], 1⟩]) (.ite (.v 9) (.seq (.rg [⟨[], .bin .add, [.v 8, .v 0], 1⟩]) (.tup [.v 0, .v 10, .v 2, .v 3, .v 4])) (.seq (.skip) (.tup [.v 0, .v 8, .v 2, .v 3, .v 4])))))) (.tup [.v 0, .v 1, .v 2, .v 3, .v 4]))) (.rg [⟨[], .bin .add, [.v 4, .k (.int .i64 1)], 1⟩])))) (.tup [.v 0, .v 1, .v 2, .v 3, .v 5])
theorem impl_ShowTime_b0_sh (Q : QT) (x0 x1 x2 x3 x4 : V) : shL impl_ShowTime_b0 Q [x0, x1, x2, x3, x4] = (
  P1 (.bin .lss) [x4, x3] fun v0 =>
  ifB v0 (
    P2 (.idx [.sc, .sc]) [x2, x4] fun v1 _ =>
    P1 (.bin .add) [x1, v1] fun v3 =>
    P1 (.bin .gtr) [x4, .int .i64 0] fun v4 =>
    ifB v4 (
      P1 (.bin .add) [v3, x0] fun v5 =>
      P1 (.bin .add) [x4, .int .i64 1] fun v6 =>
      Q .normal [x0, v5, x2, x3, v6]) (
      P1 (.bin .add) [x4, .int .i64 1] fun v7 =>
      Q .normal [x0, v3, x2, x3, v7])) (
    Q (.exit 0) [x1])) := by kernel_rfl

def impl_ShowTime_r1 : L := .seq (.rg []) (.ret [.v 0])
theorem impl_ShowTime_r1_sh (Q : QT) (x0 : V) : shL impl_ShowTime_r1 Q [x0] = (
  Q .ret [x0]) := by kernel_rfl

def impl_ShowTime_L : L := .seq (.rg []) (.seq (.seq (.rg [⟨[], .call F_PiecesOk 0 1, [.v 0], 1⟩, ⟨[], .un .not, [.v 2], 1⟩, ⟨[(.v 3, false)], .call F_within 0 1, [.v 1, .k (.int .i64 0), .k (.int .i64 600)], 1⟩, ⟨[(.v 3, false)], .un .not, [.v 4], 1⟩, ⟨[], .pick, [.v 3, .k (.bool true), .v 5], 1⟩]) (.ite (.v 6) (.seq (.rg []) (.ret [.k (.int .i64 (-1))])) (.skip))) (.seq (.rg []) (.seq (.seq (.rg [⟨[], .len, [.v 0], 1⟩]) (.block 0 (.seq (.tup [.v 1, .k (.int .i64 0), .v 0, .v 7, .k (.int .i64 0)]) (.loop (impl_ShowTime_b0))))) (impl_ShowTime_r1))))
theorem impl_ShowTime_L_sh (Q : QT) (x0 x1 : V) : shL impl_ShowTime_L Q [x0, x1] = (
  P1 (.call F_PiecesOk 0 1) [x0] fun v0 =>
  P1 (.un .not) [v0] fun v1 =>
  ifB v1 (
    Q .ret [.int .i64 (-1)]) (
    P1 (.call F_within 0 1) [x1, .int .i64 0, .int .i64 600] fun v2 =>
    P1 (.un .not) [v2] fun v3 =>
    ifB v3 (
      Q .ret [.int .i64 (-1)]) (
      P1 (.len) [x0] fun v4 =>
      shL (.loop impl_ShowTime_b0) (qB 0 (qS (shL impl_ShowTime_r1 Q) Q)) [x1, .int .i64 0, x0, v4, .int .i64 0]))) := by kernel_rfl
def impl_ShowTime_S : Sig := ⟨[.val false [.sl [.sc, .sc]], .val false [.sc]], [(false, [.sc])], F_ShowTime⟩
def impl_ShowTime_hs : List NF := [⟨[(5, .sc false [.sc])], [], [], 64⟩, ⟨[(1, .sc false [.sc]), (5, .sc false [.sc]), (16, .sc false [.ro [.sc, .sc]]), (17, .sc false [.sc]), (18, .sc false [.sc])], [], [], 64⟩, ⟨[(1, .sc false [.sc]), (5, .sc false [.sc]), (16, .sc false [.ro [.sc, .sc]]), (17, .sc false [.sc]), (18, .sc false [.sc])], [], [], 64⟩, ⟨[(1, .sc false [.sc]), (5, .sc false [.sc]), (16, .sc false [.ro [.sc, .sc]]), (17, .sc false [.sc]), (18, .sc false [.sc])], [], [], 64⟩]

def laws_FnExactShowTime_L : L := .seq (.rg []) (.seq (.rg []) (.seq (.rg [⟨[], .call F_szPieceS 0 1, [.v 0, .k (.int .i64 1048576)], 1⟩]) (.seq (.seq (.rg [⟨[], .bin .lss, [.v 2, .k (.int .i64 0)], 1⟩]) (.ite (.v 3) (.seq (.rg []) (.ret [.k (.bool true)])) (.skip))) (.seq (.rg [⟨[], .call F_toPieceS 0 1, [.v 0], 1⟩, ⟨[], .call F_ShowTime 0 1, [.v 4, .v 1], 1⟩]) (.seq (.rg [⟨[], .call F_toPieceS 0 1, [.v 0], 1⟩]) (.seq (.rg [⟨[], .call F_ShowTime 0 1, [.v 6, .v 1], 1⟩]) (.seq (.seq (.rg [⟨[], .bin .neq, [.v 7, .v 5], 1⟩]) (.ite (.v 8) (.seq (.rg []) (.ret [.k (.bool false)])) (.skip))) (.seq (.seq (.rg [⟨[], .call F_toPieceS 0 1, [.v 0], 1⟩, ⟨[], .call F_eqPieceS 0 1, [.v 6, .v 9], 1⟩, ⟨[], .un .not, [.v 10], 1⟩]) (.ite (.v 11) (.seq (.rg []) (.ret [.k (.bool false)])) (.skip))) (.seq (.rg []) (.ret [.k (.bool true)]))))))))))
theorem laws_FnExactShowTime_L_sh (Q : QT) (x0 x1 : V) : shL laws_FnExactShowTime_L Q [x0, x1] = (
  P1 (.call F_szPieceS 0 1) [x0, .int .i64 1048576] fun v0 =>
  P1 (.bin .lss) [v0, .int .i64 0] fun v1 =>
  ifB v1 (
    Q .ret [.bool true]) (
    P1 (.call F_toPieceS 0 1) [x0] fun v2 =>
    P1 (.call F_ShowTime 0 1) [v2, x1] fun v3 =>
    P1 (.call F_toPieceS 0 1) [x0] fun v4 =>
    P1 (.call F_ShowTime 0 1) [v4, x1] fun v5 =>
    P1 (.bin .neq) [v5, v3] fun v6 =>
    ifB v6 (
      Q .ret [.bool false]) (
      P1 (.call F_toPieceS 0 1) [x0] fun v7 =>
      P1 (.call F_eqPieceS 0 1) [v4, v7] fun v8 =>
      P1 (.un .not) [v8] fun v9 =>
      ifB v9 (
        Q .ret [.bool false]) (
        Q .ret [.bool true])))) := by kernel_rfl
def laws_FnExactShowTime_S : Sig := ⟨[.val false [.sl [.sc, .sc]], .val false [.sc]], [(false, [.sc])], F_FnExactShowTime⟩
def laws_FnExactShowTime_hs : List NF := []

def laws_szPinS_L : L := .seq (.rg []) (.seq (.rg [⟨[], .len, [.v 0], 1⟩, ⟨[], .bin .sub, [.v 1, .v 2], 1⟩]) (.seq (.seq (.rg [⟨[], .bin .lss, [.v 3, .k (.int .i64 0)], 1⟩]) (.ite (.v 4) (.seq (.rg []) (.ret [.k (.int .i64 (-1))])) (.skip))) (.seq (.rg []) (.ret [.v 3]))))
theorem laws_szPinS_L_sh (Q : QT) (x0 x1 : V) : shL laws_szPinS_L Q [x0, x1] = (
  P1 (.len) [x0] fun v0 =>
  P1 (.bin .sub) [x1, v0] fun v1 =>
  P1 (.bin .lss) [v1, .int .i64 0] fun v2 =>
  ifB v2 (
    Q .ret [.int .i64 (-1)]) (
    Q .ret [v1])) := by kernel_rfl
def laws_szPinS_S : Sig := ⟨[.val false [.sl [.sc, .sc]], .val false [.sc]], [(false, [.sc])], F_szPinS⟩
def laws_szPinS_hs : List NF := []

def laws_szCylinder_L : L := .seq (.rg []) (.seq (.rg [⟨[], .call F_szPinS 0 1, [.v 2, .v 3], 1⟩]) (.seq (.seq (.rg [⟨[], .bin .lss, [.v 4, .k (.int .i64 0)], 1⟩]) (.ite (.v 5) (.seq (.rg []) (.ret [.k (.int .i64 (-1))])) (.skip))) (.seq (.rg []) (.ret [.v 4]))))
theorem laws_szCylinder_L_sh (Q : QT) (x0 x1 x2 x3 : V) : shL laws_szCylinder_L Q [x0, x1, x2, x3] = (
  P1 (.call F_szPinS 0 1) [x2, x3] fun v0 =>
  P1 (.bin .lss) [v0, .int .i64 0] fun v1 =>
  ifB v1 (
    Q .ret [.int .i64 (-1)]) (
    Q .ret [v0])) := by kernel_rfl
def laws_szCylinder_S : Sig := ⟨[.val true [.sc, .sc, .sl [.sc, .sc]], .val false [.sc]], [(false, [.sc])], F_szCylinder⟩
def laws_szCylinder_hs : List NF := []

def laws_toPin_L : L := .seq (.rg []) (.seq (.rg []) (.seq (.rg []) (.seq (.rg []) (.seq (.rg []) (.ret [.v 0, .v 1])))))
theorem laws_toPin_L_sh (Q : QT) (x0 x1 : V) : shL laws_toPin_L Q [x0, x1] = (
  Q .ret [x0, x1]) := by kernel_rfl
def laws_toPin_S : Sig := ⟨[.val true [.sc, .sc]], [(true, [.sc, .sc])], F_toPin⟩
def laws_toPin_hs : List NF := []

def laws_toPinS_b0 : L := .seq (.seq (.seq (.rg [⟨[], .len, [.v 0], 1⟩, ⟨[], .bin .lss, [.v 1, .v 3], 1⟩]) (.ite (.v 4) (.skip) (.seq (.tup [.v 2]) (.exit 0)))) (.seq (.block 1 (.seq (.rg [⟨[], .idx [.sc, .sc], [.v 0, .v 1], 2⟩, ⟨[], .call F_toPin 0 2, [.v 5, .v 6], 2⟩, ⟨[], .idx [.sc, .sc], [.v 2, .v 1], 2⟩, ⟨[], .set [.sc, .sc] 0, [.v 2, .v 1, .v 7, .v 8], 1⟩]) (.tup [.v 0, .v 1, .v 11]))) (.rg [⟨[], .bin .add, [.v 1, .k (.int .i64 1)], 1⟩]))) (.tup [.v 0, .v 3, .v 2])
theorem laws_toPinS_b0_sh (Q : QT) (x0 x1 x2 : V) : shL laws_toPinS_b0 Q [x0, x1, x2] = (
  P1 (.len) [x0] fun v0 =>
  P1 (.bin .lss) [x1, v0] fun v1 =>
  ifB v1 (
    P2 (.idx [.sc, .sc]) [x0, x1] fun v2 v3 =>
    P2 (.call F_toPin 0 2) [v2, v3] fun v4 v5 =>
    P2 (.idx [.sc, .sc]) [x2, x1] fun _ _ =>
    P1 (.set [.sc, .sc] 0) [x2, x1, v4, v5] fun v8 =>
    P1 (.bin .add) [x1, .int .i64 1] fun v9 =>
    Q .normal [x0, v9, v8]) (
    Q (.exit 0) [x2])) := by kernel_rfl

def laws_toPinS_r1 : L := .seq (.rg []) (.ret [.v 0])
theorem laws_toPinS_r1_sh (Q : QT) (x0 : V) : shL laws_toPinS_r1 Q [x0] = (
  Q .ret [x0]) := by kernel_rfl

def laws_toPinS_L : L := .seq (.rg []) (.seq (.rg [⟨[], .len, [.v 0], 1⟩, ⟨[], .mk [.sc, .sc] (.agg [.int .i64 0, .int .i64 0]) 16, [.v 1, .v 1], 1⟩]) (.seq (.seq (.rg []) (.block 0 (.seq (.tup [.v 0, .k (.int .i64 0), .v 2]) (.loop (laws_toPinS_b0))))) (laws_toPinS_r1)))
theorem laws_toPinS_L_sh (Q : QT) (x0 : V) : shL laws_toPinS_L Q [x0] = (
  P1 (.len) [x0] fun v0 =>
  P1 (.mk [.sc, .sc] (.agg [.int .i64 0, .int .i64 0]) 16) [v0, v0] fun v1 =>
  shL (.loop laws_toPinS_b0) (qB 0 (qS (shL laws_toPinS_r1 Q) Q)) [x0, .int .i64 0, v1]) := by kernel_rfl
def laws_toPinS_S : Sig := ⟨[.val false [.sl [.sc, .sc]]], [(false, [.sl [.sc, .sc]])], F_toPinS⟩
def laws_toPinS_hs : List NF := [⟨[(3, .sc false [.own 64])], [(64, true, [.sc, .sc])], [], 65⟩, ⟨[(0, .sc false [.ro [.sc, .sc]]), (3, .sc false [.own 64]), (4, .sc false [.sc])], [(64, true, [.sc, .sc])], [], 65⟩, ⟨[(0, .sc false [.ro [.sc, .sc]]), (3, .sc false [.own 64]), (4, .sc false [.sc])], [(64, true, [.sc, .sc])], [], 65⟩]

def laws_toCylinder_L : L := .seq (.rg []) (.seq (.rg []) (.seq (.rg []) (.seq (.rg []) (.seq (.rg [⟨[], .call F_toPinS 0 1, [.v 2], 1⟩]) (.seq (.rg []) (.ret [.v 0, .v 1, .v 3]))))))
theorem laws_toCylinder_L_sh (Q : QT) (x0 x1 x2 : V) : shL laws_toCylinder_L Q [x0, x1, x2] = (
  P1 (.call F_toPinS 0 1) [x2] fun v0 =>
  Q .ret [x0, x1, v0]) := by kernel_rfl
def laws_toCylinder_S : Sig := ⟨[.val true [.sc, .sc, .sl [.sc, .sc]]], [(true, [.sc, .sc, .sl [.sc, .sc]])], F_toCylinder⟩
def laws_toCylinder_hs : List NF := []

def laws_toState_L : L := .seq (.rg []) (.seq (.rg []) (.seq (.rg []) (.seq (.rg []) (.seq (.rg []) (.seq (.rg []) (.ret [.v 0, .v 1, .v 2]))))))
theorem laws_toState_L_sh (Q : QT) (x0 x1 x2 : V) : shL laws_toState_L Q [x0, x1, x2] = (
  Q .ret [x0, x1, x2]) := by kernel_rfl
def laws_toState_S : Sig := ⟨[.val true [.sc, .sc, .sc]], [(true, [.sc, .sc, .sc])], F_toState⟩
def laws_toState_hs : List NF := []

def spec_l06Less_L : L := .seq (.rg []) (.seq (.rg [⟨[], .bin .lss, [.v 1, .v 3], 1⟩, ⟨[(.v 4, false)], .bin .eql, [.v 1, .v 3], 1⟩, ⟨[(.v 4, false), (.v 5, true)], .bin .lss, [.v 0, .v 2], 1⟩, ⟨[(.v 4, false)], .pick, [.v 5, .v 6, .k (.bool false)], 1⟩, ⟨[], .pick, [.v 4, .k (.bool true), .v 7], 1⟩]) (.ret [.v 8]))
theorem spec_l06Less_L_sh (Q : QT) (x0 x1 x2 x3 : V) : shL spec_l06Less_L Q [x0, x1, x2, x3] = (
  P1 (.bin .lss) [x1, x3] fun v0 =>
  ifB v0 (
    Q .ret [.bool true]) (
    P1 (.bin .eql) [x1, x3] fun v1 =>
    ifB v1 (
      P1 (.bin .lss) [x0, x2] fun v2 =>
      Q .ret [v2]) (
      Q .ret [.bool false]))) := by kernel_rfl
def spec_l06Less_S : Sig := ⟨[.val true [.sc, .sc], .val true [.sc, .sc]], [(false, [.sc])], F_l06Less⟩
def spec_l06Less_hs : List NF := []

def spec_CylinderOk_b0 : L := .seq (.seq (.seq (.rg [⟨[], .len, [.v 3], 1⟩, ⟨[], .bin .lss, [.v 0, .v 4], 1⟩]) (.ite (.v 5) (.skip) (.seq (.tup []) (.exit 0)))) (.seq (.block 1 (.seq (.seq (.rg [⟨[], .idx [.sc, .sc], [.v 3, .v 0], 2⟩]) (.seq (.rg [⟨[], .bin .sub, [.v 2, .k (.int .i64 1)], 1⟩, ⟨[], .call F_l01In 0 1, [.v 6, .k (.int .i64 0), .v 8], 1⟩, ⟨[], .un .not, [.v 9], 1⟩, ⟨[(.v 10, false)], .bin .sub, [.v 1, .k (.int .i64 1)], 1⟩, ⟨[(.v 10, false)], .call F_l01In 0 1, [.v 7, .k (.int .i64 0), .v 11], 1⟩, ⟨[(.v 10, false)], .un .not, [.v 12], 1⟩, ⟨[], .pick, [.v 10, .k (.bool true), .v 13], 1⟩, ⟨[(.v 14, false)], .bin .gtr, [.v 0, .k (.int .i64 0)], 1⟩, ⟨[(.v 14, false), (.v 15, true)], .bin .sub, [.v 0, .k (.int .i64 1)], 1⟩, ⟨[(.v 14, false), (.v 15, true)], .idx [.sc, .sc], [.v 3, .v 16], 2⟩, ⟨[(.v 14, false), (.v 15, true)], .call F_l06Less 0 1, [.v 17, .v 18, .v 6, .v 7], 1⟩, ⟨[(.v 14, false), (.v 15, true)], .un .not, [.v 19], 1⟩, ⟨[(.v 14, false)], .pick, [.v 15, .v 20, .k (.bool false)], 1⟩, ⟨[], .pick, [.v 14, .k (.bool true), .v 21], 1⟩]) (.ite (.v 22) (.seq (.rg []) (.ret [.k (.bool false)])) (.skip)))) (.tup [.v 0, .v 1, .v 2, .v 3]))) (.rg [⟨[], .bin .add, [.v 0, .k (.int .i64 1)], 1⟩]))) (.tup [.v 4, .v 1, .v 2, .v 3])
theorem spec_CylinderOk_b0_sh (Q : QT) (x0 x1 x2 x3 : V) : shL spec_CylinderOk_b0 Q [x0, x1, x2, x3] = (
  P1 (.len) [x3] fun v0 =>
  P1 (.bin .lss) [x0, v0] fun v1 =>
  ifB v1 (
    P2 (.idx [.sc, .sc]) [x3, x0] fun v2 v3 =>
    P1 (.bin .sub) [x2, .int .i64 1] fun v4 =>
    P1 (.call F_l01In 0 1) [v2, .int .i64 0, v4] fun v5 =>
    P1 (.un .not) [v5] fun v6 =>
    ifB v6 (
      Q .ret [.bool false]) (
      P1 (.bin .sub) [x1, .int .i64 1] fun v7 =>
      P1 (.call F_l01In 0 1) [v3, .int .i64 0, v7] fun v8 =>
      P1 (.un .not) [v8] fun v9 =>
      ifB v9 (
        Q .ret [.bool false]) (
        P1 (.bin .gtr) [x0, .int .i64 0] fun v10 =>
        ifB v10 (
          P1 (.bin .sub) [x0, .int .i64 1] fun v11 =>
          P2 (.idx [.sc, .sc]) [x3, v11] fun v12 v13 =>
          P1 (.call F_l06Less 0 1) [v12, v13, v2, v3] fun v14 =>
          P1 (.un .not) [v14] fun v15 =>
          ifB v15 (
            Q .ret [.bool false]) (
            P1 (.bin .add) [x0, .int .i64 1] fun v16 =>
            Q .normal [v16, x1, x2, x3])) (
          P1 (.bin .add) [x0, .int .i64 1] fun v17 =>
          Q .normal [v17, x1, x2, x3])))) (
    Q (.exit 0) [])) := by kernel_rfl

def spec_CylinderOk_r1 : L := .seq (.rg []) (.ret [.k (.bool true)])
theorem spec_CylinderOk_r1_sh (Q : QT) : shL spec_CylinderOk_r1 Q [] = (
  Q .ret [.bool true]) := by kernel_rfl

def spec_CylinderOk_L : L := .seq (.rg []) (.seq (.seq (.rg [⟨[], .call F_l01In 0 1, [.v 0, .k (.int .i64 4), .k (.int .i64 96)], 1⟩, ⟨[], .un .not, [.v 3], 1⟩, ⟨[(.v 4, false)], .call F_l01In 0 1, [.v 1, .k (.int .i64 1), .k (.int .i64 100)], 1⟩, ⟨[(.v 4, false)], .un .not, [.v 5], 1⟩, ⟨[], .pick, [.v 4, .k (.bool true), .v 6], 1⟩, ⟨[(.v 7, false)], .len, [.v 2], 1⟩, ⟨[(.v 7, false)], .bin .gtr, [.v 8, .k (.int .i64 100)], 1⟩, ⟨[], .pick, [.v 7, .k (.bool true), .v 9], 1⟩]) (.ite (.v 10) (.seq (.rg []) (.ret [.k (.bool false)])) (.skip))) (.seq (.seq (.rg []) (.block 0 (.seq (.tup [.k (.int .i64 0), .v 0, .v 1, .v 2]) (.loop (spec_CylinderOk_b0))))) (spec_CylinderOk_r1)))
theorem spec_CylinderOk_L_sh (Q : QT) (x0 x1 x2 : V) : shL spec_CylinderOk_L Q [x0, x1, x2] = (
  P1 (.call F_l01In 0 1) [x0, .int .i64 4, .int .i64 96] fun v0 =>
  P1 (.un .not) [v0] fun v1 =>
  ifB v1 (
    Q .ret [.bool false]) (
    P1 (.call F_l01In 0 1) [x1, .int .i64 1, .int .i64 100] fun v2 =>
    P1 (.un .not) [v2] fun v3 =>
    ifB v3 (
      Q .ret [.bool false]) (
      P1 (.len) [x2] fun v4 =>
      P1 (.bin .gtr) [v4, .int .i64 100] fun v5 =>
      ifB v5 (
        Q .ret [.bool false]) (
        shL (.loop spec_CylinderOk_b0) (qB 0 (qS (shL spec_CylinderOk_r1 Q) Q)) [.int .i64 0, x0, x1, x2])))) := by kernel_rfl
def spec_CylinderOk_S : Sig := ⟨[.val true [.sc, .sc, .sl [.sc, .sc]]], [(false, [.sc])], F_CylinderOk⟩
def spec_CylinderOk_hs : List NF := [⟨[], [], [], 64⟩, ⟨[(1, .ptr 64 0), (3, .sc false [.sc])], [], [(64, [.sc, .sc, .ro [.sc, .sc]])], 65⟩, ⟨[(1, .ptr 64 0), (3, .sc false [.sc])], [], [(64, [.sc, .sc, .ro [.sc, .sc]])], 65⟩]

def spec_StateOk_L : L := .seq (.rg []) (.seq (.rg [⟨[], .call F_CylinderOk 0 1, [.v 0, .v 1, .v 2], 1⟩, ⟨[(.v 6, true)], .bin .sub, [.v 0, .k (.int .i64 1)], 1⟩, ⟨[(.v 6, true)], .call F_l01In 0 1, [.v 3, .k (.int .i64 0), .v 7], 1⟩, ⟨[], .pick, [.v 6, .v 8, .k (.bool false)], 1⟩, ⟨[(.v 9, true)], .call F_l01In 0 1, [.v 5, .k (.int .i64 0), .k (.int .i64 100000)], 1⟩, ⟨[], .pick, [.v 9, .v 10, .k (.bool false)], 1⟩]) (.ret [.v 11]))
theorem spec_StateOk_L_sh (Q : QT) (x0 x1 x2 x3 x4 x5 : V) : shL spec_StateOk_L Q [x0, x1, x2, x3, x4, x5] = (
  P1 (.call F_CylinderOk 0 1) [x0, x1, x2] fun v0 =>
  ifB v0 (
    P1 (.bin .sub) [x0, .int .i64 1] fun v1 =>
    P1 (.call F_l01In 0 1) [x3, .int .i64 0, v1] fun v2 =>
    ifB v2 (
      P1 (.call F_l01In 0 1) [x5, .int .i64 0, .int .i64 100000] fun v3 =>
      Q .ret [v3]) (
      Q .ret [.bool false])) (
    Q .ret [.bool false])) := by kernel_rfl
def spec_StateOk_S : Sig := ⟨[.val true [.sc, .sc, .sl [.sc, .sc]], .val true [.sc, .sc, .sc]], [(false, [.sc])], F_StateOk⟩
def spec_StateOk_hs : List NF := []

def impl_comparePins_L : L := .seq (.rg []) (.seq (.seq (.rg [⟨[], .bin .lss, [.v 1, .v 3], 1⟩, ⟨[(.v 4, false)], .bin .eql, [.v 1, .v 3], 1⟩, ⟨[(.v 4, false), (.v 5, true)], .bin .lss, [.v 0, .v 2], 1⟩, ⟨[(.v 4, false)], .pick, [.v 5, .v 6, .k (.bool false)], 1⟩, ⟨[], .pick, [.v 4, .k (.bool true), .v 7], 1⟩]) (.ite (.v 8) (.seq (.rg []) (.ret [.k (.int .i64 (-1))])) (.skip))) (.seq (.seq (.rg [⟨[], .eqa false [.i, .i], [.v 0, .v 1, .v 2, .v 3], 1⟩]) (.ite (.v 9) (.seq (.rg []) (.ret [.k (.int .i64 0)])) (.skip))) (.seq (.rg []) (.ret [.k (.int .i64 1)]))))
theorem impl_comparePins_L_sh (Q : QT) (x0 x1 x2 x3 : V) : shL impl_comparePins_L Q [x0, x1, x2, x3] = (
  P1 (.bin .lss) [x1, x3] fun v0 =>
  ifB v0 (
    Q .ret [.int .i64 (-1)]) (
    P1 (.bin .eql) [x1, x3] fun v1 =>
    ifB v1 (
      P1 (.bin .lss) [x0, x2] fun v2 =>
      ifB v2 (
        Q .ret [.int .i64 (-1)]) (
        P1 (.eqa false [.i, .i]) [x0, x1, x2, x3] fun v3 =>
        ifB v3 (
          Q .ret [.int .i64 0]) (
          Q .ret [.int .i64 1]))) (
      P1 (.eqa false [.i, .i]) [x0, x1, x2, x3] fun v4 =>
      ifB v4 (
        Q .ret [.int .i64 0]) (
        Q .ret [.int .i64 1])))) := by kernel_rfl
def impl_comparePins_S : Sig := ⟨[.val true [.sc, .sc], .val true [.sc, .sc]], [(false, [.sc])], F_comparePins⟩
def impl_comparePins_hs : List NF := []

def impl_CylinderOk_b0 : L := .seq (.seq (.rg [⟨[], .bin .lss, [.v 2, .v 1], 1⟩]) (.seq (.ite (.v 6) (.skip) (.seq (.tup []) (.exit 0))) (.seq (.block 1 (.seq (.seq (.rg [⟨[], .idx [.sc, .sc], [.v 0, .v 2], 2⟩]) (.seq (.seq (.rg [⟨[], .bin .sub, [.v 4, .k (.int .i64 1)], 1⟩, ⟨[], .call F_within 0 1, [.v 7, .k (.int .i64 0), .v 9], 1⟩, ⟨[], .un .not, [.v 10], 1⟩, ⟨[(.v 11, false)], .bin .sub, [.v 3, .k (.int .i64 1)], 1⟩, ⟨[(.v 11, false)], .call F_within 0 1, [.v 8, .k (.int .i64 0), .v 12], 1⟩, ⟨[(.v 11, false)], .un .not, [.v 13], 1⟩, ⟨[], .pick, [.v 11, .k (.bool true), .v 14], 1⟩]) (.ite (.v 15) (.seq (.rg []) (.ret [.k (.bool false)])) (.skip))) (.seq (.rg [⟨[], .bin .gtr, [.v 2, .k (.int .i64 0)], 1⟩, ⟨[(.v 16, true)], .bin .sub, [.v 2, .k (.int .i64 1)], 1⟩, ⟨[(.v 16, true)], .idx [.sc, .sc], [.v 5, .v 17], 2⟩, ⟨[(.v 16, true)], .call F_comparePins 0 1, [.v 18, .v 19, .v 7, .v 8], 1⟩, ⟨[(.v 16, true)], .bin .geq, [.v 20, .k (.int .i64 0)], 1⟩, ⟨[], .pick, [.v 16, .v 21, .k (.bool false)], 1⟩]) (.ite (.v 22) (.seq (.rg []) (.ret [.k (.bool false)])) (.skip))))) (.tup [.v 0, .v 1, .v 2, .v 3, .v 4, .v 5]))) (.rg [⟨[], .bin .add, [.v 2, .k (.int .i64 1)], 1⟩])))) (.tup [.v 0, .v 1, .v 6, .v 3, .v 4, .v 5])
theorem impl_CylinderOk_b0_sh (Q : QT) (x0 x1 x2 x3 x4 x5 : V) : shL impl_CylinderOk_b0 Q [x0, x1, x2, x3, x4, x5] = (
  P1 (.bin .lss) [x2, x1] fun v0 =>
  ifB v0 (
    P2 (.idx [.sc, .sc]) [x0, x2] fun v1 v2 =>
    P1 (.bin .sub) [x4, .int .i64 1] fun v3 =>
    P1 (.call F_within 0 1) [v1, .int .i64 0, v3] fun v4 =>
    P1 (.un .not) [v4] fun v5 =>
    ifB v5 (
      Q .ret [.bool false]) (
      P1 (.bin .sub) [x3, .int .i64 1] fun v6 =>
      P1 (.call F_within 0 1) [v2, .int .i64 0, v6] fun v7 =>
      P1 (.un .not) [v7] fun v8 =>
      ifB v8 (
        Q .ret [.bool false]) (
        P1 (.bin .gtr) [x2, .int .i64 0] fun v9 =>
        ifB v9 (
          P1 (.bin .sub) [x2, .int .i64 1] fun v10 =>
          P2 (.idx [.sc, .sc]) [x5, v10] fun v11 v12 =>
          P1 (.call F_comparePins 0 1) [v11, v12, v1, v2] fun v13 =>
          P1 (.bin .geq) [v13, .int .i64 0] fun v14 =>
          ifB v14 (
            Q .ret [.bool false]) (
            P1 (.bin .add) [x2, .int .i64 1] fun v15 =>
            Q .normal [x0, x1, v15, x3, x4, x5])) (
          P1 (.bin .add) [x2, .int .i64 1] fun v16 =>
          Q .normal [x0, x1, v16, x3, x4, x5])))) (
    Q (.exit 0) [])) := by kernel_rfl

def impl_CylinderOk_r1 : L := .seq (.rg []) (.ret [.k (.bool true)])
theorem impl_CylinderOk_r1_sh (Q : QT) : shL impl_CylinderOk_r1 Q [] = (
  Q .ret [.bool true]) := by kernel_rfl

def impl_CylinderOk_L : L := .seq (.rg []) (.seq (.seq (.rg [⟨[], .call F_within 0 1, [.v 0, .k (.int .i64 4), .k (.int .i64 96)], 1⟩, ⟨[], .un .not, [.v 3], 1⟩, ⟨[(.v 4, false)], .call F_within 0 1, [.v 1, .k (.int .i64 1), .k (.int .i64 100)], 1⟩, ⟨[(.v 4, false)], .un .not, [.v 5], 1⟩, ⟨[], .pick, [.v 4, .k (.bool true), .v 6], 1⟩, ⟨[(.v 7, false)], .len, [.v 2], 1⟩, ⟨[(.v 7, false)], .bin .gtr, [.v 8, .k (.int .i64 100)], 1⟩, ⟨[], .pick, [.v 7, .k (.bool true), .v 9], 1⟩]) (.ite (.v 10) (.seq (.rg []) (.ret [.k (.bool false)])) (.skip))) (.seq (.seq (.rg [⟨[], .len, [.v 2], 1⟩]) (.block 0 (.seq (.tup [.v 2, .v 11, .k (.int .i64 0), .v 0, .v 1, .v 2]) (.loop (impl_CylinderOk_b0))))) (impl_CylinderOk_r1)))
theorem impl_CylinderOk_L_sh (Q : QT) (x0 x1 x2 : V) : shL impl_CylinderOk_L Q [x0, x1, x2] = (
  P1 (.call F_within 0 1) [x0, .int .i64 4, .int .i64 96] fun v0 =>
  P1 (.un .not) [v0] fun v1 =>
  ifB v1 (
    Q .ret [.bool false]) (
    P1 (.call F_within 0 1) [x1, .int .i64 1, .int .i64 100] fun v2 =>
    P1 (.un .not) [v2] fun v3 =>
    ifB v3 (
      Q .ret [.bool false]) (
      P1 (.len) [x2] fun v4 =>
      P1 (.bin .gtr) [v4, .int .i64 100] fun v5 =>
      ifB v5 (
        Q .ret [.bool false]) (
        P1 (.len) [x2] fun v6 =>
        shL (.loop impl_CylinderOk_b0) (qB 0 (qS (shL impl_CylinderOk_r1 Q) Q)) [x2, v6, .int .i64 0, x0, x1, x2])))) := by kernel_rfl
def impl_CylinderOk_S : Sig := ⟨[.val true [.sc, .sc, .sl [.sc, .sc]]], [(false, [.sc])], F_CylinderOk⟩
def impl_CylinderOk_hs : List NF := [⟨[], [], [], 64⟩, ⟨[(1, .ptr 64 0), (22, .sc false [.ro [.sc, .sc]]), (23, .sc false [.sc]), (24, .sc false [.sc])], [], [(64, [.sc, .sc, .ro [.sc, .sc]])], 65⟩, ⟨[(1, .ptr 64 0), (22, .sc false [.ro [.sc, .sc]]), (23, .sc false [.sc]), (24, .sc false [.sc])], [], [(64, [.sc, .sc, .ro [.sc, .sc]])], 65⟩]

def impl_StateOk_L : L := .seq (.rg []) (.seq (.rg [⟨[], .call F_CylinderOk 0 1, [.v 0, .v 1, .v 2], 1⟩, ⟨[(.v 6, true)], .bin .sub, [.v 0, .k (.int .i64 1)], 1⟩, ⟨[(.v 6, true)], .call F_within 0 1, [.v 3, .k (.int .i64 0), .v 7], 1⟩, ⟨[], .pick, [.v 6, .v 8, .k (.bool false)], 1⟩, ⟨[(.v 9, true)], .call F_within 0 1, [.v 5, .k (.int .i64 0), .k (.int .i64 100000)], 1⟩, ⟨[], .pick, [.v 9, .v 10, .k (.bool false)], 1⟩]) (.ret [.v 11]))
theorem impl_StateOk_L_sh (Q : QT) (x0 x1 x2 x3 x4 x5 : V) : shL impl_StateOk_L Q [x0, x1, x2, x3, x4, x5] = (
  P1 (.call F_CylinderOk 0 1) [x0, x1, x2] fun v0 =>
  ifB v0 (
    P1 (.bin .sub) [x0, .int .i64 1] fun v1 =>
    P1 (.call F_within 0 1) [x3, .int .i64 0, v1] fun v2 =>
    ifB v2 (
      P1 (.call F_within 0 1) [x5, .int .i64 0, .int .i64 100000] fun v3 =>
      Q .ret [v3]) (
      Q .ret [.bool false])) (
    Q .ret [.bool false])) := by kernel_rfl
def impl_StateOk_S : Sig := ⟨[.val true [.sc, .sc, .sl [.sc, .sc]], .val true [.sc, .sc, .sc]], [(false, [.sc])], F_StateOk⟩
def impl_StateOk_hs : List NF := []

def laws_eqPin_L : L := .seq (.rg []) (.seq (.seq (.rg [⟨[], .bin .neq, [.v 0, .v 2], 1⟩]) (.ite (.v 4) (.seq (.rg []) (.ret [.k (.bool false)])) (.skip))) (.seq (.seq (.rg [⟨[], .bin .neq, [.v 1, .v 3], 1⟩]) (.ite (.v 5) (.seq (.rg []) (.ret [.k (.bool false)])) (.skip))) (.seq (.rg []) (.ret [.k (.bool true)]))))
theorem laws_eqPin_L_sh (Q : QT) (x0 x1 x2 x3 : V) : shL laws_eqPin_L Q [x0, x1, x2, x3] = (
  P1 (.bin .neq) [x0, x2] fun v0 =>
  ifB v0 (
    Q .ret [.bool false]) (
    P1 (.bin .neq) [x1, x3] fun v1 =>
    ifB v1 (
      Q .ret [.bool false]) (
      Q .ret [.bool true]))) := by kernel_rfl
def laws_eqPin_S : Sig := ⟨[.val true [.sc, .sc], .val true [.sc, .sc]], [(false, [.sc])], F_eqPin⟩
def laws_eqPin_hs : List NF := []

def laws_eqPinS_b0 : L := .seq (.seq (.seq (.rg [⟨[], .len, [.v 0], 1⟩, ⟨[], .bin .lss, [.v 2, .v 3], 1⟩]) (.ite (.v 4) (.skip) (.seq (.tup []) (.exit 0)))) (.seq (.block 1 (.seq (.seq (.rg [⟨[], .idx [.sc, .sc], [.v 0, .v 2], 2⟩, ⟨[], .idx [.sc, .sc], [.v 1, .v 2], 2⟩, ⟨[], .call F_eqPin 0 1, [.v 5, .v 6, .v 7, .v 8], 1⟩, ⟨[], .un .not, [.v 9], 1⟩]) (.ite (.v 10) (.seq (.rg []) (.ret [.k (.bool false)])) (.skip))) (.tup [.v 0, .v 1, .v 2]))) (.rg [⟨[], .bin .add, [.v 2, .k (.int .i64 1)], 1⟩]))) (.tup [.v 0, .v 1, .v 3])
theorem laws_eqPinS_b0_sh (Q : QT) (x0 x1 x2 : V) : shL laws_eqPinS_b0 Q [x0, x1, x2] = (
  P1 (.len) [x0] fun v0 =>
  P1 (.bin .lss) [x2, v0] fun v1 =>
  ifB v1 (
    P2 (.idx [.sc, .sc]) [x0, x2] fun v2 v3 =>
    P2 (.idx [.sc, .sc]) [x1, x2] fun v4 v5 =>
    P1 (.call F_eqPin 0 1) [v2, v3, v4, v5] fun v6 =>
    P1 (.un .not) [v6] fun v7 =>
    ifB v7 (
      Q .ret [.bool false]) (
      P1 (.bin .add) [x2, .int .i64 1] fun v8 =>
      Q .normal [x0, x1, v8])) (
    Q (.exit 0) [])) := by kernel_rfl

def laws_eqPinS_r1 : L := .seq (.rg []) (.ret [.k (.bool true)])
theorem laws_eqPinS_r1_sh (Q : QT) : shL laws_eqPinS_r1 Q [] = (
  Q .ret [.bool true]) := by kernel_rfl

def laws_eqPinS_L : L := .seq (.rg []) (.seq (.seq (.rg [⟨[], .len, [.v 0], 1⟩, ⟨[], .len, [.v 1], 1⟩, ⟨[], .bin .neq, [.v 2, .v 3], 1⟩]) (.ite (.v 4) (.seq (.rg []) (.ret [.k (.bool false)])) (.skip))) (.seq (.seq (.rg []) (.block 0 (.seq (.tup [.v 0, .v 1, .k (.int .i64 0)]) (.loop (laws_eqPinS_b0))))) (laws_eqPinS_r1)))
theorem laws_eqPinS_L_sh (Q : QT) (x0 x1 : V) : shL laws_eqPinS_L Q [x0, x1] = (
  P1 (.len) [x0] fun v0 =>
  P1 (.len) [x1] fun v1 =>
  P1 (.bin .neq) [v0, v1] fun v2 =>
  ifB v2 (
    Q .ret [.bool false]) (
    shL (.loop laws_eqPinS_b0) (qB 0 (qS (shL laws_eqPinS_r1 Q) Q)) [x0, x1, .int .i64 0])) := by kernel_rfl
def laws_eqPinS_S : Sig := ⟨[.val false [.sl [.sc, .sc]], .val false [.sl [.sc, .sc]]], [(false, [.sc])], F_eqPinS⟩
def laws_eqPinS_hs : List NF := [⟨[], [], [], 64⟩, ⟨[(0, .sc false [.ro [.sc, .sc]]), (1, .sc false [.ro [.sc, .sc]]), (5, .sc false [.sc])], [], [], 64⟩, ⟨[(0, .sc false [.ro [.sc, .sc]]), (1, .sc false [.ro [.sc, .sc]]), (5, .sc false [.sc])], [], [], 64⟩]

def laws_eqCylinder_L : L := .seq (.rg []) (.seq (.seq (.rg [⟨[], .bin .neq, [.v 0, .v 3], 1⟩]) (.ite (.v 6) (.seq (.rg []) (.ret [.k (.bool false)])) (.skip))) (.seq (.seq (.rg [⟨[], .bin .neq, [.v 1, .v 4], 1⟩]) (.ite (.v 7) (.seq (.rg []) (.ret [.k (.bool false)])) (.skip))) (.seq (.seq (.rg [⟨[], .call F_eqPinS 0 1, [.v 2, .v 5], 1⟩, ⟨[], .un .not, [.v 8], 1⟩]) (.ite (.v 9) (.seq (.rg []) (.ret [.k (.bool false)])) (.skip))) (.seq (.rg []) (.ret [.k (.bool true)])))))
theorem laws_eqCylinder_L_sh (Q : QT) (x0 x1 x2 x3 x4 x5 : V) : shL laws_eqCylinder_L Q [x0, x1, x2, x3, x4, x5] = (
  P1 (.bin .neq) [x0, x3] fun v0 =>
  ifB v0 (
    Q .ret [.bool false]) (
    P1 (.bin .neq) [x1, x4] fun v1 =>
    ifB v1 (
      Q .ret [.bool false]) (
      P1 (.call F_eqPinS 0 1) [x2, x5] fun v2 =>
      P1 (.un .not) [v2] fun v3 =>
      ifB v3 (
        Q .ret [.bool false]) (
        Q .ret [.bool true])))) := by kernel_rfl
def laws_eqCylinder_S : Sig := ⟨[.val true [.sc, .sc, .sl [.sc, .sc]], .val true [.sc, .sc, .sl [.sc, .sc]]], [(false, [.sc])], F_eqCylinder⟩
def laws_eqCylinder_hs : List NF := []

def laws_FnExactStateOk_L : L := .seq (.rg []) (.seq (.rg []) (.seq (.rg [⟨[], .call F_szCylinder 0 1, [.v 0, .v 1, .v 2, .k (.int .i64 1048576)], 1⟩]) (.seq (.seq (.rg [⟨[], .bin .lss, [.v 6, .k (.int .i64 0)], 1⟩]) (.ite (.v 7) (.seq (.rg []) (.ret [.k (.bool true)])) (.skip))) (.seq (.rg [⟨[], .call F_toCylinder 0 3, [.v 0, .v 1, .v 2], 3⟩, ⟨[], .call F_toState 0 3, [.v 3, .v 4, .v 5], 3⟩, ⟨[], .call F_StateOk 0 1, [.v 8, .v 9, .v 10, .v 11, .v 12, .v 13], 1⟩]) (.seq (.rg [⟨[], .call F_toCylinder 0 3, [.v 0, .v 1, .v 2], 3⟩]) (.seq (.rg [⟨[], .call F_toState 0 3, [.v 3, .v 4, .v 5], 3⟩, ⟨[], .call F_StateOk 0 1, [.v 15, .v 16, .v 17, .v 18, .v 19, .v 20], 1⟩]) (.seq (.seq (.rg [⟨[], .binb .neq, [.v 21, .v 14], 1⟩]) (.ite (.v 22) (.seq (.rg []) (.ret [.k (.bool false)])) (.skip))) (.seq (.seq (.rg [⟨[], .call F_toCylinder 0 3, [.v 0, .v 1, .v 2], 3⟩, ⟨[], .call F_eqCylinder 0 1, [.v 15, .v 16, .v 17, .v 23, .v 24, .v 25], 1⟩, ⟨[], .un .not, [.v 26], 1⟩]) (.ite (.v 27) (.seq (.rg []) (.ret [.k (.bool false)])) (.skip))) (.seq (.rg []) (.ret [.k (.bool true)]))))))))))
theorem laws_FnExactStateOk_L_sh (Q : QT) (x0 x1 x2 x3 x4 x5 : V) : shL laws_FnExactStateOk_L Q [x0, x1, x2, x3, x4, x5] = (
  P1 (.call F_szCylinder 0 1) [x0, x1, x2, .int .i64 1048576] fun v0 =>
  P1 (.bin .lss) [v0, .int .i64 0] fun v1 =>
  ifB v1 (
    Q .ret [.bool true]) (
    P3 (.call F_toCylinder 0 3) [x0, x1, x2] fun v2 v3 v4 =>
    P3 (.call F_toState 0 3) [x3, x4, x5] fun v5 v6 v7 =>
    P1 (.call F_StateOk 0 1) [v2, v3, v4, v5, v6, v7] fun v8 =>
    P3 (.call F_toCylinder 0 3) [x0, x1, x2] fun v9 v10 v11 =>
    P3 (.call F_toState 0 3) [x3, x4, x5] fun v12 v13 v14 =>
    P1 (.call F_StateOk 0 1) [v9, v10, v11, v12, v13, v14] fun v15 =>
    P1 (.binb .neq) [v15, v8] fun v16 =>
    ifB v16 (
      Q .ret [.bool false]) (
      P3 (.call F_toCylinder 0 3) [x0, x1, x2] fun v17 v18 v19 =>
      P1 (.call F_eqCylinder 0 1) [v9, v10, v11, v17, v18, v19] fun v20 =>
      P1 (.un .not) [v20] fun v21 =>
      ifB v21 (
        Q .ret [.bool false]) (
        Q .ret [.bool true])))) := by kernel_rfl
def laws_FnExactStateOk_S : Sig := ⟨[.val true [.sc, .sc, .sl [.sc, .sc]], .val true [.sc, .sc, .sc]], [(false, [.sc])], F_FnExactStateOk⟩
def laws_FnExactStateOk_hs : List NF := []

def laws_toIntS_b0 : L := .seq (.seq (.seq (.rg [⟨[], .len, [.v 0], 1⟩, ⟨[], .bin .lss, [.v 1, .v 3], 1⟩]) (.ite (.v 4) (.skip) (.seq (.tup [.v 2]) (.exit 0)))) (.seq (.block 1 (.seq (.rg [⟨[], .idx [.sc], [.v 0, .v 1], 1⟩, ⟨[], .idx [.sc], [.v 2, .v 1], 1⟩, ⟨[], .set [.sc] 0, [.v 2, .v 1, .v 5], 1⟩]) (.tup [.v 0, .v 1, .v 7]))) (.rg [⟨[], .bin .add, [.v 1, .k (.int .i64 1)], 1⟩]))) (.tup [.v 0, .v 3, .v 2])
theorem laws_toIntS_b0_sh (Q : QT) (x0 x1 x2 : V) : shL laws_toIntS_b0 Q [x0, x1, x2] = (
  P1 (.len) [x0] fun v0 =>
  P1 (.bin .lss) [x1, v0] fun v1 =>
  ifB v1 (
    P1 (.idx [.sc]) [x0, x1] fun v2 =>
    P1 (.idx [.sc]) [x2, x1] fun _ =>
    P1 (.set [.sc] 0) [x2, x1, v2] fun v4 =>
    P1 (.bin .add) [x1, .int .i64 1] fun v5 =>
    Q .normal [x0, v5, v4]) (
    Q (.exit 0) [x2])) := by kernel_rfl

def laws_toIntS_r1 : L := .seq (.rg []) (.ret [.v 0])
theorem laws_toIntS_r1_sh (Q : QT) (x0 : V) : shL laws_toIntS_r1 Q [x0] = (
  Q .ret [x0]) := by kernel_rfl

def laws_toIntS_L : L := .seq (.rg []) (.seq (.rg [⟨[], .len, [.v 0], 1⟩, ⟨[], .mk [.sc] (.int .i64 0) 8, [.v 1, .v 1], 1⟩]) (.seq (.seq (.rg []) (.block 0 (.seq (.tup [.v 0, .k (.int .i64 0), .v 2]) (.loop (laws_toIntS_b0))))) (laws_toIntS_r1)))
theorem laws_toIntS_L_sh (Q : QT) (x0 : V) : shL laws_toIntS_L Q [x0] = (
  P1 (.len) [x0] fun v0 =>
  P1 (.mk [.sc] (.int .i64 0) 8) [v0, v0] fun v1 =>
  shL (.loop laws_toIntS_b0) (qB 0 (qS (shL laws_toIntS_r1 Q) Q)) [x0, .int .i64 0, v1]) := by kernel_rfl
def laws_toIntS_S : Sig := ⟨[.val false [.sl [.sc]]], [(false, [.sl [.sc]])], F_toIntS⟩
def laws_toIntS_hs : List NF := [⟨[(3, .sc false [.own 64])], [(64, true, [.sc])], [], 65⟩, ⟨[(0, .sc false [.ro [.sc]]), (3, .sc false [.own 64]), (4, .sc false [.sc])], [(64, true, [.sc])], [], 65⟩, ⟨[(0, .sc false [.ro [.sc]]), (3, .sc false [.own 64]), (4, .sc false [.sc])], [(64, true, [.sc])], [], 65⟩]

def spec_MoodSteps_r1 : L := .seq (.rg [⟨[], .idx [.sc], [.v 1, .v 3], 1⟩, ⟨[], .idx [.sc], [.v 4, .v 15], 1⟩, ⟨[], .set [.sc] 0, [.v 4, .v 15, .k (.bool true)], 1⟩]) (.seq (.rg [⟨[], .bin .gtr, [.v 3, .k (.int .i64 0)], 1⟩]) (.ite (.v 18) (.seq (.seq (.rg [⟨[], .idx [.sc], [.v 1, .v 3], 1⟩, ⟨[], .idx [.sc, .sc], [.v 0, .v 19], 2⟩, ⟨[], .bin .sub, [.v 3, .k (.int .i64 1)], 1⟩, ⟨[], .idx [.sc], [.v 1, .v 22], 1⟩, ⟨[], .idx [.sc, .sc], [.v 0, .v 23], 2⟩, ⟨[], .bin .sub, [.v 21, .v 25], 1⟩]) (.rg [⟨[], .un .neg, [.v 26], 1⟩, ⟨[], .mx, [.v 26, .v 27], 1⟩, ⟨[], .bin .add, [.v 2, .v 28], 1⟩])) (.tup [.v 0, .v 1, .v 29, .v 3, .v 17])) (.seq (.skip) (.tup [.v 0, .v 1, .v 2, .v 3, .v 17]))))
theorem spec_MoodSteps_r1_sh (Q : QT) (x0 x1 x2 x3 x4 x5 x6 x7 x8 x9 x10 x11 x12 x13 x14 : V) : shL spec_MoodSteps_r1 Q [x0, x1, x2, x3, x4, x5, x6, x7, x8, x9, x10, x11, x12, x13, x14] = (
  P1 (.idx [.sc]) [x1, x3] fun v0 =>
  P1 (.idx [.sc]) [x4, v0] fun _ =>
  P1 (.set [.sc] 0) [x4, v0, .bool true] fun v2 =>
  P1 (.bin .gtr) [x3, .int .i64 0] fun v3 =>
  ifB v3 (
    P1 (.idx [.sc]) [x1, x3] fun v4 =>
    P2 (.idx [.sc, .sc]) [x0, v4] fun _ v6 =>
    P1 (.bin .sub) [x3, .int .i64 1] fun v7 =>
    P1 (.idx [.sc]) [x1, v7] fun v8 =>
    P2 (.idx [.sc, .sc]) [x0, v8] fun _ v10 =>
    P1 (.bin .sub) [v6, v10] fun v11 =>
    P1 (.un .neg) [v11] fun v12 =>
    P1 (.mx) [v11, v12] fun v13 =>
    P1 (.bin .add) [x2, v13] fun v14 =>
    Q .normal [x0, x1, v14, x3, v2]) (
    Q .normal [x0, x1, x2, x3, v2])) := by kernel_rfl

def spec_MoodSteps_r2 : L := .tup [.v 0, .v 1, .v 2, .v 3, .v 4]
theorem spec_MoodSteps_r2_sh (Q : QT) (x0 x1 x2 x3 x4 : V) : shL spec_MoodSteps_r2 Q [x0, x1, x2, x3, x4] = (
  Q .normal [x0, x1, x2, x3, x4]) := by kernel_rfl

def spec_MoodSteps_r3 : L := .rg [⟨[], .bin .add, [.v 3, .k (.int .i64 1)], 1⟩]
theorem spec_MoodSteps_r3_sh (Q : QT) (x0 x1 x2 x3 x4 : V) : shL spec_MoodSteps_r3 Q [x0, x1, x2, x3, x4] = (
  P1 (.bin .add) [x3, .int .i64 1] fun v0 =>
  Q .normal [x0, x1, x2, x3, x4, v0]) := by kernel_rfl

def spec_MoodSteps_r4 : L := .tup [.v 0, .v 1, .v 2, .v 5, .v 4]
theorem spec_MoodSteps_r4_sh (Q : QT) (x0 x1 x2 x3 x4 x5 : V) : shL spec_MoodSteps_r4 Q [x0, x1, x2, x3, x4, x5] = (
  Q .normal [x0, x1, x2, x5, x4]) := by kernel_rfl

def spec_MoodSteps_b0 : L := .seq (.seq (.seq (.rg [⟨[], .len, [.v 1], 1⟩, ⟨[], .bin .lss, [.v 3, .v 5], 1⟩]) (.ite (.v 6) (.skip) (.seq (.tup [.v 2]) (.exit 0)))) (.seq (.block 1 (.seq (.seq (.seq (.rg [⟨[], .idx [.sc], [.v 1, .v 3], 1⟩, ⟨[], .len, [.v 0], 1⟩, ⟨[], .bin .sub, [.v 8, .k (.int .i64 1)], 1⟩, ⟨[], .call F_l01In 0 1, [.v 7, .k (.int .i64 0), .v 9], 1⟩, ⟨[], .un .not, [.v 10], 1⟩, ⟨[(.v 11, false)], .idx [.sc], [.v 1, .v 3], 1⟩, ⟨[(.v 11, false)], .idx [.sc], [.v 4, .v 12], 1⟩, ⟨[], .pick, [.v 11, .k (.bool true), .v 13], 1⟩]) (.ite (.v 14) (.seq (.rg []) (.ret [.k (.int .i64 (-1))])) (.skip))) (spec_MoodSteps_r1)) (spec_MoodSteps_r2))) (spec_MoodSteps_r3))) (spec_MoodSteps_r4)
theorem spec_MoodSteps_b0_sh (Q : QT) (x0 x1 x2 x3 x4 : V) : shL spec_MoodSteps_b0 Q [x0, x1, x2, x3, x4] = (
  P1 (.len) [x1] fun v0 =>
  P1 (.bin .lss) [x3, v0] fun v1 =>
  ifB v1 (
    P1 (.idx [.sc]) [x1, x3] fun v2 =>
    P1 (.len) [x0] fun v3 =>
    P1 (.bin .sub) [v3, .int .i64 1] fun v4 =>
    P1 (.call F_l01In 0 1) [v2, .int .i64 0, v4] fun v5 =>
    P1 (.un .not) [v5] fun v6 =>
    ifB v6 (
      Q .ret [.int .i64 (-1)]) (
      P1 (.idx [.sc]) [x1, x3] fun v7 =>
      P1 (.idx [.sc]) [x4, v7] fun v8 =>
      ifB v8 (
        Q .ret [.int .i64 (-1)]) (
        shL spec_MoodSteps_r1 (qS (shL spec_MoodSteps_r2 (qB 1 (qS (shL spec_MoodSteps_r3 (qS (shL spec_MoodSteps_r4 Q) Q)) (qS (shL spec_MoodSteps_r4 Q) Q)))) (qB 1 (qS (shL spec_MoodSteps_r3 (qS (shL spec_MoodSteps_r4 Q) Q)) (qS (shL spec_MoodSteps_r4 Q) Q)))) [x0, x1, x2, x3, x4, v0, .bool true, v2, v3, v4, v5, .bool false, v7, v8, .bool false]))) (
    Q (.exit 0) [x2])) := by kernel_rfl

def spec_MoodSteps_r5 : L := .seq (.rg []) (.ret [.v 0])
theorem spec_MoodSteps_r5_sh (Q : QT) (x0 : V) : shL spec_MoodSteps_r5 Q [x0] = (
  Q .ret [x0]) := by kernel_rfl

def spec_MoodSteps_L : L := .seq (.rg []) (.seq (.seq (.rg [⟨[], .call F_PiecesOk 0 1, [.v 0], 1⟩, ⟨[], .un .not, [.v 2], 1⟩, ⟨[(.v 3, false)], .len, [.v 1], 1⟩, ⟨[(.v 3, false)], .len, [.v 0], 1⟩, ⟨[(.v 3, false)], .bin .neq, [.v 4, .v 5], 1⟩, ⟨[], .pick, [.v 3, .k (.bool true), .v 6], 1⟩]) (.ite (.v 7) (.seq (.rg []) (.ret [.k (.int .i64 (-1))])) (.skip))) (.seq (.rg [⟨[], .len, [.v 0], 1⟩, ⟨[], .mk [.sc] (.bool false) 1, [.v 8, .v 8], 1⟩]) (.seq (.rg []) (.seq (.seq (.rg []) (.block 0 (.seq (.tup [.v 0, .v 1, .k (.int .i64 0), .k (.int .i64 0), .v 9]) (.loop (spec_MoodSteps_b0))))) (spec_MoodSteps_r5)))))
theorem spec_MoodSteps_L_sh (Q : QT) (x0 x1 : V) : shL spec_MoodSteps_L Q [x0, x1] = (
  P1 (.call F_PiecesOk 0 1) [x0] fun v0 =>
  P1 (.un .not) [v0] fun v1 =>
  ifB v1 (
    Q .ret [.int .i64 (-1)]) (
    P1 (.len) [x1] fun v2 =>
    P1 (.len) [x0] fun v3 =>
    P1 (.bin .neq) [v2, v3] fun v4 =>
    ifB v4 (
      Q .ret [.int .i64 (-1)]) (
      P1 (.len) [x0] fun v5 =>
      P1 (.mk [.sc] (.bool false) 1) [v5, v5] fun v6 =>
      shL (.loop spec_MoodSteps_b0) (qB 0 (qS (shL spec_MoodSteps_r5 Q) Q)) [x0, x1, .int .i64 0, .int .i64 0, v6]))) := by kernel_rfl
def spec_MoodSteps_S : Sig := ⟨[.val false [.sl [.sc, .sc]], .val false [.sl [.sc]]], [(false, [.sc])], F_MoodSteps⟩
def spec_MoodSteps_hs : List NF := [⟨[(6, .sc false [.sc])], [], [], 64⟩, ⟨[(0, .sc false [.ro [.sc, .sc]]), (1, .sc false [.ro [.sc]]), (5, .sc false [.own 64]), (6, .sc false [.sc]), (7, .sc false [.sc])], [(64, true, [.sc])], [], 65⟩, ⟨[(0, .sc false [.ro [.sc, .sc]]), (1, .sc false [.ro [.sc]]), (5, .sc false [.own 64]), (6, .sc false [.sc]), (7, .sc false [.sc])], [(64, true, [.sc])], [], 65⟩, ⟨[(0, .sc false [.ro [.sc, .sc]]), (1, .sc false [.ro [.sc]]), (5, .sc false [.own 64]), (6, .sc false [.sc]), (7, .sc false [.sc])], [(64, true, [.sc])], [], 65⟩]

def impl_isPermutation_b0 : L := .seq (.seq (.rg [⟨[], .bin .lss, [.v 3, .v 2], 1⟩]) (.seq (.ite (.v 5) (.skip) (.seq (.tup []) (.exit 0))) (.seq (.block 1 (.seq (.seq (.rg [⟨[], .idx [.sc], [.v 1, .v 3], 1⟩]) (.seq (.seq (.rg [⟨[], .bin .lss, [.v 6, .k (.int .i64 0)], 1⟩, ⟨[(.v 7, false)], .bin .geq, [.v 6, .v 0], 1⟩, ⟨[], .pick, [.v 7, .k (.bool true), .v 8], 1⟩, ⟨[(.v 9, false)], .idx [.sc], [.v 4, .v 6], 1⟩, ⟨[], .pick, [.v 9, .k (.bool true), .v 10], 1⟩]) (.ite (.v 11) (.seq (.rg []) (.ret [.k (.bool false)])) (.skip))) (.rg [⟨[], .idx [.sc], [.v 4, .v 6], 1⟩, ⟨[], .set [.sc] 0, [.v 4, .v 6, .k (.bool true)], 1⟩]))) (.tup [.v 0, .v 1, .v 2, .v 3, .v 13]))) (.rg [⟨[], .bin .add, [.v 3, .k (.int .i64 1)], 1⟩])))) (.tup [.v 0, .v 1, .v 2, .v 5, .v 4])
theorem impl_isPermutation_b0_sh (Q : QT) (x0 x1 x2 x3 x4 : V) : shL impl_isPermutation_b0 Q [x0, x1, x2, x3, x4] = (
  P1 (.bin .lss) [x3, x2] fun v0 =>
  ifB v0 (
    P1 (.idx [.sc]) [x1, x3] fun v1 =>
    P1 (.bin .lss) [v1, .int .i64 0] fun v2 =>
    ifB v2 (
      Q .ret [.bool false]) (
      P1 (.bin .geq) [v1, x0] fun v3 =>
      ifB v3 (
        Q .ret [.bool false]) (
        P1 (.idx [.sc]) [x4, v1] fun v4 =>
        ifB v4 (
          Q .ret [.bool false]) (
          P1 (.idx [.sc]) [x4, v1] fun _ =>
          P1 (.set [.sc] 0) [x4, v1, .bool true] fun v6 =>
          P1 (.bin .add) [x3, .int .i64 1] fun v7 =>
          Q .normal [x0, x1, x2, v7, v6])))) (
    Q (.exit 0) [])) := by kernel_rfl

def impl_isPermutation_r1 : L := .seq (.rg []) (.ret [.k (.bool true)])
theorem impl_isPermutation_r1_sh (Q : QT) : shL impl_isPermutation_r1 Q [] = (
  Q .ret [.bool true]) := by kernel_rfl

def impl_isPermutation_L : L := .seq (.rg []) (.seq (.seq (.rg [⟨[], .len, [.v 0], 1⟩, ⟨[], .bin .neq, [.v 2, .v 1], 1⟩]) (.ite (.v 3) (.seq (.rg []) (.ret [.k (.bool false)])) (.skip))) (.seq (.rg [⟨[], .mk [.sc] (.bool false) 1, [.v 1, .v 1], 1⟩]) (.seq (.seq (.rg [⟨[], .len, [.v 0], 1⟩]) (.block 0 (.seq (.tup [.v 1, .v 0, .v 5, .k (.int .i64 0), .v 4]) (.loop (impl_isPermutation_b0))))) (impl_isPermutation_r1))))
theorem impl_isPermutation_L_sh (Q : QT) (x0 x1 : V) : shL impl_isPermutation_L Q [x0, x1] = (
  P1 (.len) [x0] fun v0 =>
  P1 (.bin .neq) [v0, x1] fun v1 =>
  ifB v1 (
    Q .ret [.bool false]) (
    P1 (.mk [.sc] (.bool false) 1) [x1, x1] fun v2 =>
    P1 (.len) [x0] fun v3 =>
    shL (.loop impl_isPermutation_b0) (qB 0 (qS (shL impl_isPermutation_r1 Q) Q)) [x1, x0, v3, .int .i64 0, v2])) := by kernel_rfl
def impl_isPermutation_S : Sig := ⟨[.val false [.sl [.sc]], .val false [.sc]], [(false, [.sc])], F_isPermutation⟩
def impl_isPermutation_hs : List NF := [⟨[], [], [], 64⟩, ⟨[(1, .sc false [.sc]), (5, .sc false [.own 64]), (14, .sc false [.ro [.sc]]), (15, .sc false [.sc]), (16, .sc false [.sc])], [(64, true, [.sc])], [], 65⟩, ⟨[(1, .sc false [.sc]), (5, .sc false [.own 64]), (14, .sc false [.ro [.sc]]), (15, .sc false [.sc]), (16, .sc false [.sc])], [(64, true, [.sc])], [], 65⟩]

def impl_magnitude_L : L := .seq (.rg []) (.seq (.seq (.rg [⟨[], .bin .lss, [.v 0, .k (.int .i64 0)], 1⟩]) (.ite (.v 1) (.seq (.rg [⟨[], .un .neg, [.v 0], 1⟩]) (.ret [.v 2])) (.skip))) (.seq (.rg []) (.ret [.v 0])))
theorem impl_magnitude_L_sh (Q : QT) (x0 : V) : shL impl_magnitude_L Q [x0] = (
  P1 (.bin .lss) [x0, .int .i64 0] fun v0 =>
  ifB v0 (
    P1 (.un .neg) [x0] fun v1 =>
    Q .ret [v1]) (
    Q .ret [x0])) := by kernel_rfl
def impl_magnitude_S : Sig := ⟨[.val false [.sc]], [(false, [.sc])], F_magnitude⟩
def impl_magnitude_hs : List NF := []

def impl_MoodSteps_b0 : L := .seq (.seq (.seq (.rg [⟨[], .len, [.v 1], 1⟩, ⟨[], .bin .lss, [.v 3, .v 4], 1⟩]) (.ite (.v 5) (.skip) (.seq (.tup [.v 2]) (.exit 0)))) (.seq (.block 1 (.seq (.rg [⟨[], .idx [.sc], [.v 1, .v 3], 1⟩, ⟨[], .idx [.sc, .sc], [.v 0, .v 6], 2⟩, ⟨[], .bin .sub, [.v 3, .k (.int .i64 1)], 1⟩, ⟨[], .idx [.sc], [.v 1, .v 9], 1⟩, ⟨[], .idx [.sc, .sc], [.v 0, .v 10], 2⟩, ⟨[], .bin .sub, [.v 8, .v 12], 1⟩, ⟨[], .call F_magnitude 0 1, [.v 13], 1⟩, ⟨[], .bin .add, [.v 2, .v 14], 1⟩]) (.tup [.v 0, .v 1, .v 15, .v 3]))) (.rg [⟨[], .bin .add, [.v 3, .k (.int .i64 1)], 1⟩]))) (.tup [.v 0, .v 1, .v 2, .v 4])
theorem impl_MoodSteps_b0_sh (Q : QT) (x0 x1 x2 x3 : V) : shL impl_MoodSteps_b0 Q [x0, x1, x2, x3] = (
  P1 (.len) [x1] fun v0 =>
  P1 (.bin .lss) [x3, v0] fun v1 =>
  ifB v1 (
    P1 (.idx [.sc]) [x1, x3] fun v2 =>
    P2 (.idx [.sc, .sc]) [x0, v2] fun _ v4 =>
    P1 (.bin .sub) [x3, .int .i64 1] fun v5 =>
    P1 (.idx [.sc]) [x1, v5] fun v6 =>
    P2 (.idx [.sc, .sc]) [x0, v6] fun _ v8 =>
    P1 (.bin .sub) [v4, v8] fun v9 =>
    P1 (.call F_magnitude 0 1) [v9] fun v10 =>
    P1 (.bin .add) [x2, v10] fun v11 =>
    P1 (.bin .add) [x3, .int .i64 1] fun v12 =>
    Q .normal [x0, x1, v11, v12]) (
    Q (.exit 0) [x2])) := by kernel_rfl

def impl_MoodSteps_r1 : L := .seq (.rg []) (.ret [.v 0])
theorem impl_MoodSteps_r1_sh (Q : QT) (x0 : V) : shL impl_MoodSteps_r1 Q [x0] = (
  Q .ret [x0]) := by kernel_rfl

def impl_MoodSteps_L : L := .seq (.rg []) (.seq (.seq (.rg [⟨[], .call F_PiecesOk 0 1, [.v 0], 1⟩, ⟨[], .un .not, [.v 2], 1⟩, ⟨[(.v 3, false)], .len, [.v 0], 1⟩, ⟨[(.v 3, false)], .call F_isPermutation 0 1, [.v 1, .v 4], 1⟩, ⟨[(.v 3, false)], .un .not, [.v 5], 1⟩, ⟨[], .pick, [.v 3, .k (.bool true), .v 6], 1⟩]) (.ite (.v 7) (.seq (.rg []) (.ret [.k (.int .i64 (-1))])) (.skip))) (.seq (.rg []) (.seq (.seq (.rg []) (.block 0 (.seq (.tup [.v 0, .v 1, .k (.int .i64 0), .k (.int .i64 1)]) (.loop (impl_MoodSteps_b0))))) (impl_MoodSteps_r1))))
theorem impl_MoodSteps_L_sh (Q : QT) (x0 x1 : V) : shL impl_MoodSteps_L Q [x0, x1] = (
  P1 (.call F_PiecesOk 0 1) [x0] fun v0 =>
  P1 (.un .not) [v0] fun v1 =>
  ifB v1 (
    Q .ret [.int .i64 (-1)]) (
    P1 (.len) [x0] fun v2 =>
    P1 (.call F_isPermutation 0 1) [x1, v2] fun v3 =>
    P1 (.un .not) [v3] fun v4 =>
    ifB v4 (
      Q .ret [.int .i64 (-1)]) (
      shL (.loop impl_MoodSteps_b0) (qB 0 (qS (shL impl_MoodSteps_r1 Q) Q)) [x0, x1, .int .i64 0, .int .i64 1]))) := by kernel_rfl
def impl_MoodSteps_S : Sig := ⟨[.val false [.sl [.sc, .sc]], .val false [.sl [.sc]]], [(false, [.sc])], F_MoodSteps⟩
def impl_MoodSteps_hs : List NF := [⟨[(5, .sc false [.sc])], [], [], 64⟩, ⟨[(0, .sc false [.ro [.sc, .sc]]), (1, .sc false [.ro [.sc]]), (5, .sc false [.sc]), (6, .sc false [.sc])], [], [], 64⟩, ⟨[(0, .sc false [.ro [.sc, .sc]]), (1, .sc false [.ro [.sc]]), (5, .sc false [.sc]), (6, .sc false [.sc])], [], [], 64⟩]

def laws_eqIntS_b0 : L := .seq (.seq (.seq (.rg [⟨[], .len, [.v 0], 1⟩, ⟨[], .bin .lss, [.v 2, .v 3], 1⟩]) (.ite (.v 4) (.skip) (.seq (.tup []) (.exit 0)))) (.seq (.block 1 (.seq (.seq (.rg [⟨[], .idx [.sc], [.v 0, .v 2], 1⟩, ⟨[], .idx [.sc], [.v 1, .v 2], 1⟩, ⟨[], .bin .neq, [.v 5, .v 6], 1⟩]) (.ite (.v 7) (.seq (.rg []) (.ret [.k (.bool false)])) (.skip))) (.tup [.v 0, .v 1, .v 2]))) (.rg [⟨[], .bin .add, [.v 2, .k (.int .i64 1)], 1⟩]))) (.tup [.v 0, .v 1, .v 3])
theorem laws_eqIntS_b0_sh (Q : QT) (x0 x1 x2 : V) : shL laws_eqIntS_b0 Q [x0, x1, x2] = (
  P1 (.len) [x0] fun v0 =>
  P1 (.bin .lss) [x2, v0] fun v1 =>
  ifB v1 (
    P1 (.idx [.sc]) [x0, x2] fun v2 =>
    P1 (.idx [.sc]) [x1, x2] fun v3 =>
    P1 (.bin .neq) [v2, v3] fun v4 =>
    ifB v4 (
      Q .ret [.bool false]) (
      P1 (.bin .add) [x2, .int .i64 1] fun v5 =>
      Q .normal [x0, x1, v5])) (
    Q (.exit 0) [])) := by kernel_rfl

def laws_eqIntS_r1 : L := .seq (.rg []) (.ret [.k (.bool true)])
theorem laws_eqIntS_r1_sh (Q : QT) : shL laws_eqIntS_r1 Q [] = (
  Q .ret [.bool true]) := by kernel_rfl

def laws_eqIntS_L : L := .seq (.rg []) (.seq (.seq (.rg [⟨[], .len, [.v 0], 1⟩, ⟨[], .len, [.v 1], 1⟩, ⟨[], .bin .neq, [.v 2, .v 3], 1⟩]) (.ite (.v 4) (.seq (.rg []) (.ret [.k (.bool false)])) (.skip))) (.seq (.seq (.rg []) (.block 0 (.seq (.tup [.v 0, .v 1, .k (.int .i64 0)]) (.loop (laws_eqIntS_b0))))) (laws_eqIntS_r1)))
theorem laws_eqIntS_L_sh (Q : QT) (x0 x1 : V) : shL laws_eqIntS_L Q [x0, x1] = (
  P1 (.len) [x0] fun v0 =>
  P1 (.len) [x1] fun v1 =>
  P1 (.bin .neq) [v0, v1] fun v2 =>
  ifB v2 (
    Q .ret [.bool false]) (
    shL (.loop laws_eqIntS_b0) (qB 0 (qS (shL laws_eqIntS_r1 Q) Q)) [x0, x1, .int .i64 0])) := by kernel_rfl
def laws_eqIntS_S : Sig := ⟨[.val false [.sl [.sc]], .val false [.sl [.sc]]], [(false, [.sc])], F_eqIntS⟩
def laws_eqIntS_hs : List NF := [⟨[], [], [], 64⟩, ⟨[(0, .sc false [.ro [.sc]]), (1, .sc false [.ro [.sc]]), (5, .sc false [.sc])], [], [], 64⟩, ⟨[(0, .sc false [.ro [.sc]]), (1, .sc false [.ro [.sc]]), (5, .sc false [.sc])], [], [], 64⟩]

def laws_FnExactMoodSteps_L : L := .seq (.rg []) (.seq (.seq (.rg [⟨[], .len, [.v 1], 1⟩, ⟨[], .bin .gtr, [.v 2, .k (.int .i64 1048576)], 1⟩]) (.ite (.v 3) (.seq (.rg []) (.ret [.k (.bool true)])) (.skip))) (.seq (.rg []) (.seq (.rg [⟨[], .call F_szPieceS 0 1, [.v 0, .k (.int .i64 1048576)], 1⟩]) (.seq (.seq (.rg [⟨[], .bin .lss, [.v 4, .k (.int .i64 0)], 1⟩]) (.ite (.v 5) (.seq (.rg []) (.ret [.k (.bool true)])) (.skip))) (.seq (.rg [⟨[], .call F_toPieceS 0 1, [.v 0], 1⟩, ⟨[], .call F_toIntS 0 1, [.v 1], 1⟩, ⟨[], .call F_MoodSteps 0 1, [.v 6, .v 7], 1⟩]) (.seq (.rg [⟨[], .call F_toPieceS 0 1, [.v 0], 1⟩]) (.seq (.rg [⟨[], .call F_toIntS 0 1, [.v 1], 1⟩]) (.seq (.rg [⟨[], .call F_MoodSteps 0 1, [.v 9, .v 10], 1⟩]) (.seq (.seq (.rg [⟨[], .bin .neq, [.v 11, .v 8], 1⟩]) (.ite (.v 12) (.seq (.rg []) (.ret [.k (.bool false)])) (.skip))) (.seq (.seq (.rg [⟨[], .call F_toPieceS 0 1, [.v 0], 1⟩, ⟨[], .call F_eqPieceS 0 1, [.v 9, .v 13], 1⟩, ⟨[], .un .not, [.v 14], 1⟩]) (.ite (.v 15) (.seq (.rg []) (.ret [.k (.bool false)])) (.skip))) (.seq (.seq (.rg [⟨[], .call F_toIntS 0 1, [.v 1], 1⟩, ⟨[], .call F_eqIntS 0 1, [.v 10, .v 16], 1⟩, ⟨[], .un .not, [.v 17], 1⟩]) (.ite (.v 18) (.seq (.rg []) (.ret [.k (.bool false)])) (.skip))) (.seq (.rg []) (.ret [.k (.bool true)])))))))))))))
theorem laws_FnExactMoodSteps_L_sh (Q : QT) (x0 x1 : V) : shL laws_FnExactMoodSteps_L Q [x0, x1] = (
  P1 (.len) [x1] fun v0 =>
  P1 (.bin .gtr) [v0, .int .i64 1048576] fun v1 =>
  ifB v1 (
    Q .ret [.bool true]) (
    P1 (.call F_szPieceS 0 1) [x0, .int .i64 1048576] fun v2 =>
    P1 (.bin .lss) [v2, .int .i64 0] fun v3 =>
    ifB v3 (
      Q .ret [.bool true]) (
      P1 (.call F_toPieceS 0 1) [x0] fun v4 =>
      P1 (.call F_toIntS 0 1) [x1] fun v5 =>
      P1 (.call F_MoodSteps 0 1) [v4, v5] fun v6 =>
      P1 (.call F_toPieceS 0 1) [x0] fun v7 =>
      P1 (.call F_toIntS 0 1) [x1] fun v8 =>
      P1 (.call F_MoodSteps 0 1) [v7, v8] fun v9 =>
      P1 (.bin .neq) [v9, v6] fun v10 =>
      ifB v10 (
        Q .ret [.bool false]) (
        P1 (.call F_toPieceS 0 1) [x0] fun v11 =>
        P1 (.call F_eqPieceS 0 1) [v7, v11] fun v12 =>
        P1 (.un .not) [v12] fun v13 =>
        ifB v13 (
          Q .ret [.bool false]) (
          P1 (.call F_toIntS 0 1) [x1] fun v14 =>
          P1 (.call F_eqIntS 0 1) [v8, v14] fun v15 =>
          P1 (.un .not) [v15] fun v16 =>
          ifB v16 (
            Q .ret [.bool false]) (
            Q .ret [.bool true])))))) := by kernel_rfl
def laws_FnExactMoodSteps_S : Sig := ⟨[.val false [.sl [.sc, .sc]], .val false [.sl [.sc]]], [(false, [.sc])], F_FnExactMoodSteps⟩
def laws_FnExactMoodSteps_hs : List NF := []

def spec_PinSum_b0 : L := .seq (.seq (.seq (.rg [⟨[], .len, [.v 4], 1⟩, ⟨[], .bin .lss, [.v 1, .v 5], 1⟩]) (.ite (.v 6) (.skip) (.seq (.tup [.v 0]) (.exit 0)))) (.seq (.block 1 (.seq (.rg [⟨[], .bin .add, [.v 1, .k (.int .i64 1)], 1⟩, ⟨[], .idx [.sc, .sc], [.v 4, .v 1], 2⟩, ⟨[], .bin .mul, [.k (.int .i64 100), .v 8], 1⟩, ⟨[], .idx [.sc, .sc], [.v 4, .v 1], 2⟩, ⟨[], .bin .add, [.v 10, .v 12], 1⟩, ⟨[], .bin .add, [.v 13, .k (.int .i64 1)], 1⟩, ⟨[], .bin .mul, [.v 7, .v 14], 1⟩, ⟨[], .bin .add, [.v 0, .v 15], 1⟩, ⟨[], .bin .rem, [.v 16, .k (.int .i64 9973)], 1⟩]) (.tup [.v 17, .v 1, .v 2, .v 3, .v 4]))) (.rg [⟨[], .bin .add, [.v 1, .k (.int .i64 1)], 1⟩]))) (.tup [.v 0, .v 5, .v 2, .v 3, .v 4])
theorem spec_PinSum_b0_sh (Q : QT) (x0 x1 x2 x3 x4 : V) : shL spec_PinSum_b0 Q [x0, x1, x2, x3, x4] = (
  P1 (.len) [x4] fun v0 =>
  P1 (.bin .lss) [x1, v0] fun v1 =>
  ifB v1 (
    P1 (.bin .add) [x1, .int .i64 1] fun v2 =>
    P2 (.idx [.sc, .sc]) [x4, x1] fun v3 _ =>
    P1 (.bin .mul) [.int .i64 100, v3] fun v5 =>
    P2 (.idx [.sc, .sc]) [x4, x1] fun _ v7 =>
    P1 (.bin .add) [v5, v7] fun v8 =>
    P1 (.bin .add) [v8, .int .i64 1] fun v9 =>
    P1 (.bin .mul) [v2, v9] fun v10 =>
    P1 (.bin .add) [x0, v10] fun v11 =>
    P1 (.bin .rem) [v11, .int .i64 9973] fun v12 =>
    P1 (.bin .add) [x1, .int .i64 1] fun v13 =>
    Q .normal [v12, v13, x2, x3, x4]) (
    Q (.exit 0) [x0])) := by kernel_rfl

def spec_PinSum_r1 : L := .seq (.rg []) (.ret [.v 0])
theorem spec_PinSum_r1_sh (Q : QT) (x0 : V) : shL spec_PinSum_r1 Q [x0] = (
  Q .ret [x0]) := by kernel_rfl

def spec_PinSum_L : L := .seq (.rg []) (.seq (.seq (.rg [⟨[], .call F_CylinderOk 0 1, [.v 0, .v 1, .v 2], 1⟩, ⟨[], .un .not, [.v 3], 1⟩]) (.ite (.v 4) (.seq (.rg []) (.ret [.k (.int .i64 (-1))])) (.skip))) (.seq (.rg []) (.seq (.seq (.rg []) (.block 0 (.seq (.tup [.k (.int .i64 0), .k (.int .i64 0), .v 0, .v 1, .v 2]) (.loop (spec_PinSum_b0))))) (spec_PinSum_r1))))
theorem spec_PinSum_L_sh (Q : QT) (x0 x1 x2 : V) : shL spec_PinSum_L Q [x0, x1, x2] = (
  P1 (.call F_CylinderOk 0 1) [x0, x1, x2] fun v0 =>
  P1 (.un .not) [v0] fun v1 =>
  ifB v1 (
    Q .ret [.int .i64 (-1)]) (
    shL (.loop spec_PinSum_b0) (qB 0 (qS (shL spec_PinSum_r1 Q) Q)) [.int .i64 0, .int .i64 0, x0, x1, x2])) := by kernel_rfl
def spec_PinSum_S : Sig := ⟨[.val true [.sc, .sc, .sl [.sc, .sc]]], [(false, [.sc])], F_PinSum⟩
def spec_PinSum_hs : List NF := [⟨[(3, .sc false [.sc])], [], [], 64⟩, ⟨[(1, .ptr 64 0), (3, .sc false [.sc]), (4, .sc false [.sc])], [], [(64, [.sc, .sc, .ro [.sc, .sc]])], 65⟩, ⟨[(1, .ptr 64 0), (3, .sc false [.sc]), (4, .sc false [.sc])], [], [(64, [.sc, .sc, .ro [.sc, .sc]])], 65⟩]

def impl_PinSum_b0 : L := .seq (.seq (.rg [⟨[], .bin .lss, [.v 3, .v 2], 1⟩]) (.seq (.ite (.v 4) (.skip) (.seq (.tup [.v 0]) (.exit 0))) (.seq (.block 1 (.seq (.seq (.rg [⟨[], .idx [.sc, .sc], [.v 1, .v 3], 2⟩]) (.rg [⟨[], .bin .add, [.v 3, .k (.int .i64 1)], 1⟩, ⟨[], .bin .mul, [.k (.int .i64 100), .v 5], 1⟩, ⟨[], .bin .add, [.v 8, .v 6], 1⟩, ⟨[], .bin .add, [.v 9, .k (.int .i64 1)], 1⟩, ⟨[], .bin .mul, [.v 7, .v 10], 1⟩, ⟨[], .bin .add, [.v 0, .v 11], 1⟩])) (.tup [.v 12, .v 1, .v 2, .v 3]))) (.rg [⟨[], .bin .add, [.v 3, .k (.int .i64 1)], 1⟩])))) (.tup [.v 0, .v 1, .v 2, .v 4])
theorem impl_PinSum_b0_sh (Q : QT) (x0 x1 x2 x3 : V) : shL impl_PinSum_b0 Q [x0, x1, x2, x3] = (
  P1 (.bin .lss) [x3, x2] fun v0 =>
  ifB v0 (
    P2 (.idx [.sc, .sc]) [x1, x3] fun v1 v2 =>
    P1 (.bin .add) [x3, .int .i64 1] fun v3 =>
    P1 (.bin .mul) [.int .i64 100, v1] fun v4 =>
    P1 (.bin .add) [v4, v2] fun v5 =>
    P1 (.bin .add) [v5, .int .i64 1] fun v6 =>
    P1 (.bin .mul) [v3, v6] fun v7 =>
    P1 (.bin .add) [x0, v7] fun v8 =>
    P1 (.bin .add) [x3, .int .i64 1] fun v9 =>
    Q .normal [v8, x1, x2, v9]) (
    Q (.exit 0) [x0])) := by kernel_rfl

def impl_PinSum_r1 : L := .seq (.rg [⟨[], .bin .rem, [.v 0, .k (.int .i64 9973)], 1⟩]) (.ret [.v 1])
theorem impl_PinSum_r1_sh (Q : QT) (x0 : V) : shL impl_PinSum_r1 Q [x0] = (
  P1 (.bin .rem) [x0, .int .i64 9973] fun v0 =>
  Q .ret [v0]) := by kernel_rfl

def impl_PinSum_L : L := .seq (.rg []) (.seq (.seq (.rg [⟨[], .call F_CylinderOk 0 1, [.v 0, .v 1, .v 2], 1⟩, ⟨[], .un .not, [.v 3], 1⟩]) (.ite (.v 4) (.seq (.rg []) (.ret [.k (.int .i64 (-1))])) (.skip))) (.seq (.rg []) (.seq (.seq (.rg [⟨[], .len, [.v 2], 1⟩]) (.block 0 (.seq (.tup [.k (.int .i64 0), .v 2, .v 5, .k (.int .i64 0)]) (.loop (impl_PinSum_b0))))) (impl_PinSum_r1))))
theorem impl_PinSum_L_sh (Q : QT) (x0 x1 x2 : V) : shL impl_PinSum_L Q [x0, x1, x2] = (
  P1 (.call F_CylinderOk 0 1) [x0, x1, x2] fun v0 =>
  P1 (.un .not) [v0] fun v1 =>
  ifB v1 (
    Q .ret [.int .i64 (-1)]) (
    P1 (.len) [x2] fun v2 =>
    shL (.loop impl_PinSum_b0) (qB 0 (qS (shL impl_PinSum_r1 Q) Q)) [.int .i64 0, x2, v2, .int .i64 0])) := by kernel_rfl
def impl_PinSum_S : Sig := ⟨[.val true [.sc, .sc, .sl [.sc, .sc]]], [(false, [.sc])], F_PinSum⟩
def impl_PinSum_hs : List NF := [⟨[(3, .sc false [.sc])], [], [], 64⟩, ⟨[(3, .sc false [.sc]), (10, .sc false [.ro [.sc, .sc]]), (11, .sc false [.sc]), (12, .sc false [.sc])], [], [], 64⟩, ⟨[(3, .sc false [.sc]), (10, .sc false [.ro [.sc, .sc]]), (11, .sc false [.sc]), (12, .sc false [.sc])], [], [], 64⟩]

def laws_FnExactPinSum_L : L := .seq (.rg []) (.seq (.rg []) (.seq (.rg [⟨[], .call F_szCylinder 0 1, [.v 0, .v 1, .v 2, .k (.int .i64 1048576)], 1⟩]) (.seq (.seq (.rg [⟨[], .bin .lss, [.v 3, .k (.int .i64 0)], 1⟩]) (.ite (.v 4) (.seq (.rg []) (.ret [.k (.bool true)])) (.skip))) (.seq (.rg [⟨[], .call F_toCylinder 0 3, [.v 0, .v 1, .v 2], 3⟩, ⟨[], .call F_PinSum 0 1, [.v 5, .v 6, .v 7], 1⟩]) (.seq (.rg [⟨[], .call F_toCylinder 0 3, [.v 0, .v 1, .v 2], 3⟩]) (.seq (.rg [⟨[], .call F_PinSum 0 1, [.v 9, .v 10, .v 11], 1⟩]) (.seq (.seq (.rg [⟨[], .bin .neq, [.v 12, .v 8], 1⟩]) (.ite (.v 13) (.seq (.rg []) (.ret [.k (.bool false)])) (.skip))) (.seq (.seq (.rg [⟨[], .call F_toCylinder 0 3, [.v 0, .v 1, .v 2], 3⟩, ⟨[], .call F_eqCylinder 0 1, [.v 9, .v 10, .v 11, .v 14, .v 15, .v 16], 1⟩, ⟨[], .un .not, [.v 17], 1⟩]) (.ite (.v 18) (.seq (.rg []) (.ret [.k (.bool false)])) (.skip))) (.seq (.rg []) (.ret [.k (.bool true)]))))))))))
theorem laws_FnExactPinSum_L_sh (Q : QT) (x0 x1 x2 : V) : shL laws_FnExactPinSum_L Q [x0, x1, x2] = (
  P1 (.call F_szCylinder 0 1) [x0, x1, x2, .int .i64 1048576] fun v0 =>
  P1 (.bin .lss) [v0, .int .i64 0] fun v1 =>
  ifB v1 (
    Q .ret [.bool true]) (
    P3 (.call F_toCylinder 0 3) [x0, x1, x2] fun v2 v3 v4 =>
    P1 (.call F_PinSum 0 1) [v2, v3, v4] fun v5 =>
    P3 (.call F_toCylinder 0 3) [x0, x1, x2] fun v6 v7 v8 =>
    P1 (.call F_PinSum 0 1) [v6, v7, v8] fun v9 =>
    P1 (.bin .neq) [v9, v5] fun v10 =>
    ifB v10 (
      Q .ret [.bool false]) (
      P3 (.call F_toCylinder 0 3) [x0, x1, x2] fun v11 v12 v13 =>
      P1 (.call F_eqCylinder 0 1) [v6, v7, v8, v11, v12, v13] fun v14 =>
      P1 (.un .not) [v14] fun v15 =>
      ifB v15 (
        Q .ret [.bool false]) (
        Q .ret [.bool true])))) := by kernel_rfl
def laws_FnExactPinSum_S : Sig := ⟨[.val true [.sc, .sc, .sl [.sc, .sc]]], [(false, [.sc])], F_FnExactPinSum⟩
def laws_FnExactPinSum_hs : List NF := []

def laws_szBoxS_L : L := .seq (.rg []) (.seq (.rg [⟨[], .len, [.v 0], 1⟩, ⟨[], .bin .sub, [.v 1, .v 2], 1⟩]) (.seq (.seq (.rg [⟨[], .bin .lss, [.v 3, .k (.int .i64 0)], 1⟩]) (.ite (.v 4) (.seq (.rg []) (.ret [.k (.int .i64 (-1))])) (.skip))) (.seq (.rg []) (.ret [.v 3]))))
theorem laws_szBoxS_L_sh (Q : QT) (x0 x1 : V) : shL laws_szBoxS_L Q [x0, x1] = (
  P1 (.len) [x0] fun v0 =>
  P1 (.bin .sub) [x1, v0] fun v1 =>
  P1 (.bin .lss) [v1, .int .i64 0] fun v2 =>
  ifB v2 (
    Q .ret [.int .i64 (-1)]) (
    Q .ret [v1])) := by kernel_rfl
def laws_szBoxS_S : Sig := ⟨[.val false [.sl [.sc, .sc, .sc]], .val false [.sc]], [(false, [.sc])], F_szBoxS⟩
def laws_szBoxS_hs : List NF := []

def laws_toBoxS_b0 : L := .seq (.seq (.seq (.rg [⟨[], .len, [.v 0], 1⟩, ⟨[], .bin .lss, [.v 1, .v 3], 1⟩]) (.ite (.v 4) (.skip) (.seq (.tup [.v 2]) (.exit 0)))) (.seq (.block 1 (.seq (.rg [⟨[], .idx [.sc, .sc, .sc], [.v 0, .v 1], 3⟩, ⟨[], .call F_toBox 0 3, [.v 5, .v 6, .v 7], 3⟩, ⟨[], .idx [.sc, .sc, .sc], [.v 2, .v 1], 3⟩, ⟨[], .set [.sc, .sc, .sc] 0, [.v 2, .v 1, .v 8, .v 9, .v 10], 1⟩]) (.tup [.v 0, .v 1, .v 14]))) (.rg [⟨[], .bin .add, [.v 1, .k (.int .i64 1)], 1⟩]))) (.tup [.v 0, .v 3, .v 2])
theorem laws_toBoxS_b0_sh (Q : QT) (x0 x1 x2 : V) : shL laws_toBoxS_b0 Q [x0, x1, x2] = (
  P1 (.len) [x0] fun v0 =>
  P1 (.bin .lss) [x1, v0] fun v1 =>
  ifB v1 (
    P3 (.idx [.sc, .sc, .sc]) [x0, x1] fun v2 v3 v4 =>
    P3 (.call F_toBox 0 3) [v2, v3, v4] fun v5 v6 v7 =>
    P3 (.idx [.sc, .sc, .sc]) [x2, x1] fun _ _ _ =>
    P1 (.set [.sc, .sc, .sc] 0) [x2, x1, v5, v6, v7] fun v11 =>
    P1 (.bin .add) [x1, .int .i64 1] fun v12 =>
    Q .normal [x0, v12, v11]) (
    Q (.exit 0) [x2])) := by kernel_rfl

def laws_toBoxS_r1 : L := .seq (.rg []) (.ret [.v 0])
theorem laws_toBoxS_r1_sh (Q : QT) (x0 : V) : shL laws_toBoxS_r1 Q [x0] = (
  Q .ret [x0]) := by kernel_rfl

def laws_toBoxS_L : L := .seq (.rg []) (.seq (.rg [⟨[], .len, [.v 0], 1⟩, ⟨[], .mk [.sc, .sc, .sc] (.agg [.int .i64 0, .int .i64 0, .int .i64 0]) 24, [.v 1, .v 1], 1⟩]) (.seq (.seq (.rg []) (.block 0 (.seq (.tup [.v 0, .k (.int .i64 0), .v 2]) (.loop (laws_toBoxS_b0))))) (laws_toBoxS_r1)))
theorem laws_toBoxS_L_sh (Q : QT) (x0 : V) : shL laws_toBoxS_L Q [x0] = (
  P1 (.len) [x0] fun v0 =>
  P1 (.mk [.sc, .sc, .sc] (.agg [.int .i64 0, .int .i64 0, .int .i64 0]) 24) [v0, v0] fun v1 =>
  shL (.loop laws_toBoxS_b0) (qB 0 (qS (shL laws_toBoxS_r1 Q) Q)) [x0, .int .i64 0, v1]) := by kernel_rfl
def laws_toBoxS_S : Sig := ⟨[.val false [.sl [.sc, .sc, .sc]]], [(false, [.sl [.sc, .sc, .sc]])], F_toBoxS⟩
def laws_toBoxS_hs : List NF := [⟨[(3, .sc false [.own 64])], [(64, true, [.sc, .sc, .sc])], [], 65⟩, ⟨[(0, .sc false [.ro [.sc, .sc, .sc]]), (3, .sc false [.own 64]), (4, .sc false [.sc])], [(64, true, [.sc, .sc, .sc])], [], 65⟩, ⟨[(0, .sc false [.ro [.sc, .sc, .sc]]), (3, .sc false [.own 64]), (4, .sc false [.sc])], [(64, true, [.sc, .sc, .sc])], [], 65⟩]

def impl_areBoxes_b0 : L := .seq (.seq (.rg [⟨[], .bin .lss, [.v 2, .v 1], 1⟩]) (.seq (.ite (.v 3) (.skip) (.seq (.tup []) (.exit 0))) (.seq (.block 1 (.seq (.seq (.rg [⟨[], .idx [.sc, .sc, .sc], [.v 0, .v 2], 3⟩]) (.seq (.rg [⟨[], .call F_BoxOk 0 1, [.v 4, .v 5, .v 6], 1⟩, ⟨[], .un .not, [.v 7], 1⟩]) (.ite (.v 8) (.seq (.rg []) (.ret [.k (.bool false)])) (.skip)))) (.tup [.v 0, .v 1, .v 2]))) (.rg [⟨[], .bin .add, [.v 2, .k (.int .i64 1)], 1⟩])))) (.tup [.v 0, .v 1, .v 3])
theorem impl_areBoxes_b0_sh (Q : QT) (x0 x1 x2 : V) : shL impl_areBoxes_b0 Q [x0, x1, x2] = (
  P1 (.bin .lss) [x2, x1] fun v0 =>
  ifB v0 (
    P3 (.idx [.sc, .sc, .sc]) [x0, x2] fun v1 v2 v3 =>
    P1 (.call F_BoxOk 0 1) [v1, v2, v3] fun v4 =>
    P1 (.un .not) [v4] fun v5 =>
    ifB v5 (
      Q .ret [.bool false]) (
      P1 (.bin .add) [x2, .int .i64 1] fun v6 =>
      Q .normal [x0, x1, v6])) (
    Q (.exit 0) [])) := by kernel_rfl

def impl_areBoxes_r1 : L := .seq (.rg []) (.ret [.k (.bool true)])
theorem impl_areBoxes_r1_sh (Q : QT) : shL impl_areBoxes_r1 Q [] = (
  Q .ret [.bool true]) := by kernel_rfl

def impl_areBoxes_L : L := .seq (.rg []) (.seq (.seq (.rg [⟨[], .len, [.v 0], 1⟩, ⟨[], .bin .gtr, [.v 2, .v 1], 1⟩]) (.ite (.v 3) (.seq (.rg []) (.ret [.k (.bool false)])) (.skip))) (.seq (.seq (.rg [⟨[], .len, [.v 0], 1⟩]) (.block 0 (.seq (.tup [.v 0, .v 4, .k (.int .i64 0)]) (.loop (impl_areBoxes_b0))))) (impl_areBoxes_r1)))
theorem impl_areBoxes_L_sh (Q : QT) (x0 x1 : V) : shL impl_areBoxes_L Q [x0, x1] = (
  P1 (.len) [x0] fun v0 =>
  P1 (.bin .gtr) [v0, x1] fun v1 =>
  ifB v1 (
    Q .ret [.bool false]) (
    P1 (.len) [x0] fun v2 =>
    shL (.loop impl_areBoxes_b0) (qB 0 (qS (shL impl_areBoxes_r1 Q) Q)) [x0, v2, .int .i64 0])) := by kernel_rfl
def impl_areBoxes_S : Sig := ⟨[.val false [.sl [.sc, .sc, .sc]], .val false [.sc]], [(false, [.sc])], F_areBoxes⟩
def impl_areBoxes_hs : List NF := [⟨[], [], [], 64⟩, ⟨[(11, .sc false [.ro [.sc, .sc, .sc]]), (12, .sc false [.sc]), (13, .sc false [.sc])], [], [], 64⟩, ⟨[(11, .sc false [.ro [.sc, .sc, .sc]]), (12, .sc false [.sc]), (13, .sc false [.sc])], [], [], 64⟩]

def impl_isInside_L : L := .seq (.rg []) (.seq (.rg [⟨[], .call F_SortedBox 0 3, [.v 0, .v 1, .v 2], 3⟩, ⟨[], .call F_SortedBox 0 3, [.v 3, .v 4, .v 5], 3⟩]) (.seq (.rg [⟨[], .bin .lss, [.v 6, .v 9], 1⟩, ⟨[(.v 12, true)], .bin .lss, [.v 7, .v 10], 1⟩, ⟨[], .pick, [.v 12, .v 13, .k (.bool false)], 1⟩, ⟨[(.v 14, true)], .bin .lss, [.v 8, .v 11], 1⟩, ⟨[], .pick, [.v 14, .v 15, .k (.bool false)], 1⟩]) (.ret [.v 16])))
theorem impl_isInside_L_sh (Q : QT) (x0 x1 x2 x3 x4 x5 : V) : shL impl_isInside_L Q [x0, x1, x2, x3, x4, x5] = (
  P3 (.call F_SortedBox 0 3) [x0, x1, x2] fun v0 v1 v2 =>
  P3 (.call F_SortedBox 0 3) [x3, x4, x5] fun v3 v4 v5 =>
  P1 (.bin .lss) [v0, v3] fun v6 =>
  ifB v6 (
    P1 (.bin .lss) [v1, v4] fun v7 =>
    ifB v7 (
      P1 (.bin .lss) [v2, v5] fun v8 =>
      Q .ret [v8]) (
      Q .ret [.bool false])) (
    Q .ret [.bool false])) := by kernel_rfl
def impl_isInside_S : Sig := ⟨[.val true [.sc, .sc, .sc], .val true [.sc, .sc, .sc]], [(false, [.sc])], F_isInside⟩
def impl_isInside_hs : List NF := []

def laws_eqBoxS_b0 : L := .seq (.seq (.seq (.rg [⟨[], .len, [.v 0], 1⟩, ⟨[], .bin .lss, [.v 2, .v 3], 1⟩]) (.ite (.v 4) (.skip) (.seq (.tup []) (.exit 0)))) (.seq (.block 1 (.seq (.seq (.rg [⟨[], .idx [.sc, .sc, .sc], [.v 0, .v 2], 3⟩, ⟨[], .idx [.sc, .sc, .sc], [.v 1, .v 2], 3⟩, ⟨[], .call F_eqBox 0 1, [.v 5, .v 6, .v 7, .v 8, .v 9, .v 10], 1⟩, ⟨[], .un .not, [.v 11], 1⟩]) (.ite (.v 12) (.seq (.rg []) (.ret [.k (.bool false)])) (.skip))) (.tup [.v 0, .v 1, .v 2]))) (.rg [⟨[], .bin .add, [.v 2, .k (.int .i64 1)], 1⟩]))) (.tup [.v 0, .v 1, .v 3])
theorem laws_eqBoxS_b0_sh (Q : QT) (x0 x1 x2 : V) : shL laws_eqBoxS_b0 Q [x0, x1, x2] = (
  P1 (.len) [x0] fun v0 =>
  P1 (.bin .lss) [x2, v0] fun v1 =>
  ifB v1 (
    P3 (.idx [.sc, .sc, .sc]) [x0, x2] fun v2 v3 v4 =>
    P3 (.idx [.sc, .sc, .sc]) [x1, x2] fun v5 v6 v7 =>
    P1 (.call F_eqBox 0 1) [v2, v3, v4, v5, v6, v7] fun v8 =>
    P1 (.un .not) [v8] fun v9 =>
    ifB v9 (
      Q .ret [.bool false]) (
      P1 (.bin .add) [x2, .int .i64 1] fun v10 =>
      Q .normal [x0, x1, v10])) (
    Q (.exit 0) [])) := by kernel_rfl

def laws_eqBoxS_r1 : L := .seq (.rg []) (.ret [.k (.bool true)])
theorem laws_eqBoxS_r1_sh (Q : QT) : shL laws_eqBoxS_r1 Q [] = (
  Q .ret [.bool true]) := by kernel_rfl

def laws_eqBoxS_L : L := .seq (.rg []) (.seq (.seq (.rg [⟨[], .len, [.v 0], 1⟩, ⟨[], .len, [.v 1], 1⟩, ⟨[], .bin .neq, [.v 2, .v 3], 1⟩]) (.ite (.v 4) (.seq (.rg []) (.ret [.k (.bool false)])) (.skip))) (.seq (.seq (.rg []) (.block 0 (.seq (.tup [.v 0, .v 1, .k (.int .i64 0)]) (.loop (laws_eqBoxS_b0))))) (laws_eqBoxS_r1)))
theorem laws_eqBoxS_L_sh (Q : QT) (x0 x1 : V) : shL laws_eqBoxS_L Q [x0, x1] = (
  P1 (.len) [x0] fun v0 =>
  P1 (.len) [x1] fun v1 =>
  P1 (.bin .neq) [v0, v1] fun v2 =>
  ifB v2 (
    Q .ret [.bool false]) (
    shL (.loop laws_eqBoxS_b0) (qB 0 (qS (shL laws_eqBoxS_r1 Q) Q)) [x0, x1, .int .i64 0])) := by kernel_rfl
def laws_eqBoxS_S : Sig := ⟨[.val false [.sl [.sc, .sc, .sc]], .val false [.sl [.sc, .sc, .sc]]], [(false, [.sc])], F_eqBoxS⟩
def laws_eqBoxS_hs : List NF := [⟨[], [], [], 64⟩, ⟨[(0, .sc false [.ro [.sc, .sc, .sc]]), (1, .sc false [.ro [.sc, .sc, .sc]]), (5, .sc false [.sc])], [], [], 64⟩, ⟨[(0, .sc false [.ro [.sc, .sc, .sc]]), (1, .sc false [.ro [.sc, .sc, .sc]]), (5, .sc false [.sc])], [], [], 64⟩]

def spec_l33Ok_b0 : L := .seq (.seq (.seq (.rg [⟨[], .len, [.v 0], 1⟩, ⟨[], .bin .lss, [.v 3, .v 4], 1⟩]) (.ite (.v 5) (.skip) (.seq (.tup [.v 0, .v 1, .v 2]) (.exit 0)))) (.seq (.block 1 (.seq (.seq (.rg [⟨[], .idx [.sc], [.v 0, .v 3], 1⟩, ⟨[], .call F_l01In 0 1, [.v 6, .k (.int .i64 0), .k (.int .i64 9)], 1⟩, ⟨[], .un .not, [.v 7], 1⟩]) (.ite (.v 8) (.seq (.rg []) (.ret [.k (.bool false)])) (.skip))) (.tup [.v 0, .v 1, .v 2, .v 3]))) (.rg [⟨[], .bin .add, [.v 3, .k (.int .i64 1)], 1⟩]))) (.tup [.v 0, .v 1, .v 2, .v 4])
theorem spec_l33Ok_b0_sh (Q : QT) (x0 x1 x2 x3 : V) : shL spec_l33Ok_b0 Q [x0, x1, x2, x3] = (
  P1 (.len) [x0] fun v0 =>
  P1 (.bin .lss) [x3, v0] fun v1 =>
  ifB v1 (
    P1 (.idx [.sc]) [x0, x3] fun v2 =>
    P1 (.call F_l01In 0 1) [v2, .int .i64 0, .int .i64 9] fun v3 =>
    P1 (.un .not) [v3] fun v4 =>
    ifB v4 (
      Q .ret [.bool false]) (
      P1 (.bin .add) [x3, .int .i64 1] fun v5 =>
      Q .normal [x0, x1, x2, v5])) (
    Q (.exit 0) [x0, x1, x2])) := by kernel_rfl

def spec_l33Ok_r1 : L := .seq (.rg [⟨[], .len, [.v 0], 1⟩, ⟨[], .call F_l01In 0 1, [.v 3, .v 1, .v 2], 1⟩]) (.ret [.v 4])
theorem spec_l33Ok_r1_sh (Q : QT) (x0 x1 x2 : V) : shL spec_l33Ok_r1 Q [x0, x1, x2] = (
  P1 (.len) [x0] fun v0 =>
  P1 (.call F_l01In 0 1) [v0, x1, x2] fun v1 =>
  Q .ret [v1]) := by kernel_rfl

def spec_l33Ok_L : L := .seq (.rg []) (.seq (.seq (.rg []) (.block 0 (.seq (.tup [.v 0, .v 1, .v 2, .k (.int .i64 0)]) (.loop (spec_l33Ok_b0))))) (spec_l33Ok_r1))
theorem spec_l33Ok_L_sh (Q : QT) (x0 x1 x2 : V) : shL spec_l33Ok_L Q [x0, x1, x2] = (
  shL (.loop spec_l33Ok_b0) (qB 0 (qS (shL spec_l33Ok_r1 Q) Q)) [x0, x1, x2, .int .i64 0]) := by kernel_rfl
def spec_l33Ok_S : Sig := ⟨[.val false [.sl [.sc]], .val false [.sc], .val false [.sc]], [(false, [.sc])], F_l33Ok⟩
def spec_l33Ok_hs : List NF := [⟨[(0, .sc false [.ro [.sc]]), (1, .sc false [.sc]), (2, .sc false [.sc])], [], [], 64⟩, ⟨[(0, .sc false [.ro [.sc]]), (1, .sc false [.sc]), (2, .sc false [.sc]), (7, .sc false [.sc])], [], [], 64⟩, ⟨[(0, .sc false [.ro [.sc]]), (1, .sc false [.sc]), (2, .sc false [.sc]), (7, .sc false [.sc])], [], [], 64⟩]

def spec_CheckDigit_b0 : L := .seq (.seq (.seq (.rg [⟨[], .len, [.v 0], 1⟩, ⟨[], .bin .lss, [.v 2, .v 3], 1⟩]) (.ite (.v 4) (.skip) (.seq (.tup [.v 1]) (.exit 0)))) (.seq (.block 1 (.seq (.seq (.rg [⟨[], .bin .rem, [.v 2, .k (.int .i64 2)], 1⟩, ⟨[], .bin .eql, [.v 5, .k (.int .i64 0)], 1⟩]) (.ite (.v 6) (.seq (.rg [⟨[], .idx [.sc], [.v 0, .v 2], 1⟩, ⟨[], .bin .mul, [.k (.int .i64 3), .v 7], 1⟩, ⟨[], .bin .add, [.v 1, .v 8], 1⟩]) (.tup [.v 0, .v 9, .v 2])) (.seq (.rg [⟨[], .idx [.sc], [.v 0, .v 2], 1⟩, ⟨[], .bin .add, [.v 1, .v 7], 1⟩]) (.tup [.v 0, .v 8, .v 2])))) (.tup [.v 0, .v 1, .v 2]))) (.rg [⟨[], .bin .add, [.v 2, .k (.int .i64 1)], 1⟩]))) (.tup [.v 0, .v 1, .v 3])
theorem spec_CheckDigit_b0_sh (Q : QT) (x0 x1 x2 : V) : shL spec_CheckDigit_b0 Q [x0, x1, x2] = (
  P1 (.len) [x0] fun v0 =>
  P1 (.bin .lss) [x2, v0] fun v1 =>
  ifB v1 (
    P1 (.bin .rem) [x2, .int .i64 2] fun v2 =>
    P1 (.bin .eql) [v2, .int .i64 0] fun v3 =>
    ifB v3 (
      P1 (.idx [.sc]) [x0, x2] fun v4 =>
      P1 (.bin .mul) [.int .i64 3, v4] fun v5 =>
      P1 (.bin .add) [x1, v5] fun v6 =>
      P1 (.bin .add) [x2, .int .i64 1] fun v7 =>
      Q .normal [x0, v6, v7]) (
      P1 (.idx [.sc]) [x0, x2] fun v8 =>
      P1 (.bin .add) [x1, v8] fun v9 =>
      P1 (.bin .add) [x2, .int .i64 1] fun v10 =>
      Q .normal [x0, v9, v10])) (
    Q (.exit 0) [x1])) := by kernel_rfl

def spec_CheckDigit_r1 : L := .seq (.rg [⟨[], .bin .rem, [.v 0, .k (.int .i64 10)], 1⟩, ⟨[], .bin .sub, [.k (.int .i64 10), .v 1], 1⟩, ⟨[], .bin .rem, [.v 2, .k (.int .i64 10)], 1⟩]) (.ret [.v 3])
theorem spec_CheckDigit_r1_sh (Q : QT) (x0 : V) : shL spec_CheckDigit_r1 Q [x0] = (
  P1 (.bin .rem) [x0, .int .i64 10] fun v0 =>
  P1 (.bin .sub) [.int .i64 10, v0] fun v1 =>
  P1 (.bin .rem) [v1, .int .i64 10] fun v2 =>
  Q .ret [v2]) := by kernel_rfl

def spec_CheckDigit_L : L := .seq (.rg []) (.seq (.seq (.rg [⟨[], .call F_l33Ok 0 1, [.v 0, .k (.int .i64 1), .k (.int .i64 20)], 1⟩, ⟨[], .un .not, [.v 1], 1⟩]) (.ite (.v 2) (.seq (.rg []) (.ret [.k (.int .i64 (-1))])) (.skip))) (.seq (.rg []) (.seq (.seq (.rg []) (.block 0 (.seq (.tup [.v 0, .k (.int .i64 0), .k (.int .i64 0)]) (.loop (spec_CheckDigit_b0))))) (spec_CheckDigit_r1))))
theorem spec_CheckDigit_L_sh (Q : QT) (x0 : V) : shL spec_CheckDigit_L Q [x0] = (
  P1 (.call F_l33Ok 0 1) [x0, .int .i64 1, .int .i64 20] fun v0 =>
  P1 (.un .not) [v0] fun v1 =>
  ifB v1 (
    Q .ret [.int .i64 (-1)]) (
    shL (.loop spec_CheckDigit_b0) (qB 0 (qS (shL spec_CheckDigit_r1 Q) Q)) [x0, .int .i64 0, .int .i64 0])) := by kernel_rfl
def spec_CheckDigit_S : Sig := ⟨[.val false [.sl [.sc]]], [(false, [.sc])], F_CheckDigit⟩
def spec_CheckDigit_hs : List NF := [⟨[(3, .sc false [.sc])], [], [], 64⟩, ⟨[(0, .sc false [.ro [.sc]]), (3, .sc false [.sc]), (4, .sc false [.sc])], [], [], 64⟩, ⟨[(0, .sc false [.ro [.sc]]), (3, .sc false [.sc]), (4, .sc false [.sc])], [], [], 64⟩, ⟨[(0, .sc false [.ro [.sc]]), (3, .sc false [.sc]), (4, .sc false [.sc])], [], [], 64⟩]

def spec_IsChecked_L : L := .seq (.rg []) (.seq (.rg [⟨[], .len, [.v 0], 1⟩]) (.seq (.seq (.rg [⟨[], .bin .lss, [.v 1, .k (.int .i64 2)], 1⟩]) (.ite (.v 2) (.seq (.rg []) (.ret [.k (.bool false)])) (.skip))) (.seq (.rg [⟨[], .bin .sub, [.v 1, .k (.int .i64 1)], 1⟩, ⟨[], .lsub [.sc], [.v 0, .k (.int .i64 0), .v 3], 1⟩, ⟨[], .call F_CheckDigit 0 1, [.v 4], 1⟩]) (.seq (.rg [⟨[], .bin .geq, [.v 5, .k (.int .i64 0)], 1⟩, ⟨[(.v 6, true)], .bin .sub, [.v 1, .k (.int .i64 1)], 1⟩, ⟨[(.v 6, true)], .idx [.sc], [.v 0, .v 7], 1⟩, ⟨[(.v 6, true)], .bin .eql, [.v 8, .v 5], 1⟩, ⟨[], .pick, [.v 6, .v 9, .k (.bool false)], 1⟩]) (.ret [.v 10])))))
theorem spec_IsChecked_L_sh (Q : QT) (x0 : V) : shL spec_IsChecked_L Q [x0] = (
  P1 (.len) [x0] fun v0 =>
  P1 (.bin .lss) [v0, .int .i64 2] fun v1 =>
  ifB v1 (
    Q .ret [.bool false]) (
    P1 (.bin .sub) [v0, .int .i64 1] fun v2 =>
    P1 (.lsub [.sc]) [x0, .int .i64 0, v2] fun v3 =>
    P1 (.call F_CheckDigit 0 1) [v3] fun v4 =>
    P1 (.bin .geq) [v4, .int .i64 0] fun v5 =>
    ifB v5 (
      P1 (.bin .sub) [v0, .int .i64 1] fun v6 =>
      P1 (.idx [.sc]) [x0, v6] fun v7 =>
      P1 (.bin .eql) [v7, v4] fun v8 =>
      Q .ret [v8]) (
      Q .ret [.bool false]))) := by kernel_rfl
def spec_IsChecked_S : Sig := ⟨[.val false [.sl [.sc]]], [(false, [.sc])], F_IsChecked⟩
def spec_IsChecked_hs : List NF := []

def spec_WrongDigits_b1 : L := .seq (.seq (.seq (.rg [⟨[], .bin .geq, [.v 3, .k (.int .i64 0)], 1⟩]) (.ite (.v 5) (.skip) (.seq (.tup [.v 0, .v 1, .v 2, .v 4]) (.exit 2)))) (.seq (.block 3 (.seq (.seq (.rg [⟨[], .lst [.sc] false 0, [], 1⟩, ⟨[], .app [.sc] 8, [.v 6, .v 0], 1⟩]) (.seq (.rg [⟨[], .idx [.sc], [.v 7, .v 1], 1⟩, ⟨[], .set [.sc] 0, [.v 7, .v 1, .v 3], 1⟩]) (.seq (.rg [⟨[], .idx [.sc], [.v 0, .v 1], 1⟩, ⟨[], .bin .neq, [.v 3, .v 10], 1⟩, ⟨[(.v 11, true)], .call F_IsChecked 0 1, [.v 9], 1⟩, ⟨[], .pick, [.v 11, .v 12, .k (.bool false)], 1⟩]) (.ite (.v 13) (.seq (.rg []) (.tup [.v 0, .v 1, .v 3, .v 3, .v 4])) (.seq (.skip) (.tup [.v 0, .v 1, .v 2, .v 3, .v 4])))))) (.tup [.v 0, .v 1, .v 2, .v 3, .v 4]))) (.rg [⟨[], .bin .sub, [.v 3, .k (.int .i64 1)], 1⟩]))) (.tup [.v 0, .v 1, .v 2, .v 5, .v 4])
theorem spec_WrongDigits_b1_sh (Q : QT) (x0 x1 x2 x3 x4 : V) : shL spec_WrongDigits_b1 Q [x0, x1, x2, x3, x4] = (
  P1 (.bin .geq) [x3, .int .i64 0] fun v0 =>
  ifB v0 (
    P1 (.lst [.sc] false 0) [] fun v1 =>
    P1 (.app [.sc] 8) [v1, x0] fun v2 =>
    P1 (.idx [.sc]) [v2, x1] fun _ =>
    P1 (.set [.sc] 0) [v2, x1, x3] fun v4 =>
    P1 (.idx [.sc]) [x0, x1] fun v5 =>
    P1 (.bin .neq) [x3, v5] fun v6 =>
    ifB v6 (
      P1 (.call F_IsChecked 0 1) [v4] fun v7 =>
      ifB v7 (
        P1 (.bin .sub) [x3, .int .i64 1] fun v8 =>
        Q .normal [x0, x1, x3, v8, x4]) (
        P1 (.bin .sub) [x3, .int .i64 1] fun v9 =>
        Q .normal [x0, x1, x2, v9, x4])) (
      P1 (.bin .sub) [x3, .int .i64 1] fun v10 =>
      Q .normal [x0, x1, x2, v10, x4])) (
    Q (.exit 2) [x0, x1, x2, x4])) := by kernel_rfl

def spec_WrongDigits_r2 : L := .rg [⟨[], .lst [.sc] false 1, [.v 2], 1⟩, ⟨[], .app [.sc] 8, [.v 3, .v 4], 1⟩]
theorem spec_WrongDigits_r2_sh (Q : QT) (x0 x1 x2 x3 : V) : shL spec_WrongDigits_r2 Q [x0, x1, x2, x3] = (
  P1 (.lst [.sc] false 1) [x2] fun v0 =>
  P1 (.app [.sc] 8) [x3, v0] fun v1 =>
  Q .normal [x0, x1, x2, x3, v0, v1]) := by kernel_rfl

def spec_WrongDigits_r3 : L := .tup [.v 0, .v 1, .v 5]
theorem spec_WrongDigits_r3_sh (Q : QT) (x0 x1 x2 x3 x4 x5 : V) : shL spec_WrongDigits_r3 Q [x0, x1, x2, x3, x4, x5] = (
  Q .normal [x0, x1, x5]) := by kernel_rfl

def spec_WrongDigits_r4 : L := .rg [⟨[], .bin .add, [.v 1, .k (.int .i64 1)], 1⟩]
theorem spec_WrongDigits_r4_sh (Q : QT) (x0 x1 x2 : V) : shL spec_WrongDigits_r4 Q [x0, x1, x2] = (
  P1 (.bin .add) [x1, .int .i64 1] fun v0 =>
  Q .normal [x0, x1, x2, v0]) := by kernel_rfl

def spec_WrongDigits_r5 : L := .tup [.v 0, .v 3, .v 2]
theorem spec_WrongDigits_r5_sh (Q : QT) (x0 x1 x2 x3 : V) : shL spec_WrongDigits_r5 Q [x0, x1, x2, x3] = (
  Q .normal [x0, x3, x2]) := by kernel_rfl

def spec_WrongDigits_b0 : L := .seq (.seq (.seq (.rg [⟨[], .len, [.v 0], 1⟩, ⟨[], .bin .lss, [.v 1, .v 3], 1⟩, ⟨[(.v 4, true)], .call F_l33Ok 0 1, [.v 0, .k (.int .i64 2), .k (.int .i64 21)], 1⟩, ⟨[], .pick, [.v 4, .v 5, .k (.bool false)], 1⟩]) (.ite (.v 6) (.skip) (.seq (.tup [.v 2]) (.exit 0)))) (.seq (.block 1 (.seq (.seq (.rg []) (.seq (.seq (.rg []) (.block 2 (.seq (.tup [.v 0, .v 1, .k (.int .i64 (-1)), .k (.int .i64 9), .v 2]) (.loop (spec_WrongDigits_b1))))) (spec_WrongDigits_r2))) (spec_WrongDigits_r3))) (spec_WrongDigits_r4))) (spec_WrongDigits_r5)
theorem spec_WrongDigits_b0_sh (Q : QT) (x0 x1 x2 : V) : shL spec_WrongDigits_b0 Q [x0, x1, x2] = (
  P1 (.len) [x0] fun v0 =>
  P1 (.bin .lss) [x1, v0] fun v1 =>
  ifB v1 (
    P1 (.call F_l33Ok 0 1) [x0, .int .i64 2, .int .i64 21] fun v2 =>
    ifB v2 (
      shL (.loop spec_WrongDigits_b1) (qB 2 (qS (shL spec_WrongDigits_r2 (qS (shL spec_WrongDigits_r3 (qB 1 (qS (shL spec_WrongDigits_r4 (qS (shL spec_WrongDigits_r5 Q) Q)) (qS (shL spec_WrongDigits_r5 Q) Q)))) (qB 1 (qS (shL spec_WrongDigits_r4 (qS (shL spec_WrongDigits_r5 Q) Q)) (qS (shL spec_WrongDigits_r5 Q) Q))))) (qS (shL spec_WrongDigits_r3 (qB 1 (qS (shL spec_WrongDigits_r4 (qS (shL spec_WrongDigits_r5 Q) Q)) (qS (shL spec_WrongDigits_r5 Q) Q)))) (qB 1 (qS (shL spec_WrongDigits_r4 (qS (shL spec_WrongDigits_r5 Q) Q)) (qS (shL spec_WrongDigits_r5 Q) Q)))))) [x0, x1, .int .i64 (-1), .int .i64 9, x2]) (
      Q (.exit 0) [x2])) (
    Q (.exit 0) [x2])) := by kernel_rfl

def spec_WrongDigits_r6 : L := .seq (.rg []) (.ret [.v 0])
theorem spec_WrongDigits_r6_sh (Q : QT) (x0 : V) : shL spec_WrongDigits_r6 Q [x0] = (
  Q .ret [x0]) := by kernel_rfl

def spec_WrongDigits_L : L := .seq (.rg []) (.seq (.rg [⟨[], .lst [.sc] false 0, [], 1⟩]) (.seq (.seq (.rg []) (.block 0 (.seq (.tup [.v 0, .k (.int .i64 0), .v 1]) (.loop (spec_WrongDigits_b0))))) (spec_WrongDigits_r6)))
theorem spec_WrongDigits_L_sh (Q : QT) (x0 : V) : shL spec_WrongDigits_L Q [x0] = (
  P1 (.lst [.sc] false 0) [] fun v0 =>
  shL (.loop spec_WrongDigits_b0) (qB 0 (qS (shL spec_WrongDigits_r6 Q) Q)) [x0, .int .i64 0, v0]) := by kernel_rfl
def spec_WrongDigits_S : Sig := ⟨[.val false [.sl [.sc]]], [(false, [.sl [.sc]])], F_WrongDigits⟩
def spec_WrongDigits_hs : List NF := [⟨[(3, .sc false [.own 64])], [(64, true, [.sc])], [], 65⟩, ⟨[(0, .sc false [.ro [.sc]]), (3, .sc false [.own 64]), (4, .sc false [.sc])], [(64, true, [.sc])], [], 65⟩, ⟨[(0, .sc false [.ro [.sc]]), (3, .sc false [.own 64]), (4, .sc false [.sc])], [(64, true, [.sc])], [], 65⟩, ⟨[(0, .sc false [.ro [.sc]]), (3, .sc false [.own 64]), (4, .sc false [.sc]), (5, .sc false [.sc])], [(64, true, [.sc])], [], 65⟩, ⟨[(0, .sc false [.ro [.sc]]), (3, .sc false [.own 64]), (4, .sc false [.sc]), (5, .sc false [.sc]), (6, .sc false [.sc])], [(64, true, [.sc])], [], 65⟩, ⟨[(0, .sc false [.ro [.sc]]), (3, .sc false [.own 64]), (4, .sc false [.sc]), (5, .sc false [.sc]), (6, .sc false [.sc])], [(64, true, [.sc])], [], 65⟩, ⟨[(0, .sc false [.ro [.sc]]), (3, .sc false [.own 64]), (4, .sc false [.sc]), (5, .sc false [.sc]), (6, .sc false [.sc])], [(64, true, [.sc])], [], 65⟩]

def impl_areDigits_b0 : L := .seq (.seq (.rg [⟨[], .bin .lss, [.v 2, .v 1], 1⟩]) (.seq (.ite (.v 3) (.skip) (.seq (.tup []) (.exit 0))) (.seq (.block 1 (.seq (.seq (.rg [⟨[], .idx [.sc], [.v 0, .v 2], 1⟩]) (.seq (.rg [⟨[], .call F_within 0 1, [.v 4, .k (.int .i64 0), .k (.int .i64 9)], 1⟩, ⟨[], .un .not, [.v 5], 1⟩]) (.ite (.v 6) (.seq (.rg []) (.ret [.k (.bool false)])) (.skip)))) (.tup [.v 0, .v 1, .v 2]))) (.rg [⟨[], .bin .add, [.v 2, .k (.int .i64 1)], 1⟩])))) (.tup [.v 0, .v 1, .v 3])
theorem impl_areDigits_b0_sh (Q : QT) (x0 x1 x2 : V) : shL impl_areDigits_b0 Q [x0, x1, x2] = (
  P1 (.bin .lss) [x2, x1] fun v0 =>
  ifB v0 (
    P1 (.idx [.sc]) [x0, x2] fun v1 =>
    P1 (.call F_within 0 1) [v1, .int .i64 0, .int .i64 9] fun v2 =>
    P1 (.un .not) [v2] fun v3 =>
    ifB v3 (
      Q .ret [.bool false]) (
      P1 (.bin .add) [x2, .int .i64 1] fun v4 =>
      Q .normal [x0, x1, v4])) (
    Q (.exit 0) [])) := by kernel_rfl

def impl_areDigits_r1 : L := .seq (.rg []) (.ret [.k (.bool true)])
theorem impl_areDigits_r1_sh (Q : QT) : shL impl_areDigits_r1 Q [] = (
  Q .ret [.bool true]) := by kernel_rfl

def impl_areDigits_L : L := .seq (.rg []) (.seq (.seq (.rg [⟨[], .len, [.v 0], 1⟩, ⟨[], .call F_within 0 1, [.v 3, .v 1, .v 2], 1⟩, ⟨[], .un .not, [.v 4], 1⟩]) (.ite (.v 5) (.seq (.rg []) (.ret [.k (.bool false)])) (.skip))) (.seq (.seq (.rg [⟨[], .len, [.v 0], 1⟩]) (.block 0 (.seq (.tup [.v 0, .v 6, .k (.int .i64 0)]) (.loop (impl_areDigits_b0))))) (impl_areDigits_r1)))
theorem impl_areDigits_L_sh (Q : QT) (x0 x1 x2 : V) : shL impl_areDigits_L Q [x0, x1, x2] = (
  P1 (.len) [x0] fun v0 =>
  P1 (.call F_within 0 1) [v0, x1, x2] fun v1 =>
  P1 (.un .not) [v1] fun v2 =>
  ifB v2 (
    Q .ret [.bool false]) (
    P1 (.len) [x0] fun v3 =>
    shL (.loop impl_areDigits_b0) (qB 0 (qS (shL impl_areDigits_r1 Q) Q)) [x0, v3, .int .i64 0])) := by kernel_rfl
def impl_areDigits_S : Sig := ⟨[.val false [.sl [.sc]], .val false [.sc], .val false [.sc]], [(false, [.sc])], F_areDigits⟩
def impl_areDigits_hs : List NF := [⟨[], [], [], 64⟩, ⟨[(15, .sc false [.ro [.sc]]), (16, .sc false [.sc]), (17, .sc false [.sc])], [], [], 64⟩, ⟨[(15, .sc false [.ro [.sc]]), (16, .sc false [.sc]), (17, .sc false [.sc])], [], [], 64⟩]

def impl_copyInts_L : L := .seq (.rg []) (.seq (.rg [⟨[], .lst [.sc] false 0, [], 1⟩, ⟨[], .app [.sc] 8, [.v 1, .v 0], 1⟩]) (.ret [.v 2]))
theorem impl_copyInts_L_sh (Q : QT) (x0 : V) : shL impl_copyInts_L Q [x0] = (
  P1 (.lst [.sc] false 0) [] fun v0 =>
  P1 (.app [.sc] 8) [v0, x0] fun v1 =>
  Q .ret [v1]) := by kernel_rfl
def impl_copyInts_S : Sig := ⟨[.val false [.sl [.sc]]], [(false, [.sl [.sc]])], F_copyInts⟩
def impl_copyInts_hs : List NF := []

def impl_CheckDigit_b0 : L := .seq (.seq (.rg [⟨[], .bin .lss, [.v 3, .v 2], 1⟩]) (.seq (.ite (.v 4) (.skip) (.seq (.tup [.v 0]) (.exit 0))) (.seq (.block 1 (.seq (.seq (.rg [⟨[], .idx [.sc], [.v 1, .v 3], 1⟩]) (.seq (.rg [⟨[], .bin .rem, [.v 3, .k (.int .i64 2)], 1⟩, ⟨[], .bin .eql, [.v 6, .k (.int .i64 0)], 1⟩]) (.ite (.v 7) (.seq (.rg [⟨[], .bin .mul, [.k (.int .i64 3), .v 5], 1⟩, ⟨[], .bin .add, [.v 0, .v 8], 1⟩]) (.tup [.v 9, .v 1, .v 2, .v 3])) (.seq (.rg [⟨[], .bin .add, [.v 0, .v 5], 1⟩]) (.tup [.v 8, .v 1, .v 2, .v 3]))))) (.tup [.v 0, .v 1, .v 2, .v 3]))) (.rg [⟨[], .bin .add, [.v 3, .k (.int .i64 1)], 1⟩])))) (.tup [.v 0, .v 1, .v 2, .v 4])
theorem impl_CheckDigit_b0_sh (Q : QT) (x0 x1 x2 x3 : V) : shL impl_CheckDigit_b0 Q [x0, x1, x2, x3] = (
  P1 (.bin .lss) [x3, x2] fun v0 =>
  ifB v0 (
    P1 (.idx [.sc]) [x1, x3] fun v1 =>
    P1 (.bin .rem) [x3, .int .i64 2] fun v2 =>
    P1 (.bin .eql) [v2, .int .i64 0] fun v3 =>
    ifB v3 (
      P1 (.bin .mul) [.int .i64 3, v1] fun v4 =>
      P1 (.bin .add) [x0, v4] fun v5 =>
      P1 (.bin .add) [x3, .int .i64 1] fun v6 =>
      Q .normal [v5, x1, x2, v6]) (
      P1 (.bin .add) [x0, v1] fun v7 =>
      P1 (.bin .add) [x3, .int .i64 1] fun v8 =>
      Q .normal [v7, x1, x2, v8])) (
    Q (.exit 0) [x0])) := by kernel_rfl

def impl_CheckDigit_r1 : L := .seq (.rg [⟨[], .bin .rem, [.v 0, .k (.int .i64 10)], 1⟩, ⟨[], .bin .sub, [.k (.int .i64 10), .v 1], 1⟩, ⟨[], .bin .rem, [.v 2, .k (.int .i64 10)], 1⟩]) (.ret [.v 3])
theorem impl_CheckDigit_r1_sh (Q : QT) (x0 : V) : shL impl_CheckDigit_r1 Q [x0] = (
  P1 (.bin .rem) [x0, .int .i64 10] fun v0 =>
  P1 (.bin .sub) [.int .i64 10, v0] fun v1 =>
  P1 (.bin .rem) [v1, .int .i64 10] fun v2 =>
  Q .ret [v2]) := by kernel_rfl

def impl_CheckDigit_L : L := .seq (.rg []) (.seq (.seq (.rg [⟨[], .call F_areDigits 0 1, [.v 0, .k (.int .i64 1), .k (.int .i64 20)], 1⟩, ⟨[], .un .not, [.v 1], 1⟩]) (.ite (.v 2) (.seq (.rg []) (.ret [.k (.int .i64 (-1))])) (.skip))) (.seq (.rg []) (.seq (.seq (.rg [⟨[], .len, [.v 0], 1⟩]) (.block 0 (.seq (.tup [.k (.int .i64 0), .v 0, .v 3, .k (.int .i64 0)]) (.loop (impl_CheckDigit_b0))))) (impl_CheckDigit_r1))))
theorem impl_CheckDigit_L_sh (Q : QT) (x0 : V) : shL impl_CheckDigit_L Q [x0] = (
  P1 (.call F_areDigits 0 1) [x0, .int .i64 1, .int .i64 20] fun v0 =>
  P1 (.un .not) [v0] fun v1 =>
  ifB v1 (
    Q .ret [.int .i64 (-1)]) (
    P1 (.len) [x0] fun v2 =>
    shL (.loop impl_CheckDigit_b0) (qB 0 (qS (shL impl_CheckDigit_r1 Q) Q)) [.int .i64 0, x0, v2, .int .i64 0])) := by kernel_rfl
def impl_CheckDigit_S : Sig := ⟨[.val false [.sl [.sc]]], [(false, [.sc])], F_CheckDigit⟩
def impl_CheckDigit_hs : List NF := [⟨[(3, .sc false [.sc])], [], [], 64⟩, ⟨[(3, .sc false [.sc]), (9, .sc false [.ro [.sc]]), (10, .sc false [.sc]), (11, .sc false [.sc])], [], [], 64⟩, ⟨[(3, .sc false [.sc]), (9, .sc false [.ro [.sc]]), (10, .sc false [.sc]), (11, .sc false [.sc])], [], [], 64⟩, ⟨[(3, .sc false [.sc]), (9, .sc false [.ro [.sc]]), (10, .sc false [.sc]), (11, .sc false [.sc])], [], [], 64⟩]

def impl_IsChecked_L : L := .seq (.rg []) (.seq (.rg [⟨[], .len, [.v 0], 1⟩]) (.seq (.seq (.rg [⟨[], .bin .lss, [.v 1, .k (.int .i64 2)], 1⟩]) (.ite (.v 2) (.seq (.rg []) (.ret [.k (.bool false)])) (.skip))) (.seq (.rg [⟨[], .bin .sub, [.v 1, .k (.int .i64 1)], 1⟩, ⟨[], .lsub [.sc], [.v 0, .k (.int .i64 0), .v 3], 1⟩, ⟨[], .call F_CheckDigit 0 1, [.v 4], 1⟩]) (.seq (.rg [⟨[], .bin .geq, [.v 5, .k (.int .i64 0)], 1⟩, ⟨[(.v 6, true)], .bin .sub, [.v 1, .k (.int .i64 1)], 1⟩, ⟨[(.v 6, true)], .idx [.sc], [.v 0, .v 7], 1⟩, ⟨[(.v 6, true)], .bin .eql, [.v 8, .v 5], 1⟩, ⟨[], .pick, [.v 6, .v 9, .k (.bool false)], 1⟩]) (.ret [.v 10])))))
theorem impl_IsChecked_L_sh (Q : QT) (x0 : V) : shL impl_IsChecked_L Q [x0] = (
  P1 (.len) [x0] fun v0 =>
  P1 (.bin .lss) [v0, .int .i64 2] fun v1 =>
  ifB v1 (
    Q .ret [.bool false]) (
    P1 (.bin .sub) [v0, .int .i64 1] fun v2 =>
    P1 (.lsub [.sc]) [x0, .int .i64 0, v2] fun v3 =>
    P1 (.call F_CheckDigit 0 1) [v3] fun v4 =>
    P1 (.bin .geq) [v4, .int .i64 0] fun v5 =>
    ifB v5 (
      P1 (.bin .sub) [v0, .int .i64 1] fun v6 =>
      P1 (.idx [.sc]) [x0, v6] fun v7 =>
      P1 (.bin .eql) [v7, v4] fun v8 =>
      Q .ret [v8]) (
      Q .ret [.bool false]))) := by kernel_rfl
def impl_IsChecked_S : Sig := ⟨[.val false [.sl [.sc]]], [(false, [.sc])], F_IsChecked⟩
def impl_IsChecked_hs : List NF := []

def impl_WrongDigits_b1 : L := .seq (.seq (.seq (.rg [⟨[], .bin .geq, [.v 4, .k (.int .i64 0)], 1⟩]) (.ite (.v 10) (.skip) (.seq (.tup [.v 0, .v 3, .v 5, .v 6, .v 7, .v 8]) (.exit 2)))) (.seq (.block 3 (.seq (.seq (.rg [⟨[], .idx [.sc], [.v 9, .v 1], 1⟩, ⟨[], .set [.sc] 0, [.v 9, .v 1, .v 4], 1⟩]) (.seq (.rg [⟨[], .bin .neq, [.v 4, .v 2], 1⟩, ⟨[(.v 13, true)], .call F_IsChecked 0 1, [.v 12], 1⟩, ⟨[], .pick, [.v 13, .v 14, .k (.bool false)], 1⟩]) (.ite (.v 15) (.seq (.rg []) (.tup [.v 0, .v 1, .v 2, .v 4, .v 4, .v 5, .v 6, .v 7, .v 8, .v 12])) (.seq (.skip) (.tup [.v 0, .v 1, .v 2, .v 3, .v 4, .v 5, .v 6, .v 7, .v 8, .v 12]))))) (.tup [.v 0, .v 1, .v 2, .v 3, .v 4, .v 5, .v 6, .v 7, .v 8, .v 9]))) (.rg [⟨[], .bin .sub, [.v 4, .k (.int .i64 1)], 1⟩]))) (.tup [.v 0, .v 1, .v 2, .v 3, .v 10, .v 5, .v 6, .v 7, .v 8, .v 9])
theorem impl_WrongDigits_b1_sh (Q : QT) (x0 x1 x2 x3 x4 x5 x6 x7 x8 x9 : V) : shL impl_WrongDigits_b1 Q [x0, x1, x2, x3, x4, x5, x6, x7, x8, x9] = (
  P1 (.bin .geq) [x4, .int .i64 0] fun v0 =>
  ifB v0 (
    P1 (.idx [.sc]) [x9, x1] fun _ =>
    P1 (.set [.sc] 0) [x9, x1, x4] fun v2 =>
    P1 (.bin .neq) [x4, x2] fun v3 =>
    ifB v3 (
      P1 (.call F_IsChecked 0 1) [v2] fun v4 =>
      ifB v4 (
        P1 (.bin .sub) [x4, .int .i64 1] fun v5 =>
        Q .normal [x0, x1, x2, x4, v5, x5, x6, x7, x8, v2]) (
        P1 (.bin .sub) [x4, .int .i64 1] fun v6 =>
        Q .normal [x0, x1, x2, x3, v6, x5, x6, x7, x8, v2])) (
      P1 (.bin .sub) [x4, .int .i64 1] fun v7 =>
      Q .normal [x0, x1, x2, x3, v7, x5, x6, x7, x8, v2])) (
    Q (.exit 2) [x0, x3, x5, x6, x7, x8])) := by kernel_rfl

def impl_WrongDigits_r2 : L := .rg [⟨[], .lst [.sc] false 1, [.v 1], 1⟩, ⟨[], .app [.sc] 8, [.v 5, .v 6], 1⟩]
theorem impl_WrongDigits_r2_sh (Q : QT) (x0 x1 x2 x3 x4 x5 : V) : shL impl_WrongDigits_r2 Q [x0, x1, x2, x3, x4, x5] = (
  P1 (.lst [.sc] false 1) [x1] fun v0 =>
  P1 (.app [.sc] 8) [x5, v0] fun v1 =>
  Q .normal [x0, x1, x2, x3, x4, x5, v0, v1]) := by kernel_rfl

def impl_WrongDigits_r3 : L := .tup [.v 0, .v 2, .v 3, .v 4, .v 7]
theorem impl_WrongDigits_r3_sh (Q : QT) (x0 x1 x2 x3 x4 x5 x6 x7 : V) : shL impl_WrongDigits_r3 Q [x0, x1, x2, x3, x4, x5, x6, x7] = (
  Q .normal [x0, x2, x3, x4, x7]) := by kernel_rfl

def impl_WrongDigits_r4 : L := .rg [⟨[], .bin .add, [.v 3, .k (.int .i64 1)], 1⟩]
theorem impl_WrongDigits_r4_sh (Q : QT) (x0 x1 x2 x3 x4 : V) : shL impl_WrongDigits_r4 Q [x0, x1, x2, x3, x4] = (
  P1 (.bin .add) [x3, .int .i64 1] fun v0 =>
  Q .normal [x0, x1, x2, x3, x4, v0]) := by kernel_rfl

def impl_WrongDigits_r5 : L := .tup [.v 0, .v 1, .v 2, .v 5, .v 4]
theorem impl_WrongDigits_r5_sh (Q : QT) (x0 x1 x2 x3 x4 x5 : V) : shL impl_WrongDigits_r5 Q [x0, x1, x2, x3, x4, x5] = (
  Q .normal [x0, x1, x2, x5, x4]) := by kernel_rfl

def impl_WrongDigits_b0 : L := .seq (.seq (.rg [⟨[], .bin .lss, [.v 3, .v 2], 1⟩]) (.seq (.ite (.v 5) (.skip) (.seq (.tup [.v 4]) (.exit 0))) (.seq (.block 1 (.seq (.seq (.rg [⟨[], .idx [.sc], [.v 1, .v 3], 1⟩]) (.seq (.rg [⟨[], .call F_copyInts 0 1, [.v 0], 1⟩]) (.seq (.rg []) (.seq (.seq (.rg []) (.block 2 (.seq (.tup [.v 0, .v 3, .v 6, .k (.int .i64 (-1)), .k (.int .i64 9), .v 1, .v 2, .v 3, .v 4, .v 7]) (.loop (impl_WrongDigits_b1))))) (impl_WrongDigits_r2))))) (impl_WrongDigits_r3))) (impl_WrongDigits_r4)))) (impl_WrongDigits_r5)
theorem impl_WrongDigits_b0_sh (Q : QT) (x0 x1 x2 x3 x4 : V) : shL impl_WrongDigits_b0 Q [x0, x1, x2, x3, x4] = (
  P1 (.bin .lss) [x3, x2] fun v0 =>
  ifB v0 (
    P1 (.idx [.sc]) [x1, x3] fun v1 =>
    P1 (.call F_copyInts 0 1) [x0] fun v2 =>
    shL (.loop impl_WrongDigits_b1) (qB 2 (qS (shL impl_WrongDigits_r2 (qS (shL impl_WrongDigits_r3 (qB 1 (qS (shL impl_WrongDigits_r4 (qS (shL impl_WrongDigits_r5 Q) Q)) (qS (shL impl_WrongDigits_r5 Q) Q)))) (qB 1 (qS (shL impl_WrongDigits_r4 (qS (shL impl_WrongDigits_r5 Q) Q)) (qS (shL impl_WrongDigits_r5 Q) Q))))) (qS (shL impl_WrongDigits_r3 (qB 1 (qS (shL impl_WrongDigits_r4 (qS (shL impl_WrongDigits_r5 Q) Q)) (qS (shL impl_WrongDigits_r5 Q) Q)))) (qB 1 (qS (shL impl_WrongDigits_r4 (qS (shL impl_WrongDigits_r5 Q) Q)) (qS (shL impl_WrongDigits_r5 Q) Q)))))) [x0, x3, v1, .int .i64 (-1), .int .i64 9, x1, x2, x3, x4, v2]) (
    Q (.exit 0) [x4])) := by kernel_rfl

def impl_WrongDigits_r6 : L := .seq (.rg []) (.ret [.v 0])
theorem impl_WrongDigits_r6_sh (Q : QT) (x0 : V) : shL impl_WrongDigits_r6 Q [x0] = (
  Q .ret [x0]) := by kernel_rfl

def impl_WrongDigits_L : L := .seq (.rg []) (.seq (.seq (.rg [⟨[], .call F_areDigits 0 1, [.v 0, .k (.int .i64 2), .k (.int .i64 21)], 1⟩, ⟨[], .un .not, [.v 1], 1⟩]) (.ite (.v 2) (.seq (.rg []) (.ret [.k (.list [.sc] [])])) (.skip))) (.seq (.rg [⟨[], .lst [.sc] false 0, [], 1⟩]) (.seq (.seq (.rg [⟨[], .len, [.v 0], 1⟩]) (.block 0 (.seq (.tup [.v 0, .v 0, .v 4, .k (.int .i64 0), .v 3]) (.loop (impl_WrongDigits_b0))))) (impl_WrongDigits_r6))))
theorem impl_WrongDigits_L_sh (Q : QT) (x0 : V) : shL impl_WrongDigits_L Q [x0] = (
  P1 (.call F_areDigits 0 1) [x0, .int .i64 2, .int .i64 21] fun v0 =>
  P1 (.un .not) [v0] fun v1 =>
  ifB v1 (
    Q .ret [.list [.sc] []]) (
    P1 (.lst [.sc] false 0) [] fun v2 =>
    P1 (.len) [x0] fun v3 =>
    shL (.loop impl_WrongDigits_b0) (qB 0 (qS (shL impl_WrongDigits_r6 Q) Q)) [x0, x0, v3, .int .i64 0, v2])) := by kernel_rfl
def impl_WrongDigits_S : Sig := ⟨[.val false [.sl [.sc]]], [(false, [.sl [.sc]])], F_WrongDigits⟩
def impl_WrongDigits_hs : List NF := [⟨[(3, .sc false [.own 64])], [(64, true, [.sc])], [], 65⟩, ⟨[(0, .sc false [.ro [.sc]]), (3, .sc false [.own 64]), (13, .sc false [.ro [.sc]]), (14, .sc false [.sc]), (15, .sc false [.sc])], [(64, true, [.sc])], [], 65⟩, ⟨[(0, .sc false [.ro [.sc]]), (3, .sc false [.own 64]), (13, .sc false [.ro [.sc]]), (14, .sc false [.sc]), (15, .sc false [.sc])], [(64, true, [.sc])], [], 65⟩, ⟨[(0, .sc false [.ro [.sc]]), (3, .sc false [.own 64]), (7, .sc false [.sc]), (13, .sc false [.ro [.sc]]), (14, .sc false [.sc]), (15, .sc false [.sc])], [(64, true, [.sc])], [], 65⟩, ⟨[(0, .sc false [.ro [.sc]]), (3, .sc false [.own 64]), (4, .sc false [.sc]), (5, .sc false [.sc]), (6, .sc false [.own 65]), (7, .sc false [.sc]), (8, .sc false [.sc]), (13, .sc false [.ro [.sc]]), (14, .sc false [.sc]), (15, .sc false [.sc])], [(64, true, [.sc]), (65, true, [])], [], 66⟩, ⟨[(0, .sc false [.ro [.sc]]), (3, .sc false [.own 64]), (4, .sc false [.sc]), (5, .sc false [.sc]), (6, .sc false [.own 65]), (7, .sc false [.sc]), (8, .sc false [.sc]), (13, .sc false [.ro [.sc]]), (14, .sc false [.sc]), (15, .sc false [.sc])], [(64, true, [.sc]), (65, true, [])], [], 66⟩, ⟨[(0, .sc false [.ro [.sc]]), (3, .sc false [.own 64]), (4, .sc false [.sc]), (5, .sc false [.sc]), (6, .sc false [.own 65]), (7, .sc false [.sc]), (8, .sc false [.sc]), (13, .sc false [.ro [.sc]]), (14, .sc false [.sc]), (15, .sc false [.sc])], [(64, true, [.sc]), (65, true, [])], [], 66⟩]

def laws_markIntS_b0 : L := .seq (.seq (.seq (.rg [⟨[], .len, [.v 2], 1⟩, ⟨[], .bin .lss, [.v 1, .v 3], 1⟩]) (.ite (.v 4) (.skip) (.seq (.tup [.v 0, .v 2]) (.exit 0)))) (.seq (.block 1 (.seq (.seq (.rg [⟨[], .idx [.sc], [.v 2, .v 1], 1⟩, ⟨[], .set [.sc] 0, [.v 2, .v 1, .v 0], 1⟩]) (.rg [⟨[], .bin .add, [.v 0, .k (.int .i64 1)], 1⟩])) (.tup [.v 7, .v 1, .v 6]))) (.rg [⟨[], .bin .add, [.v 1, .k (.int .i64 1)], 1⟩]))) (.tup [.v 0, .v 3, .v 2])
theorem laws_markIntS_b0_sh (Q : QT) (x0 x1 x2 : V) : shL laws_markIntS_b0 Q [x0, x1, x2] = (
  P1 (.len) [x2] fun v0 =>
  P1 (.bin .lss) [x1, v0] fun v1 =>
  ifB v1 (
    P1 (.idx [.sc]) [x2, x1] fun _ =>
    P1 (.set [.sc] 0) [x2, x1, x0] fun v3 =>
    P1 (.bin .add) [x0, .int .i64 1] fun v4 =>
    P1 (.bin .add) [x1, .int .i64 1] fun v5 =>
    Q .normal [v4, v5, v3]) (
    Q (.exit 0) [x0, x2])) := by kernel_rfl

def laws_markIntS_r1 : L := .seq (.rg []) (.ret [.v 0, .v 1])
theorem laws_markIntS_r1_sh (Q : QT) (x0 x1 : V) : shL laws_markIntS_r1 Q [x0, x1] = (
  Q .ret [x0, x1]) := by kernel_rfl

def laws_markIntS_L : L := .seq (.rg []) (.seq (.seq (.rg []) (.block 0 (.seq (.tup [.v 1, .k (.int .i64 0), .v 0]) (.loop (laws_markIntS_b0))))) (laws_markIntS_r1))
theorem laws_markIntS_L_sh (Q : QT) (x0 x1 : V) : shL laws_markIntS_L Q [x0, x1] = (
  shL (.loop laws_markIntS_b0) (qB 0 (qS (shL laws_markIntS_r1 Q) Q)) [x1, .int .i64 0, x0]) := by kernel_rfl
def laws_markIntS_S : Sig := ⟨[.io false [.sl [.sc]], .val false [.sc]], [(false, [.sc])], F_markIntS⟩
def laws_markIntS_hs : List NF := [⟨[(1, .sc false [.sc])], [(0, false, [.sc])], [], 64⟩, ⟨[(0, .sc false [.own 0]), (1, .sc false [.sc]), (5, .sc false [.sc])], [(0, false, [.sc])], [], 64⟩, ⟨[(0, .sc false [.own 0]), (1, .sc false [.sc]), (5, .sc false [.sc])], [(0, false, [.sc])], [], 64⟩]

def laws_heldIntS_b0 : L := .seq (.seq (.seq (.rg [⟨[], .len, [.v 0], 1⟩, ⟨[], .bin .lss, [.v 2, .v 3], 1⟩]) (.ite (.v 4) (.skip) (.seq (.tup [.v 1]) (.exit 0)))) (.seq (.block 1 (.seq (.seq (.seq (.rg [⟨[], .idx [.sc], [.v 0, .v 2], 1⟩, ⟨[], .bin .neq, [.v 5, .v 1], 1⟩]) (.ite (.v 6) (.seq (.rg []) (.ret [.k (.int .i64 (-1))])) (.skip))) (.rg [⟨[], .bin .add, [.v 1, .k (.int .i64 1)], 1⟩])) (.tup [.v 0, .v 7, .v 2]))) (.rg [⟨[], .bin .add, [.v 2, .k (.int .i64 1)], 1⟩]))) (.tup [.v 0, .v 1, .v 3])
theorem laws_heldIntS_b0_sh (Q : QT) (x0 x1 x2 : V) : shL laws_heldIntS_b0 Q [x0, x1, x2] = (
  P1 (.len) [x0] fun v0 =>
  P1 (.bin .lss) [x2, v0] fun v1 =>
  ifB v1 (
    P1 (.idx [.sc]) [x0, x2] fun v2 =>
    P1 (.bin .neq) [v2, x1] fun v3 =>
    ifB v3 (
      Q .ret [.int .i64 (-1)]) (
      P1 (.bin .add) [x1, .int .i64 1] fun v4 =>
      P1 (.bin .add) [x2, .int .i64 1] fun v5 =>
      Q .normal [x0, v4, v5])) (
    Q (.exit 0) [x1])) := by kernel_rfl

def laws_heldIntS_r1 : L := .seq (.rg []) (.ret [.v 0])
theorem laws_heldIntS_r1_sh (Q : QT) (x0 : V) : shL laws_heldIntS_r1 Q [x0] = (
  Q .ret [x0]) := by kernel_rfl

def laws_heldIntS_L : L := .seq (.rg []) (.seq (.seq (.rg []) (.block 0 (.seq (.tup [.v 0, .v 1, .k (.int .i64 0)]) (.loop (laws_heldIntS_b0))))) (laws_heldIntS_r1))
theorem laws_heldIntS_L_sh (Q : QT) (x0 x1 : V) : shL laws_heldIntS_L Q [x0, x1] = (
  shL (.loop laws_heldIntS_b0) (qB 0 (qS (shL laws_heldIntS_r1 Q) Q)) [x0, x1, .int .i64 0]) := by kernel_rfl
def laws_heldIntS_S : Sig := ⟨[.val false [.sl [.sc]], .val false [.sc]], [(false, [.sc])], F_heldIntS⟩
def laws_heldIntS_hs : List NF := [⟨[(1, .sc false [.sc])], [], [], 64⟩, ⟨[(0, .sc false [.ro [.sc]]), (1, .sc false [.sc]), (5, .sc false [.sc])], [], [], 64⟩, ⟨[(0, .sc false [.ro [.sc]]), (1, .sc false [.sc]), (5, .sc false [.sc])], [], [], 64⟩]

def laws_FnExactWrongDigits_r0 : L := .seq (.rg []) (.seq (.rg [⟨[], .call F_markIntS 1 1, [.v 6, .k (.int .i64 1), .v 6], 2⟩]) (.seq (.rg []) (.seq (.rg [⟨[], .call F_heldIntS 0 1, [.v 19, .k (.int .i64 1)], 1⟩]) (.seq (.seq (.rg [⟨[], .bin .lss, [.v 20, .k (.int .i64 0)], 1⟩]) (.ite (.v 21) (.seq (.rg []) (.ret [.k (.bool false)])) (.skip))) (.seq (.seq (.rg [⟨[], .bin .neq, [.v 20, .v 18], 1⟩]) (.ite (.v 22) (.seq (.rg []) (.ret [.k (.bool false)])) (.skip))) (.seq (.rg [⟨[], .call F_toIntS 0 1, [.v 0], 1⟩, ⟨[], .call F_WrongDigits 0 1, [.v 23], 1⟩]) (.seq (.seq (.rg [⟨[], .call F_eqIntS 0 1, [.v 24, .v 4], 1⟩, ⟨[], .un .not, [.v 25], 1⟩]) (.ite (.v 26) (.seq (.rg []) (.ret [.k (.bool false)])) (.skip))) (.seq (.rg []) (.seq (.rg [⟨[], .call F_heldIntS 0 1, [.v 19, .k (.int .i64 1)], 1⟩]) (.seq (.seq (.rg [⟨[], .bin .lss, [.v 27, .k (.int .i64 0)], 1⟩]) (.ite (.v 28) (.seq (.rg []) (.ret [.k (.bool false)])) (.skip))) (.seq (.seq (.rg [⟨[], .bin .neq, [.v 27, .v 18], 1⟩]) (.ite (.v 29) (.seq (.rg []) (.ret [.k (.bool false)])) (.skip))) (.seq (.rg []) (.ret [.k (.bool true)])))))))))))))
theorem laws_FnExactWrongDigits_r0_sh (Q : QT) (x0 x1 x2 x3 x4 x5 x6 x7 x8 x9 x10 x11 x12 x13 x14 x15 x16 x17 : V) : shL laws_FnExactWrongDigits_r0 Q [x0, x1, x2, x3, x4, x5, x6, x7, x8, x9, x10, x11, x12, x13, x14, x15, x16, x17] = (
  P2 (.call F_markIntS 1 1) [x6, .int .i64 1, x6] fun v0 v1 =>
  P1 (.call F_heldIntS 0 1) [v1, .int .i64 1] fun v2 =>
  P1 (.bin .lss) [v2, .int .i64 0] fun v3 =>
  ifB v3 (
    Q .ret [.bool false]) (
    P1 (.bin .neq) [v2, v0] fun v4 =>
    ifB v4 (
      Q .ret [.bool false]) (
      P1 (.call F_toIntS 0 1) [x0] fun v5 =>
      P1 (.call F_WrongDigits 0 1) [v5] fun v6 =>
      P1 (.call F_eqIntS 0 1) [v6, x4] fun v7 =>
      P1 (.un .not) [v7] fun v8 =>
      ifB v8 (
        Q .ret [.bool false]) (
        P1 (.call F_heldIntS 0 1) [v1, .int .i64 1] fun v9 =>
        P1 (.bin .lss) [v9, .int .i64 0] fun v10 =>
        ifB v10 (
          Q .ret [.bool false]) (
          P1 (.bin .neq) [v9, v0] fun v11 =>
          ifB v11 (
            Q .ret [.bool false]) (
            Q .ret [.bool true])))))) := by kernel_rfl

def laws_FnExactWrongDigits_L : L := .seq (.rg []) (.seq (.seq (.rg [⟨[], .len, [.v 0], 1⟩, ⟨[], .bin .gtr, [.v 1, .k (.int .i64 1048576)], 1⟩]) (.ite (.v 2) (.seq (.rg []) (.ret [.k (.bool true)])) (.skip))) (.seq (.rg [⟨[], .call F_toIntS 0 1, [.v 0], 1⟩, ⟨[], .call F_WrongDigits 0 1, [.v 3], 1⟩]) (.seq (.rg [⟨[], .call F_toIntS 0 1, [.v 0], 1⟩]) (.seq (.rg [⟨[], .call F_WrongDigits 0 1, [.v 5], 1⟩]) (.seq (.seq (.rg [⟨[], .call F_eqIntS 0 1, [.v 6, .v 4], 1⟩, ⟨[], .un .not, [.v 7], 1⟩]) (.ite (.v 8) (.seq (.rg []) (.ret [.k (.bool false)])) (.skip))) (.seq (.seq (.rg [⟨[], .call F_toIntS 0 1, [.v 0], 1⟩, ⟨[], .call F_eqIntS 0 1, [.v 5, .v 9], 1⟩, ⟨[], .un .not, [.v 10], 1⟩]) (.ite (.v 11) (.seq (.rg []) (.ret [.k (.bool false)])) (.skip))) (.seq (.rg []) (.seq (.rg [⟨[], .call F_markIntS 1 1, [.v 5, .k (.int .i64 1), .v 5], 2⟩]) (.seq (.seq (.rg [⟨[], .bin .lss, [.v 12, .k (.int .i64 0)], 1⟩, ⟨[(.v 14, false)], .call F_eqIntS 0 1, [.v 6, .v 4], 1⟩, ⟨[(.v 14, false)], .un .not, [.v 15], 1⟩, ⟨[], .pick, [.v 14, .k (.bool true), .v 16], 1⟩]) (.ite (.v 17) (.seq (.rg []) (.ret [.k (.bool false)])) (.skip))) (laws_FnExactWrongDigits_r0))))))))))
theorem laws_FnExactWrongDigits_L_sh (Q : QT) (x0 : V) : shL laws_FnExactWrongDigits_L Q [x0] = (
  P1 (.len) [x0] fun v0 =>
  P1 (.bin .gtr) [v0, .int .i64 1048576] fun v1 =>
  ifB v1 (
    Q .ret [.bool true]) (
    P1 (.call F_toIntS 0 1) [x0] fun v2 =>
    P1 (.call F_WrongDigits 0 1) [v2] fun v3 =>
    P1 (.call F_toIntS 0 1) [x0] fun v4 =>
    P1 (.call F_WrongDigits 0 1) [v4] fun v5 =>
    P1 (.call F_eqIntS 0 1) [v5, v3] fun v6 =>
    P1 (.un .not) [v6] fun v7 =>
    ifB v7 (
      Q .ret [.bool false]) (
      P1 (.call F_toIntS 0 1) [x0] fun v8 =>
      P1 (.call F_eqIntS 0 1) [v4, v8] fun v9 =>
      P1 (.un .not) [v9] fun v10 =>
      ifB v10 (
        Q .ret [.bool false]) (
        P2 (.call F_markIntS 1 1) [v4, .int .i64 1, v4] fun v11 v12 =>
        P1 (.bin .lss) [v11, .int .i64 0] fun v13 =>
        ifB v13 (
          Q .ret [.bool false]) (
          P1 (.call F_eqIntS 0 1) [v5, v3] fun v14 =>
          P1 (.un .not) [v14] fun v15 =>
          ifB v15 (
            Q .ret [.bool false]) (
            shL laws_FnExactWrongDigits_r0 Q [x0, v0, .bool false, v2, v3, v4, v5, v6, .bool false, v8, v9, .bool false, v11, v12, .bool false, v14, v15, .bool false])))))) := by kernel_rfl
def laws_FnExactWrongDigits_S : Sig := ⟨[.val false [.sl [.sc]]], [(false, [.sc])], F_FnExactWrongDigits⟩
def laws_FnExactWrongDigits_hs : List NF := []

def spec_SmallestBox_b0 : L := .seq (.seq (.seq (.rg [⟨[], .len, [.v 0], 1⟩, ⟨[], .bin .lss, [.v 2, .v 6], 1⟩]) (.ite (.v 7) (.skip) (.seq (.tup [.v 1]) (.exit 0)))) (.seq (.block 1 (.seq (.seq (.seq (.rg [⟨[], .idx [.sc, .sc, .sc], [.v 0, .v 2], 3⟩, ⟨[], .call F_BoxOk 0 1, [.v 8, .v 9, .v 10], 1⟩, ⟨[], .un .not, [.v 11], 1⟩]) (.ite (.v 12) (.seq (.rg []) (.ret [.k (.int .i64 (-1))])) (.skip))) (.seq (.rg [⟨[], .idx [.sc, .sc, .sc], [.v 0, .v 2], 3⟩, ⟨[], .call F_LeftOver 0 1, [.v 3, .v 4, .v 5, .v 13, .v 14, .v 15], 1⟩]) (.seq (.rg [⟨[], .bin .geq, [.v 16, .k (.int .i64 0)], 1⟩, ⟨[(.v 17, true)], .bin .lss, [.v 1, .k (.int .i64 0)], 1⟩, ⟨[(.v 17, true), (.v 18, false)], .idx [.sc, .sc, .sc], [.v 0, .v 1], 3⟩, ⟨[(.v 17, true), (.v 18, false)], .call F_LeftOver 0 1, [.v 3, .v 4, .v 5, .v 19, .v 20, .v 21], 1⟩, ⟨[(.v 17, true), (.v 18, false)], .bin .lss, [.v 16, .v 22], 1⟩, ⟨[(.v 17, true)], .pick, [.v 18, .k (.bool true), .v 23], 1⟩, ⟨[], .pick, [.v 17, .v 24, .k (.bool false)], 1⟩]) (.ite (.v 25) (.seq (.rg []) (.tup [.v 0, .v 2, .v 2, .v 3, .v 4, .v 5])) (.seq (.skip) (.tup [.v 0, .v 1, .v 2, .v 3, .v 4, .v 5])))))) (.tup [.v 0, .v 1, .v 2, .v 3, .v 4, .v 5]))) (.rg [⟨[], .bin .add, [.v 2, .k (.int .i64 1)], 1⟩]))) (.tup [.v 0, .v 1, .v 6, .v 3, .v 4, .v 5])
theorem spec_SmallestBox_b0_sh (Q : QT) (x0 x1 x2 x3 x4 x5 : V) : shL spec_SmallestBox_b0 Q [x0, x1, x2, x3, x4, x5] = (
  P1 (.len) [x0] fun v0 =>
  P1 (.bin .lss) [x2, v0] fun v1 =>
  ifB v1 (
    P3 (.idx [.sc, .sc, .sc]) [x0, x2] fun v2 v3 v4 =>
    P1 (.call F_BoxOk 0 1) [v2, v3, v4] fun v5 =>
    P1 (.un .not) [v5] fun v6 =>
    ifB v6 (
      Q .ret [.int .i64 (-1)]) (
      P3 (.idx [.sc, .sc, .sc]) [x0, x2] fun v7 v8 v9 =>
      P1 (.call F_LeftOver 0 1) [x3, x4, x5, v7, v8, v9] fun v10 =>
      P1 (.bin .geq) [v10, .int .i64 0] fun v11 =>
      ifB v11 (
        P1 (.bin .lss) [x1, .int .i64 0] fun v12 =>
        ifB v12 (
          P1 (.bin .add) [x2, .int .i64 1] fun v13 =>
          Q .normal [x0, x2, v13, x3, x4, x5]) (
          P3 (.idx [.sc, .sc, .sc]) [x0, x1] fun v14 v15 v16 =>
          P1 (.call F_LeftOver 0 1) [x3, x4, x5, v14, v15, v16] fun v17 =>
          P1 (.bin .lss) [v10, v17] fun v18 =>
          ifB v18 (
            P1 (.bin .add) [x2, .int .i64 1] fun v19 =>
            Q .normal [x0, x2, v19, x3, x4, x5]) (
            P1 (.bin .add) [x2, .int .i64 1] fun v20 =>
            Q .normal [x0, x1, v20, x3, x4, x5]))) (
        P1 (.bin .add) [x2, .int .i64 1] fun v21 =>
        Q .normal [x0, x1, v21, x3, x4, x5]))) (
    Q (.exit 0) [x1])) := by kernel_rfl

def spec_SmallestBox_r1 : L := .seq (.rg []) (.ret [.v 0])
theorem spec_SmallestBox_r1_sh (Q : QT) (x0 : V) : shL spec_SmallestBox_r1 Q [x0] = (
  Q .ret [x0]) := by kernel_rfl

def spec_SmallestBox_L : L := .seq (.rg []) (.seq (.seq (.rg [⟨[], .len, [.v 0], 1⟩, ⟨[], .bin .gtr, [.v 4, .k (.int .i64 20)], 1⟩, ⟨[(.v 5, false)], .call F_BoxOk 0 1, [.v 1, .v 2, .v 3], 1⟩, ⟨[(.v 5, false)], .un .not, [.v 6], 1⟩, ⟨[], .pick, [.v 5, .k (.bool true), .v 7], 1⟩]) (.ite (.v 8) (.seq (.rg []) (.ret [.k (.int .i64 (-1))])) (.skip))) (.seq (.rg []) (.seq (.seq (.rg []) (.block 0 (.seq (.tup [.v 0, .k (.int .i64 (-1)), .k (.int .i64 0), .v 1, .v 2, .v 3]) (.loop (spec_SmallestBox_b0))))) (spec_SmallestBox_r1))))
theorem spec_SmallestBox_L_sh (Q : QT) (x0 x1 x2 x3 : V) : shL spec_SmallestBox_L Q [x0, x1, x2, x3] = (
  P1 (.len) [x0] fun v0 =>
  P1 (.bin .gtr) [v0, .int .i64 20] fun v1 =>
  ifB v1 (
    Q .ret [.int .i64 (-1)]) (
    P1 (.call F_BoxOk 0 1) [x1, x2, x3] fun v2 =>
    P1 (.un .not) [v2] fun v3 =>
    ifB v3 (
      Q .ret [.int .i64 (-1)]) (
      shL (.loop spec_SmallestBox_b0) (qB 0 (qS (shL spec_SmallestBox_r1 Q) Q)) [x0, .int .i64 (-1), .int .i64 0, x1, x2, x3]))) := by kernel_rfl
def spec_SmallestBox_S : Sig := ⟨[.val false [.sl [.sc, .sc, .sc]], .val true [.sc, .sc, .sc]], [(false, [.sc])], F_SmallestBox⟩
def spec_SmallestBox_hs : List NF := [⟨[(5, .sc false [.sc])], [], [], 64⟩, ⟨[(0, .sc false [.ro [.sc, .sc, .sc]]), (3, .ptr 64 0), (5, .sc false [.sc]), (6, .sc false [.sc])], [], [(64, [.sc, .sc, .sc])], 65⟩, ⟨[(0, .sc false [.ro [.sc, .sc, .sc]]), (3, .ptr 64 0), (5, .sc false [.sc]), (6, .sc false [.sc])], [], [(64, [.sc, .sc, .sc])], 65⟩, ⟨[(0, .sc false [.ro [.sc, .sc, .sc]]), (3, .ptr 64 0), (5, .sc false [.sc]), (6, .sc false [.sc])], [], [(64, [.sc, .sc, .sc])], 65⟩]

def impl_SmallestBox_b0 : L := .seq (.seq (.rg [⟨[], .bin .lss, [.v 4, .v 3], 1⟩]) (.seq (.ite (.v 8) (.skip) (.seq (.tup [.v 1]) (.exit 0))) (.seq (.block 1 (.seq (.seq (.rg [⟨[], .idx [.sc, .sc, .sc], [.v 2, .v 4], 3⟩]) (.seq (.rg [⟨[], .call F_LeftOver 0 1, [.v 5, .v 6, .v 7, .v 9, .v 10, .v 11], 1⟩]) (.seq (.rg [⟨[], .bin .geq, [.v 12, .k (.int .i64 0)], 1⟩, ⟨[(.v 13, true)], .bin .lss, [.v 1, .k (.int .i64 0)], 1⟩, ⟨[(.v 13, true), (.v 14, false)], .idx [.sc, .sc, .sc], [.v 0, .v 1], 3⟩, ⟨[(.v 13, true), (.v 14, false)], .call F_LeftOver 0 1, [.v 5, .v 6, .v 7, .v 15, .v 16, .v 17], 1⟩, ⟨[(.v 13, true), (.v 14, false)], .bin .lss, [.v 12, .v 18], 1⟩, ⟨[(.v 13, true)], .pick, [.v 14, .k (.bool true), .v 19], 1⟩, ⟨[], .pick, [.v 13, .v 20, .k (.bool false)], 1⟩]) (.ite (.v 21) (.seq (.rg []) (.tup [.v 0, .v 4, .v 2, .v 3, .v 4, .v 5, .v 6, .v 7])) (.seq (.skip) (.tup [.v 0, .v 1, .v 2, .v 3, .v 4, .v 5, .v 6, .v 7])))))) (.tup [.v 0, .v 1, .v 2, .v 3, .v 4, .v 5, .v 6, .v 7]))) (.rg [⟨[], .bin .add, [.v 4, .k (.int .i64 1)], 1⟩])))) (.tup [.v 0, .v 1, .v 2, .v 3, .v 8, .v 5, .v 6, .v 7])
theorem impl_SmallestBox_b0_sh (Q : QT) (x0 x1 x2 x3 x4 x5 x6 x7 : V) : shL impl_SmallestBox_b0 Q [x0, x1, x2, x3, x4, x5, x6, x7] = (
  P1 (.bin .lss) [x4, x3] fun v0 =>
  ifB v0 (
    P3 (.idx [.sc, .sc, .sc]) [x2, x4] fun v1 v2 v3 =>
    P1 (.call F_LeftOver 0 1) [x5, x6, x7, v1, v2, v3] fun v4 =>
    P1 (.bin .geq) [v4, .int .i64 0] fun v5 =>
    ifB v5 (
      P1 (.bin .lss) [x1, .int .i64 0] fun v6 =>
      ifB v6 (
        P1 (.bin .add) [x4, .int .i64 1] fun v7 =>
        Q .normal [x0, x4, x2, x3, v7, x5, x6, x7]) (
        P3 (.idx [.sc, .sc, .sc]) [x0, x1] fun v8 v9 v10 =>
        P1 (.call F_LeftOver 0 1) [x5, x6, x7, v8, v9, v10] fun v11 =>
        P1 (.bin .lss) [v4, v11] fun v12 =>
        ifB v12 (
          P1 (.bin .add) [x4, .int .i64 1] fun v13 =>
          Q .normal [x0, x4, x2, x3, v13, x5, x6, x7]) (
          P1 (.bin .add) [x4, .int .i64 1] fun v14 =>
          Q .normal [x0, x1, x2, x3, v14, x5, x6, x7]))) (
      P1 (.bin .add) [x4, .int .i64 1] fun v15 =>
      Q .normal [x0, x1, x2, x3, v15, x5, x6, x7])) (
    Q (.exit 0) [x1])) := by kernel_rfl

def impl_SmallestBox_r1 : L := .seq (.rg []) (.ret [.v 0])
theorem impl_SmallestBox_r1_sh (Q : QT) (x0 : V) : shL impl_SmallestBox_r1 Q [x0] = (
  Q .ret [x0]) := by kernel_rfl

def impl_SmallestBox_L : L := .seq (.rg []) (.seq (.seq (.rg [⟨[], .call F_areBoxes 0 1, [.v 0, .k (.int .i64 20)], 1⟩, ⟨[], .un .not, [.v 4], 1⟩, ⟨[(.v 5, false)], .call F_BoxOk 0 1, [.v 1, .v 2, .v 3], 1⟩, ⟨[(.v 5, false)], .un .not, [.v 6], 1⟩, ⟨[], .pick, [.v 5, .k (.bool true), .v 7], 1⟩]) (.ite (.v 8) (.seq (.rg []) (.ret [.k (.int .i64 (-1))])) (.skip))) (.seq (.rg []) (.seq (.seq (.rg [⟨[], .len, [.v 0], 1⟩]) (.block 0 (.seq (.tup [.v 0, .k (.int .i64 (-1)), .v 0, .v 9, .k (.int .i64 0), .v 1, .v 2, .v 3]) (.loop (impl_SmallestBox_b0))))) (impl_SmallestBox_r1))))
theorem impl_SmallestBox_L_sh (Q : QT) (x0 x1 x2 x3 : V) : shL impl_SmallestBox_L Q [x0, x1, x2, x3] = (
  P1 (.call F_areBoxes 0 1) [x0, .int .i64 20] fun v0 =>
  P1 (.un .not) [v0] fun v1 =>
  ifB v1 (
    Q .ret [.int .i64 (-1)]) (
    P1 (.call F_BoxOk 0 1) [x1, x2, x3] fun v2 =>
    P1 (.un .not) [v2] fun v3 =>
    ifB v3 (
      Q .ret [.int .i64 (-1)]) (
      P1 (.len) [x0] fun v4 =>
      shL (.loop impl_SmallestBox_b0) (qB 0 (qS (shL impl_SmallestBox_r1 Q) Q)) [x0, .int .i64 (-1), x0, v4, .int .i64 0, x1, x2, x3]))) := by kernel_rfl
def impl_SmallestBox_S : Sig := ⟨[.val false [.sl [.sc, .sc, .sc]], .val true [.sc, .sc, .sc]], [(false, [.sc])], F_SmallestBox⟩
def impl_SmallestBox_hs : List NF := [⟨[(5, .sc false [.sc])], [], [], 64⟩, ⟨[(0, .sc false [.ro [.sc, .sc, .sc]]), (3, .ptr 64 0), (5, .sc false [.sc]), (17, .sc false [.ro [.sc, .sc, .sc]]), (18, .sc false [.sc]), (19, .sc false [.sc])], [], [(64, [.sc, .sc, .sc])], 65⟩, ⟨[(0, .sc false [.ro [.sc, .sc, .sc]]), (3, .ptr 64 0), (5, .sc false [.sc]), (17, .sc false [.ro [.sc, .sc, .sc]]), (18, .sc false [.sc]), (19, .sc false [.sc])], [], [(64, [.sc, .sc, .sc])], 65⟩, ⟨[(0, .sc false [.ro [.sc, .sc, .sc]]), (3, .ptr 64 0), (5, .sc false [.sc]), (17, .sc false [.ro [.sc, .sc, .sc]]), (18, .sc false [.sc]), (19, .sc false [.sc])], [], [(64, [.sc, .sc, .sc])], 65⟩]

def laws_FnExactSmallestBox_L : L := .seq (.rg []) (.seq (.rg []) (.seq (.rg [⟨[], .call F_szBoxS 0 1, [.v 0, .k (.int .i64 1048576)], 1⟩]) (.seq (.seq (.rg [⟨[], .bin .lss, [.v 4, .k (.int .i64 0)], 1⟩]) (.ite (.v 5) (.seq (.rg []) (.ret [.k (.bool true)])) (.skip))) (.seq (.rg [⟨[], .call F_toBoxS 0 1, [.v 0], 1⟩, ⟨[], .call F_toBox 0 3, [.v 1, .v 2, .v 3], 3⟩, ⟨[], .call F_SmallestBox 0 1, [.v 6, .v 7, .v 8, .v 9], 1⟩]) (.seq (.rg [⟨[], .call F_toBoxS 0 1, [.v 0], 1⟩]) (.seq (.rg [⟨[], .call F_toBox 0 3, [.v 1, .v 2, .v 3], 3⟩, ⟨[], .call F_SmallestBox 0 1, [.v 11, .v 12, .v 13, .v 14], 1⟩]) (.seq (.seq (.rg [⟨[], .bin .neq, [.v 15, .v 10], 1⟩]) (.ite (.v 16) (.seq (.rg []) (.ret [.k (.bool false)])) (.skip))) (.seq (.seq (.rg [⟨[], .call F_toBoxS 0 1, [.v 0], 1⟩, ⟨[], .call F_eqBoxS 0 1, [.v 11, .v 17], 1⟩, ⟨[], .un .not, [.v 18], 1⟩]) (.ite (.v 19) (.seq (.rg []) (.ret [.k (.bool false)])) (.skip))) (.seq (.rg []) (.ret [.k (.bool true)]))))))))))
theorem laws_FnExactSmallestBox_L_sh (Q : QT) (x0 x1 x2 x3 : V) : shL laws_FnExactSmallestBox_L Q [x0, x1, x2, x3] = (
  P1 (.call F_szBoxS 0 1) [x0, .int .i64 1048576] fun v0 =>
  P1 (.bin .lss) [v0, .int .i64 0] fun v1 =>
  ifB v1 (
    Q .ret [.bool true]) (
    P1 (.call F_toBoxS 0 1) [x0] fun v2 =>
    P3 (.call F_toBox 0 3) [x1, x2, x3] fun v3 v4 v5 =>
    P1 (.call F_SmallestBox 0 1) [v2, v3, v4, v5] fun v6 =>
    P1 (.call F_toBoxS 0 1) [x0] fun v7 =>
    P3 (.call F_toBox 0 3) [x1, x2, x3] fun v8 v9 v10 =>
    P1 (.call F_SmallestBox 0 1) [v7, v8, v9, v10] fun v11 =>
    P1 (.bin .neq) [v11, v6] fun v12 =>
    ifB v12 (
      Q .ret [.bool false]) (
      P1 (.call F_toBoxS 0 1) [x0] fun v13 =>
      P1 (.call F_eqBoxS 0 1) [v7, v13] fun v14 =>
      P1 (.un .not) [v14] fun v15 =>
      ifB v15 (
        Q .ret [.bool false]) (
        Q .ret [.bool true])))) := by kernel_rfl
def laws_FnExactSmallestBox_S : Sig := ⟨[.val false [.sl [.sc, .sc, .sc]], .val true [.sc, .sc, .sc]], [(false, [.sc])], F_FnExactSmallestBox⟩
def laws_FnExactSmallestBox_hs : List NF := []

def spec_StepsLeft_L : L := .seq (.rg []) (.seq (.seq (.rg [⟨[], .call F_StateOk 0 1, [.v 0, .v 1, .v 2, .v 3, .v 4, .v 5], 1⟩, ⟨[], .un .not, [.v 6], 1⟩]) (.ite (.v 7) (.seq (.rg []) (.ret [.k (.int .i64 (-1))])) (.skip))) (.seq (.seq (.rg [⟨[], .un .not, [.v 4], 1⟩]) (.ite (.v 8) (.seq (.rg []) (.ret [.k (.int .i64 0)])) (.skip))) (.seq (.rg [⟨[], .bin .sub, [.v 0, .v 3], 1⟩]) (.ret [.v 9]))))
theorem spec_StepsLeft_L_sh (Q : QT) (x0 x1 x2 x3 x4 x5 : V) : shL spec_StepsLeft_L Q [x0, x1, x2, x3, x4, x5] = (
  P1 (.call F_StateOk 0 1) [x0, x1, x2, x3, x4, x5] fun v0 =>
  P1 (.un .not) [v0] fun v1 =>
  ifB v1 (
    Q .ret [.int .i64 (-1)]) (
    P1 (.un .not) [x4] fun v2 =>
    ifB v2 (
      Q .ret [.int .i64 0]) (
      P1 (.bin .sub) [x0, x3] fun v3 =>
      Q .ret [v3]))) := by kernel_rfl
def spec_StepsLeft_S : Sig := ⟨[.val true [.sc, .sc, .sl [.sc, .sc]], .val true [.sc, .sc, .sc]], [(false, [.sc])], F_StepsLeft⟩
def spec_StepsLeft_hs : List NF := []

def impl_StepsLeft_L : L := .seq (.rg []) (.seq (.seq (.rg [⟨[], .call F_StateOk 0 1, [.v 0, .v 1, .v 2, .v 3, .v 4, .v 5], 1⟩, ⟨[], .un .not, [.v 6], 1⟩]) (.ite (.v 7) (.seq (.rg []) (.ret [.k (.int .i64 (-1))])) (.skip))) (.seq (.seq (.rg [⟨[], .un .not, [.v 4], 1⟩]) (.ite (.v 8) (.seq (.rg []) (.ret [.k (.int .i64 0)])) (.skip))) (.seq (.rg [⟨[], .bin .sub, [.v 0, .v 3], 1⟩]) (.ret [.v 9]))))
theorem impl_StepsLeft_L_sh (Q : QT) (x0 x1 x2 x3 x4 x5 : V) : shL impl_StepsLeft_L Q [x0, x1, x2, x3, x4, x5] = (
  P1 (.call F_StateOk 0 1) [x0, x1, x2, x3, x4, x5] fun v0 =>
  P1 (.un .not) [v0] fun v1 =>
  ifB v1 (
    Q .ret [.int .i64 (-1)]) (
    P1 (.un .not) [x4] fun v2 =>
    ifB v2 (
      Q .ret [.int .i64 0]) (
      P1 (.bin .sub) [x0, x3] fun v3 =>
      Q .ret [v3]))) := by kernel_rfl
def impl_StepsLeft_S : Sig := ⟨[.val true [.sc, .sc, .sl [.sc, .sc]], .val true [.sc, .sc, .sc]], [(false, [.sc])], F_StepsLeft⟩
def impl_StepsLeft_hs : List NF := []

def laws_FnExactStepsLeft_L : L := .seq (.rg []) (.seq (.rg []) (.seq (.rg [⟨[], .call F_szCylinder 0 1, [.v 0, .v 1, .v 2, .k (.int .i64 1048576)], 1⟩]) (.seq (.seq (.rg [⟨[], .bin .lss, [.v 6, .k (.int .i64 0)], 1⟩]) (.ite (.v 7) (.seq (.rg []) (.ret [.k (.bool true)])) (.skip))) (.seq (.rg [⟨[], .call F_toCylinder 0 3, [.v 0, .v 1, .v 2], 3⟩, ⟨[], .call F_toState 0 3, [.v 3, .v 4, .v 5], 3⟩, ⟨[], .call F_StepsLeft 0 1, [.v 8, .v 9, .v 10, .v 11, .v 12, .v 13], 1⟩]) (.seq (.rg [⟨[], .call F_toCylinder 0 3, [.v 0, .v 1, .v 2], 3⟩]) (.seq (.rg [⟨[], .call F_toState 0 3, [.v 3, .v 4, .v 5], 3⟩, ⟨[], .call F_StepsLeft 0 1, [.v 15, .v 16, .v 17, .v 18, .v 19, .v 20], 1⟩]) (.seq (.seq (.rg [⟨[], .bin .neq, [.v 21, .v 14], 1⟩]) (.ite (.v 22) (.seq (.rg []) (.ret [.k (.bool false)])) (.skip))) (.seq (.seq (.rg [⟨[], .call F_toCylinder 0 3, [.v 0, .v 1, .v 2], 3⟩, ⟨[], .call F_eqCylinder 0 1, [.v 15, .v 16, .v 17, .v 23, .v 24, .v 25], 1⟩, ⟨[], .un .not, [.v 26], 1⟩]) (.ite (.v 27) (.seq (.rg []) (.ret [.k (.bool false)])) (.skip))) (.seq (.rg []) (.ret [.k (.bool true)]))))))))))
theorem laws_FnExactStepsLeft_L_sh (Q : QT) (x0 x1 x2 x3 x4 x5 : V) : shL laws_FnExactStepsLeft_L Q [x0, x1, x2, x3, x4, x5] = (
  P1 (.call F_szCylinder 0 1) [x0, x1, x2, .int .i64 1048576] fun v0 =>
  P1 (.bin .lss) [v0, .int .i64 0] fun v1 =>
  ifB v1 (
    Q .ret [.bool true]) (
    P3 (.call F_toCylinder 0 3) [x0, x1, x2] fun v2 v3 v4 =>
    P3 (.call F_toState 0 3) [x3, x4, x5] fun v5 v6 v7 =>
    P1 (.call F_StepsLeft 0 1) [v2, v3, v4, v5, v6, v7] fun v8 =>
    P3 (.call F_toCylinder 0 3) [x0, x1, x2] fun v9 v10 v11 =>
    P3 (.call F_toState 0 3) [x3, x4, x5] fun v12 v13 v14 =>
    P1 (.call F_StepsLeft 0 1) [v9, v10, v11, v12, v13, v14] fun v15 =>
    P1 (.bin .neq) [v15, v8] fun v16 =>
    ifB v16 (
      Q .ret [.bool false]) (
      P3 (.call F_toCylinder 0 3) [x0, x1, x2] fun v17 v18 v19 =>
      P1 (.call F_eqCylinder 0 1) [v9, v10, v11, v17, v18, v19] fun v20 =>
      P1 (.un .not) [v20] fun v21 =>
      ifB v21 (
        Q .ret [.bool false]) (
        Q .ret [.bool true])))) := by kernel_rfl
def laws_FnExactStepsLeft_S : Sig := ⟨[.val true [.sc, .sc, .sl [.sc, .sc]], .val true [.sc, .sc, .sc]], [(false, [.sc])], F_FnExactStepsLeft⟩
def laws_FnExactStepsLeft_hs : List NF := []

def spec_StartBox_L : L := .seq (.rg []) (.seq (.seq (.rg [⟨[], .call F_StateOk 0 1, [.v 0, .v 1, .v 2, .v 3, .v 4, .v 5], 1⟩, ⟨[], .un .not, [.v 6], 1⟩, ⟨[], .pick, [.v 7, .k (.bool true), .v 4], 1⟩]) (.ite (.v 8) (.seq (.rg []) (.ret [.v 3, .v 4, .v 5, .k (.bool false)])) (.skip))) (.seq (.rg []) (.seq (.rg []) (.ret [.v 3, .k (.bool true), .v 5, .k (.bool true)]))))
theorem spec_StartBox_L_sh (Q : QT) (x0 x1 x2 x3 x4 x5 : V) : shL spec_StartBox_L Q [x0, x1, x2, x3, x4, x5] = (
  P1 (.call F_StateOk 0 1) [x0, x1, x2, x3, x4, x5] fun v0 =>
  P1 (.un .not) [v0] fun v1 =>
  P1 (.pick) [v1, .bool true, x4] fun v2 =>
  ifB v2 (
    Q .ret [x3, x4, x5, .bool false]) (
    Q .ret [x3, .bool true, x5, .bool true])) := by kernel_rfl
def spec_StartBox_S : Sig := ⟨[.val true [.sc, .sc, .sl [.sc, .sc]], .val true [.sc, .sc, .sc]], [(true, [.sc, .sc, .sc]), (false, [.sc])], F_StartBox⟩
def spec_StartBox_hs : List NF := []

def impl_StartBox_L : L := .seq (.rg []) (.seq (.seq (.rg [⟨[], .call F_StateOk 0 1, [.v 0, .v 1, .v 2, .v 3, .v 4, .v 5], 1⟩, ⟨[], .un .not, [.v 6], 1⟩, ⟨[], .pick, [.v 7, .k (.bool true), .v 4], 1⟩]) (.ite (.v 8) (.seq (.rg []) (.ret [.v 3, .v 4, .v 5, .k (.bool false)])) (.skip))) (.seq (.rg []) (.seq (.rg []) (.ret [.v 3, .k (.bool true), .v 5, .k (.bool true)]))))
theorem impl_StartBox_L_sh (Q : QT) (x0 x1 x2 x3 x4 x5 : V) : shL impl_StartBox_L Q [x0, x1, x2, x3, x4, x5] = (
  P1 (.call F_StateOk 0 1) [x0, x1, x2, x3, x4, x5] fun v0 =>
  P1 (.un .not) [v0] fun v1 =>
  P1 (.pick) [v1, .bool true, x4] fun v2 =>
  ifB v2 (
    Q .ret [x3, x4, x5, .bool false]) (
    Q .ret [x3, .bool true, x5, .bool true])) := by kernel_rfl
def impl_StartBox_S : Sig := ⟨[.val true [.sc, .sc, .sl [.sc, .sc]], .val true [.sc, .sc, .sc]], [(true, [.sc, .sc, .sc]), (false, [.sc])], F_StartBox⟩
def impl_StartBox_hs : List NF := []

def laws_eqState_L : L := .seq (.rg []) (.seq (.seq (.rg [⟨[], .bin .neq, [.v 0, .v 3], 1⟩]) (.ite (.v 6) (.seq (.rg []) (.ret [.k (.bool false)])) (.skip))) (.seq (.seq (.rg [⟨[], .binb .neq, [.v 1, .v 4], 1⟩]) (.ite (.v 7) (.seq (.rg []) (.ret [.k (.bool false)])) (.skip))) (.seq (.seq (.rg [⟨[], .bin .neq, [.v 2, .v 5], 1⟩]) (.ite (.v 8) (.seq (.rg []) (.ret [.k (.bool false)])) (.skip))) (.seq (.rg []) (.ret [.k (.bool true)])))))
theorem laws_eqState_L_sh (Q : QT) (x0 x1 x2 x3 x4 x5 : V) : shL laws_eqState_L Q [x0, x1, x2, x3, x4, x5] = (
  P1 (.bin .neq) [x0, x3] fun v0 =>
  ifB v0 (
    Q .ret [.bool false]) (
    P1 (.binb .neq) [x1, x4] fun v1 =>
    ifB v1 (
      Q .ret [.bool false]) (
      P1 (.bin .neq) [x2, x5] fun v2 =>
      ifB v2 (
        Q .ret [.bool false]) (
        Q .ret [.bool true])))) := by kernel_rfl
def laws_eqState_S : Sig := ⟨[.val true [.sc, .sc, .sc], .val true [.sc, .sc, .sc]], [(false, [.sc])], F_eqState⟩
def laws_eqState_hs : List NF := []

def laws_FnExactStartBox_L : L := .seq (.rg []) (.seq (.rg []) (.seq (.rg [⟨[], .call F_szCylinder 0 1, [.v 0, .v 1, .v 2, .k (.int .i64 1048576)], 1⟩]) (.seq (.seq (.rg [⟨[], .bin .lss, [.v 6, .k (.int .i64 0)], 1⟩]) (.ite (.v 7) (.seq (.rg []) (.ret [.k (.bool true)])) (.skip))) (.seq (.rg [⟨[], .call F_toCylinder 0 3, [.v 0, .v 1, .v 2], 3⟩, ⟨[], .call F_toState 0 3, [.v 3, .v 4, .v 5], 3⟩, ⟨[], .call F_StartBox 0 4, [.v 8, .v 9, .v 10, .v 11, .v 12, .v 13], 4⟩]) (.seq (.rg [⟨[], .call F_toCylinder 0 3, [.v 0, .v 1, .v 2], 3⟩]) (.seq (.rg [⟨[], .call F_toState 0 3, [.v 3, .v 4, .v 5], 3⟩, ⟨[], .call F_StartBox 0 4, [.v 18, .v 19, .v 20, .v 21, .v 22, .v 23], 4⟩]) (.seq (.seq (.rg [⟨[], .call F_eqState 0 1, [.v 24, .v 25, .v 26, .v 14, .v 15, .v 16], 1⟩, ⟨[], .un .not, [.v 28], 1⟩, ⟨[(.v 29, false)], .binb .neq, [.v 27, .v 17], 1⟩, ⟨[], .pick, [.v 29, .k (.bool true), .v 30], 1⟩]) (.ite (.v 31) (.seq (.rg []) (.ret [.k (.bool false)])) (.skip))) (.seq (.seq (.rg [⟨[], .call F_toCylinder 0 3, [.v 0, .v 1, .v 2], 3⟩, ⟨[], .call F_eqCylinder 0 1, [.v 18, .v 19, .v 20, .v 32, .v 33, .v 34], 1⟩, ⟨[], .un .not, [.v 35], 1⟩]) (.ite (.v 36) (.seq (.rg []) (.ret [.k (.bool false)])) (.skip))) (.seq (.rg []) (.ret [.k (.bool true)]))))))))))
theorem laws_FnExactStartBox_L_sh (Q : QT) (x0 x1 x2 x3 x4 x5 : V) : shL laws_FnExactStartBox_L Q [x0, x1, x2, x3, x4, x5] = (
  P1 (.call F_szCylinder 0 1) [x0, x1, x2, .int .i64 1048576] fun v0 =>
  P1 (.bin .lss) [v0, .int .i64 0] fun v1 =>
  ifB v1 (
    Q .ret [.bool true]) (
    P3 (.call F_toCylinder 0 3) [x0, x1, x2] fun v2 v3 v4 =>
    P3 (.call F_toState 0 3) [x3, x4, x5] fun v5 v6 v7 =>
    P4 (.call F_StartBox 0 4) [v2, v3, v4, v5, v6, v7] fun v8 v9 v10 v11 =>
    P3 (.call F_toCylinder 0 3) [x0, x1, x2] fun v12 v13 v14 =>
    P3 (.call F_toState 0 3) [x3, x4, x5] fun v15 v16 v17 =>
    P4 (.call F_StartBox 0 4) [v12, v13, v14, v15, v16, v17] fun v18 v19 v20 v21 =>
    P1 (.call F_eqState 0 1) [v18, v19, v20, v8, v9, v10] fun v22 =>
    P1 (.un .not) [v22] fun v23 =>
    ifB v23 (
      Q .ret [.bool false]) (
      P1 (.binb .neq) [v21, v11] fun v24 =>
      ifB v24 (
        Q .ret [.bool false]) (
        P3 (.call F_toCylinder 0 3) [x0, x1, x2] fun v25 v26 v27 =>
        P1 (.call F_eqCylinder 0 1) [v12, v13, v14, v25, v26, v27] fun v28 =>
        P1 (.un .not) [v28] fun v29 =>
        ifB v29 (
          Q .ret [.bool false]) (
          Q .ret [.bool true]))))) := by kernel_rfl
def laws_FnExactStartBox_S : Sig := ⟨[.val true [.sc, .sc, .sl [.sc, .sc]], .val true [.sc, .sc, .sc]], [(false, [.sc])], F_FnExactStartBox⟩
def laws_FnExactStartBox_hs : List NF := []

def spec_StopBox_L : L := .seq (.rg []) (.seq (.seq (.rg [⟨[], .call F_StateOk 0 1, [.v 0, .v 1, .v 2, .v 3, .v 4, .v 5], 1⟩, ⟨[], .un .not, [.v 6], 1⟩, ⟨[(.v 7, false)], .un .not, [.v 4], 1⟩, ⟨[], .pick, [.v 7, .k (.bool true), .v 8], 1⟩]) (.ite (.v 9) (.seq (.rg []) (.ret [.v 3, .v 4, .v 5, .k (.bool false)])) (.skip))) (.seq (.rg []) (.seq (.rg []) (.ret [.v 3, .k (.bool false), .v 5, .k (.bool true)]))))
theorem spec_StopBox_L_sh (Q : QT) (x0 x1 x2 x3 x4 x5 : V) : shL spec_StopBox_L Q [x0, x1, x2, x3, x4, x5] = (
  P1 (.call F_StateOk 0 1) [x0, x1, x2, x3, x4, x5] fun v0 =>
  P1 (.un .not) [v0] fun v1 =>
  ifB v1 (
    Q .ret [x3, x4, x5, .bool false]) (
    P1 (.un .not) [x4] fun v2 =>
    ifB v2 (
      Q .ret [x3, x4, x5, .bool false]) (
      Q .ret [x3, .bool false, x5, .bool true]))) := by kernel_rfl
def spec_StopBox_S : Sig := ⟨[.val true [.sc, .sc, .sl [.sc, .sc]], .val true [.sc, .sc, .sc]], [(true, [.sc, .sc, .sc]), (false, [.sc])], F_StopBox⟩
def spec_StopBox_hs : List NF := []

def impl_StopBox_L : L := .seq (.rg []) (.seq (.seq (.rg [⟨[], .call F_StateOk 0 1, [.v 0, .v 1, .v 2, .v 3, .v 4, .v 5], 1⟩, ⟨[], .un .not, [.v 6], 1⟩, ⟨[(.v 7, false)], .un .not, [.v 4], 1⟩, ⟨[], .pick, [.v 7, .k (.bool true), .v 8], 1⟩]) (.ite (.v 9) (.seq (.rg []) (.ret [.v 3, .v 4, .v 5, .k (.bool false)])) (.skip))) (.seq (.rg []) (.seq (.rg []) (.ret [.v 3, .k (.bool false), .v 5, .k (.bool true)]))))
theorem impl_StopBox_L_sh (Q : QT) (x0 x1 x2 x3 x4 x5 : V) : shL impl_StopBox_L Q [x0, x1, x2, x3, x4, x5] = (
  P1 (.call F_StateOk 0 1) [x0, x1, x2, x3, x4, x5] fun v0 =>
  P1 (.un .not) [v0] fun v1 =>
  ifB v1 (
    Q .ret [x3, x4, x5, .bool false]) (
    P1 (.un .not) [x4] fun v2 =>
    ifB v2 (
      Q .ret [x3, x4, x5, .bool false]) (
      Q .ret [x3, .bool false, x5, .bool true]))) := by kernel_rfl
def impl_StopBox_S : Sig := ⟨[.val true [.sc, .sc, .sl [.sc, .sc]], .val true [.sc, .sc, .sc]], [(true, [.sc, .sc, .sc]), (false, [.sc])], F_StopBox⟩
def impl_StopBox_hs : List NF := []

def laws_FnExactStopBox_L : L := .seq (.rg []) (.seq (.rg []) (.seq (.rg [⟨[], .call F_szCylinder 0 1, [.v 0, .v 1, .v 2, .k (.int .i64 1048576)], 1⟩]) (.seq (.seq (.rg [⟨[], .bin .lss, [.v 6, .k (.int .i64 0)], 1⟩]) (.ite (.v 7) (.seq (.rg []) (.ret [.k (.bool true)])) (.skip))) (.seq (.rg [⟨[], .call F_toCylinder 0 3, [.v 0, .v 1, .v 2], 3⟩, ⟨[], .call F_toState 0 3, [.v 3, .v 4, .v 5], 3⟩, ⟨[], .call F_StopBox 0 4, [.v 8, .v 9, .v 10, .v 11, .v 12, .v 13], 4⟩]) (.seq (.rg [⟨[], .call F_toCylinder 0 3, [.v 0, .v 1, .v 2], 3⟩]) (.seq (.rg [⟨[], .call F_toState 0 3, [.v 3, .v 4, .v 5], 3⟩, ⟨[], .call F_StopBox 0 4, [.v 18, .v 19, .v 20, .v 21, .v 22, .v 23], 4⟩]) (.seq (.seq (.rg [⟨[], .call F_eqState 0 1, [.v 24, .v 25, .v 26, .v 14, .v 15, .v 16], 1⟩, ⟨[], .un .not, [.v 28], 1⟩, ⟨[(.v 29, false)], .binb .neq, [.v 27, .v 17], 1⟩, ⟨[], .pick, [.v 29, .k (.bool true), .v 30], 1⟩]) (.ite (.v 31) (.seq (.rg []) (.ret [.k (.bool false)])) (.skip))) (.seq (.seq (.rg [⟨[], .call F_toCylinder 0 3, [.v 0, .v 1, .v 2], 3⟩, ⟨[], .call F_eqCylinder 0 1, [.v 18, .v 19, .v 20, .v 32, .v 33, .v 34], 1⟩, ⟨[], .un .not, [.v 35], 1⟩]) (.ite (.v 36) (.seq (.rg []) (.ret [.k (.bool false)])) (.skip))) (.seq (.rg []) (.ret [.k (.bool true)]))))))))))
theorem laws_FnExactStopBox_L_sh (Q : QT) (x0 x1 x2 x3 x4 x5 : V) : shL laws_FnExactStopBox_L Q [x0, x1, x2, x3, x4, x5] = (
  P1 (.call F_szCylinder 0 1) [x0, x1, x2, .int .i64 1048576] fun v0 =>
  P1 (.bin .lss) [v0, .int .i64 0] fun v1 =>
  ifB v1 (
    Q .ret [.bool true]) (
    P3 (.call F_toCylinder 0 3) [x0, x1, x2] fun v2 v3 v4 =>
    P3 (.call F_toState 0 3) [x3, x4, x5] fun v5 v6 v7 =>
    P4 (.call F_StopBox 0 4) [v2, v3, v4, v5, v6, v7] fun v8 v9 v10 v11 =>
    P3 (.call F_toCylinder 0 3) [x0, x1, x2] fun v12 v13 v14 =>
    P3 (.call F_toState 0 3) [x3, x4, x5] fun v15 v16 v17 =>
    P4 (.call F_StopBox 0 4) [v12, v13, v14, v15, v16, v17] fun v18 v19 v20 v21 =>
    P1 (.call F_eqState 0 1) [v18, v19, v20, v8, v9, v10] fun v22 =>
    P1 (.un .not) [v22] fun v23 =>
    ifB v23 (
      Q .ret [.bool false]) (
      P1 (.binb .neq) [v21, v11] fun v24 =>
      ifB v24 (
        Q .ret [.bool false]) (
        P3 (.call F_toCylinder 0 3) [x0, x1, x2] fun v25 v26 v27 =>
        P1 (.call F_eqCylinder 0 1) [v12, v13, v14, v25, v26, v27] fun v28 =>
        P1 (.un .not) [v28] fun v29 =>
        ifB v29 (
          Q .ret [.bool false]) (
          Q .ret [.bool true]))))) := by kernel_rfl
def laws_FnExactStopBox_S : Sig := ⟨[.val true [.sc, .sc, .sl [.sc, .sc]], .val true [.sc, .sc, .sc]], [(false, [.sc])], F_FnExactStopBox⟩
def laws_FnExactStopBox_hs : List NF := []

def spec_l06Mod_L : L := .seq (.rg []) (.seq (.rg [⟨[], .bin .rem, [.v 0, .v 1], 1⟩, ⟨[], .bin .add, [.v 2, .v 1], 1⟩, ⟨[], .bin .rem, [.v 3, .v 1], 1⟩]) (.ret [.v 4]))
theorem spec_l06Mod_L_sh (Q : QT) (x0 x1 : V) : shL spec_l06Mod_L Q [x0, x1] = (
  P1 (.bin .rem) [x0, x1] fun v0 =>
  P1 (.bin .add) [v0, x1] fun v1 =>
  P1 (.bin .rem) [v1, x1] fun v2 =>
  Q .ret [v2]) := by kernel_rfl
def spec_l06Mod_S : Sig := ⟨[.val false [.sc], .val false [.sc]], [(false, [.sc])], F_l06Mod⟩
def spec_l06Mod_hs : List NF := []

def spec_PinsAt_b0 : L := .seq (.seq (.seq (.rg [⟨[], .len, [.v 5], 1⟩, ⟨[], .bin .lss, [.v 1, .v 6], 1⟩]) (.ite (.v 7) (.skip) (.seq (.tup [.v 2]) (.exit 0)))) (.seq (.block 1 (.seq (.seq (.rg [⟨[], .idx [.sc, .sc], [.v 5, .v 1], 2⟩, ⟨[], .call F_l06Mod 0 1, [.v 0, .v 3], 1⟩, ⟨[], .bin .eql, [.v 9, .v 10], 1⟩]) (.ite (.v 11) (.seq (.rg [⟨[], .idx [.sc, .sc], [.v 5, .v 1], 2⟩, ⟨[], .lst [.sc] false 1, [.v 12], 1⟩, ⟨[], .app [.sc] 8, [.v 2, .v 14], 1⟩]) (.tup [.v 0, .v 1, .v 15, .v 3, .v 4, .v 5])) (.seq (.skip) (.tup [.v 0, .v 1, .v 2, .v 3, .v 4, .v 5])))) (.tup [.v 0, .v 1, .v 2, .v 3, .v 4, .v 5]))) (.rg [⟨[], .bin .add, [.v 1, .k (.int .i64 1)], 1⟩]))) (.tup [.v 0, .v 6, .v 2, .v 3, .v 4, .v 5])
theorem spec_PinsAt_b0_sh (Q : QT) (x0 x1 x2 x3 x4 x5 : V) : shL spec_PinsAt_b0 Q [x0, x1, x2, x3, x4, x5] = (
  P1 (.len) [x5] fun v0 =>
  P1 (.bin .lss) [x1, v0] fun v1 =>
  ifB v1 (
    P2 (.idx [.sc, .sc]) [x5, x1] fun _ v3 =>
    P1 (.call F_l06Mod 0 1) [x0, x3] fun v4 =>
    P1 (.bin .eql) [v3, v4] fun v5 =>
    ifB v5 (
      P2 (.idx [.sc, .sc]) [x5, x1] fun v6 _ =>
      P1 (.lst [.sc] false 1) [v6] fun v8 =>
      P1 (.app [.sc] 8) [x2, v8] fun v9 =>
      P1 (.bin .add) [x1, .int .i64 1] fun v10 =>
      Q .normal [x0, v10, v9, x3, x4, x5]) (
      P1 (.bin .add) [x1, .int .i64 1] fun v11 =>
      Q .normal [x0, v11, x2, x3, x4, x5])) (
    Q (.exit 0) [x2])) := by kernel_rfl

def spec_PinsAt_r1 : L := .seq (.rg []) (.ret [.v 0])
theorem spec_PinsAt_r1_sh (Q : QT) (x0 : V) : shL spec_PinsAt_r1 Q [x0] = (
  Q .ret [x0]) := by kernel_rfl

def spec_PinsAt_L : L := .seq (.rg []) (.seq (.rg [⟨[], .lst [.sc] false 0, [], 1⟩]) (.seq (.seq (.rg [⟨[], .call F_CylinderOk 0 1, [.v 0, .v 1, .v 2], 1⟩, ⟨[], .un .not, [.v 5], 1⟩, ⟨[(.v 6, false)], .call F_l01In 0 1, [.v 3, .k (.int .i64 (-1000000)), .k (.int .i64 1000000)], 1⟩, ⟨[(.v 6, false)], .un .not, [.v 7], 1⟩, ⟨[], .pick, [.v 6, .k (.bool true), .v 8], 1⟩]) (.ite (.v 9) (.seq (.rg []) (.ret [.v 4])) (.skip))) (.seq (.seq (.rg []) (.block 0 (.seq (.tup [.v 3, .k (.int .i64 0), .v 4, .v 0, .v 1, .v 2]) (.loop (spec_PinsAt_b0))))) (spec_PinsAt_r1))))
theorem spec_PinsAt_L_sh (Q : QT) (x0 x1 x2 x3 : V) : shL spec_PinsAt_L Q [x0, x1, x2, x3] = (
  P1 (.lst [.sc] false 0) [] fun v0 =>
  P1 (.call F_CylinderOk 0 1) [x0, x1, x2] fun v1 =>
  P1 (.un .not) [v1] fun v2 =>
  ifB v2 (
    Q .ret [v0]) (
    P1 (.call F_l01In 0 1) [x3, .int .i64 (-1000000), .int .i64 1000000] fun v3 =>
    P1 (.un .not) [v3] fun v4 =>
    ifB v4 (
      Q .ret [v0]) (
      shL (.loop spec_PinsAt_b0) (qB 0 (qS (shL spec_PinsAt_r1 Q) Q)) [x3, .int .i64 0, v0, x0, x1, x2]))) := by kernel_rfl
def spec_PinsAt_S : Sig := ⟨[.val true [.sc, .sc, .sl [.sc, .sc]], .val false [.sc]], [(false, [.sl [.sc]])], F_PinsAt⟩
def spec_PinsAt_hs : List NF := [⟨[(5, .sc false [.own 64])], [(64, true, [.sc])], [], 65⟩, ⟨[(1, .sc false [.sc]), (2, .ptr 64 0), (5, .sc false [.own 65]), (6, .sc false [.sc])], [(65, true, [.sc])], [(64, [.sc, .sc, .ro [.sc, .sc]])], 66⟩, ⟨[(1, .sc false [.sc]), (2, .ptr 64 0), (5, .sc false [.own 65]), (6, .sc false [.sc])], [(65, true, [.sc])], [(64, [.sc, .sc, .ro [.sc, .sc]])], 66⟩, ⟨[(1, .sc false [.sc]), (2, .ptr 64 0), (5, .sc false [.own 65]), (6, .sc false [.sc])], [(65, true, [.sc])], [(64, [.sc, .sc, .ro [.sc, .sc]])], 66⟩]

def spec_StepBox_r0 : L := .seq (.rg [⟨[], .call F_PinsAt 0 1, [.v 0, .v 1, .v 2, .v 3], 1⟩]) (.seq (.rg [⟨[], .bin .add, [.v 3, .k (.int .i64 1)], 1⟩, ⟨[], .bin .rem, [.v 11, .v 0], 1⟩, ⟨[], .len, [.v 10], 1⟩, ⟨[], .bin .add, [.v 5, .v 13], 1⟩]) (.seq (.seq (.rg [⟨[], .bin .eql, [.v 12, .k (.int .i64 0)], 1⟩]) (.ite (.v 15) (.seq (.rg []) (.tup [.v 10, .v 0, .v 1, .v 2, .v 3, .v 4, .v 5, .k (.int .i64 0), .k (.bool false), .k (.int .i64 0), .v 12, .k (.bool false), .v 14])) (.seq (.skip) (.tup [.v 10, .v 0, .v 1, .v 2, .v 3, .v 4, .v 5, .k (.int .i64 0), .k (.bool false), .k (.int .i64 0), .v 12, .k (.bool true), .v 14])))) (.seq (.seq (.rg [⟨[], .call F_StateOk 0 1, [.v 1, .v 2, .v 3, .v 10, .v 11, .v 12], 1⟩, ⟨[], .un .not, [.v 13], 1⟩]) (.ite (.v 14) (.seq (.rg [⟨[], .lst [.sc] false 0, [], 1⟩]) (.ret [.v 4, .v 5, .v 6, .v 15])) (.skip))) (.seq (.rg []) (.ret [.v 10, .v 11, .v 12, .v 0])))))
theorem spec_StepBox_r0_sh (Q : QT) (x0 x1 x2 x3 x4 x5 x6 x7 x8 x9 : V) : shL spec_StepBox_r0 Q [x0, x1, x2, x3, x4, x5, x6, x7, x8, x9] = (
  P1 (.call F_PinsAt 0 1) [x0, x1, x2, x3] fun v0 =>
  P1 (.bin .add) [x3, .int .i64 1] fun v1 =>
  P1 (.bin .rem) [v1, x0] fun v2 =>
  P1 (.len) [v0] fun v3 =>
  P1 (.bin .add) [x5, v3] fun v4 =>
  P1 (.bin .eql) [v2, .int .i64 0] fun v5 =>
  ifB v5 (
    P1 (.call F_StateOk 0 1) [x0, x1, x2, v2, .bool false, v4] fun v6 =>
    P1 (.un .not) [v6] fun v7 =>
    ifB v7 (
      P1 (.lst [.sc] false 0) [] fun v8 =>
      Q .ret [x3, x4, x5, v8]) (
      Q .ret [v2, .bool false, v4, v0])) (
    P1 (.call F_StateOk 0 1) [x0, x1, x2, v2, .bool true, v4] fun v9 =>
    P1 (.un .not) [v9] fun v10 =>
    ifB v10 (
      P1 (.lst [.sc] false 0) [] fun v11 =>
      Q .ret [x3, x4, x5, v11]) (
      Q .ret [v2, .bool true, v4, v0]))) := by kernel_rfl

def spec_StepBox_L : L := .seq (.rg []) (.seq (.seq (.rg [⟨[], .call F_StateOk 0 1, [.v 0, .v 1, .v 2, .v 3, .v 4, .v 5], 1⟩, ⟨[], .un .not, [.v 6], 1⟩, ⟨[(.v 7, false)], .un .not, [.v 4], 1⟩, ⟨[], .pick, [.v 7, .k (.bool true), .v 8], 1⟩]) (.ite (.v 9) (.seq (.rg [⟨[], .lst [.sc] false 0, [], 1⟩]) (.ret [.v 3, .v 4, .v 5, .v 10])) (.skip))) (spec_StepBox_r0))
theorem spec_StepBox_L_sh (Q : QT) (x0 x1 x2 x3 x4 x5 : V) : shL spec_StepBox_L Q [x0, x1, x2, x3, x4, x5] = (
  P1 (.call F_StateOk 0 1) [x0, x1, x2, x3, x4, x5] fun v0 =>
  P1 (.un .not) [v0] fun v1 =>
  ifB v1 (
    P1 (.lst [.sc] false 0) [] fun v2 =>
    Q .ret [x3, x4, x5, v2]) (
    P1 (.un .not) [x4] fun v3 =>
    ifB v3 (
      P1 (.lst [.sc] false 0) [] fun v4 =>
      Q .ret [x3, x4, x5, v4]) (
      shL spec_StepBox_r0 Q [x0, x1, x2, x3, x4, x5, v0, .bool false, v3, .bool false]))) := by kernel_rfl
def spec_StepBox_S : Sig := ⟨[.val true [.sc, .sc, .sl [.sc, .sc]], .val true [.sc, .sc, .sc]], [(true, [.sc, .sc, .sc]), (false, [.sl [.sc]])], F_StepBox⟩
def spec_StepBox_hs : List NF := [⟨[(2, .ptr 64 0), (3, .ptr 65 0), (4, .ptr 66 0), (6, .sc false [.own 67]), (7, .ptr 68 0)], [(67, true, [])], [(64, [.sc, .sc, .ro [.sc, .sc]]), (65, [.sc, .sc, .sc]), (66, [.sc, .sc, .sc]), (68, [.sc, .sc, .sc])], 69⟩]

def impl_around_L : L := .seq (.rg []) (.seq (.rg [⟨[], .bin .rem, [.v 0, .v 1], 1⟩, ⟨[], .bin .add, [.v 2, .v 1], 1⟩, ⟨[], .bin .rem, [.v 3, .v 1], 1⟩]) (.ret [.v 4]))
theorem impl_around_L_sh (Q : QT) (x0 x1 : V) : shL impl_around_L Q [x0, x1] = (
  P1 (.bin .rem) [x0, x1] fun v0 =>
  P1 (.bin .add) [v0, x1] fun v1 =>
  P1 (.bin .rem) [v1, x1] fun v2 =>
  Q .ret [v2]) := by kernel_rfl
def impl_around_S : Sig := ⟨[.val false [.sc], .val false [.sc]], [(false, [.sc])], F_around⟩
def impl_around_hs : List NF := []

def impl_PinsAt_b0 : L := .seq (.seq (.rg [⟨[], .bin .lss, [.v 3, .v 2], 1⟩]) (.seq (.ite (.v 8) (.skip) (.seq (.tup [.v 4]) (.exit 0))) (.seq (.block 1 (.seq (.seq (.rg [⟨[], .idx [.sc, .sc], [.v 1, .v 3], 2⟩]) (.seq (.rg [⟨[], .call F_around 0 1, [.v 0, .v 5], 1⟩, ⟨[], .bin .eql, [.v 10, .v 11], 1⟩]) (.ite (.v 12) (.seq (.rg [⟨[], .lst [.sc] false 1, [.v 9], 1⟩, ⟨[], .app [.sc] 8, [.v 4, .v 13], 1⟩]) (.tup [.v 0, .v 1, .v 2, .v 3, .v 14, .v 5, .v 6, .v 7])) (.seq (.skip) (.tup [.v 0, .v 1, .v 2, .v 3, .v 4, .v 5, .v 6, .v 7]))))) (.tup [.v 0, .v 1, .v 2, .v 3, .v 4, .v 5, .v 6, .v 7]))) (.rg [⟨[], .bin .add, [.v 3, .k (.int .i64 1)], 1⟩])))) (.tup [.v 0, .v 1, .v 2, .v 8, .v 4, .v 5, .v 6, .v 7])
theorem impl_PinsAt_b0_sh (Q : QT) (x0 x1 x2 x3 x4 x5 x6 x7 : V) : shL impl_PinsAt_b0 Q [x0, x1, x2, x3, x4, x5, x6, x7] = (
  P1 (.bin .lss) [x3, x2] fun v0 =>
  ifB v0 (
    P2 (.idx [.sc, .sc]) [x1, x3] fun v1 v2 =>
    P1 (.call F_around 0 1) [x0, x5] fun v3 =>
    P1 (.bin .eql) [v2, v3] fun v4 =>
    ifB v4 (
      P1 (.lst [.sc] false 1) [v1] fun v5 =>
      P1 (.app [.sc] 8) [x4, v5] fun v6 =>
      P1 (.bin .add) [x3, .int .i64 1] fun v7 =>
      Q .normal [x0, x1, x2, v7, v6, x5, x6, x7]) (
      P1 (.bin .add) [x3, .int .i64 1] fun v8 =>
      Q .normal [x0, x1, x2, v8, x4, x5, x6, x7])) (
    Q (.exit 0) [x4])) := by kernel_rfl

def impl_PinsAt_r1 : L := .seq (.rg []) (.ret [.v 0])
theorem impl_PinsAt_r1_sh (Q : QT) (x0 : V) : shL impl_PinsAt_r1 Q [x0] = (
  Q .ret [x0]) := by kernel_rfl

def impl_PinsAt_L : L := .seq (.rg []) (.seq (.seq (.rg [⟨[], .call F_CylinderOk 0 1, [.v 0, .v 1, .v 2], 1⟩, ⟨[], .un .not, [.v 4], 1⟩, ⟨[(.v 5, false)], .call F_within 0 1, [.v 3, .k (.int .i64 (-1000000)), .k (.int .i64 1000000)], 1⟩, ⟨[(.v 5, false)], .un .not, [.v 6], 1⟩, ⟨[], .pick, [.v 5, .k (.bool true), .v 7], 1⟩]) (.ite (.v 8) (.seq (.rg []) (.ret [.k (.list [.sc] [])])) (.skip))) (.seq (.rg [⟨[], .lst [.sc] false 0, [], 1⟩]) (.seq (.seq (.rg [⟨[], .len, [.v 2], 1⟩]) (.block 0 (.seq (.tup [.v 3, .v 2, .v 10, .k (.int .i64 0), .v 9, .v 0, .v 1, .v 2]) (.loop (impl_PinsAt_b0))))) (impl_PinsAt_r1))))
theorem impl_PinsAt_L_sh (Q : QT) (x0 x1 x2 x3 : V) : shL impl_PinsAt_L Q [x0, x1, x2, x3] = (
  P1 (.call F_CylinderOk 0 1) [x0, x1, x2] fun v0 =>
  P1 (.un .not) [v0] fun v1 =>
  ifB v1 (
    Q .ret [.list [.sc] []]) (
    P1 (.call F_within 0 1) [x3, .int .i64 (-1000000), .int .i64 1000000] fun v2 =>
    P1 (.un .not) [v2] fun v3 =>
    ifB v3 (
      Q .ret [.list [.sc] []]) (
      P1 (.lst [.sc] false 0) [] fun v4 =>
      P1 (.len) [x2] fun v5 =>
      shL (.loop impl_PinsAt_b0) (qB 0 (qS (shL impl_PinsAt_r1 Q) Q)) [x3, x2, v5, .int .i64 0, v4, x0, x1, x2]))) := by kernel_rfl
def impl_PinsAt_S : Sig := ⟨[.val true [.sc, .sc, .sl [.sc, .sc]], .val false [.sc]], [(false, [.sl [.sc]])], F_PinsAt⟩
def impl_PinsAt_hs : List NF := [⟨[(5, .sc false [.own 64])], [(64, true, [.sc])], [], 65⟩, ⟨[(1, .sc false [.sc]), (2, .ptr 64 0), (5, .sc false [.own 65]), (18, .sc false [.ro [.sc, .sc]]), (19, .sc false [.sc]), (20, .sc false [.sc])], [(65, true, [.sc])], [(64, [.sc, .sc, .ro [.sc, .sc]])], 66⟩, ⟨[(1, .sc false [.sc]), (2, .ptr 64 0), (5, .sc false [.own 65]), (18, .sc false [.ro [.sc, .sc]]), (19, .sc false [.sc]), (20, .sc false [.sc])], [(65, true, [.sc])], [(64, [.sc, .sc, .ro [.sc, .sc]])], 66⟩, ⟨[(1, .sc false [.sc]), (2, .ptr 64 0), (5, .sc false [.own 65]), (18, .sc false [.ro [.sc, .sc]]), (19, .sc false [.sc]), (20, .sc false [.sc])], [(65, true, [.sc])], [(64, [.sc, .sc, .ro [.sc, .sc]])], 66⟩]

def impl_stepBox_L : L := .seq (.rg []) (.seq (.seq (.rg [⟨[], .call F_StateOk 0 1, [.v 0, .v 1, .v 2, .v 3, .v 4, .v 5], 1⟩, ⟨[], .un .not, [.v 6], 1⟩, ⟨[(.v 7, false)], .un .not, [.v 4], 1⟩, ⟨[], .pick, [.v 7, .k (.bool true), .v 8], 1⟩]) (.ite (.v 9) (.seq (.rg []) (.ret [.v 3, .v 4, .v 5, .k (.list [.sc] []), .k (.bool false)])) (.skip))) (.seq (.rg [⟨[], .call F_PinsAt 0 1, [.v 0, .v 1, .v 2, .v 3], 1⟩]) (.seq (.rg [⟨[], .bin .add, [.v 3, .k (.int .i64 1)], 1⟩, ⟨[], .bin .rem, [.v 11, .v 0], 1⟩, ⟨[], .len, [.v 10], 1⟩, ⟨[], .bin .add, [.v 5, .v 13], 1⟩]) (.seq (.rg [⟨[], .bin .neq, [.v 12, .k (.int .i64 0)], 1⟩]) (.seq (.seq (.rg [⟨[], .call F_StateOk 0 1, [.v 0, .v 1, .v 2, .v 12, .v 15, .v 14], 1⟩, ⟨[], .un .not, [.v 16], 1⟩]) (.ite (.v 17) (.seq (.rg []) (.ret [.v 3, .v 4, .v 5, .k (.list [.sc] []), .k (.bool false)])) (.skip))) (.seq (.rg []) (.ret [.v 12, .v 15, .v 14, .v 10, .k (.bool true)])))))))
theorem impl_stepBox_L_sh (Q : QT) (x0 x1 x2 x3 x4 x5 : V) : shL impl_stepBox_L Q [x0, x1, x2, x3, x4, x5] = (
  P1 (.call F_StateOk 0 1) [x0, x1, x2, x3, x4, x5] fun v0 =>
  P1 (.un .not) [v0] fun v1 =>
  ifB v1 (
    Q .ret [x3, x4, x5, .list [.sc] [], .bool false]) (
    P1 (.un .not) [x4] fun v2 =>
    ifB v2 (
      Q .ret [x3, x4, x5, .list [.sc] [], .bool false]) (
      P1 (.call F_PinsAt 0 1) [x0, x1, x2, x3] fun v3 =>
      P1 (.bin .add) [x3, .int .i64 1] fun v4 =>
      P1 (.bin .rem) [v4, x0] fun v5 =>
      P1 (.len) [v3] fun v6 =>
      P1 (.bin .add) [x5, v6] fun v7 =>
      P1 (.bin .neq) [v5, .int .i64 0] fun v8 =>
      P1 (.call F_StateOk 0 1) [x0, x1, x2, v5, v8, v7] fun v9 =>
      P1 (.un .not) [v9] fun v10 =>
      ifB v10 (
        Q .ret [x3, x4, x5, .list [.sc] [], .bool false]) (
        Q .ret [v5, v8, v7, v3, .bool true])))) := by kernel_rfl
def impl_stepBox_S : Sig := ⟨[.val true [.sc, .sc, .sl [.sc, .sc]], .val true [.sc, .sc, .sc]], [(true, [.sc, .sc, .sc]), (false, [.sl [.sc]]), (false, [.sc])], F_stepBox⟩
def impl_stepBox_hs : List NF := []

def impl_StepBox_L : L := .seq (.rg []) (.seq (.rg [⟨[], .call F_stepBox 0 5, [.v 0, .v 1, .v 2, .v 3, .v 4, .v 5], 5⟩]) (.seq (.rg []) (.ret [.v 6, .v 7, .v 8, .v 9])))
theorem impl_StepBox_L_sh (Q : QT) (x0 x1 x2 x3 x4 x5 : V) : shL impl_StepBox_L Q [x0, x1, x2, x3, x4, x5] = (
  P5 (.call F_stepBox 0 5) [x0, x1, x2, x3, x4, x5] fun v0 v1 v2 v3 _ =>
  Q .ret [v0, v1, v2, v3]) := by kernel_rfl
def impl_StepBox_S : Sig := ⟨[.val true [.sc, .sc, .sl [.sc, .sc]], .val true [.sc, .sc, .sc]], [(true, [.sc, .sc, .sc]), (false, [.sl [.sc]])], F_StepBox⟩
def impl_StepBox_hs : List NF := []

def laws_markPinS_b0 : L := .seq (.seq (.seq (.rg [⟨[], .len, [.v 2], 1⟩, ⟨[], .bin .lss, [.v 1, .v 3], 1⟩]) (.ite (.v 4) (.skip) (.seq (.tup [.v 0, .v 2]) (.exit 0)))) (.seq (.block 1 (.seq (.seq (.rg [⟨[], .idx [.sc, .sc], [.v 2, .v 1], 2⟩, ⟨[], .set [.sc, .sc] 0, [.v 2, .v 1, .v 0], 1⟩]) (.seq (.rg [⟨[], .bin .add, [.v 0, .k (.int .i64 1)], 1⟩]) (.seq (.rg [⟨[], .idx [.sc, .sc], [.v 7, .v 1], 2⟩, ⟨[], .set [.sc, .sc] 1, [.v 7, .v 1, .v 8], 1⟩]) (.rg [⟨[], .bin .add, [.v 8, .k (.int .i64 1)], 1⟩])))) (.tup [.v 12, .v 1, .v 11]))) (.rg [⟨[], .bin .add, [.v 1, .k (.int .i64 1)], 1⟩]))) (.tup [.v 0, .v 3, .v 2])
theorem laws_markPinS_b0_sh (Q : QT) (x0 x1 x2 : V) : shL laws_markPinS_b0 Q [x0, x1, x2] = (
  P1 (.len) [x2] fun v0 =>
  P1 (.bin .lss) [x1, v0] fun v1 =>
  ifB v1 (
    P2 (.idx [.sc, .sc]) [x2, x1] fun _ _ =>
    P1 (.set [.sc, .sc] 0) [x2, x1, x0] fun v4 =>
    P1 (.bin .add) [x0, .int .i64 1] fun v5 =>
    P2 (.idx [.sc, .sc]) [v4, x1] fun _ _ =>
    P1 (.set [.sc, .sc] 1) [v4, x1, v5] fun v8 =>
    P1 (.bin .add) [v5, .int .i64 1] fun v9 =>
    P1 (.bin .add) [x1, .int .i64 1] fun v10 =>
    Q .normal [v9, v10, v8]) (
    Q (.exit 0) [x0, x2])) := by kernel_rfl

def laws_markPinS_r1 : L := .seq (.rg []) (.ret [.v 0, .v 1])
theorem laws_markPinS_r1_sh (Q : QT) (x0 x1 : V) : shL laws_markPinS_r1 Q [x0, x1] = (
  Q .ret [x0, x1]) := by kernel_rfl

def laws_markPinS_L : L := .seq (.rg []) (.seq (.seq (.rg []) (.block 0 (.seq (.tup [.v 1, .k (.int .i64 0), .v 0]) (.loop (laws_markPinS_b0))))) (laws_markPinS_r1))
theorem laws_markPinS_L_sh (Q : QT) (x0 x1 : V) : shL laws_markPinS_L Q [x0, x1] = (
  shL (.loop laws_markPinS_b0) (qB 0 (qS (shL laws_markPinS_r1 Q) Q)) [x1, .int .i64 0, x0]) := by kernel_rfl
def laws_markPinS_S : Sig := ⟨[.io false [.sl [.sc, .sc]], .val false [.sc]], [(false, [.sc])], F_markPinS⟩
def laws_markPinS_hs : List NF := [⟨[(1, .sc false [.sc])], [(0, false, [.sc, .sc])], [], 64⟩, ⟨[(0, .sc false [.own 0]), (1, .sc false [.sc]), (5, .sc false [.sc])], [(0, false, [.sc, .sc])], [], 64⟩, ⟨[(0, .sc false [.own 0]), (1, .sc false [.sc]), (5, .sc false [.sc])], [(0, false, [.sc, .sc])], [], 64⟩]

def laws_markCylinder_L : L := .seq (.rg []) (.seq (.rg [⟨[], .call F_markPinS 1 1, [.v 2, .v 3, .v 2], 2⟩]) (.seq (.rg []) (.ret [.v 4, .v 5])))
theorem laws_markCylinder_L_sh (Q : QT) (x0 x1 x2 x3 : V) : shL laws_markCylinder_L Q [x0, x1, x2, x3] = (
  P2 (.call F_markPinS 1 1) [x2, x3, x2] fun v0 v1 =>
  Q .ret [v0, v1]) := by kernel_rfl
def laws_markCylinder_S : Sig := ⟨[.io true [.sc, .sc, .sl [.sc, .sc]], .val false [.sc]], [(false, [.sc])], F_markCylinder⟩
def laws_markCylinder_hs : List NF := []

def laws_FnExactStepBox_r1 : L := .seq (.rg []) (.seq (.rg [⟨[], .call F_markIntS 1 1, [.v 27, .k (.int .i64 1), .v 27], 2⟩]) (.seq (.rg []) (.seq (.rg [⟨[], .call F_heldIntS 0 1, [.v 48, .k (.int .i64 1)], 1⟩]) (.seq (.seq (.rg [⟨[], .bin .lss, [.v 49, .k (.int .i64 0)], 1⟩]) (.ite (.v 50) (.seq (.rg []) (.ret [.k (.bool false)])) (.skip))) (.seq (.seq (.rg [⟨[], .bin .neq, [.v 49, .v 47], 1⟩]) (.ite (.v 51) (.seq (.rg []) (.ret [.k (.bool false)])) (.skip))) (.seq (.rg [⟨[], .call F_toCylinder 0 3, [.v 0, .v 1, .v 2], 3⟩, ⟨[], .call F_toState 0 3, [.v 3, .v 4, .v 5], 3⟩, ⟨[], .call F_StepBox 0 4, [.v 52, .v 53, .v 54, .v 55, .v 56, .v 57], 4⟩]) (.seq (.seq (.rg [⟨[], .call F_eqState 0 1, [.v 58, .v 59, .v 60, .v 14, .v 15, .v 16], 1⟩, ⟨[], .un .not, [.v 62], 1⟩, ⟨[(.v 63, false)], .call F_eqIntS 0 1, [.v 61, .v 17], 1⟩, ⟨[(.v 63, false)], .un .not, [.v 64], 1⟩, ⟨[], .pick, [.v 63, .k (.bool true), .v 65], 1⟩]) (.ite (.v 66) (.seq (.rg []) (.ret [.k (.bool false)])) (.skip))) (.seq (.rg []) (.seq (.rg [⟨[], .call F_heldIntS 0 1, [.v 48, .k (.int .i64 1)], 1⟩]) (.seq (.seq (.rg [⟨[], .bin .lss, [.v 67, .k (.int .i64 0)], 1⟩]) (.ite (.v 68) (.seq (.rg []) (.ret [.k (.bool false)])) (.skip))) (.seq (.seq (.rg [⟨[], .bin .neq, [.v 67, .v 47], 1⟩]) (.ite (.v 69) (.seq (.rg []) (.ret [.k (.bool false)])) (.skip))) (.seq (.rg []) (.ret [.k (.bool true)])))))))))))))
theorem laws_FnExactStepBox_r1_sh (Q : QT) (x0 x1 x2 x3 x4 x5 x6 x7 x8 x9 x10 x11 x12 x13 x14 x15 x16 x17 x18 x19 x20 x21 x22 x23 x24 x25 x26 x27 x28 x29 x30 x31 x32 x33 x34 x35 x36 x37 x38 x39 x40 x41 x42 x43 x44 x45 x46 : V) : shL laws_FnExactStepBox_r1 Q [x0, x1, x2, x3, x4, x5, x6, x7, x8, x9, x10, x11, x12, x13, x14, x15, x16, x17, x18, x19, x20, x21, x22, x23, x24, x25, x26, x27, x28, x29, x30, x31, x32, x33, x34, x35, x36, x37, x38, x39, x40, x41, x42, x43, x44, x45, x46] = (
  P2 (.call F_markIntS 1 1) [x27, .int .i64 1, x27] fun v0 v1 =>
  P1 (.call F_heldIntS 0 1) [v1, .int .i64 1] fun v2 =>
  P1 (.bin .lss) [v2, .int .i64 0] fun v3 =>
  ifB v3 (
    Q .ret [.bool false]) (
    P1 (.bin .neq) [v2, v0] fun v4 =>
    ifB v4 (
      Q .ret [.bool false]) (
      P3 (.call F_toCylinder 0 3) [x0, x1, x2] fun v5 v6 v7 =>
      P3 (.call F_toState 0 3) [x3, x4, x5] fun v8 v9 v10 =>
      P4 (.call F_StepBox 0 4) [v5, v6, v7, v8, v9, v10] fun v11 v12 v13 v14 =>
      P1 (.call F_eqState 0 1) [v11, v12, v13, x14, x15, x16] fun v15 =>
      P1 (.un .not) [v15] fun v16 =>
      ifB v16 (
        Q .ret [.bool false]) (
        P1 (.call F_eqIntS 0 1) [v14, x17] fun v17 =>
        P1 (.un .not) [v17] fun v18 =>
        ifB v18 (
          Q .ret [.bool false]) (
          P1 (.call F_heldIntS 0 1) [v1, .int .i64 1] fun v19 =>
          P1 (.bin .lss) [v19, .int .i64 0] fun v20 =>
          ifB v20 (
            Q .ret [.bool false]) (
            P1 (.bin .neq) [v19, v0] fun v21 =>
            ifB v21 (
              Q .ret [.bool false]) (
              Q .ret [.bool true]))))))) := by kernel_rfl

def laws_FnExactStepBox_r0 : L := .seq (.seq (.rg [⟨[], .call F_toCylinder 0 3, [.v 0, .v 1, .v 2], 3⟩, ⟨[], .call F_eqCylinder 0 1, [.v 18, .v 19, .v 20, .v 33, .v 34, .v 35], 1⟩, ⟨[], .un .not, [.v 36], 1⟩]) (.ite (.v 37) (.seq (.rg []) (.ret [.k (.bool false)])) (.skip))) (.seq (.rg []) (.seq (.rg [⟨[], .call F_markCylinder 1 1, [.v 18, .v 19, .v 20, .k (.int .i64 1), .v 20], 2⟩]) (.seq (.seq (.rg [⟨[], .bin .lss, [.v 38, .k (.int .i64 0)], 1⟩, ⟨[(.v 40, false)], .call F_eqState 0 1, [.v 24, .v 25, .v 26, .v 14, .v 15, .v 16], 1⟩, ⟨[(.v 40, false)], .un .not, [.v 41], 1⟩, ⟨[], .pick, [.v 40, .k (.bool true), .v 42], 1⟩, ⟨[(.v 43, false)], .call F_eqIntS 0 1, [.v 27, .v 17], 1⟩, ⟨[(.v 43, false)], .un .not, [.v 44], 1⟩, ⟨[], .pick, [.v 43, .k (.bool true), .v 45], 1⟩]) (.ite (.v 46) (.seq (.rg []) (.ret [.k (.bool false)])) (.skip))) (laws_FnExactStepBox_r1))))
theorem laws_FnExactStepBox_r0_sh (Q : QT) (x0 x1 x2 x3 x4 x5 x6 x7 x8 x9 x10 x11 x12 x13 x14 x15 x16 x17 x18 x19 x20 x21 x22 x23 x24 x25 x26 x27 x28 x29 x30 x31 x32 : V) : shL laws_FnExactStepBox_r0 Q [x0, x1, x2, x3, x4, x5, x6, x7, x8, x9, x10, x11, x12, x13, x14, x15, x16, x17, x18, x19, x20, x21, x22, x23, x24, x25, x26, x27, x28, x29, x30, x31, x32] = (
  P3 (.call F_toCylinder 0 3) [x0, x1, x2] fun v0 v1 v2 =>
  P1 (.call F_eqCylinder 0 1) [x18, x19, x20, v0, v1, v2] fun v3 =>
  P1 (.un .not) [v3] fun v4 =>
  ifB v4 (
    Q .ret [.bool false]) (
    P2 (.call F_markCylinder 1 1) [x18, x19, x20, .int .i64 1, x20] fun v5 v6 =>
    P1 (.bin .lss) [v5, .int .i64 0] fun v7 =>
    ifB v7 (
      Q .ret [.bool false]) (
      P1 (.call F_eqState 0 1) [x24, x25, x26, x14, x15, x16] fun v8 =>
      P1 (.un .not) [v8] fun v9 =>
      ifB v9 (
        Q .ret [.bool false]) (
        P1 (.call F_eqIntS 0 1) [x27, x17] fun v10 =>
        P1 (.un .not) [v10] fun v11 =>
        ifB v11 (
          Q .ret [.bool false]) (
          shL laws_FnExactStepBox_r1 Q [x0, x1, x2, x3, x4, x5, x6, x7, x8, x9, x10, x11, x12, x13, x14, x15, x16, x17, x18, x19, x20, x21, x22, x23, x24, x25, x26, x27, x28, x29, x30, x31, x32, v0, v1, v2, v3, .bool false, v5, v6, .bool false, v8, v9, .bool false, v10, v11, .bool false]))))) := by kernel_rfl

def laws_FnExactStepBox_L : L := .seq (.rg []) (.seq (.rg []) (.seq (.rg [⟨[], .call F_szCylinder 0 1, [.v 0, .v 1, .v 2, .k (.int .i64 1048576)], 1⟩]) (.seq (.seq (.rg [⟨[], .bin .lss, [.v 6, .k (.int .i64 0)], 1⟩]) (.ite (.v 7) (.seq (.rg []) (.ret [.k (.bool true)])) (.skip))) (.seq (.rg [⟨[], .call F_toCylinder 0 3, [.v 0, .v 1, .v 2], 3⟩, ⟨[], .call F_toState 0 3, [.v 3, .v 4, .v 5], 3⟩, ⟨[], .call F_StepBox 0 4, [.v 8, .v 9, .v 10, .v 11, .v 12, .v 13], 4⟩]) (.seq (.rg [⟨[], .call F_toCylinder 0 3, [.v 0, .v 1, .v 2], 3⟩]) (.seq (.rg [⟨[], .call F_toState 0 3, [.v 3, .v 4, .v 5], 3⟩, ⟨[], .call F_StepBox 0 4, [.v 18, .v 19, .v 20, .v 21, .v 22, .v 23], 4⟩]) (.seq (.seq (.rg [⟨[], .call F_eqState 0 1, [.v 24, .v 25, .v 26, .v 14, .v 15, .v 16], 1⟩, ⟨[], .un .not, [.v 28], 1⟩, ⟨[(.v 29, false)], .call F_eqIntS 0 1, [.v 27, .v 17], 1⟩, ⟨[(.v 29, false)], .un .not, [.v 30], 1⟩, ⟨[], .pick, [.v 29, .k (.bool true), .v 31], 1⟩]) (.ite (.v 32) (.seq (.rg []) (.ret [.k (.bool false)])) (.skip))) (laws_FnExactStepBox_r0))))))))
theorem laws_FnExactStepBox_L_sh (Q : QT) (x0 x1 x2 x3 x4 x5 : V) : shL laws_FnExactStepBox_L Q [x0, x1, x2, x3, x4, x5] = (
  P1 (.call F_szCylinder 0 1) [x0, x1, x2, .int .i64 1048576] fun v0 =>
  P1 (.bin .lss) [v0, .int .i64 0] fun v1 =>
  ifB v1 (
    Q .ret [.bool true]) (
    P3 (.call F_toCylinder 0 3) [x0, x1, x2] fun v2 v3 v4 =>
    P3 (.call F_toState 0 3) [x3, x4, x5] fun v5 v6 v7 =>
    P4 (.call F_StepBox 0 4) [v2, v3, v4, v5, v6, v7] fun v8 v9 v10 v11 =>
    P3 (.call F_toCylinder 0 3) [x0, x1, x2] fun v12 v13 v14 =>
    P3 (.call F_toState 0 3) [x3, x4, x5] fun v15 v16 v17 =>
    P4 (.call F_StepBox 0 4) [v12, v13, v14, v15, v16, v17] fun v18 v19 v20 v21 =>
    P1 (.call F_eqState 0 1) [v18, v19, v20, v8, v9, v10] fun v22 =>
    P1 (.un .not) [v22] fun v23 =>
    ifB v23 (
      Q .ret [.bool false]) (
      P1 (.call F_eqIntS 0 1) [v21, v11] fun v24 =>
      P1 (.un .not) [v24] fun v25 =>
      ifB v25 (
        Q .ret [.bool false]) (
        shL laws_FnExactStepBox_r0 Q [x0, x1, x2, x3, x4, x5, v0, .bool false, v2, v3, v4, v5, v6, v7, v8, v9, v10, v11, v12, v13, v14, v15, v16, v17, v18, v19, v20, v21, v22, .bool false, v24, v25, .bool false])))) := by kernel_rfl
def laws_FnExactStepBox_S : Sig := ⟨[.val true [.sc, .sc, .sl [.sc, .sc]], .val true [.sc, .sc, .sc]], [(false, [.sc])], F_FnExactStepBox⟩
def laws_FnExactStepBox_hs : List NF := []

def spec_RunBox_b0 : L := .seq (.seq (.seq (.rg [⟨[], .bin .gtr, [.v 0, .k (.int .i64 0)], 1⟩]) (.ite (.v 14) (.skip) (.seq (.tup [.v 1, .v 8, .v 9, .v 10, .v 11, .v 12, .v 13]) (.exit 0)))) (.seq (.block 1 (.seq (.seq (.rg [⟨[], .call F_StepBox 0 4, [.v 2, .v 3, .v 4, .v 11, .v 12, .v 13], 4⟩]) (.seq (.seq (.rg [⟨[], .eqa false [.i, .b, .i], [.v 15, .v 16, .v 17, .v 11, .v 12, .v 13], 1⟩]) (.ite (.v 19) (.seq (.rg [⟨[], .lst [.sc] false 0, [], 1⟩]) (.ret [.v 5, .v 6, .v 7, .v 20])) (.skip))) (.seq (.rg [⟨[], .app [.sc] 8, [.v 1, .v 18], 1⟩]) (.rg [])))) (.tup [.v 0, .v 20, .v 2, .v 3, .v 4, .v 5, .v 6, .v 7, .v 8, .v 9, .v 10, .v 15, .v 16, .v 17]))) (.rg [⟨[], .bin .sub, [.v 0, .k (.int .i64 1)], 1⟩]))) (.tup [.v 14, .v 1, .v 2, .v 3, .v 4, .v 5, .v 6, .v 7, .v 8, .v 9, .v 10, .v 11, .v 12, .v 13])
theorem spec_RunBox_b0_sh (Q : QT) (x0 x1 x2 x3 x4 x5 x6 x7 x8 x9 x10 x11 x12 x13 : V) : shL spec_RunBox_b0 Q [x0, x1, x2, x3, x4, x5, x6, x7, x8, x9, x10, x11, x12, x13] = (
  P1 (.bin .gtr) [x0, .int .i64 0] fun v0 =>
  ifB v0 (
    P4 (.call F_StepBox 0 4) [x2, x3, x4, x11, x12, x13] fun v1 v2 v3 v4 =>
    P1 (.eqa false [.i, .b, .i]) [v1, v2, v3, x11, x12, x13] fun v5 =>
    ifB v5 (
      P1 (.lst [.sc] false 0) [] fun v6 =>
      Q .ret [x5, x6, x7, v6]) (
      P1 (.app [.sc] 8) [x1, v4] fun v7 =>
      P1 (.bin .sub) [x0, .int .i64 1] fun v8 =>
      Q .normal [v8, v7, x2, x3, x4, x5, x6, x7, x8, x9, x10, v1, v2, v3])) (
    Q (.exit 0) [x1, x8, x9, x10, x11, x12, x13])) := by kernel_rfl

def spec_RunBox_r1 : L := .seq (.rg []) (.ret [.v 4, .v 5, .v 6, .v 0])
theorem spec_RunBox_r1_sh (Q : QT) (x0 x1 x2 x3 x4 x5 x6 : V) : shL spec_RunBox_r1 Q [x0, x1, x2, x3, x4, x5, x6] = (
  Q .ret [x4, x5, x6, x0]) := by kernel_rfl

def spec_RunBox_L : L := .seq (.rg []) (.seq (.rg [⟨[], .lst [.sc] false 0, [], 1⟩]) (.seq (.rg []) (.seq (.seq (.rg [⟨[], .call F_StepsLeft 0 1, [.v 0, .v 1, .v 2, .v 3, .v 4, .v 5], 1⟩]) (.block 0 (.seq (.tup [.v 7, .v 6, .v 0, .v 1, .v 2, .v 3, .v 4, .v 5, .k (.int .i64 0), .k (.bool false), .k (.int .i64 0), .v 3, .v 4, .v 5]) (.loop (spec_RunBox_b0))))) (spec_RunBox_r1))))
theorem spec_RunBox_L_sh (Q : QT) (x0 x1 x2 x3 x4 x5 : V) : shL spec_RunBox_L Q [x0, x1, x2, x3, x4, x5] = (
  P1 (.lst [.sc] false 0) [] fun v0 =>
  P1 (.call F_StepsLeft 0 1) [x0, x1, x2, x3, x4, x5] fun v1 =>
  shL (.loop spec_RunBox_b0) (qB 0 (qS (shL spec_RunBox_r1 Q) Q)) [v1, v0, x0, x1, x2, x3, x4, x5, .int .i64 0, .bool false, .int .i64 0, x3, x4, x5]) := by kernel_rfl
def spec_RunBox_S : Sig := ⟨[.val true [.sc, .sc, .sl [.sc, .sc]], .val true [.sc, .sc, .sc]], [(true, [.sc, .sc, .sc]), (false, [.sl [.sc]])], F_RunBox⟩
def spec_RunBox_hs : List NF := [⟨[(4, .ptr 64 0), (6, .sc false [.own 65]), (7, .ptr 66 0)], [(65, true, [.sc])], [(64, [.sc, .sc, .sc]), (66, [.sc, .sc, .sc])], 67⟩, ⟨[(2, .ptr 64 0), (3, .ptr 65 0), (4, .ptr 66 0), (6, .sc false [.own 67]), (7, .ptr 68 0), (8, .sc false [.sc])], [(67, true, [.sc])], [(64, [.sc, .sc, .ro [.sc, .sc]]), (65, [.sc, .sc, .sc]), (66, [.sc, .sc, .sc]), (68, [.sc, .sc, .sc])], 69⟩, ⟨[(2, .ptr 64 0), (3, .ptr 65 0), (4, .ptr 66 0), (6, .sc false [.own 67]), (7, .ptr 68 0), (8, .sc false [.sc])], [(67, true, [.sc])], [(64, [.sc, .sc, .ro [.sc, .sc]]), (65, [.sc, .sc, .sc]), (66, [.sc, .sc, .sc]), (68, [.sc, .sc, .sc])], 69⟩]

def impl_RunBox_b0 : L := .seq (.seq (.seq (.rg []) (.ite (.v 11) (.skip) (.seq (.tup [.v 0, .v 7, .v 8, .v 9, .v 10, .v 11, .v 12]) (.exit 0)))) (.block 1 (.seq (.seq (.rg [⟨[], .call F_stepBox 0 5, [.v 1, .v 2, .v 3, .v 10, .v 11, .v 12], 5⟩]) (.seq (.seq (.rg [⟨[], .un .not, [.v 17], 1⟩]) (.ite (.v 18) (.seq (.rg []) (.ret [.v 4, .v 5, .v 6, .k (.list [.sc] [])])) (.skip))) (.seq (.rg []) (.rg [⟨[], .app [.sc] 8, [.v 0, .v 16], 1⟩])))) (.tup [.v 19, .v 1, .v 2, .v 3, .v 4, .v 5, .v 6, .v 7, .v 8, .v 9, .v 13, .v 14, .v 15])))) (.tup [.v 0, .v 1, .v 2, .v 3, .v 4, .v 5, .v 6, .v 7, .v 8, .v 9, .v 10, .v 11, .v 12])
theorem impl_RunBox_b0_sh (Q : QT) (x0 x1 x2 x3 x4 x5 x6 x7 x8 x9 x10 x11 x12 : V) : shL impl_RunBox_b0 Q [x0, x1, x2, x3, x4, x5, x6, x7, x8, x9, x10, x11, x12] = (
  ifB x11 (
    P5 (.call F_stepBox 0 5) [x1, x2, x3, x10, .bool true, x12] fun v0 v1 v2 v3 v4 =>
    P1 (.un .not) [v4] fun v5 =>
    ifB v5 (
      Q .ret [x4, x5, x6, .list [.sc] []]) (
      P1 (.app [.sc] 8) [x0, v3] fun v6 =>
      Q .normal [v6, x1, x2, x3, x4, x5, x6, x7, x8, x9, v0, v1, v2])) (
    Q (.exit 0) [x0, x7, x8, x9, x10, .bool false, x12])) := by kernel_rfl

def impl_RunBox_r1 : L := .seq (.rg []) (.ret [.v 4, .v 5, .v 6, .v 0])
theorem impl_RunBox_r1_sh (Q : QT) (x0 x1 x2 x3 x4 x5 x6 : V) : shL impl_RunBox_r1 Q [x0, x1, x2, x3, x4, x5, x6] = (
  Q .ret [x4, x5, x6, x0]) := by kernel_rfl

def impl_RunBox_L : L := .seq (.rg []) (.seq (.seq (.rg [⟨[], .call F_StateOk 0 1, [.v 0, .v 1, .v 2, .v 3, .v 4, .v 5], 1⟩, ⟨[], .un .not, [.v 6], 1⟩]) (.ite (.v 7) (.seq (.rg []) (.ret [.v 3, .v 4, .v 5, .k (.list [.sc] [])])) (.skip))) (.seq (.rg []) (.seq (.rg [⟨[], .lst [.sc] false 0, [], 1⟩]) (.seq (.block 0 (.seq (.tup [.v 8, .v 0, .v 1, .v 2, .v 3, .v 4, .v 5, .k (.int .i64 0), .k (.bool false), .k (.int .i64 0), .v 3, .v 4, .v 5]) (.loop (impl_RunBox_b0)))) (impl_RunBox_r1)))))
theorem impl_RunBox_L_sh (Q : QT) (x0 x1 x2 x3 x4 x5 : V) : shL impl_RunBox_L Q [x0, x1, x2, x3, x4, x5] = (
  P1 (.call F_StateOk 0 1) [x0, x1, x2, x3, x4, x5] fun v0 =>
  P1 (.un .not) [v0] fun v1 =>
  ifB v1 (
    Q .ret [x3, x4, x5, .list [.sc] []]) (
    P1 (.lst [.sc] false 0) [] fun v2 =>
    shL (.loop impl_RunBox_b0) (qB 0 (qS (shL impl_RunBox_r1 Q) Q)) [v2, x0, x1, x2, x3, x4, x5, .int .i64 0, .bool false, .int .i64 0, x3, x4, x5])) := by kernel_rfl
def impl_RunBox_S : Sig := ⟨[.val true [.sc, .sc, .sl [.sc, .sc]], .val true [.sc, .sc, .sc]], [(true, [.sc, .sc, .sc]), (false, [.sl [.sc]])], F_RunBox⟩
def impl_RunBox_hs : List NF := [⟨[(4, .ptr 64 0), (6, .ptr 65 0), (7, .sc false [.own 66])], [(66, true, [.sc])], [(64, [.sc, .sc, .sc]), (65, [.sc, .sc, .sc])], 67⟩, ⟨[(2, .ptr 64 0), (3, .ptr 65 0), (4, .ptr 66 0), (6, .ptr 67 0), (7, .sc false [.own 68])], [(68, true, [.sc])], [(64, [.sc, .sc, .ro [.sc, .sc]]), (65, [.sc, .sc, .sc]), (66, [.sc, .sc, .sc]), (67, [.sc, .sc, .sc])], 69⟩, ⟨[(2, .ptr 64 0), (3, .ptr 65 0), (4, .ptr 66 0), (6, .ptr 67 0), (7, .sc false [.own 68])], [(68, true, [.sc])], [(64, [.sc, .sc, .ro [.sc, .sc]]), (65, [.sc, .sc, .sc]), (66, [.sc, .sc, .sc]), (67, [.sc, .sc, .sc])], 69⟩]

def laws_FnExactRunBox_r1 : L := .seq (.rg []) (.seq (.rg [⟨[], .call F_markIntS 1 1, [.v 27, .k (.int .i64 1), .v 27], 2⟩]) (.seq (.rg []) (.seq (.rg [⟨[], .call F_heldIntS 0 1, [.v 48, .k (.int .i64 1)], 1⟩]) (.seq (.seq (.rg [⟨[], .bin .lss, [.v 49, .k (.int .i64 0)], 1⟩]) (.ite (.v 50) (.seq (.rg []) (.ret [.k (.bool false)])) (.skip))) (.seq (.seq (.rg [⟨[], .bin .neq, [.v 49, .v 47], 1⟩]) (.ite (.v 51) (.seq (.rg []) (.ret [.k (.bool false)])) (.skip))) (.seq (.rg [⟨[], .call F_toCylinder 0 3, [.v 0, .v 1, .v 2], 3⟩, ⟨[], .call F_toState 0 3, [.v 3, .v 4, .v 5], 3⟩, ⟨[], .call F_RunBox 0 4, [.v 52, .v 53, .v 54, .v 55, .v 56, .v 57], 4⟩]) (.seq (.seq (.rg [⟨[], .call F_eqState 0 1, [.v 58, .v 59, .v 60, .v 14, .v 15, .v 16], 1⟩, ⟨[], .un .not, [.v 62], 1⟩, ⟨[(.v 63, false)], .call F_eqIntS 0 1, [.v 61, .v 17], 1⟩, ⟨[(.v 63, false)], .un .not, [.v 64], 1⟩, ⟨[], .pick, [.v 63, .k (.bool true), .v 65], 1⟩]) (.ite (.v 66) (.seq (.rg []) (.ret [.k (.bool false)])) (.skip))) (.seq (.rg []) (.seq (.rg [⟨[], .call F_heldIntS 0 1, [.v 48, .k (.int .i64 1)], 1⟩]) (.seq (.seq (.rg [⟨[], .bin .lss, [.v 67, .k (.int .i64 0)], 1⟩]) (.ite (.v 68) (.seq (.rg []) (.ret [.k (.bool false)])) (.skip))) (.seq (.seq (.rg [⟨[], .bin .neq, [.v 67, .v 47], 1⟩]) (.ite (.v 69) (.seq (.rg []) (.ret [.k (.bool false)])) (.skip))) (.seq (.rg []) (.ret [.k (.bool true)])))))))))))))
theorem laws_FnExactRunBox_r1_sh (Q : QT) (x0 x1 x2 x3 x4 x5 x6 x7 x8 x9 x10 x11 x12 x13 x14 x15 x16 x17 x18 x19 x20 x21 x22 x23 x24 x25 x26 x27 x28 x29 x30 x31 x32 x33 x34 x35 x36 x37 x38 x39 x40 x41 x42 x43 x44 x45 x46 : V) : shL laws_FnExactRunBox_r1 Q [x0, x1, x2, x3, x4, x5, x6, x7, x8, x9, x10, x11, x12, x13, x14, x15, x16, x17, x18, x19, x20, x21, x22, x23, x24, x25, x26, x27, x28, x29, x30, x31, x32, x33, x34, x35, x36, x37, x38, x39, x40, x41, x42, x43, x44, x45, x46] = (
  P2 (.call F_markIntS 1 1) [x27, .int .i64 1, x27] fun v0 v1 =>
  P1 (.call F_heldIntS 0 1) [v1, .int .i64 1] fun v2 =>
  P1 (.bin .lss) [v2, .int .i64 0] fun v3 =>
  ifB v3 (
    Q .ret [.bool false]) (
    P1 (.bin .neq) [v2, v0] fun v4 =>
    ifB v4 (
      Q .ret [.bool false]) (
      P3 (.call F_toCylinder 0 3) [x0, x1, x2] fun v5 v6 v7 =>
      P3 (.call F_toState 0 3) [x3, x4, x5] fun v8 v9 v10 =>
      P4 (.call F_RunBox 0 4) [v5, v6, v7, v8, v9, v10] fun v11 v12 v13 v14 =>
      P1 (.call F_eqState 0 1) [v11, v12, v13, x14, x15, x16] fun v15 =>
      P1 (.un .not) [v15] fun v16 =>
      ifB v16 (
        Q .ret [.bool false]) (
        P1 (.call F_eqIntS 0 1) [v14, x17] fun v17 =>
        P1 (.un .not) [v17] fun v18 =>
        ifB v18 (
          Q .ret [.bool false]) (
          P1 (.call F_heldIntS 0 1) [v1, .int .i64 1] fun v19 =>
          P1 (.bin .lss) [v19, .int .i64 0] fun v20 =>
          ifB v20 (
            Q .ret [.bool false]) (
            P1 (.bin .neq) [v19, v0] fun v21 =>
            ifB v21 (
              Q .ret [.bool false]) (
              Q .ret [.bool true]))))))) := by kernel_rfl

def laws_FnExactRunBox_r0 : L := .seq (.seq (.rg [⟨[], .call F_toCylinder 0 3, [.v 0, .v 1, .v 2], 3⟩, ⟨[], .call F_eqCylinder 0 1, [.v 18, .v 19, .v 20, .v 33, .v 34, .v 35], 1⟩, ⟨[], .un .not, [.v 36], 1⟩]) (.ite (.v 37) (.seq (.rg []) (.ret [.k (.bool false)])) (.skip))) (.seq (.rg []) (.seq (.rg [⟨[], .call F_markCylinder 1 1, [.v 18, .v 19, .v 20, .k (.int .i64 1), .v 20], 2⟩]) (.seq (.seq (.rg [⟨[], .bin .lss, [.v 38, .k (.int .i64 0)], 1⟩, ⟨[(.v 40, false)], .call F_eqState 0 1, [.v 24, .v 25, .v 26, .v 14, .v 15, .v 16], 1⟩, ⟨[(.v 40, false)], .un .not, [.v 41], 1⟩, ⟨[], .pick, [.v 40, .k (.bool true), .v 42], 1⟩, ⟨[(.v 43, false)], .call F_eqIntS 0 1, [.v 27, .v 17], 1⟩, ⟨[(.v 43, false)], .un .not, [.v 44], 1⟩, ⟨[], .pick, [.v 43, .k (.bool true), .v 45], 1⟩]) (.ite (.v 46) (.seq (.rg []) (.ret [.k (.bool false)])) (.skip))) (laws_FnExactRunBox_r1))))
theorem laws_FnExactRunBox_r0_sh (Q : QT) (x0 x1 x2 x3 x4 x5 x6 x7 x8 x9 x10 x11 x12 x13 x14 x15 x16 x17 x18 x19 x20 x21 x22 x23 x24 x25 x26 x27 x28 x29 x30 x31 x32 : V) : shL laws_FnExactRunBox_r0 Q [x0, x1, x2, x3, x4, x5, x6, x7, x8, x9, x10, x11, x12, x13, x14, x15, x16, x17, x18, x19, x20, x21, x22, x23, x24, x25, x26, x27, x28, x29, x30, x31, x32] = (
  P3 (.call F_toCylinder 0 3) [x0, x1, x2] fun v0 v1 v2 =>
  P1 (.call F_eqCylinder 0 1) [x18, x19, x20, v0, v1, v2] fun v3 =>
  P1 (.un .not) [v3] fun v4 =>
  ifB v4 (
    Q .ret [.bool false]) (
    P2 (.call F_markCylinder 1 1) [x18, x19, x20, .int .i64 1, x20] fun v5 v6 =>
    P1 (.bin .lss) [v5, .int .i64 0] fun v7 =>
    ifB v7 (
      Q .ret [.bool false]) (
      P1 (.call F_eqState 0 1) [x24, x25, x26, x14, x15, x16] fun v8 =>
      P1 (.un .not) [v8] fun v9 =>
      ifB v9 (
        Q .ret [.bool false]) (
        P1 (.call F_eqIntS 0 1) [x27, x17] fun v10 =>
        P1 (.un .not) [v10] fun v11 =>
        ifB v11 (
          Q .ret [.bool false]) (
          shL laws_FnExactRunBox_r1 Q [x0, x1, x2, x3, x4, x5, x6, x7, x8, x9, x10, x11, x12, x13, x14, x15, x16, x17, x18, x19, x20, x21, x22, x23, x24, x25, x26, x27, x28, x29, x30, x31, x32, v0, v1, v2, v3, .bool false, v5, v6, .bool false, v8, v9, .bool false, v10, v11, .bool false]))))) := by kernel_rfl

def laws_FnExactRunBox_L : L := .seq (.rg []) (.seq (.rg []) (.seq (.rg [⟨[], .call F_szCylinder 0 1, [.v 0, .v 1, .v 2, .k (.int .i64 1048576)], 1⟩]) (.seq (.seq (.rg [⟨[], .bin .lss, [.v 6, .k (.int .i64 0)], 1⟩]) (.ite (.v 7) (.seq (.rg []) (.ret [.k (.bool true)])) (.skip))) (.seq (.rg [⟨[], .call F_toCylinder 0 3, [.v 0, .v 1, .v 2], 3⟩, ⟨[], .call F_toState 0 3, [.v 3, .v 4, .v 5], 3⟩, ⟨[], .call F_RunBox 0 4, [.v 8, .v 9, .v 10, .v 11, .v 12, .v 13], 4⟩]) (.seq (.rg [⟨[], .call F_toCylinder 0 3, [.v 0, .v 1, .v 2], 3⟩]) (.seq (.rg [⟨[], .call F_toState 0 3, [.v 3, .v 4, .v 5], 3⟩, ⟨[], .call F_RunBox 0 4, [.v 18, .v 19, .v 20, .v 21, .v 22, .v 23], 4⟩]) (.seq (.seq (.rg [⟨[], .call F_eqState 0 1, [.v 24, .v 25, .v 26, .v 14, .v 15, .v 16], 1⟩, ⟨[], .un .not, [.v 28], 1⟩, ⟨[(.v 29, false)], .call F_eqIntS 0 1, [.v 27, .v 17], 1⟩, ⟨[(.v 29, false)], .un .not, [.v 30], 1⟩, ⟨[], .pick, [.v 29, .k (.bool true), .v 31], 1⟩]) (.ite (.v 32) (.seq (.rg []) (.ret [.k (.bool false)])) (.skip))) (laws_FnExactRunBox_r0))))))))
theorem laws_FnExactRunBox_L_sh (Q : QT) (x0 x1 x2 x3 x4 x5 : V) : shL laws_FnExactRunBox_L Q [x0, x1, x2, x3, x4, x5] = (
  P1 (.call F_szCylinder 0 1) [x0, x1, x2, .int .i64 1048576] fun v0 =>
  P1 (.bin .lss) [v0, .int .i64 0] fun v1 =>
  ifB v1 (
    Q .ret [.bool true]) (
    P3 (.call F_toCylinder 0 3) [x0, x1, x2] fun v2 v3 v4 =>
    P3 (.call F_toState 0 3) [x3, x4, x5] fun v5 v6 v7 =>
    P4 (.call F_RunBox 0 4) [v2, v3, v4, v5, v6, v7] fun v8 v9 v10 v11 =>
    P3 (.call F_toCylinder 0 3) [x0, x1, x2] fun v12 v13 v14 =>
    P3 (.call F_toState 0 3) [x3, x4, x5] fun v15 v16 v17 =>
    P4 (.call F_RunBox 0 4) [v12, v13, v14, v15, v16, v17] fun v18 v19 v20 v21 =>
    P1 (.call F_eqState 0 1) [v18, v19, v20, v8, v9, v10] fun v22 =>
    P1 (.un .not) [v22] fun v23 =>
    ifB v23 (
      Q .ret [.bool false]) (
      P1 (.call F_eqIntS 0 1) [v21, v11] fun v24 =>
      P1 (.un .not) [v24] fun v25 =>
      ifB v25 (
        Q .ret [.bool false]) (
        shL laws_FnExactRunBox_r0 Q [x0, x1, x2, x3, x4, x5, v0, .bool false, v2, v3, v4, v5, v6, v7, v8, v9, v10, v11, v12, v13, v14, v15, v16, v17, v18, v19, v20, v21, v22, .bool false, v24, v25, .bool false])))) := by kernel_rfl
def laws_FnExactRunBox_S : Sig := ⟨[.val true [.sc, .sc, .sl [.sc, .sc]], .val true [.sc, .sc, .sc]], [(false, [.sc])], F_FnExactRunBox⟩
def laws_FnExactRunBox_hs : List NF := []

end
end Go.Mw

