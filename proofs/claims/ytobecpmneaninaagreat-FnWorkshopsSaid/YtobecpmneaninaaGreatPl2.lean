/- What functions of the program compute, as small pure programs, shown against plain Lean functions: no condition. -/
import Derived.KernelRfl
import Derived.Test.YtobecpmneaninaaGreatPl1
namespace Go.Mw
theorem within_iff' {a b c : Int} : within a b c = true ↔ b ≤ a ∧ a ≤ c := by simp [within]
@[simp] theorem P1_lstI3 {a b c : Int} {k : V → Prop} : P1 (.lst [.sc] false 3) [.int .i64 a, .int .i64 b, .int .i64 c] k ↔ k (vL I1 v1 [a, b, c]) := P1_of (by simp [Prim.run, aksOk, akOk, chunk, V.pack, vL, v1]) k

theorem pinLess_or {a b : T2} (h : pinLess a b = false) (hne : a ≠ b) : pinLess b a = true := by
  cases a; cases b
  simp only [pinLess, decide_eq_false_iff_not, decide_eq_true_eq, ne_eq, T2.mk.injEq] at *
  omega
theorem rising_cons {a : T2} {r : List T2} : rising (a :: r) = true ↔ (∀ h, r.head? = some h → pinLess a h = true) ∧ rising r = true := by
  cases r <;> simp [rising]
theorem putPin_head {l : List T2} {y h : T2} (hh : (putPin l y).head? = some h) : h = y ∨ l.head? = some h := by
  cases l with
  | nil => simp [putPin] at hh; exact .inl hh.symm
  | cons a r =>
    unfold putPin at hh
    split at hh
    · simp at hh; exact .inr (by simp [hh])
    · split at hh
      · simp at hh; exact .inr (by simp [hh])
      · simp at hh; exact .inl hh.symm
theorem putPin_rising {l : List T2} {y : T2} (h : rising l = true) : rising (putPin l y) = true := by
  induction l with
  | nil => simp [putPin, rising]
  | cons a r ih =>
    have hr := rising_cons.1 h
    unfold putPin
    by_cases h1 : pinLess a y = true
    · rw [if_pos h1, rising_cons]
      refine ⟨fun b hb => ?_, ih hr.2⟩
      rcases putPin_head hb with rfl | hb
      · exact h1
      · exact hr.1 b hb
    · rw [if_neg h1]
      by_cases h2 : a = y
      · rw [if_pos h2]; exact h
      · rw [if_neg h2, rising_cons]
        refine ⟨fun b hb => ?_, h⟩
        simp only [List.head?_cons, Option.some.injEq] at hb
        subst hb
        exact pinLess_or (by simpa using h1) h2
theorem putPin_mem {l : List T2} {y p : T2} (h : p ∈ putPin l y) : p = y ∨ p ∈ l := by
  induction l with
  | nil => simpa [putPin] using h
  | cons a r ih =>
    unfold putPin at h
    split at h
    · rcases List.mem_cons.1 h with rfl | h
      · simp
      · rcases ih h with h | h
        · exact .inl h
        · exact .inr (by simp [h])
    · split at h
      · exact .inr h
      · rcases List.mem_cons.1 h with h | h
        · exact .inl h
        · exact .inr h

theorem cyl_inv (s t : Int) (x : Cur) (hs : 0 < s) (ht : 0 < t) (hi : 0 ≤ x.i) (k : Nat) :
    (cylTo s t x k).2.b = x.b ∧ 0 ≤ (cylTo s t x k).2.i ∧ (cylTo s t x k).1.length ≤ k ∧ rising (cylTo s t x k).1 = true ∧ ∀ p ∈ (cylTo s t x k).1, pinIn s t p = true := by
  induction k with
  | zero => exact ⟨rfl, hi, by simp [cylTo], by simp [cylTo, rising], by simp [cylTo]⟩
  | succ k ih =>
    obtain ⟨h1, h2, h3, h4, h5⟩ := ih
    refine ⟨by simp [cylTo, h1], cAfter_i (cAfter_i h2), ?_, putPin_rising h4, fun p hp => ?_⟩
    · exact Nat.le_trans (putPin_len _ _) (by omega)
    · rcases putPin_mem hp with rfl | hp
      · have g1 := cBelow_range (cylTo s t x k).2 ht
        have g2 := cBelow_range (cAfter (cylTo s t x k).2 t) hs
        simp only [pinIn, Bool.and_eq_true, within_iff']
        omega
      · exact h5 p hp
theorem cylX_i {x : Cur} (hi : 0 ≤ x.i) : 0 ≤ (cylX x).i := cAfter_i (cAfter_i (cAfter_i hi))
@[simp] theorem cylX_b (x : Cur) : (cylX x).b = x.b := by simp [cylX]
theorem cyl_r (x : Cur) : (4 ≤ cylS x ∧ cylS x ≤ 24) ∧ (1 ≤ cylT x ∧ cylT x ≤ 8) ∧ (0 ≤ cylN x ∧ cylN x ≤ 9) := by
  have h1 := cBelow_range x (show (0 : Int) < 21 by omega)
  have h2 := cBelow_range (cAfter x 21) (show (0 : Int) < 8 by omega)
  have h3 := cBelow_range (cAfter (cAfter x 21) 8) (show (0 : Int) < 10 by omega)
  simp only [cylS, cylT, cylN]; omega
theorem cylOf_ok {x : Cur} (hi : 0 ≤ x.i) : cylOk (cylOf x) = true ∧ (cylOf x).p.length ≤ 9 := by
  obtain ⟨r1, r2, r3⟩ := cyl_r x
  obtain ⟨-, -, h3, h4, h5⟩ := cyl_inv (cylS x) (cylT x) (cylX x) (by omega) (by omega) (cylX_i hi) (cylN x).toNat
  refine ⟨?_, by simp only [cylOf]; omega⟩
  simp only [cylOk, cylOf, Bool.and_eq_true, within_iff', List.all_eq_true]
  have h6 : (cylTo (cylS x) (cylT x) (cylX x) (cylN x).toNat).1.length ≤ 100 := by omega
  exact ⟨⟨⟨by omega, by omega⟩, decide_eq_true h6⟩, h5, h4⟩
theorem spec_l06Cylinder_ok : ∀ ds outs, F_l06Cylinder ds = some outs → shL spec_l06Cylinder_L (qRet outs) ds := F_l06Cylinder_elim fun x hp => by
  obtain ⟨i0, hb⟩ := hp
  have i1 : 0 ≤ (cAfter x 21).i := cAfter_i i0
  have i2 : 0 ≤ (cAfter (cAfter x 21) 8).i := cAfter_i i1
  obtain ⟨r1, r2, r3⟩ := cyl_r x
  have w1 : IntKind.i64.wrap (4 + cBelow x 21) = cylS x := by have : 4 + cBelow x 21 = cylS x := rfl; rw [this]; exact wrap_id (by omega) (by omega)
  have w2 : IntKind.i64.wrap (1 + cBelow (cAfter x 21) 8) = cylT x := by have : 1 + cBelow (cAfter x 21) 8 = cylT x := rfl; rw [this]; exact wrap_id (by omega) (by omega)
  rw [spec_l06Cylinder_L_sh, q_below (b := x.b) x rfl i0 hb]
  simp only [P1_add, w1]
  rw [q_below (b := x.b) (cAfter x 21) (by simp) i1 hb]
  simp only [P1_add, w2]
  rw [q_below (b := x.b) (cAfter (cAfter x 21) 8) (by simp) i2 hb]
  refine loop_upto (cylN x).toNat (fun k => [.int .i64 (cylN x - k), vL I2 v2 (cylTo (cylS x) (cylT x) (cylX x) k).1, vL I1 vY x.b, .int .i64 (cylTo (cylS x) (cylT x) (cylX x) k).2.i, .int .i64 (cylTo (cylS x) (cylT x) (cylX x) k).2.h, .int .i64 0, .int .i64 0, .int .i64 (cylS x), .int .i64 (cylT x)]) (by intro i j _ _ h; simp at h; omega) (fun _ => True) (by simp [cylTo, cylN, cylX]) trivial ?_
  intro k hk _
  obtain ⟨g1, g2, g3, -, -⟩ := cyl_inv (cylS x) (cylT x) (cylX x) (by omega) (by omega) (cylX_i i0) k
  rw [cylX_b] at g1
  rw [spec_l06Cylinder_b0_sh]
  simp only [P1_gtr, ifB_bool, decide_eq_true_eq, decide_eq_false_iff_not]
  refine ⟨fun h => ?_, fun h => ?_⟩
  · rw [q_below (b := x.b) _ g1 g2 hb, q_below (b := x.b) (cAfter _ _) (by simp [g1]) (cAfter_i g2) hb]
    have hw : IntKind.i64.wrap (cylN x - (k : Int) - 1) = cylN x - ((k + 1 : Nat) : Int) := by rw [wrap_id (by omega) (by omega)]; omega
    have hl : (cylTo (cylS x) (cylT x) (cylX x) k).1.length ≤ 1048576 := by omega
    rw [p_l06Put (l := (cylTo (cylS x) (cylT x) (cylX x) k).1) hl]
    simp only [P1_sub, hw]
    exact ⟨by omega, rfl, trivial⟩
  · have e : k = (cylN x).toNat := by omega
    subst e
    simp [spec_l06Cylinder_r1_sh, cylOf, cylEnd]
theorem cylEnd_b {x : Cur} (hi : 0 ≤ x.i) : (cylEnd x).b = x.b ∧ 0 ≤ (cylEnd x).i := by
  obtain ⟨r1, r2, r3⟩ := cyl_r x
  obtain ⟨g1, g2, -⟩ := cyl_inv (cylS x) (cylT x) (cylX x) (by omega) (by omega) (cylX_i hi) (cylN x).toNat
  exact ⟨by rw [cylX_b] at g1; exact g1, g2⟩
theorem spec_l01PickInt_ok : ∀ ds outs, F_l01PickInt ds = some outs → shL spec_l01PickInt_L (qRet outs) ds := F_l01PickInt_elim fun x l hp => by
  obtain ⟨i0, hb, h1, h2⟩ := hp
  rw [spec_l01PickInt_L_sh]
  simp only [P1_len]
  rw [q_below (b := x.b) x rfl i0 hb]
  have hr := cBelow_range x (show (0 : Int) < l.length by omega)
  have h3 : (cBelow x l.length).toNat < l.length := by omega
  simp [h3, hr.1]
theorem q_pick {b : List UInt8} (c : Cur) {l : List Int} {m : Nat} {k : V → V → V → Prop} (hb : c.b = b) (h : 0 ≤ c.i) (hl : b.length ≤ 1048576) (h1 : 1 ≤ l.length) (h2 : l.length ≤ 1048576) : P3 (.call F_l01PickInt 0 m) [vL I1 vY b, .int .i64 c.i, .int .i64 c.h, vL I1 v1 l] k ↔ k (.int .i64 (l[(cBelow c l.length).toNat]?.getD 0)) (.int .i64 (cAfter c l.length).i) (.int .i64 (cAfter c l.length).h) := by
  subst hb; exact p_l01PickInt ⟨h, hl, h1, h2⟩
end Go.Mw

namespace Go.Mw
@[simp] theorem P1_neaX {a c e g : Int} {b f : Bool} {k : V → Prop} : P1 (.eqa true [.i, .b, .i]) [.int .i64 a, .bool b, .int .i64 c, .int .i64 e, .bool f, .int .i64 g] k ↔ k (.bool (!decide (a = e ∧ b = f ∧ c = g))) := P1_of (by simp only [Prim.run, eqVs, eqV1, List.length_cons, List.length_nil, List.take, List.drop, if_true]; cases b <;> cases f <;> simp <;> grind) k
theorem pinsAt_le (c : Cyl) (a : Int) : (pinsAt c a).length ≤ c.p.length := by
  unfold pinsAt
  split
  · simpa using List.length_filter_le _ _
  · simp
theorem it_p (c : Cyl) (x : Stt) : ∀ k, (itS c x k).p = x.p + (itL c x k).length ∧ (itL c x k).length ≤ k * c.p.length
  | 0 => by simp [itS, itL]
  | k + 1 => by
    obtain ⟨h1, h2⟩ := it_p c x k
    have h3 := pinsAt_le c (itS c x k).a
    simp only [itS, itL, nextStt, List.length_append, h1, Nat.add_mul]
    omega
structure Small (c : Cyl) (x : Stt) : Prop where
  ok : sttOk c x = true
  len : c.p.length ≤ 9
  p : x.p ≤ 77
theorem Small.it {c : Cyl} {x : Stt} (h : Small c x) (hn : x.n = true) {k : Nat} (hk : k ≤ runN c x) : sttOk c (itS c x k) = true := by
  have h0 := (sttOk_iff c x).1 h.ok
  have hb := cylOk_bounds h0.1
  have h1 := it_p c x k
  have h77 := h.p
  have h2 : k * c.p.length ≤ 96 * 9 := Nat.mul_le_mul (by simp only [runN] at hk; omega) h.len
  rw [sttOk_iff]
  refine ⟨h0.1, ?_, by omega⟩
  by_cases e : k < runN c x
  · have := (itS_on h.ok hn k e).1
    simp only [runN] at e
    omega
  · obtain rfl : k = runN c x := by omega
    have := (itS_off h.ok hn).1
    omega
theorem Small.can {c : Cyl} {x : Stt} (h : Small c x) (hn : x.n = true) {k : Nat} (hk : k < runN c x) : canStep c (itS c x k) = true := by
  rw [canStep_iff]
  exact ⟨h.it hn (by omega), (itS_on h.ok hn k hk).2, h.it hn (k := k + 1) hk⟩
def runM (c : Cyl) (x : Stt) : Nat := if x.n then runN c x else 0
theorem Small.steps {c : Cyl} {x : Stt} (h : Small c x) : stepsLeft c x = runM c x := by
  have h0 := (sttOk_iff c x).1 h.ok
  unfold stepsLeft runM
  rw [if_pos h.ok]
  cases x.n
  · simp
  · simp only [if_true, runN]; omega
theorem Small.run {c : Cyl} {x : Stt} (h : Small c x) : runBox c x = (itS c x (runM c x), itL c x (runM c x)) := by
  unfold runBox runM
  cases hn : x.n with
  | false =>
    have : runOk c x = false := by simp [runOk, hn]
    simp [this, itS, itL]
  | true =>
    have : runOk c x = true := by
      simp only [runOk, h.ok, hn, Bool.true_and, List.all_eq_true, List.mem_range]
      intro k hk; exact h.can hn hk
    simp [this]
end Go.Mw

namespace Go.Mw
theorem Small.start {c : Cyl} {x : Stt} (h : Small c x) : Small c ⟨0, true, 0⟩ := by
  have h0 := (sttOk_iff c x).1 h.ok
  have hb := cylOk_bounds h0.1
  exact ⟨(sttOk_iff c _).2 ⟨h0.1, by dsimp only; omega, by dsimp only; omega⟩, h.len, by dsimp only; omega⟩
end Go.Mw

namespace Go.Mw
def atB (l : List UInt8) (n : Int) : Int := match l[((n * 5 + 1) % l.length).toNat]? with | some x => x.toNat | none => 0
def E_at : List UInt8 × Int → List V := fun (l, n) => [vL I1 vY l, .int .i64 n]
noncomputable def F_at : List V → Option (List V) := mkF E_at (fun (l, n) => l.length ≤ 1048576 ∧ 0 ≤ n ∧ n ≤ 1000000) (fun (l, n) => [.int .i64 (atB l n)])
theorem F_at_inj : ∀ x y, E_at x = E_at y → x = y := by
  rintro ⟨l, n⟩ ⟨l', n'⟩ h
  simpa [E_at] using h
theorem F_at_elim {P : List V → List V → Prop} (h : ∀ (l : List UInt8) (n : Int), (l.length ≤ 1048576 ∧ 0 ≤ n ∧ n ≤ 1000000) → P [vL I1 vY l, .int .i64 n] [.int .i64 (atB l n)]) : ∀ ds outs, F_at ds = some outs → P ds outs := by
  intro ds outs hh
  obtain ⟨⟨l, n⟩, rfl, hp, rfl⟩ := mkF_inv hh
  exact h l n hp
theorem p_at {l : List UInt8} {n : Int} {nr_ : Nat} {kk_ : V → Prop} (hp : l.length ≤ 1048576 ∧ 0 ≤ n ∧ n ≤ 1000000) : P1 (.call F_at 0 nr_) [vL I1 vY l, .int .i64 n] kk_ ↔ kk_ (.int .i64 (atB l n)) :=
  P1_callF (by unfold F_at; exact mkF_eq F_at_inj (l, n) hp)

def E_has : List Int × Int → List V := fun (l, n) => [vL I1 v1 l, .int .i64 n]
noncomputable def F_has : List V → Option (List V) := mkF E_has (fun (l, _) => l.length ≤ 1048576) (fun (l, n) => [.bool (decide (n ∈ l))])
theorem F_has_inj : ∀ x y, E_has x = E_has y → x = y := by
  rintro ⟨l, n⟩ ⟨l', n'⟩ h
  simpa [E_has] using h
theorem F_has_elim {P : List V → List V → Prop} (h : ∀ (l : List Int) (n : Int), (l.length ≤ 1048576) → P [vL I1 v1 l, .int .i64 n] [.bool (decide (n ∈ l))]) : ∀ ds outs, F_has ds = some outs → P ds outs := by
  intro ds outs hh
  obtain ⟨⟨l, n⟩, rfl, hp, rfl⟩ := mkF_inv hh
  exact h l n hp
theorem p_has {l : List Int} {n : Int} {nr_ : Nat} {kk_ : V → Prop} (hp : l.length ≤ 1048576) : P1 (.call F_has 0 nr_) [vL I1 v1 l, .int .i64 n] kk_ ↔ kk_ (.bool (decide (n ∈ l))) :=
  P1_callF (by unfold F_has; exact mkF_eq F_has_inj (l, n) hp)

end Go.Mw

namespace Go.Mw
noncomputable section
def laws_at_L : L := .seq (.rg []) (.seq (.seq (.rg [zl 0, zk .eql 2 0]) (.ite (.v 3) (.seq (.rg []) (.ret [.k (.int .i64 0)])) (.skip))) (.seq (.rg [zk .mul 1 5, zk .add 4 1, zl 0, zb .rem 5 6, zi 0 7, ⟨[], .conv .i64, [.v 8], 1⟩]) (.ret [.v 9])))
theorem laws_at_L_sh (Q : QT) (x0 x1 : V) : shL laws_at_L Q [x0, x1] = (
  P1 (.len) [x0] fun v0 =>
  P1 (.bin .eql) [v0, .int .i64 0] fun v1 =>
  ifB v1 (
    Q .ret [.int .i64 0]) (
    P1 (.bin .mul) [x1, .int .i64 5] fun v2 =>
    P1 (.bin .add) [v2, .int .i64 1] fun v3 =>
    P1 (.len) [x0] fun v4 =>
    P1 (.bin .rem) [v3, v4] fun v5 =>
    P1 (.idx [.sc]) [x0, v5] fun v6 =>
    P1 (.conv .i64) [v6] fun v7 =>
    Q .ret [v7])) := by kernel_rfl
def laws_at_S : Sig := ⟨[.val false [.sl [.sc]], .val false [.sc]], [(false, [.sc])], F_at⟩
def laws_at_hs : List NF := []

def laws_has_b0 : L := .seq (.seq (.seq (.rg [zl 0, zb .lss 2 3]) (.ite (.v 4) (.skip) (.seq (.tup []) (.exit 0)))) (.seq (.block 1 (.seq (.seq (.rg [zi 0 2, zb .eql 5 1]) (.ite (.v 6) (.seq (.rg []) (.ret [.k (.bool true)])) (.skip))) (zt [0, 1, 2]))) (.rg [zk .add 2 1]))) (zt [0, 1, 3])
theorem laws_has_b0_sh (Q : QT) (x0 x1 x2 : V) : shL laws_has_b0 Q [x0, x1, x2] = (
  P1 (.len) [x0] fun v0 =>
  P1 (.bin .lss) [x2, v0] fun v1 =>
  ifB v1 (
    P1 (.idx [.sc]) [x0, x2] fun v2 =>
    P1 (.bin .eql) [v2, x1] fun v3 =>
    ifB v3 (
      Q .ret [.bool true]) (
      P1 (.bin .add) [x2, .int .i64 1] fun v4 =>
      Q .normal [x0, x1, v4])) (
    Q (.exit 0) [])) := by kernel_rfl

def laws_has_r1 : L := .seq (.rg []) (.ret [.k (.bool false)])
theorem laws_has_r1_sh (Q : QT) : shL laws_has_r1 Q [] = (
  Q .ret [.bool false]) := by kernel_rfl

def laws_has_L : L := .seq (.rg []) (.seq (.seq (.rg []) (.block 0 (.seq (.tup [.v 0, .v 1, .k (.int .i64 0)]) (.loop (laws_has_b0))))) (laws_has_r1))
theorem laws_has_L_sh (Q : QT) (x0 x1 : V) : shL laws_has_L Q [x0, x1] = (
  shL (.loop laws_has_b0) (qB 0 (qS (shL laws_has_r1 Q) Q)) [x0, x1, .int .i64 0]) := by kernel_rfl
def laws_has_S : Sig := ⟨[.val false [.sl [.sc]], .val false [.sc]], [(false, [.sc])], F_has⟩
def laws_has_hs : List NF := [⟨[], [], [], 64⟩, ⟨[(0, zr), (1, zs), (5, zs)], [], [], 64⟩, ⟨[(0, zr), (1, zs), (5, zs)], [], [], 64⟩]

end
end Go.Mw

namespace Go.Mw
theorem laws_at_ok : ∀ ds outs, F_at ds = some outs → shL laws_at_L (qRet outs) ds := F_at_elim fun l n hp => by
  obtain ⟨h1, h2, h3⟩ := hp
  rw [laws_at_L_sh]
  have w1 : IntKind.i64.wrap (n * 5) = n * 5 := wrap_id (by omega) (by omega)
  have w2 : IntKind.i64.wrap (n * 5 + 1) = n * 5 + 1 := wrap_id (by omega) (by omega)
  by_cases h : l = []
  · subst h; simp [atB]
  · have hl : 0 < l.length := List.length_pos_iff.2 h
    have e : (n * 5 + 1).tmod l.length = (n * 5 + 1) % l.length := Int.tmod_eq_emod_of_nonneg (by omega)
    have r1 := Int.emod_nonneg (n * 5 + 1) (show (l.length : Int) ≠ 0 by omega)
    have r2 := Int.emod_lt_of_pos (n * 5 + 1) (show (0 : Int) < l.length by omega)
    have r3 : ((n * 5 + 1) % l.length).toNat < l.length := by omega
    have hw3 : IntKind.i64.wrap (l[((n * 5 + 1) % l.length).toNat].toNat : Int) = l[((n * 5 + 1) % l.length).toNat].toNat := by have := l[((n * 5 + 1) % l.length).toNat].toNat_lt; exact wrap_id (by omega) (by omega)
    have h0 : ¬ ((l.length : Int) = 0) := by omega
    simp [w1, w2, h, e, r1, r3, hw3, atB]
theorem laws_has_ok : ∀ ds outs, F_has ds = some outs → shL laws_has_L (qRet outs) ds := F_has_elim fun l n hp => by
  rw [laws_has_L_sh]
  refine loop_upto l.length (fun k => [vL I1 v1 l, .int .i64 n, .int .i64 k]) (by intro i j _ _ h; simp at h; omega) (fun k => n ∉ l.take k) (by simp) (by simp) ?_
  intro k hk hP
  rw [laws_has_b0_sh]
  simp
  refine ⟨fun h => ?_, fun h => ?_⟩
  · have hw : IntKind.i64.wrap ((k : Int) + 1) = k + 1 := wrap_id (by omega) (by omega)
    simp [h, hw]
    refine ⟨fun e => by rw [← e]; exact List.getElem_mem h, fun e => ?_⟩
    rw [take_succ_get h]
    simp only [List.mem_append, List.mem_singleton, not_or]
    exact ⟨hP, fun h => e h.symm⟩
  · obtain rfl : k = l.length := by omega
    rw [List.take_length] at hP
    simp [laws_has_r1_sh, hP]
end Go.Mw

namespace Go.Mw
structure Word (w : List Int) : Prop where
  lo : 2 ≤ w.length
  hi : w.length ≤ 21
  dig : ∀ x ∈ w, 0 ≤ x ∧ x ≤ 9
theorem Word.are {w : List Int} (h : Word w) : areDigits w 2 21 = true := by
  rw [areDigits_iff]
  have h1 := h.lo; have h2 := h.hi
  exact ⟨within_iff'.2 (by omega), fun x hx => within_iff'.2 (h.dig x hx)⟩
end Go.Mw

namespace Go.Mw
end Go.Mw

namespace Go.Mw
def cmpPins (x y : T2) : Int := if pinLess x y then -1 else if x = y then 0 else 1
def sortPins (l : List T2) : List T2 := l.mergeSort fun x y => !pinLess y x
def E_slices_SortFunc_Limpl_Pin_impl_Pin (l : List T2) : List V := [vL I2 v2 l]
noncomputable def F_slices_SortFunc_Limpl_Pin_impl_Pin : List V → Option (List V) := mkF E_slices_SortFunc_Limpl_Pin_impl_Pin (fun l => l.length ≤ 1048576) (fun l => [vL I2 v2 (sortPins l)])
theorem F_slices_SortFunc_Limpl_Pin_impl_Pin_inj : ∀ x y, E_slices_SortFunc_Limpl_Pin_impl_Pin x = E_slices_SortFunc_Limpl_Pin_impl_Pin y → x = y := by
  rintro l l' h
  simpa [E_slices_SortFunc_Limpl_Pin_impl_Pin] using h
theorem p_slices_SortFunc_Limpl_Pin_impl_Pin {l : List T2} {kk_ : V → Prop} (hp : l.length ≤ 1048576) : P1 (.call F_slices_SortFunc_Limpl_Pin_impl_Pin 1 0) [vL I2 v2 l, vL I2 v2 l] kk_ ↔ kk_ (vL I2 v2 (sortPins l)) :=
  P1_of (callIo_run (as := [vL I2 v2 l]) (rs := [vL I2 v2 l]) (n := 1) (nr := 0) rfl (by simp) (by unfold F_slices_SortFunc_Limpl_Pin_impl_Pin; exact mkF_eq F_slices_SortFunc_Limpl_Pin_impl_Pin_inj (l) hp) (by simp [ksAll, vL, AK.eqs_refl]) rfl) kk_

def E_sortedPins (l : List T2) : List V := [vL I2 v2 l]
noncomputable def F_sortedPins : List V → Option (List V) := mkF E_sortedPins (fun l => l.length ≤ 1048576) (fun l => [vL I2 v2 (sortPins l)])
theorem F_sortedPins_inj : ∀ x y, E_sortedPins x = E_sortedPins y → x = y := by
  rintro l l' h
  simpa [E_sortedPins] using h
theorem F_sortedPins_elim {P : List V → List V → Prop} (h : ∀ (l : List T2), (l.length ≤ 1048576) → P [vL I2 v2 l] [vL I2 v2 (sortPins l)]) : ∀ ds outs, F_sortedPins ds = some outs → P ds outs := by
  intro ds outs hh
  obtain ⟨l, rfl, hp, rfl⟩ := mkF_inv hh
  exact h l hp
theorem p_sortedPins {l : List T2} {nr_ : Nat} {kk_ : V → Prop} (hp : l.length ≤ 1048576) : P1 (.call F_sortedPins 0 nr_) [vL I2 v2 l] kk_ ↔ kk_ (vL I2 v2 (sortPins l)) :=
  P1_callF (by unfold F_sortedPins; exact mkF_eq F_sortedPins_inj (l) hp)

def addOk (c : Cyl) (p : T2) : Bool := cylOk c && (!decide (p ∈ c.p) && cylOk ⟨c.s, c.t, putPin c.p p⟩)
def addTo (c : Cyl) (p : T2) : Cyl := if addOk c p then ⟨c.s, c.t, putPin c.p p⟩ else c
def E_AddPin : Cyl × T2 → List V := fun (x, y) => [.int .i64 x.s, .int .i64 x.t, vL I2 v2 x.p, .int .i64 y.a, .int .i64 y.b]
noncomputable def F_AddPin : List V → Option (List V) := mkF E_AddPin (fun (x, _) => x.p.length ≤ 1048576) (fun (x, y) => [.int .i64 (addTo x y).s, .int .i64 (addTo x y).t, vL I2 v2 (addTo x y).p, .bool (addOk x y)])
theorem F_AddPin_inj : ∀ x y, E_AddPin x = E_AddPin y → x = y := by
  rintro ⟨⟨xs, xt, xp⟩, ⟨ya, yb⟩⟩ ⟨⟨xs', xt', xp'⟩, ⟨ya', yb'⟩⟩ h
  simpa [E_AddPin, and_assoc] using h
theorem F_AddPin_elim {P : List V → List V → Prop} (h : ∀ (x : Cyl) (y : T2), (x.p.length ≤ 1048576) → P [.int .i64 x.s, .int .i64 x.t, vL I2 v2 x.p, .int .i64 y.a, .int .i64 y.b] [.int .i64 (addTo x y).s, .int .i64 (addTo x y).t, vL I2 v2 (addTo x y).p, .bool (addOk x y)]) : ∀ ds outs, F_AddPin ds = some outs → P ds outs := by
  intro ds outs hh
  obtain ⟨⟨x, y⟩, rfl, hp, rfl⟩ := mkF_inv hh
  exact h x y hp
theorem p_AddPin {x_s : Int} {x_t : Int} {x_p : List T2} {y_a : Int} {y_b : Int} {nr_ : Nat} {kk_ : V → V → V → V → Prop} (hp : (⟨x_s, x_t, x_p⟩ : Cyl).p.length ≤ 1048576) : P4 (.call F_AddPin 0 nr_) [.int .i64 x_s, .int .i64 x_t, vL I2 v2 x_p, .int .i64 y_a, .int .i64 y_b] kk_ ↔ kk_ (.int .i64 (addTo (⟨x_s, x_t, x_p⟩ : Cyl) (⟨y_a, y_b⟩ : T2)).s) (.int .i64 (addTo (⟨x_s, x_t, x_p⟩ : Cyl) (⟨y_a, y_b⟩ : T2)).t) (vL I2 v2 (addTo (⟨x_s, x_t, x_p⟩ : Cyl) (⟨y_a, y_b⟩ : T2)).p) (.bool (addOk (⟨x_s, x_t, x_p⟩ : Cyl) (⟨y_a, y_b⟩ : T2))) :=
  P4_callF (by unfold F_AddPin; exact mkF_eq F_AddPin_inj ((⟨x_s, x_t, x_p⟩ : Cyl), (⟨y_a, y_b⟩ : T2)) hp)

def setPin (b : Bench) (p : T2) : Bench := stepTo b (addTo b.cyl p) (addOk b.cyl p)
def E_SetPin : Bench × T2 → List V := fun (x, y) => [.int .i64 x.s, .int .i64 x.t, vL I2 v2 x.p, vL IL2 vLL2 x.o, .int .i64 y.a, .int .i64 y.b]
noncomputable def F_SetPin : List V → Option (List V) := mkF E_SetPin (fun (x, _) => x.p.length ≤ 1048576 ∧ fitLL x.o) (fun (x, y) => [.int .i64 (setPin x y).s, .int .i64 (setPin x y).t, vL I2 v2 (setPin x y).p, vL IL2 vLL2 (setPin x y).o, .bool (addOk x.cyl y && stepOk x (addTo x.cyl y))])
theorem F_SetPin_inj : ∀ x y, E_SetPin x = E_SetPin y → x = y := by
  rintro ⟨⟨xs, xt, xp, xo⟩, ⟨ya, yb⟩⟩ ⟨⟨xs', xt', xp', xo'⟩, ⟨ya', yb'⟩⟩ h
  simpa [E_SetPin, and_assoc] using h
theorem F_SetPin_elim {P : List V → List V → Prop} (h : ∀ (x : Bench) (y : T2), (x.p.length ≤ 1048576 ∧ fitLL x.o) → P [.int .i64 x.s, .int .i64 x.t, vL I2 v2 x.p, vL IL2 vLL2 x.o, .int .i64 y.a, .int .i64 y.b] [.int .i64 (setPin x y).s, .int .i64 (setPin x y).t, vL I2 v2 (setPin x y).p, vL IL2 vLL2 (setPin x y).o, .bool (addOk x.cyl y && stepOk x (addTo x.cyl y))]) : ∀ ds outs, F_SetPin ds = some outs → P ds outs := by
  intro ds outs hh
  obtain ⟨⟨x, y⟩, rfl, hp, rfl⟩ := mkF_inv hh
  exact h x y hp
theorem p_SetPin {x_s : Int} {x_t : Int} {x_p : List T2} {x_o : List (List T2)} {y_a : Int} {y_b : Int} {nr_ : Nat} {kk_ : V → V → V → V → V → Prop} (hp : (⟨x_s, x_t, x_p, x_o⟩ : Bench).p.length ≤ 1048576 ∧ fitLL (⟨x_s, x_t, x_p, x_o⟩ : Bench).o) : P5 (.call F_SetPin 0 nr_) [.int .i64 x_s, .int .i64 x_t, vL I2 v2 x_p, vL IL2 vLL2 x_o, .int .i64 y_a, .int .i64 y_b] kk_ ↔ kk_ (.int .i64 (setPin (⟨x_s, x_t, x_p, x_o⟩ : Bench) (⟨y_a, y_b⟩ : T2)).s) (.int .i64 (setPin (⟨x_s, x_t, x_p, x_o⟩ : Bench) (⟨y_a, y_b⟩ : T2)).t) (vL I2 v2 (setPin (⟨x_s, x_t, x_p, x_o⟩ : Bench) (⟨y_a, y_b⟩ : T2)).p) (vL IL2 vLL2 (setPin (⟨x_s, x_t, x_p, x_o⟩ : Bench) (⟨y_a, y_b⟩ : T2)).o) (.bool (addOk (⟨x_s, x_t, x_p, x_o⟩ : Bench).cyl (⟨y_a, y_b⟩ : T2) && stepOk (⟨x_s, x_t, x_p, x_o⟩ : Bench) (addTo (⟨x_s, x_t, x_p, x_o⟩ : Bench).cyl (⟨y_a, y_b⟩ : T2)))) :=
  P5_callF (by unfold F_SetPin; exact mkF_eq F_SetPin_inj ((⟨x_s, x_t, x_p, x_o⟩ : Bench), (⟨y_a, y_b⟩ : T2)) hp)

end Go.Mw

namespace Go.Mw
noncomputable section
def spec_AddPin_L : L := .seq (.rg []) (.seq (.rg [zc F_l06Copy 3 [0, 1, 2]]) (.seq (.seq (.rg [zc F_CylinderOk 1 [0, 1, 2], zn 8]) (.ite (.v 9) (.seq (.rg []) (.ret [.v 5, .v 6, .v 7, .k (.bool false)])) (.skip))) (.seq (.rg [zc F_l06Put 2 [2, 3, 4]]) (.seq (.rg []) (.seq (.seq (.rg [zn 11, ⟨[(.v 12, false)], .call F_CylinderOk 0 1, [.v 5, .v 6, .v 10], 1⟩, ⟨[(.v 12, false)], .un .not, [.v 13], 1⟩, ⟨[], .pick, [.v 12, .k (.bool true), .v 14], 1⟩]) (.ite (.v 15) (.seq (.rg [zc F_l06Copy 3 [0, 1, 2]]) (.ret [.v 16, .v 17, .v 18, .k (.bool false)])) (.skip))) (.seq (.rg []) (.ret [.v 5, .v 6, .v 10, .k (.bool true)])))))))
theorem spec_AddPin_L_sh (Q : QT) (x0 x1 x2 x3 x4 : V) : shL spec_AddPin_L Q [x0, x1, x2, x3, x4] = (
  P3 (.call F_l06Copy 0 3) [x0, x1, x2] fun v0 v1 v2 =>
  P1 (.call F_CylinderOk 0 1) [x0, x1, x2] fun v3 =>
  P1 (.un .not) [v3] fun v4 =>
  ifB v4 (
    Q .ret [v0, v1, v2, .bool false]) (
    P2 (.call F_l06Put 0 2) [x2, x3, x4] fun v5 v6 =>
    P1 (.un .not) [v6] fun v7 =>
    ifB v7 (
      P3 (.call F_l06Copy 0 3) [x0, x1, x2] fun v8 v9 v10 =>
      Q .ret [v8, v9, v10, .bool false]) (
      P1 (.call F_CylinderOk 0 1) [v0, v1, v5] fun v11 =>
      P1 (.un .not) [v11] fun v12 =>
      ifB v12 (
        P3 (.call F_l06Copy 0 3) [x0, x1, x2] fun v13 v14 v15 =>
        Q .ret [v13, v14, v15, .bool false]) (
        Q .ret [v0, v1, v5, .bool true])))) := by kernel_rfl
def spec_AddPin_S : Sig := ⟨[.val true [.sc, .sc, .sl [.sc, .sc]], .val true [.sc, .sc]], [(true, [.sc, .sc, .sl [.sc, .sc]]), (false, [.sc])], F_AddPin⟩
def spec_AddPin_hs : List NF := []

def spec_SetPin_L : L := .seq (.rg []) (.seq (.rg [zc F_AddPin 4 [0, 1, 2, 4, 5]]) (.seq (.seq (.rg [zn 9]) (.ite (.v 10) (.seq (.rg [zc F_l37Copy 4 [0, 1, 2, 3]]) (.ret [.v 11, .v 12, .v 13, .v 14, .k (.bool false)])) (.skip))) (.seq (.rg [zc F_l37Step 5 [0, 1, 2, 3, 6, 7, 8]]) (.seq (.rg []) (.ret [.v 11, .v 12, .v 13, .v 14, .v 15])))))
theorem spec_SetPin_L_sh (Q : QT) (x0 x1 x2 x3 x4 x5 : V) : shL spec_SetPin_L Q [x0, x1, x2, x3, x4, x5] = (
  P4 (.call F_AddPin 0 4) [x0, x1, x2, x4, x5] fun v0 v1 v2 v3 =>
  P1 (.un .not) [v3] fun v4 =>
  ifB v4 (
    P4 (.call F_l37Copy 0 4) [x0, x1, x2, x3] fun v5 v6 v7 v8 =>
    Q .ret [v5, v6, v7, v8, .bool false]) (
    P5 (.call F_l37Step 0 5) [x0, x1, x2, x3, v0, v1, v2] fun v9 v10 v11 v12 v13 =>
    Q .ret [v9, v10, v11, v12, v13])) := by kernel_rfl
def spec_SetPin_S : Sig := ⟨[.val true [.sc, .sc, .sl [.sc, .sc], .sl [.sl [.sc, .sc]]], .val true [.sc, .sc]], [(true, [.sc, .sc, .sl [.sc, .sc], .sl [.sl [.sc, .sc]]]), (false, [.sc])], F_SetPin⟩
def spec_SetPin_hs : List NF := []

def impl_sortedPins_L : L := .seq (.rg []) (.seq (.rg [zc F_copyPins 1 [0]]) (.seq (.rg [⟨[], .call F_slices_SortFunc_Limpl_Pin_impl_Pin 1 0, [.v 1, .v 1], 1⟩]) (.seq (.rg []) (.ret [.v 2]))))
theorem impl_sortedPins_L_sh (Q : QT) (x0 : V) : shL impl_sortedPins_L Q [x0] = (
  P1 (.call F_copyPins 0 1) [x0] fun v0 =>
  P1 (.call F_slices_SortFunc_Limpl_Pin_impl_Pin 1 0) [v0, v0] fun v1 =>
  Q .ret [v1]) := by kernel_rfl
def impl_sortedPins_S : Sig := ⟨[.val false [.sl [.sc, .sc]]], [(false, [.sl [.sc, .sc]])], F_sortedPins⟩
def impl_sortedPins_hs : List NF := []

def impl_AddPin_L : L := .seq (.rg []) (.seq (.seq (.rg [zc F_CylinderOk 1 [0, 1, 2], zn 5, ⟨[(.v 6, false)], .call F_hasPin 0 1, [.v 2, .v 3, .v 4], 1⟩, ⟨[], .pick, [.v 6, .k (.bool true), .v 7], 1⟩]) (.ite (.v 8) (.seq (.rg [zc F_copyCylinder 3 [0, 1, 2]]) (.ret [.v 9, .v 10, .v 11, .k (.bool false)])) (.skip))) (.seq (.rg [zc F_copyCylinder 3 [0, 1, 2]]) (.seq (.rg [⟨[], .lst [.sc, .sc] true 1, [.v 3, .v 4], 1⟩, ⟨[], .app [.sc, .sc] 16, [.v 11, .v 12], 1⟩, zc F_sortedPins 1 [13]]) (.seq (.seq (.rg [zc F_CylinderOk 1 [9, 10, 14], zn 15]) (.ite (.v 16) (.seq (.rg [zc F_copyCylinder 3 [0, 1, 2]]) (.ret [.v 17, .v 18, .v 19, .k (.bool false)])) (.skip))) (.seq (.rg []) (.ret [.v 9, .v 10, .v 14, .k (.bool true)]))))))
theorem impl_AddPin_L_sh (Q : QT) (x0 x1 x2 x3 x4 : V) : shL impl_AddPin_L Q [x0, x1, x2, x3, x4] = (
  P1 (.call F_CylinderOk 0 1) [x0, x1, x2] fun v0 =>
  P1 (.un .not) [v0] fun v1 =>
  ifB v1 (
    P3 (.call F_copyCylinder 0 3) [x0, x1, x2] fun v2 v3 v4 =>
    Q .ret [v2, v3, v4, .bool false]) (
    P1 (.call F_hasPin 0 1) [x2, x3, x4] fun v5 =>
    ifB v5 (
      P3 (.call F_copyCylinder 0 3) [x0, x1, x2] fun v6 v7 v8 =>
      Q .ret [v6, v7, v8, .bool false]) (
      P3 (.call F_copyCylinder 0 3) [x0, x1, x2] fun v9 v10 v11 =>
      P1 (.lst [.sc, .sc] true 1) [x3, x4] fun v12 =>
      P1 (.app [.sc, .sc] 16) [v11, v12] fun v13 =>
      P1 (.call F_sortedPins 0 1) [v13] fun v14 =>
      P1 (.call F_CylinderOk 0 1) [v9, v10, v14] fun v15 =>
      P1 (.un .not) [v15] fun v16 =>
      ifB v16 (
        P3 (.call F_copyCylinder 0 3) [x0, x1, x2] fun v17 v18 v19 =>
        Q .ret [v17, v18, v19, .bool false]) (
        Q .ret [v9, v10, v14, .bool true])))) := by kernel_rfl
def impl_AddPin_S : Sig := ⟨[.val true [.sc, .sc, .sl [.sc, .sc]], .val true [.sc, .sc]], [(true, [.sc, .sc, .sl [.sc, .sc]]), (false, [.sc])], F_AddPin⟩
def impl_AddPin_hs : List NF := []

def impl_SetPin_L : L := .seq (.rg []) (.seq (.rg [zc F_AddPin 4 [0, 1, 2, 4, 5]]) (.seq (.rg [zc F_replaced 5 [0, 1, 2, 3, 6, 7, 8, 9]]) (.ret [.v 10, .v 11, .v 12, .v 13, .v 14])))
theorem impl_SetPin_L_sh (Q : QT) (x0 x1 x2 x3 x4 x5 : V) : shL impl_SetPin_L Q [x0, x1, x2, x3, x4, x5] = (
  P4 (.call F_AddPin 0 4) [x0, x1, x2, x4, x5] fun v0 v1 v2 v3 =>
  P5 (.call F_replaced 0 5) [x0, x1, x2, x3, v0, v1, v2, v3] fun v4 v5 v6 v7 v8 =>
  Q .ret [v4, v5, v6, v7, v8]) := by kernel_rfl
def impl_SetPin_S : Sig := ⟨[.val true [.sc, .sc, .sl [.sc, .sc], .sl [.sl [.sc, .sc]]], .val true [.sc, .sc]], [(true, [.sc, .sc, .sl [.sc, .sc], .sl [.sl [.sc, .sc]]]), (false, [.sc])], F_SetPin⟩
def impl_SetPin_hs : List NF := []

end
end Go.Mw

namespace Go.Mw
def leP (x y : T2) : Bool := !pinLess y x
theorem leP_iff {x y : T2} : leP x y = true ↔ x.b < y.b ∨ x.b = y.b ∧ x.a ≤ y.a := by
  simp only [leP, pinLess, Bool.not_eq_true', decide_eq_false_iff_not]; omega
theorem leP_trans (x y z : T2) (h1 : leP x y = true) (h2 : leP y z = true) : leP x z = true := by
  rw [leP_iff] at *; omega
theorem leP_total (x y : T2) : (leP x y || leP y x) = true := by
  rw [Bool.or_eq_true, leP_iff, leP_iff]; omega
theorem leP_anti {x y : T2} (h1 : leP x y = true) (h2 : leP y x = true) : x = y := by
  cases x; cases y
  rw [leP_iff] at *
  simp only [T2.mk.injEq] at *
  omega
theorem perm_one : ∀ {l m : List T2}, l.Pairwise (fun x y => leP x y = true) → m.Pairwise (fun x y => leP x y = true) → l.Perm m → l = m
  | [], m, _, _, h => by simpa using h.symm.eq_nil
  | a :: r, [], _, _, h => by simpa using h.eq_nil
  | a :: r, b :: s, h1, h2, h => by
    have hab : a = b := by
      have ha : a ∈ b :: s := h.subset (by simp)
      have hb : b ∈ a :: r := h.symm.subset (by simp)
      rcases List.mem_cons.1 ha with e | ha
      · exact e
      · rcases List.mem_cons.1 hb with e | hb
        · exact e.symm
        · exact leP_anti (List.rel_of_pairwise_cons h1 hb) (List.rel_of_pairwise_cons h2 ha)
    subst hab
    rw [perm_one h1.of_cons h2.of_cons (List.Perm.cons_inv h)]
theorem pinLess_trans {a b c : T2} (h1 : pinLess a b = true) (h2 : pinLess b c = true) : pinLess a c = true := by
  simp only [pinLess, decide_eq_true_eq] at *; omega
theorem pinLess_irrefl (a : T2) : pinLess a a = false := by simp [pinLess]
theorem rising_less {a : T2} : ∀ {l : List T2}, rising (a :: l) = true → ∀ b ∈ l, pinLess a b = true
  | [], _, b, hb => by simp at hb
  | c :: r, h, b, hb => by
    have h1 := rising_cons.1 h
    have h2 : pinLess a c = true := h1.1 c rfl
    rcases List.mem_cons.1 hb with rfl | hb
    · exact h2
    · exact pinLess_trans h2 (rising_less h1.2 b hb)
theorem rising_sorted : ∀ {l : List T2}, rising l = true → l.Pairwise (fun x y => leP x y = true)
  | [], _ => .nil
  | a :: r, h => by
    refine .cons (fun b hb => ?_) (rising_sorted (rising_cons.1 h).2)
    have := rising_less h b hb
    rw [leP_iff]; simp only [pinLess, decide_eq_true_eq] at this; omega
theorem putPin_perm : ∀ {l : List T2} {y : T2}, y ∉ l → (putPin l y).Perm (l ++ [y])
  | [], y, _ => by simp [putPin]
  | a :: r, y, h => by
    simp only [List.mem_cons, not_or] at h
    unfold putPin
    split
    · exact .cons _ (putPin_perm h.2)
    · rw [if_neg (fun e => h.1 e.symm)]
      exact (List.perm_append_singleton y (a :: r)).symm
theorem sort_put {l : List T2} {y : T2} (h : rising l = true) (hy : y ∉ l) : sortPins (l ++ [y]) = putPin l y := by
  refine perm_one ?_ (rising_sorted (putPin_rising h)) ((List.mergeSort_perm _ _).trans (putPin_perm hy).symm)
  exact List.pairwise_mergeSort leP_trans leP_total _
theorem putNew_iff : ∀ {l : List T2} {y : T2}, rising l = true → putNew l y = !decide (y ∈ l)
  | [], y, _ => by simp [putNew]
  | a :: r, y, h => by
    have h1 := rising_cons.1 h
    unfold putNew
    by_cases h2 : pinLess a y = true
    · rw [if_pos h2, putNew_iff h1.2]
      have : y ≠ a := by rintro rfl; rw [pinLess_irrefl] at h2; cases h2
      simp [this]
    · rw [if_neg h2]
      by_cases h3 : a = y
      · simp [h3]
      · have h4 : y ∉ r := fun hr => h2 (rising_less h y hr)
        have h5 : ¬ y = a := fun e => h3 e.symm
        simp [h3, h4, h5]
theorem cylOk_rising {c : Cyl} (h : cylOk c = true) : rising c.p = true := by
  simp only [cylOk, Bool.and_eq_true] at h; exact h.2.2

theorem impl_sortedPins_ok : ∀ ds outs, F_sortedPins ds = some outs → shL impl_sortedPins_L (qRet outs) ds := F_sortedPins_elim fun l hp => by
  rw [impl_sortedPins_L_sh, p_copyPins (by omega), p_slices_SortFunc_Limpl_Pin_impl_Pin hp]
  simp
theorem spec_AddPin_ok : ∀ ds outs, F_AddPin ds = some outs → shL spec_AddPin_L (qRet outs) ds := F_AddPin_elim fun x y hp => by
  have hp4 : x.p.length ≤ 4194304 := by omega
  rw [spec_AddPin_L_sh, p_l06Copy (x_p := x.p) hp4]
  simp only [p_CylinderOk (x_p := x.p) hp, Cyl.eta, p_l06Copy (x_p := x.p) hp4]
  cases h : cylOk x with
  | false => simp [h, addTo, addOk]
  | true =>
    have hl := (cylOk_bounds h).2.2
    have h1 := putPin_len x.p y
    rw [P1_not, p_l06Put hp, putNew_iff (cylOk_rising h)]
    simp only [p_CylinderOk (x_p := putPin x.p y) (show _ ≤ 1048576 by show (putPin x.p y).length ≤ _; omega)]
    by_cases h2 : y ∈ x.p
    · simp [h, h2, addTo, addOk]
    · cases h3 : cylOk ⟨x.s, x.t, putPin x.p y⟩ <;> simp [h, h2, h3, addTo, addOk]
theorem impl_AddPin_ok : ∀ ds outs, F_AddPin ds = some outs → shL impl_AddPin_L (qRet outs) ds := F_AddPin_elim fun x y hp => by
  have hp4 : x.p.length ≤ 4194304 := by omega
  rw [impl_AddPin_L_sh]
  simp only [p_CylinderOk (x_p := x.p) hp, Cyl.eta, p_copyCylinder (x_p := x.p) hp4, p_hasPin hp]
  cases h : cylOk x with
  | false => simp [h, addTo, addOk]
  | true =>
    have hl := (cylOk_bounds h).2.2
    have h1 := putPin_len x.p y
    by_cases h2 : y ∈ x.p
    · simp [h, h2, addTo, addOk]
    · have e := sort_put (cylOk_rising h) h2
      have h5 : (x.p ++ [y]).length ≤ 1048576 := by simp; omega
      have h6 : (x.p.length + 1) * 16 ≤ 140737488355328 ∧ x.p.length ≤ 140737488355327 := by omega
      have h7 := fun (nr_ : Nat) (kk_ : V → Prop) => p_sortedPins (nr_ := nr_) (kk_ := kk_) h5
      rw [e] at h7
      simp [h2, h6, h7]
      rw [p_CylinderOk (x_p := putPin x.p y) (show _ ≤ 1048576 by show (putPin x.p y).length ≤ _; omega)]
      cases h3 : cylOk ⟨x.s, x.t, putPin x.p y⟩ <;> simp [h, h2, h3, addTo, addOk]
theorem addTo_len {c : Cyl} {p : T2} (h : c.p.length ≤ 1048576) : (addTo c p).p.length ≤ 1048576 := by
  unfold addTo
  cases h2 : addOk c p with
  | false => simpa using h
  | true =>
    simp only [addOk, Bool.and_eq_true] at h2
    have := (cylOk_bounds h2.2.2).2.2
    simp only [if_true]
    dsimp only at this ⊢
    omega
theorem spec_SetPin_ok : ∀ ds outs, F_SetPin ds = some outs → shL spec_SetPin_L (qRet outs) ds := F_SetPin_elim fun x y hp => by
  rw [spec_SetPin_L_sh, p_AddPin (x_p := x.p) hp.1]
  have e0 : (⟨x.s, x.t, x.p⟩ : Cyl) = x.cyl := rfl
  have e1 : (⟨x.s, x.t, x.p, x.o⟩ : Bench) = x := rfl
  have e2 : (⟨y.a, y.b⟩ : T2) = y := rfl
  have hl := addTo_len (p := y) (show x.cyl.p.length ≤ 1048576 from hp.1)
  simp only [e0, e2]
  cases h : addOk x.cyl y with
  | false =>
    simp only [p_l37Copy (x_p := x.p) (x_o := x.o) hp]
    simp [setPin, stepTo, h]
  | true =>
    unfold setPin
    rw [h]
    generalize addTo x.cyl y = c at *
    simp only [p_l37Step (x_p := x.p) (x_o := x.o) (y_p := c.p) ⟨hp.1, hp.2, hl⟩]
    simp
theorem impl_SetPin_ok : ∀ ds outs, F_SetPin ds = some outs → shL impl_SetPin_L (qRet outs) ds := F_SetPin_elim fun x y hp => by
  rw [impl_SetPin_L_sh, p_AddPin (x_p := x.p) hp.1]
  have e0 : (⟨x.s, x.t, x.p⟩ : Cyl) = x.cyl := rfl
  have e2 : (⟨y.a, y.b⟩ : T2) = y := rfl
  have hl := addTo_len (p := y) (show x.cyl.p.length ≤ 1048576 from hp.1)
  simp only [e0, e2]
  unfold setPin
  generalize addTo x.cyl y = c at *
  rw [p_replaced (x_p := x.p) (x_o := x.o) (y_p := c.p) ⟨hp.1, hp.2, hl⟩]
  simp
theorem setPin_small {b : Bench} {p : T2} (h : bSmall b) : bSmall (setPin b p) := stepTo_small h
end Go.Mw

namespace Go.Mw
def canSet (b : Bench) (p : T2) : Bool := addOk b.cyl p && stepOk b (addTo b.cyl p)
def E_PutPin : Shop × Int × Int → List V := fun (x, t, a) => [.int .i64 x.s, .int .i64 x.t, vL I2 v2 x.p, vL IL2 vLL2 x.o, vL I1 v1 x.c, .int .i64 x.u, .int .i64 x.m, .int .i64 x.f, .int .i64 x.y, .int .i64 x.d, .int .i64 t, .int .i64 a]
noncomputable def F_PutPin : List V → Option (List V) := mkF E_PutPin (fun (x, _, _) => x.p.length ≤ 1048576 ∧ fitLL x.o ∧ x.c.length ≤ 1048576) (fun (x, t, a) => [.int .i64 (withBench x (setPin x.bench ⟨t, a⟩) 1 (canSet x.bench ⟨t, a⟩)).s, .int .i64 (withBench x (setPin x.bench ⟨t, a⟩) 1 (canSet x.bench ⟨t, a⟩)).t, vL I2 v2 (withBench x (setPin x.bench ⟨t, a⟩) 1 (canSet x.bench ⟨t, a⟩)).p, vL IL2 vLL2 (withBench x (setPin x.bench ⟨t, a⟩) 1 (canSet x.bench ⟨t, a⟩)).o, vL I1 v1 (withBench x (setPin x.bench ⟨t, a⟩) 1 (canSet x.bench ⟨t, a⟩)).c, .int .i64 (withBench x (setPin x.bench ⟨t, a⟩) 1 (canSet x.bench ⟨t, a⟩)).u, .int .i64 (withBench x (setPin x.bench ⟨t, a⟩) 1 (canSet x.bench ⟨t, a⟩)).m, .int .i64 (withBench x (setPin x.bench ⟨t, a⟩) 1 (canSet x.bench ⟨t, a⟩)).f, .int .i64 (withBench x (setPin x.bench ⟨t, a⟩) 1 (canSet x.bench ⟨t, a⟩)).y, .int .i64 (withBench x (setPin x.bench ⟨t, a⟩) 1 (canSet x.bench ⟨t, a⟩)).d, .bool (benchFits x (setPin x.bench ⟨t, a⟩) 1 (canSet x.bench ⟨t, a⟩))])
theorem F_PutPin_inj : ∀ x y, E_PutPin x = E_PutPin y → x = y := by
  rintro ⟨⟨xs, xt, xp, xo, xc, xu, xm, xf, xy, xd⟩, t, a⟩ ⟨⟨xs', xt', xp', xo', xc', xu', xm', xf', xy', xd'⟩, t', a'⟩ h
  simpa [E_PutPin, and_assoc] using h
theorem F_PutPin_elim {P : List V → List V → Prop} (h : ∀ (x : Shop) (t : Int) (a : Int), (x.p.length ≤ 1048576 ∧ fitLL x.o ∧ x.c.length ≤ 1048576) → P [.int .i64 x.s, .int .i64 x.t, vL I2 v2 x.p, vL IL2 vLL2 x.o, vL I1 v1 x.c, .int .i64 x.u, .int .i64 x.m, .int .i64 x.f, .int .i64 x.y, .int .i64 x.d, .int .i64 t, .int .i64 a] [.int .i64 (withBench x (setPin x.bench ⟨t, a⟩) 1 (canSet x.bench ⟨t, a⟩)).s, .int .i64 (withBench x (setPin x.bench ⟨t, a⟩) 1 (canSet x.bench ⟨t, a⟩)).t, vL I2 v2 (withBench x (setPin x.bench ⟨t, a⟩) 1 (canSet x.bench ⟨t, a⟩)).p, vL IL2 vLL2 (withBench x (setPin x.bench ⟨t, a⟩) 1 (canSet x.bench ⟨t, a⟩)).o, vL I1 v1 (withBench x (setPin x.bench ⟨t, a⟩) 1 (canSet x.bench ⟨t, a⟩)).c, .int .i64 (withBench x (setPin x.bench ⟨t, a⟩) 1 (canSet x.bench ⟨t, a⟩)).u, .int .i64 (withBench x (setPin x.bench ⟨t, a⟩) 1 (canSet x.bench ⟨t, a⟩)).m, .int .i64 (withBench x (setPin x.bench ⟨t, a⟩) 1 (canSet x.bench ⟨t, a⟩)).f, .int .i64 (withBench x (setPin x.bench ⟨t, a⟩) 1 (canSet x.bench ⟨t, a⟩)).y, .int .i64 (withBench x (setPin x.bench ⟨t, a⟩) 1 (canSet x.bench ⟨t, a⟩)).d, .bool (benchFits x (setPin x.bench ⟨t, a⟩) 1 (canSet x.bench ⟨t, a⟩))]) : ∀ ds outs, F_PutPin ds = some outs → P ds outs := by
  intro ds outs hh
  obtain ⟨⟨x, t, a⟩, rfl, hp, rfl⟩ := mkF_inv hh
  exact h x t a hp
theorem p_PutPin {x_s : Int} {x_t : Int} {x_p : List T2} {x_o : List (List T2)} {x_c : List Int} {x_u : Int} {x_m : Int} {x_f : Int} {x_y : Int} {x_d : Int} {t : Int} {a : Int} {nr_ : Nat} {kk_ : V → V → V → V → V → V → V → V → V → V → V → Prop} (hp : (⟨x_s, x_t, x_p, x_o, x_c, x_u, x_m, x_f, x_y, x_d⟩ : Shop).p.length ≤ 1048576 ∧ fitLL (⟨x_s, x_t, x_p, x_o, x_c, x_u, x_m, x_f, x_y, x_d⟩ : Shop).o ∧ (⟨x_s, x_t, x_p, x_o, x_c, x_u, x_m, x_f, x_y, x_d⟩ : Shop).c.length ≤ 1048576) : P11 (.call F_PutPin 0 nr_) [.int .i64 x_s, .int .i64 x_t, vL I2 v2 x_p, vL IL2 vLL2 x_o, vL I1 v1 x_c, .int .i64 x_u, .int .i64 x_m, .int .i64 x_f, .int .i64 x_y, .int .i64 x_d, .int .i64 t, .int .i64 a] kk_ ↔ kk_ (.int .i64 (withBench (⟨x_s, x_t, x_p, x_o, x_c, x_u, x_m, x_f, x_y, x_d⟩ : Shop) (setPin (⟨x_s, x_t, x_p, x_o, x_c, x_u, x_m, x_f, x_y, x_d⟩ : Shop).bench ⟨t, a⟩) 1 (canSet (⟨x_s, x_t, x_p, x_o, x_c, x_u, x_m, x_f, x_y, x_d⟩ : Shop).bench ⟨t, a⟩)).s) (.int .i64 (withBench (⟨x_s, x_t, x_p, x_o, x_c, x_u, x_m, x_f, x_y, x_d⟩ : Shop) (setPin (⟨x_s, x_t, x_p, x_o, x_c, x_u, x_m, x_f, x_y, x_d⟩ : Shop).bench ⟨t, a⟩) 1 (canSet (⟨x_s, x_t, x_p, x_o, x_c, x_u, x_m, x_f, x_y, x_d⟩ : Shop).bench ⟨t, a⟩)).t) (vL I2 v2 (withBench (⟨x_s, x_t, x_p, x_o, x_c, x_u, x_m, x_f, x_y, x_d⟩ : Shop) (setPin (⟨x_s, x_t, x_p, x_o, x_c, x_u, x_m, x_f, x_y, x_d⟩ : Shop).bench ⟨t, a⟩) 1 (canSet (⟨x_s, x_t, x_p, x_o, x_c, x_u, x_m, x_f, x_y, x_d⟩ : Shop).bench ⟨t, a⟩)).p) (vL IL2 vLL2 (withBench (⟨x_s, x_t, x_p, x_o, x_c, x_u, x_m, x_f, x_y, x_d⟩ : Shop) (setPin (⟨x_s, x_t, x_p, x_o, x_c, x_u, x_m, x_f, x_y, x_d⟩ : Shop).bench ⟨t, a⟩) 1 (canSet (⟨x_s, x_t, x_p, x_o, x_c, x_u, x_m, x_f, x_y, x_d⟩ : Shop).bench ⟨t, a⟩)).o) (vL I1 v1 (withBench (⟨x_s, x_t, x_p, x_o, x_c, x_u, x_m, x_f, x_y, x_d⟩ : Shop) (setPin (⟨x_s, x_t, x_p, x_o, x_c, x_u, x_m, x_f, x_y, x_d⟩ : Shop).bench ⟨t, a⟩) 1 (canSet (⟨x_s, x_t, x_p, x_o, x_c, x_u, x_m, x_f, x_y, x_d⟩ : Shop).bench ⟨t, a⟩)).c) (.int .i64 (withBench (⟨x_s, x_t, x_p, x_o, x_c, x_u, x_m, x_f, x_y, x_d⟩ : Shop) (setPin (⟨x_s, x_t, x_p, x_o, x_c, x_u, x_m, x_f, x_y, x_d⟩ : Shop).bench ⟨t, a⟩) 1 (canSet (⟨x_s, x_t, x_p, x_o, x_c, x_u, x_m, x_f, x_y, x_d⟩ : Shop).bench ⟨t, a⟩)).u) (.int .i64 (withBench (⟨x_s, x_t, x_p, x_o, x_c, x_u, x_m, x_f, x_y, x_d⟩ : Shop) (setPin (⟨x_s, x_t, x_p, x_o, x_c, x_u, x_m, x_f, x_y, x_d⟩ : Shop).bench ⟨t, a⟩) 1 (canSet (⟨x_s, x_t, x_p, x_o, x_c, x_u, x_m, x_f, x_y, x_d⟩ : Shop).bench ⟨t, a⟩)).m) (.int .i64 (withBench (⟨x_s, x_t, x_p, x_o, x_c, x_u, x_m, x_f, x_y, x_d⟩ : Shop) (setPin (⟨x_s, x_t, x_p, x_o, x_c, x_u, x_m, x_f, x_y, x_d⟩ : Shop).bench ⟨t, a⟩) 1 (canSet (⟨x_s, x_t, x_p, x_o, x_c, x_u, x_m, x_f, x_y, x_d⟩ : Shop).bench ⟨t, a⟩)).f) (.int .i64 (withBench (⟨x_s, x_t, x_p, x_o, x_c, x_u, x_m, x_f, x_y, x_d⟩ : Shop) (setPin (⟨x_s, x_t, x_p, x_o, x_c, x_u, x_m, x_f, x_y, x_d⟩ : Shop).bench ⟨t, a⟩) 1 (canSet (⟨x_s, x_t, x_p, x_o, x_c, x_u, x_m, x_f, x_y, x_d⟩ : Shop).bench ⟨t, a⟩)).y) (.int .i64 (withBench (⟨x_s, x_t, x_p, x_o, x_c, x_u, x_m, x_f, x_y, x_d⟩ : Shop) (setPin (⟨x_s, x_t, x_p, x_o, x_c, x_u, x_m, x_f, x_y, x_d⟩ : Shop).bench ⟨t, a⟩) 1 (canSet (⟨x_s, x_t, x_p, x_o, x_c, x_u, x_m, x_f, x_y, x_d⟩ : Shop).bench ⟨t, a⟩)).d) (.bool (benchFits (⟨x_s, x_t, x_p, x_o, x_c, x_u, x_m, x_f, x_y, x_d⟩ : Shop) (setPin (⟨x_s, x_t, x_p, x_o, x_c, x_u, x_m, x_f, x_y, x_d⟩ : Shop).bench ⟨t, a⟩) 1 (canSet (⟨x_s, x_t, x_p, x_o, x_c, x_u, x_m, x_f, x_y, x_d⟩ : Shop).bench ⟨t, a⟩))) :=
  P11_callF (by unfold F_PutPin; exact mkF_eq F_PutPin_inj ((⟨x_s, x_t, x_p, x_o, x_c, x_u, x_m, x_f, x_y, x_d⟩ : Shop), t, a) hp)

def cmRow (c : Cyl) (i : Nat) : Nat → Int → Int
  | 0, b => b
  | k + 1, b => match c.p[i]?, c.p[k]? with
    | some x, some y => if x.a = y.a then min (cmRow c i k b) (gap x.b y.b c.s) else cmRow c i k b
    | _, _ => cmRow c i k b
def cmTo (c : Cyl) : Nat → Int
  | 0 => c.s
  | i + 1 => cmRow c i i (cmTo c i)
def closest (c : Cyl) : Int := if cylOk c then cmTo c c.p.length else -1
end Go.Mw

namespace Go.Mw
noncomputable section
def impl_PutPin_L : L := .seq (.rg []) (.seq (.rg [zc F_SetPin 5 [0, 1, 2, 3, 10, 11]]) (.seq (.rg [⟨[], .call F_withBench 0 11, [.v 0, .v 1, .v 2, .v 3, .v 4, .v 5, .v 6, .v 7, .v 8, .v 9, .v 12, .v 13, .v 14, .v 15, .k (.int .i64 1), .v 16], 11⟩]) (.ret [.v 17, .v 18, .v 19, .v 20, .v 21, .v 22, .v 23, .v 24, .v 25, .v 26, .v 27])))
theorem impl_PutPin_L_sh (Q : QT) (x0 x1 x2 x3 x4 x5 x6 x7 x8 x9 x10 x11 : V) : shL impl_PutPin_L Q [x0, x1, x2, x3, x4, x5, x6, x7, x8, x9, x10, x11] = (
  P5 (.call F_SetPin 0 5) [x0, x1, x2, x3, x10, x11] fun v0 v1 v2 v3 v4 =>
  P11 (.call F_withBench 0 11) [x0, x1, x2, x3, x4, x5, x6, x7, x8, x9, v0, v1, v2, v3, .int .i64 1, v4] fun v5 v6 v7 v8 v9 v10 v11 v12 v13 v14 v15 =>
  Q .ret [v5, v6, v7, v8, v9, v10, v11, v12, v13, v14, v15]) := by kernel_rfl
def impl_PutPin_S : Sig := ⟨[.val true [.sc, .sc, .sl [.sc, .sc], .sl [.sl [.sc, .sc]], .sl [.sc], .sc, .sc, .sc, .sc, .sc], .val false [.sc], .val false [.sc]], [(true, [.sc, .sc, .sl [.sc, .sc], .sl [.sl [.sc, .sc]], .sl [.sc], .sc, .sc, .sc, .sc, .sc]), (false, [.sc])], F_PutPin⟩
def impl_PutPin_hs : List NF := []

end
end Go.Mw

namespace Go.Mw
theorem setPin_no {b : Bench} {p : T2} (h : canSet b p = false) : setPin b p = b := by
  unfold canSet at h; unfold setPin stepTo; rw [h]; simp
theorem setPin_fit {x : Shop} {p : T2} (hb : x.p.length ≤ 1048576 ∧ fitLL x.o) : (setPin x.bench p).p.length ≤ 1048576 ∧ fitLL (setPin x.bench p).o := by
  cases h2 : canSet x.bench p with
  | false => rw [setPin_no h2]; exact hb
  | true =>
    have : stepOk x.bench (addTo x.bench.cyl p) = true := by simp [canSet] at h2; exact h2.2
    have hs : benchOk x.bench = true := by simp [stepOk] at this; exact this.1
    have := setPin_small (p := p) (bSmall_of_ok hs)
    exact ⟨this.1, this.2.1⟩
theorem impl_PutPin_ok : ∀ ds outs, F_PutPin ds = some outs → shL impl_PutPin_L (qRet outs) ds := F_PutPin_elim fun x t a hp => by
  have hb : x.p.length ≤ 1048576 ∧ fitLL x.o := ⟨hp.1, hp.2.1⟩
  have hf := setPin_fit (p := ⟨t, a⟩) hb
  have e0 : (⟨x.s, x.t, x.p, x.o⟩ : Bench) = x.bench := rfl
  have e1 : (addOk x.bench.cyl ⟨t, a⟩ && stepOk x.bench (addTo x.bench.cyl ⟨t, a⟩)) = canSet x.bench ⟨t, a⟩ := rfl
  rw [impl_PutPin_L_sh, p_SetPin (x_p := x.p) (x_o := x.o) hb]
  simp only [e0, e1]
  generalize setPin x.bench ⟨t, a⟩ = B at *
  rw [p_withBench (x_p := x.p) (x_o := x.o) (x_c := x.c) (y_p := B.p) (y_o := B.o) ⟨hp.1, hp.2.1, hp.2.2, hf.1, hf.2, by omega, by omega⟩]
  simp
end Go.Mw

namespace Go.Mw
end Go.Mw

namespace Go.Mw
noncomputable section
end
end Go.Mw

namespace Go.Mw
end Go.Mw

namespace Go.Mw
end Go.Mw

namespace Go.Mw
end Go.Mw

namespace Go.Mw
end Go.Mw

namespace Go.Mw
end Go.Mw

namespace Go.Mw
def E_l01Once : Cur × Int → List V := fun (x, n) => [vL I1 vY x.b, .int .i64 x.i, .int .i64 x.h, .int .i64 n]
noncomputable def F_l01Once : List V → Option (List V) := mkF E_l01Once (fun (x, _) => 0 ≤ x.i ∧ x.b.length ≤ 1048576) (fun (x, n) => [.bool (decide (cBelow x n = 0)), .int .i64 ((cAfter x n).i), .int .i64 ((cAfter x n).h)])
theorem F_l01Once_inj : ∀ x y, E_l01Once x = E_l01Once y → x = y := by
  rintro ⟨⟨xb, xi, xh⟩, n⟩ ⟨⟨xb', xi', xh'⟩, n'⟩ h
  simpa [E_l01Once, and_assoc] using h
theorem F_l01Once_elim {P : List V → List V → Prop} (h : ∀ (x : Cur) (n : Int), (0 ≤ x.i ∧ x.b.length ≤ 1048576) → P [vL I1 vY x.b, .int .i64 x.i, .int .i64 x.h, .int .i64 n] [.bool (decide (cBelow x n = 0)), .int .i64 ((cAfter x n).i), .int .i64 ((cAfter x n).h)]) : ∀ ds outs, F_l01Once ds = some outs → P ds outs := by
  intro ds outs hh
  obtain ⟨⟨x, n⟩, rfl, hp, rfl⟩ := mkF_inv hh
  exact h x n hp
theorem p_l01Once {x_b : List UInt8} {x_i : Int} {x_h : Int} {n : Int} {nr_ : Nat} {kk_ : V → V → V → Prop} (hp : 0 ≤ (⟨x_b, x_i, x_h⟩ : Cur).i ∧ (⟨x_b, x_i, x_h⟩ : Cur).b.length ≤ 1048576) : P3 (.call F_l01Once 0 nr_) [vL I1 vY x_b, .int .i64 x_i, .int .i64 x_h, .int .i64 n] kk_ ↔ kk_ (.bool (decide (cBelow (⟨x_b, x_i, x_h⟩ : Cur) n = 0))) (.int .i64 ((cAfter (⟨x_b, x_i, x_h⟩ : Cur) n).i)) (.int .i64 ((cAfter (⟨x_b, x_i, x_h⟩ : Cur) n).h)) :=
  P3_callF (by unfold F_l01Once; exact mkF_eq F_l01Once_inj ((⟨x_b, x_i, x_h⟩ : Cur), n) hp)

def benchStep (b : Bench) (x : Cur) : Bench × Cur :=
  if cBelow x 3 = 0 then (takePin b (cBelow (cAfter x 3) 6), cAfter (cAfter x 3) 6)
  else (setPin b ⟨cBelow (cAfter x 3) b.t, cBelow (cAfter (cAfter x 3) b.t) b.s⟩, cAfter (cAfter (cAfter x 3) b.t) b.s)
def benchTo (x : Cur) : Nat → Bench × Cur
  | 0 => (⟨(cylOf x).s, (cylOf x).t, (cylOf x).p, []⟩, cAfter (cylEnd x) 7)
  | k + 1 => benchStep (benchTo x k).1 (benchTo x k).2
def benchN (x : Cur) : Nat := (cBelow (cylEnd x) 7).toNat
def benchOf (x : Cur) : Bench := (benchTo x (benchN x)).1
def benchEnd (x : Cur) : Cur := (benchTo x (benchN x)).2
def E_l37Bench (x : Cur) : List V := [vL I1 vY x.b, .int .i64 x.i, .int .i64 x.h]
noncomputable def F_l37Bench : List V → Option (List V) := mkF E_l37Bench (fun x => 0 ≤ x.i ∧ x.b.length ≤ 1048576) (fun x => [.int .i64 (benchOf x).s, .int .i64 (benchOf x).t, vL I2 v2 (benchOf x).p, vL IL2 vLL2 (benchOf x).o, .int .i64 ((benchEnd x).i), .int .i64 ((benchEnd x).h)])
theorem F_l37Bench_inj : ∀ x y, E_l37Bench x = E_l37Bench y → x = y := by
  rintro ⟨xb, xi, xh⟩ ⟨xb', xi', xh'⟩ h
  simpa [E_l37Bench] using h
theorem F_l37Bench_elim {P : List V → List V → Prop} (h : ∀ (x : Cur), (0 ≤ x.i ∧ x.b.length ≤ 1048576) → P [vL I1 vY x.b, .int .i64 x.i, .int .i64 x.h] [.int .i64 (benchOf x).s, .int .i64 (benchOf x).t, vL I2 v2 (benchOf x).p, vL IL2 vLL2 (benchOf x).o, .int .i64 ((benchEnd x).i), .int .i64 ((benchEnd x).h)]) : ∀ ds outs, F_l37Bench ds = some outs → P ds outs := by
  intro ds outs hh
  obtain ⟨x, rfl, hp, rfl⟩ := mkF_inv hh
  exact h x hp
theorem p_l37Bench {x_b : List UInt8} {x_i : Int} {x_h : Int} {nr_ : Nat} {kk_ : V → V → V → V → V → V → Prop} (hp : 0 ≤ (⟨x_b, x_i, x_h⟩ : Cur).i ∧ (⟨x_b, x_i, x_h⟩ : Cur).b.length ≤ 1048576) : P6 (.call F_l37Bench 0 nr_) [vL I1 vY x_b, .int .i64 x_i, .int .i64 x_h] kk_ ↔ kk_ (.int .i64 (benchOf (⟨x_b, x_i, x_h⟩ : Cur)).s) (.int .i64 (benchOf (⟨x_b, x_i, x_h⟩ : Cur)).t) (vL I2 v2 (benchOf (⟨x_b, x_i, x_h⟩ : Cur)).p) (vL IL2 vLL2 (benchOf (⟨x_b, x_i, x_h⟩ : Cur)).o) (.int .i64 ((benchEnd (⟨x_b, x_i, x_h⟩ : Cur)).i)) (.int .i64 ((benchEnd (⟨x_b, x_i, x_h⟩ : Cur)).h)) :=
  P6_callF (by unfold F_l37Bench; exact mkF_eq F_l37Bench_inj ((⟨x_b, x_i, x_h⟩ : Cur)) hp)

def springMost (x : Cur) : Int := 1 + cBelow x 20
def springOf (x : Cur) : T3 := ⟨cBelow (cAfter x 20) (springMost x + 1), springMost x, 1 + 3 * cBelow (cAfter (cAfter x 20) (springMost x + 1)) 200⟩
def springEnd (x : Cur) : Cur := cAfter (cAfter (cAfter x 20) (springMost x + 1)) 200
def E_l12Spring (x : Cur) : List V := [vL I1 vY x.b, .int .i64 x.i, .int .i64 x.h]
noncomputable def F_l12Spring : List V → Option (List V) := mkF E_l12Spring (fun x => 0 ≤ x.i ∧ x.b.length ≤ 1048576) (fun x => [.int .i64 (springOf x).a, .int .i64 (springOf x).b, .int .i64 (springOf x).c, .int .i64 ((springEnd x).i), .int .i64 ((springEnd x).h)])
theorem F_l12Spring_inj : ∀ x y, E_l12Spring x = E_l12Spring y → x = y := by
  rintro ⟨xb, xi, xh⟩ ⟨xb', xi', xh'⟩ h
  simpa [E_l12Spring] using h
theorem F_l12Spring_elim {P : List V → List V → Prop} (h : ∀ (x : Cur), (0 ≤ x.i ∧ x.b.length ≤ 1048576) → P [vL I1 vY x.b, .int .i64 x.i, .int .i64 x.h] [.int .i64 (springOf x).a, .int .i64 (springOf x).b, .int .i64 (springOf x).c, .int .i64 ((springEnd x).i), .int .i64 ((springEnd x).h)]) : ∀ ds outs, F_l12Spring ds = some outs → P ds outs := by
  intro ds outs hh
  obtain ⟨x, rfl, hp, rfl⟩ := mkF_inv hh
  exact h x hp
theorem p_l12Spring {x_b : List UInt8} {x_i : Int} {x_h : Int} {nr_ : Nat} {kk_ : V → V → V → V → V → Prop} (hp : 0 ≤ (⟨x_b, x_i, x_h⟩ : Cur).i ∧ (⟨x_b, x_i, x_h⟩ : Cur).b.length ≤ 1048576) : P5 (.call F_l12Spring 0 nr_) [vL I1 vY x_b, .int .i64 x_i, .int .i64 x_h] kk_ ↔ kk_ (.int .i64 (springOf (⟨x_b, x_i, x_h⟩ : Cur)).a) (.int .i64 (springOf (⟨x_b, x_i, x_h⟩ : Cur)).b) (.int .i64 (springOf (⟨x_b, x_i, x_h⟩ : Cur)).c) (.int .i64 ((springEnd (⟨x_b, x_i, x_h⟩ : Cur)).i)) (.int .i64 ((springEnd (⟨x_b, x_i, x_h⟩ : Cur)).h)) :=
  P5_callF (by unfold F_l12Spring; exact mkF_eq F_l12Spring_inj ((⟨x_b, x_i, x_h⟩ : Cur)) hp)

def combTo (x : Cur) : Nat → (List Int × Int) × Cur
  | 0 => (([], 10), x)
  | k + 1 => (((combTo x k).1.1 ++ [(combTo x k).1.2], (combTo x k).1.2 + (([0, 1, 2, 4] : List Int)[(cBelow (combTo x k).2 4).toNat]?).getD 0), cAfter (combTo x k).2 4)
def shopMoney (x : Cur) : Int := (([0, 1, 30, 999] : List Int)[(cBelow (springEnd (benchEnd x)) 4).toNat]?).getD 0
def shopPlayed (x : Cur) : Int := (([0, 12, 999999] : List Int)[(cBelow (cAfter (springEnd (benchEnd x)) 4) 3).toNat]?).getD 0
def shopCur (x : Cur) : Cur := cAfter (cAfter (springEnd (benchEnd x)) 4) 3
def shopOf (x : Cur) : Shop := ⟨(benchOf x).s, (benchOf x).t, (benchOf x).p, (benchOf x).o, (combTo (shopCur x) (benchOf x).t.toNat).1.1,
  (springOf (benchEnd x)).a, (springOf (benchEnd x)).b, (springOf (benchEnd x)).c, shopMoney x, shopPlayed x⟩
def shopEnd (x : Cur) : Cur := (combTo (shopCur x) (benchOf x).t.toNat).2
def E_l38Workshop (x : Cur) : List V := [vL I1 vY x.b, .int .i64 x.i, .int .i64 x.h]
noncomputable def F_l38Workshop : List V → Option (List V) := mkF E_l38Workshop (fun x => 0 ≤ x.i ∧ x.b.length ≤ 1048576) (fun x => [.int .i64 (shopOf x).s, .int .i64 (shopOf x).t, vL I2 v2 (shopOf x).p, vL IL2 vLL2 (shopOf x).o, vL I1 v1 (shopOf x).c, .int .i64 (shopOf x).u, .int .i64 (shopOf x).m, .int .i64 (shopOf x).f, .int .i64 (shopOf x).y, .int .i64 (shopOf x).d, .int .i64 ((shopEnd x).i), .int .i64 ((shopEnd x).h)])
theorem F_l38Workshop_inj : ∀ x y, E_l38Workshop x = E_l38Workshop y → x = y := by
  rintro ⟨xb, xi, xh⟩ ⟨xb', xi', xh'⟩ h
  simpa [E_l38Workshop] using h
theorem F_l38Workshop_elim {P : List V → List V → Prop} (h : ∀ (x : Cur), (0 ≤ x.i ∧ x.b.length ≤ 1048576) → P [vL I1 vY x.b, .int .i64 x.i, .int .i64 x.h] [.int .i64 (shopOf x).s, .int .i64 (shopOf x).t, vL I2 v2 (shopOf x).p, vL IL2 vLL2 (shopOf x).o, vL I1 v1 (shopOf x).c, .int .i64 (shopOf x).u, .int .i64 (shopOf x).m, .int .i64 (shopOf x).f, .int .i64 (shopOf x).y, .int .i64 (shopOf x).d, .int .i64 ((shopEnd x).i), .int .i64 ((shopEnd x).h)]) : ∀ ds outs, F_l38Workshop ds = some outs → P ds outs := by
  intro ds outs hh
  obtain ⟨x, rfl, hp, rfl⟩ := mkF_inv hh
  exact h x hp
theorem p_l38Workshop {x_b : List UInt8} {x_i : Int} {x_h : Int} {nr_ : Nat} {kk_ : V → V → V → V → V → V → V → V → V → V → V → V → Prop} (hp : 0 ≤ (⟨x_b, x_i, x_h⟩ : Cur).i ∧ (⟨x_b, x_i, x_h⟩ : Cur).b.length ≤ 1048576) : P12 (.call F_l38Workshop 0 nr_) [vL I1 vY x_b, .int .i64 x_i, .int .i64 x_h] kk_ ↔ kk_ (.int .i64 (shopOf (⟨x_b, x_i, x_h⟩ : Cur)).s) (.int .i64 (shopOf (⟨x_b, x_i, x_h⟩ : Cur)).t) (vL I2 v2 (shopOf (⟨x_b, x_i, x_h⟩ : Cur)).p) (vL IL2 vLL2 (shopOf (⟨x_b, x_i, x_h⟩ : Cur)).o) (vL I1 v1 (shopOf (⟨x_b, x_i, x_h⟩ : Cur)).c) (.int .i64 (shopOf (⟨x_b, x_i, x_h⟩ : Cur)).u) (.int .i64 (shopOf (⟨x_b, x_i, x_h⟩ : Cur)).m) (.int .i64 (shopOf (⟨x_b, x_i, x_h⟩ : Cur)).f) (.int .i64 (shopOf (⟨x_b, x_i, x_h⟩ : Cur)).y) (.int .i64 (shopOf (⟨x_b, x_i, x_h⟩ : Cur)).d) (.int .i64 ((shopEnd (⟨x_b, x_i, x_h⟩ : Cur)).i)) (.int .i64 ((shopEnd (⟨x_b, x_i, x_h⟩ : Cur)).h)) :=
  P12_callF (by unfold F_l38Workshop; exact mkF_eq F_l38Workshop_inj ((⟨x_b, x_i, x_h⟩ : Cur)) hp)

end Go.Mw

namespace Go.Mw
noncomputable section
def spec_l01Once_L : L := .seq (.rg []) (.seq (.rg [⟨[], .call F_l01Below 0 1, [.v 0, .v 1, .v 2, .v 3], 3⟩, zk .eql 4 0]) (.ret [.v 7, .v 5, .v 6]))
theorem spec_l01Once_L_sh (Q : QT) (x0 x1 x2 x3 : V) : shL spec_l01Once_L Q [x0, x1, x2, x3] = (
  P3 (.call F_l01Below 0 1) [x0, x1, x2, x3] fun v0 v1 v2 =>
  P1 (.bin .eql) [v0, .int .i64 0] fun v3 =>
  Q .ret [v3, v1, v2]) := by kernel_rfl
def spec_l01Once_S : Sig := ⟨[.ptr 0 [.sl [.sc], .sc, .sc], .val false [.sc]], [(false, [.sc])], F_l01Once⟩
def spec_l01Once_hs : List NF := []

def spec_l37Bench_b0 : L := .seq (.seq (.seq (.rg [zk .gtr 0 0]) (.ite (.v 10) (.skip) (.seq (zt [1, 2, 3, 4, 5, 6, 7, 8, 9]) (.exit 0)))) (.seq (.block 1 (.seq (.seq (.rg [⟨[], .call F_l01Once 0 1, [.v 3, .v 4, .v 5, .k (.int .i64 3)], 3⟩]) (.ite (.v 11) (.seq (.rg [⟨[], .call F_l01Below 0 1, [.v 3, .v 12, .v 13, .k (.int .i64 6)], 3⟩, zc F_TakePin 5 [8, 9, 1, 2, 14]]) (zt [0, 19, 20, 3, 15, 16, 6, 7, 17, 18])) (.seq (.rg [⟨[], .call F_l01Below 0 1, [.v 3, .v 12, .v 13, .v 9], 3⟩, ⟨[], .call F_l01Below 0 1, [.v 3, .v 15, .v 16, .v 8], 3⟩, zc F_SetPin 5 [8, 9, 1, 2, 14, 17]]) (zt [0, 22, 23, 3, 18, 19, 6, 7, 20, 21])))) (zt [0, 1, 2, 3, 4, 5, 6, 7, 8, 9]))) (.rg [zk .sub 0 1]))) (zt [10, 1, 2, 3, 4, 5, 6, 7, 8, 9])
theorem spec_l37Bench_b0_sh (Q : QT) (x0 x1 x2 x3 x4 x5 x6 x7 x8 x9 : V) : shL spec_l37Bench_b0 Q [x0, x1, x2, x3, x4, x5, x6, x7, x8, x9] = (
  P1 (.bin .gtr) [x0, .int .i64 0] fun v0 =>
  ifB v0 (
    P3 (.call F_l01Once 0 1) [x3, x4, x5, .int .i64 3] fun v1 v2 v3 =>
    ifB v1 (
      P3 (.call F_l01Below 0 1) [x3, v2, v3, .int .i64 6] fun v4 v5 v6 =>
      P5 (.call F_TakePin 0 5) [x8, x9, x1, x2, v4] fun v7 v8 v9 v10 _ =>
      P1 (.bin .sub) [x0, .int .i64 1] fun v12 =>
      Q .normal [v12, v9, v10, x3, v5, v6, x6, x7, v7, v8]) (
      P3 (.call F_l01Below 0 1) [x3, v2, v3, x9] fun v13 v14 v15 =>
      P3 (.call F_l01Below 0 1) [x3, v14, v15, x8] fun v16 v17 v18 =>
      P5 (.call F_SetPin 0 5) [x8, x9, x1, x2, v13, v16] fun v19 v20 v21 v22 _ =>
      P1 (.bin .sub) [x0, .int .i64 1] fun v24 =>
      Q .normal [v24, v21, v22, x3, v17, v18, x6, x7, v19, v20])) (
    Q (.exit 0) [x1, x2, x3, x4, x5, x6, x7, x8, x9])) := by kernel_rfl

def spec_l37Bench_r1 : L := .seq (.rg []) (.ret [.v 7, .v 8, .v 0, .v 1, .v 3, .v 4])
theorem spec_l37Bench_r1_sh (Q : QT) (x0 x1 x2 x3 x4 x5 x6 x7 x8 : V) : shL spec_l37Bench_r1 Q [x0, x1, x2, x3, x4, x5, x6, x7, x8] = (
  Q .ret [x7, x8, x0, x1, x3, x4]) := by kernel_rfl

def spec_l37Bench_L : L := .seq (.rg []) (.seq (.rg [⟨[], .call F_l06Cylinder 0 3, [.v 0, .v 1, .v 2], 5⟩]) (.seq (.seq (.rg [⟨[], .call F_l01Below 0 1, [.v 0, .v 6, .v 7, .k (.int .i64 7)], 3⟩]) (.block 0 (.seq (.tup [.v 8, .v 5, .k (.list [.sl [.sc, .sc]] []), .v 0, .v 9, .v 10, .k (.int .i64 0), .k (.int .i64 0), .v 3, .v 4]) (.loop (spec_l37Bench_b0))))) (spec_l37Bench_r1)))
theorem spec_l37Bench_L_sh (Q : QT) (x0 x1 x2 : V) : shL spec_l37Bench_L Q [x0, x1, x2] = (
  P5 (.call F_l06Cylinder 0 3) [x0, x1, x2] fun v0 v1 v2 v3 v4 =>
  P3 (.call F_l01Below 0 1) [x0, v3, v4, .int .i64 7] fun v5 v6 v7 =>
  shL (.loop spec_l37Bench_b0) (qB 0 (qS (shL spec_l37Bench_r1 Q) Q)) [v5, v2, .list [.sl [.sc, .sc]] [], x0, v6, v7, .int .i64 0, .int .i64 0, v0, v1]) := by kernel_rfl
def spec_l37Bench_S : Sig := ⟨[.ptr 0 [.sl [.sc], .sc, .sc]], [(true, [.sc, .sc, .sl [.sc, .sc], .sl [.sl [.sc, .sc]]])], F_l37Bench⟩
def spec_l37Bench_hs : List NF := [⟨[(2, .ptr 64 0), (3, .ptr 65 0)], [(66, true, [.sc, .sc]), (67, true, [.sl [.sc, .sc]])], [(0, [.ro [.sc], .sc, .sc]), (64, [.sc, .sc, .nil, .nil]), (65, [.sc, .sc, .own 66, .own 67])], 68⟩, ⟨[(0, .ptr 0 0), (2, .ptr 64 0), (3, .ptr 65 0), (4, zs)], [(66, true, [.sc, .sc]), (67, true, [.sl [.sc, .sc]])], [(0, [.ro [.sc], .sc, .sc]), (64, [.sc, .sc, .nil, .nil]), (65, [.sc, .sc, .own 66, .own 67])], 68⟩, ⟨[(0, .ptr 0 0), (2, .ptr 64 0), (3, .ptr 65 0), (4, zs)], [(66, true, [.sc, .sc]), (67, true, [.sl [.sc, .sc]])], [(0, [.ro [.sc], .sc, .sc]), (64, [.sc, .sc, .nil, .nil]), (65, [.sc, .sc, .own 66, .own 67])], 68⟩, ⟨[(0, .ptr 0 0), (2, .ptr 64 0), (3, .ptr 65 0), (4, zs)], [(66, true, [.sc, .sc]), (67, true, [.sl [.sc, .sc]])], [(0, [.ro [.sc], .sc, .sc]), (64, [.sc, .sc, .nil, .nil]), (65, [.sc, .sc, .own 66, .own 67])], 68⟩]

def spec_l12Spring_L : L := .seq (.rg []) (.seq (.rg [⟨[], .call F_l01Below 0 1, [.v 0, .v 1, .v 2, .k (.int .i64 20)], 3⟩, ⟨[], .bin .add, [.k (.int .i64 1), .v 3], 1⟩]) (.seq (.rg [zk .add 6 1, ⟨[], .call F_l01Below 0 1, [.v 0, .v 4, .v 5, .v 7], 3⟩, ⟨[], .call F_l01Below 0 1, [.v 0, .v 9, .v 10, .k (.int .i64 200)], 3⟩, ⟨[], .bin .mul, [.k (.int .i64 3), .v 11], 1⟩, ⟨[], .bin .add, [.k (.int .i64 1), .v 14], 1⟩]) (.ret [.v 8, .v 6, .v 15, .v 12, .v 13])))
theorem spec_l12Spring_L_sh (Q : QT) (x0 x1 x2 : V) : shL spec_l12Spring_L Q [x0, x1, x2] = (
  P3 (.call F_l01Below 0 1) [x0, x1, x2, .int .i64 20] fun v0 v1 v2 =>
  P1 (.bin .add) [.int .i64 1, v0] fun v3 =>
  P1 (.bin .add) [v3, .int .i64 1] fun v4 =>
  P3 (.call F_l01Below 0 1) [x0, v1, v2, v4] fun v5 v6 v7 =>
  P3 (.call F_l01Below 0 1) [x0, v6, v7, .int .i64 200] fun v8 v9 v10 =>
  P1 (.bin .mul) [.int .i64 3, v8] fun v11 =>
  P1 (.bin .add) [.int .i64 1, v11] fun v12 =>
  Q .ret [v5, v3, v12, v9, v10]) := by kernel_rfl
def spec_l12Spring_S : Sig := ⟨[.ptr 0 [.sl [.sc], .sc, .sc]], [(true, [.sc, .sc, .sc])], F_l12Spring⟩
def spec_l12Spring_hs : List NF := []

def spec_l38Workshop_b0 : L := .seq (.seq (.seq (.rg [zb .lss 1 16]) (.ite (.v 22) (.skip) (.seq (zt [2, 3, 4, 5, 6, 7, 8, 9, 10, 11, 12, 13, 14, 15, 16, 17, 18, 19, 20, 21]) (.exit 0)))) (.seq (.block 1 (.seq (.seq (.rg [⟨[], .lst [.sc] false 1, [.v 0], 1⟩, ⟨[], .app [.sc] 8, [.v 4, .v 23], 1⟩]) (.rg [⟨[], .lst [.sc] false 4, [.k (.int .i64 0), .k (.int .i64 1), .k (.int .i64 2), .k (.int .i64 4)], 1⟩, ⟨[], .call F_l01PickInt 0 1, [.v 5, .v 6, .v 7, .v 25], 3⟩, zb .add 0 26])) (zt [29, 1, 2, 3, 24, 5, 27, 28, 8, 9, 10, 11, 12, 13, 14, 15, 16, 17, 18, 19, 20, 21]))) (.rg [zk .add 1 1]))) (zt [0, 22, 2, 3, 4, 5, 6, 7, 8, 9, 10, 11, 12, 13, 14, 15, 16, 17, 18, 19, 20, 21])
theorem spec_l38Workshop_b0_sh (Q : QT) (x0 x1 x2 x3 x4 x5 x6 x7 x8 x9 x10 x11 x12 x13 x14 x15 x16 x17 x18 x19 x20 x21 : V) : shL spec_l38Workshop_b0 Q [x0, x1, x2, x3, x4, x5, x6, x7, x8, x9, x10, x11, x12, x13, x14, x15, x16, x17, x18, x19, x20, x21] = (
  P1 (.bin .lss) [x1, x16] fun v0 =>
  ifB v0 (
    P1 (.lst [.sc] false 1) [x0] fun v1 =>
    P1 (.app [.sc] 8) [x4, v1] fun v2 =>
    P1 (.lst [.sc] false 4) [.int .i64 0, .int .i64 1, .int .i64 2, .int .i64 4] fun v3 =>
    P3 (.call F_l01PickInt 0 1) [x5, x6, x7, v3] fun v4 v5 v6 =>
    P1 (.bin .add) [x0, v4] fun v7 =>
    P1 (.bin .add) [x1, .int .i64 1] fun v8 =>
    Q .normal [v7, v8, x2, x3, v2, x5, v5, v6, x8, x9, x10, x11, x12, x13, x14, x15, x16, x17, x18, x19, x20, x21]) (
    Q (.exit 0) [x2, x3, x4, x5, x6, x7, x8, x9, x10, x11, x12, x13, x14, x15, x16, x17, x18, x19, x20, x21])) := by kernel_rfl

def spec_l38Workshop_r1 : L := .seq (.rg []) (.ret [.v 13, .v 14, .v 0, .v 1, .v 2, .v 15, .v 16, .v 17, .v 18, .v 19, .v 4, .v 5])
theorem spec_l38Workshop_r1_sh (Q : QT) (x0 x1 x2 x3 x4 x5 x6 x7 x8 x9 x10 x11 x12 x13 x14 x15 x16 x17 x18 x19 : V) : shL spec_l38Workshop_r1 Q [x0, x1, x2, x3, x4, x5, x6, x7, x8, x9, x10, x11, x12, x13, x14, x15, x16, x17, x18, x19] = (
  Q .ret [x13, x14, x0, x1, x2, x15, x16, x17, x18, x19, x4, x5]) := by kernel_rfl

def spec_l38Workshop_L : L := .seq (.rg []) (.seq (.rg [⟨[], .call F_l37Bench 0 4, [.v 0, .v 1, .v 2], 6⟩, ⟨[], .call F_l12Spring 0 3, [.v 0, .v 7, .v 8], 5⟩, ⟨[], .lst [.sc] false 4, [.k (.int .i64 0), .k (.int .i64 1), .k (.int .i64 30), .k (.int .i64 999)], 1⟩, ⟨[], .call F_l01PickInt 0 1, [.v 0, .v 12, .v 13, .v 14], 3⟩, ⟨[], .lst [.sc] false 3, [.k (.int .i64 0), .k (.int .i64 12), .k (.int .i64 999999)], 1⟩, ⟨[], .call F_l01PickInt 0 1, [.v 0, .v 16, .v 17, .v 18], 3⟩]) (.seq (.rg []) (.seq (.seq (.rg []) (.block 0 (.seq (.tup [.k (.int .i64 10), .k (.int .i64 0), .v 5, .v 6, .k (.list [.sc] []), .v 0, .v 20, .v 21, .k (.int .i64 0), .k (.int .i64 0), .k (.int .i64 0), .k (.int .i64 0), .k (.int .i64 0), .k (.int .i64 0), .k (.int .i64 0), .v 3, .v 4, .v 9, .v 10, .v 11, .v 15, .v 19]) (.loop (spec_l38Workshop_b0))))) (spec_l38Workshop_r1))))
theorem spec_l38Workshop_L_sh (Q : QT) (x0 x1 x2 : V) : shL spec_l38Workshop_L Q [x0, x1, x2] = (
  P6 (.call F_l37Bench 0 4) [x0, x1, x2] fun v0 v1 v2 v3 v4 v5 =>
  P5 (.call F_l12Spring 0 3) [x0, v4, v5] fun v6 v7 v8 v9 v10 =>
  P1 (.lst [.sc] false 4) [.int .i64 0, .int .i64 1, .int .i64 30, .int .i64 999] fun v11 =>
  P3 (.call F_l01PickInt 0 1) [x0, v9, v10, v11] fun v12 v13 v14 =>
  P1 (.lst [.sc] false 3) [.int .i64 0, .int .i64 12, .int .i64 999999] fun v15 =>
  P3 (.call F_l01PickInt 0 1) [x0, v13, v14, v15] fun v16 v17 v18 =>
  shL (.loop spec_l38Workshop_b0) (qB 0 (qS (shL spec_l38Workshop_r1 Q) Q)) [.int .i64 10, .int .i64 0, v2, v3, .list [.sc] [], x0, v17, v18, .int .i64 0, .int .i64 0, .int .i64 0, .int .i64 0, .int .i64 0, .int .i64 0, .int .i64 0, v0, v1, v6, v7, v8, v12, v16]) := by kernel_rfl
def spec_l38Workshop_S : Sig := ⟨[.ptr 0 [.sl [.sc], .sc, .sc]], [(true, [.sc, .sc, .sl [.sc, .sc], .sl [.sl [.sc, .sc]], .sl [.sc], .sc, .sc, .sc, .sc, .sc])], F_l38Workshop⟩
def spec_l38Workshop_hs : List NF := [⟨[(2, .ptr 64 0), (3, .ptr 65 0)], [(66, true, [.sc, .sc]), (67, true, [.sl [.sc, .sc]]), (68, true, [.sc])], [(0, [.ro [.sc], .sc, .sc]), (64, [.sc, .sc, .nil, .nil, .nil, .sc, .sc, .sc, .sc, .sc]), (65, [.sc, .sc, .own 66, .own 67, .own 68, .sc, .sc, .sc, .sc, .sc])], 69⟩, ⟨[(0, .ptr 0 0), (2, .ptr 64 0), (3, .ptr 65 0), (4, zs), (5, zs)], [(66, true, [.sc, .sc]), (67, true, [.sl [.sc, .sc]]), (68, true, [.sc])], [(0, [.ro [.sc], .sc, .sc]), (64, [.sc, .sc, .nil, .nil, .nil, .sc, .sc, .sc, .sc, .sc]), (65, [.sc, .sc, .own 66, .own 67, .own 68, .sc, .sc, .sc, .sc, .sc])], 69⟩, ⟨[(0, .ptr 0 0), (2, .ptr 64 0), (3, .ptr 65 0), (4, zs), (5, zs)], [(66, true, [.sc, .sc]), (67, true, [.sl [.sc, .sc]]), (68, true, [.sc])], [(0, [.ro [.sc], .sc, .sc]), (64, [.sc, .sc, .nil, .nil, .nil, .sc, .sc, .sc, .sc, .sc]), (65, [.sc, .sc, .own 66, .own 67, .own 68, .sc, .sc, .sc, .sc, .sc])], 69⟩]

end
end Go.Mw

namespace Go.Mw
theorem spec_l01Once_ok : ∀ ds outs, F_l01Once ds = some outs → shL spec_l01Once_L (qRet outs) ds := F_l01Once_elim fun x n hp => by
  rw [spec_l01Once_L_sh, q_below (b := x.b) x rfl hp.1 hp.2]
  simp
  rfl
theorem q_once {b : List UInt8} (c : Cur) {n : Int} {m : Nat} {k : V → V → V → Prop} (hb : c.b = b) (h : 0 ≤ c.i) (hl : b.length ≤ 1048576) :
    P3 (.call F_l01Once 0 m) [vL I1 vY b, .int .i64 c.i, .int .i64 c.h, .int .i64 n] k ↔ k (.bool (decide (cBelow c n = 0))) (.int .i64 (cAfter c n).i) (.int .i64 (cAfter c n).h) := by
  subst hb; exact p_l01Once ⟨h, hl⟩

theorem stepTo_ok {b : Bench} {c : Cyl} {d : Bool} (h : benchOk b = true) : benchOk (stepTo b c d) = true := by
  unfold stepTo
  split
  · rename_i hk
    simp only [stepOk, Bool.and_eq_true] at hk
    exact hk.2.2
  · exact h
theorem stepTo_st {b : Bench} {c : Cyl} {d : Bool} (hs : c.s = b.s) (ht : c.t = b.t) : (stepTo b c d).s = b.s ∧ (stepTo b c d).t = b.t := by
  unfold stepTo
  split
  · exact ⟨hs, ht⟩
  · exact ⟨rfl, rfl⟩
theorem stepTo_len {b : Bench} {c : Cyl} {d : Bool} : (stepTo b c d).o.length ≤ b.o.length + 1 := by
  unfold stepTo
  split
  · simp [stepped]
  · omega
theorem stepTo_plen {b : Bench} {c : Cyl} {d : Bool} {n : Nat} (h1 : c.p.length ≤ n) (h2 : b.p.length ≤ n) : (stepTo b c d).p.length ≤ n := by
  unfold stepTo
  split
  · exact h1
  · exact h2
theorem addTo_eq {c : Cyl} {p : T2} : (addTo c p).s = c.s ∧ (addTo c p).t = c.t ∧ (addTo c p).p.length ≤ c.p.length + 1 := by
  unfold addTo
  split
  · exact ⟨rfl, rfl, putPin_len _ _⟩
  · exact ⟨rfl, rfl, by omega⟩

theorem missing_self (l : List T2) : missing l l = 0 := by
  unfold missing
  have : l.filter (fun p => decide (p ∉ l)) = [] := by simp
  rw [this]; rfl
theorem missing_nonneg (a b : List T2) : 0 ≤ missing a b := by unfold missing; omega
theorem missing_mono_r {q a b : List T2} (h : ∀ x ∈ a, x ∈ b) : missing q b ≤ missing q a := by
  unfold missing
  have : (q.filter fun p => decide (p ∉ b)).length ≤ (q.filter fun p => decide (p ∉ a)).length := by
    rw [← List.countP_eq_length_filter, ← List.countP_eq_length_filter]
    refine List.countP_mono_left fun x _ hx => ?_
    simp only [decide_eq_true_eq] at hx ⊢
    exact fun h2 => hx (h x h2)
  omega
theorem missing_perm {a b q : List T2} (h : a.Perm b) : missing a q = missing b q := by
  unfold missing
  rw [(h.filter _).length_eq]
theorem missing_append (a b q : List T2) : missing (a ++ b) q = missing a q + missing b q := by
  unfold missing
  rw [List.filter_append, List.length_append]; omega
theorem missing_one (x : T2) (q : List T2) : missing [x] q ≤ 1 := by
  unfold missing
  have := List.length_filter_le (fun p => decide (p ∉ q)) [x]
  simp only [List.length_singleton] at this
  omega
theorem missing_drop1 {q : List T2} (x : T2) (a b : List T2) (hq : q.Nodup) : missing q (a ++ b) ≤ missing q (a ++ x :: b) + 1 := by
  unfold missing
  induction q with
  | nil => simp
  | cons y r ih =>
    have hr := ih (List.nodup_cons.1 hq).2
    simp only [List.filter_cons]
    by_cases e : y = x
    · subst e
      have hy : y ∉ r := (List.nodup_cons.1 hq).1
      have h1 : decide (y ∉ a ++ y :: b) = false := by simp
      have h2 : r.filter (fun p => decide (p ∉ a ++ b)) = r.filter (fun p => decide (p ∉ a ++ y :: b)) := by
        refine List.filter_congr fun z hz => ?_
        have : z ≠ y := fun h => hy (h ▸ hz)
        simp [this]
      rw [h1, h2]
      simp only [Bool.false_eq_true, if_false]
      split
      · simp only [List.length_cons]; omega
      · omega
    · have h1 : decide (y ∉ a ++ x :: b) = decide (y ∉ a ++ b) := by simp [e]
      rw [h1]
      split
      · simp only [List.length_cons]; omega
      · exact hr
theorem rising_pair {l : List T2} (h : rising l = true) : l.Pairwise (fun x y => pinLess x y = true) := by
  induction l with
  | nil => exact .nil
  | cons a r ih => exact .cons (rising_less h) (ih (rising_cons.1 h).2)
theorem rising_of_pair {l : List T2} (h : l.Pairwise (fun x y => pinLess x y = true)) : rising l = true := by
  induction l with
  | nil => rfl
  | cons a r ih =>
    cases h with
    | cons h1 h2 =>
      rw [rising_cons]
      exact ⟨fun b hb => h1 b (List.mem_of_mem_head? hb), ih h2⟩
theorem rising_nodup {l : List T2} (h : rising l = true) : l.Nodup :=
  (rising_pair h).imp fun {a b} h e => by subst e; rw [pinLess_irrefl] at h; cases h
def Near (c b : List T2) : Prop := ∀ q : List T2, q.Nodup → missing c q + missing q c ≤ missing b q + missing q b + 1
theorem near_put {l : List T2} {y : T2} (hy : y ∉ l) : Near (putPin l y) l := by
  intro q hq
  have hp := putPin_perm hy
  rw [missing_perm hp, missing_append]
  have h1 := missing_one y q
  have h2 : missing q (putPin l y) ≤ missing q l := missing_mono_r fun x hx => (hp.mem_iff).2 (by simp [hx])
  omega
theorem near_pull {l : List T2} {k : Nat} (hk : k < l.length) : Near (l.take k ++ l.drop (k + 1)) l := by
  intro q hq
  have e : l = l.take k ++ l[k] :: l.drop (k + 1) := by rw [List.getElem_cons_drop hk, List.take_append_drop]
  have h1 := missing_drop1 l[k] (l.take k) (l.drop (k + 1)) hq
  rw [← e] at h1
  have h2 : missing (l.take k ++ l.drop (k + 1)) q ≤ missing l q := by
    have h3 : missing l q = missing (l.take k ++ l[k] :: l.drop (k + 1)) q := by rw [← e]
    have h4 : missing (l.take k ++ l[k] :: l.drop (k + 1)) q = missing (l.take k) q + (missing [l[k]] q + missing (l.drop (k + 1)) q) := by
      rw [← missing_append, ← missing_append]; rfl
    have h5 := missing_nonneg [l[k]] q
    rw [h3, h4, missing_append]; omega
  omega
def Chg (b : Bench) : Prop := ∀ q, b.o.head? = some q → missing b.p q + missing q b.p ≤ b.o.length
theorem chg_stepped {b : Bench} {c : Cyl} (hb : benchOk b = true) (hn : Near c.p b.p) (h : Chg b) : Chg (stepped b c) := by
  intro q hq
  obtain ⟨h1, h2, h3⟩ := (benchOk_iff b).1 hb
  simp only [stepped] at hq ⊢
  cases ho : b.o with
  | nil =>
    rw [ho] at hq
    simp only [List.nil_append, List.head?_cons, Option.some.injEq] at hq
    subst hq
    have := hn b.p (rising_nodup (cylOk_rising h1))
    rw [missing_self] at this
    simp; omega
  | cons x r =>
    rw [ho] at hq
    simp only [List.cons_append, List.head?_cons, Option.some.injEq] at hq
    subst hq
    have h4 := h x (by rw [ho]; rfl)
    have h5 := hn x (rising_nodup (cylOk_rising (h3 x (by simp [ho]))))
    rw [ho] at h4
    simp only [List.length_cons, List.length_append, List.length_nil] at h4 ⊢
    omega
theorem chg_stepTo {b : Bench} {c : Cyl} {d : Bool} (hb : benchOk b = true) (hn : d = true → Near c.p b.p) (h : Chg b) : Chg (stepTo b c d) := by
  unfold stepTo
  split
  · rename_i hk
    simp only [Bool.and_eq_true] at hk
    exact chg_stepped hb (hn hk.1) h
  · exact h
theorem chg_set {b : Bench} {p : T2} (hb : benchOk b = true) (h : Chg b) : Chg (setPin b p) := by
  refine chg_stepTo hb (fun hd => ?_) h
  have hd' := hd
  simp only [addOk, Bool.and_eq_true, Bool.not_eq_true', decide_eq_false_iff_not] at hd'
  simp only [addTo, hd, if_true]
  exact near_put hd'.2.1
theorem chg_take {b : Bench} {k : Int} (hb : benchOk b = true) (h : Chg b) : Chg (takePin b k) := by
  refine chg_stepTo hb (fun hd => ?_) h
  have hd' := hd
  simp only [pullOk, Bool.and_eq_true, decide_eq_true_eq] at hd'
  have h1 : (cylOk b.cyl && (decide (0 ≤ k) && decide (k < b.cyl.p.length))) = true := hd
  simp only [pulled, pullPin, h1, if_true]
  exact near_pull (by simp only [Bench.cyl] at hd' ⊢; omega)

structure BenchInv (b : Bench) (s t : Int) (k : Nat) : Prop where
  ok : benchOk b = true
  st : b.s = s ∧ b.t = t
  len : b.p.length ≤ 9 + k
  old : b.o.length ≤ k
  chg : Chg b
theorem BenchInv.step {b : Bench} {s t : Int} {k : Nat} (h : BenchInv b s t k) (x : Cur) : BenchInv (benchStep b x).1 s t (k + 1) := by
  unfold benchStep
  split
  · have e := stepTo_st (b := b) (c := pulled b (cBelow (cAfter x 3) 6)) (d := pullOk b.cyl (cBelow (cAfter x 3) 6)) rfl rfl
    have h1 := pullPin_len b.cyl (cBelow (cAfter x 3) 6)
    have h2 := h.len
    have h3 := h.old
    exact ⟨stepTo_ok h.ok, ⟨e.1.trans h.st.1, e.2.trans h.st.2⟩, stepTo_plen (Nat.le_trans h1 (by simp only [Bench.cyl]; omega)) (by omega), Nat.le_trans stepTo_len (by omega), chg_take h.ok h.chg⟩
  · generalize (⟨cBelow (cAfter x 3) b.t, cBelow (cAfter (cAfter x 3) b.t) b.s⟩ : T2) = p
    have a := addTo_eq (c := b.cyl) (p := p)
    have e := stepTo_st (b := b) (c := addTo b.cyl p) (d := addOk b.cyl p) a.1 a.2.1
    have h2 := h.len
    have h3 := h.old
    exact ⟨stepTo_ok h.ok, ⟨e.1.trans h.st.1, e.2.trans h.st.2⟩, stepTo_plen (Nat.le_trans a.2.2 (by simp only [Bench.cyl]; omega)) (by omega), Nat.le_trans stepTo_len (by omega), chg_set h.ok h.chg⟩
theorem benchStep_b (b : Bench) (x : Cur) : (benchStep b x).2.b = x.b := by unfold benchStep; split <;> simp
theorem benchStep_i {b : Bench} {x : Cur} (h : 0 ≤ x.i) : 0 ≤ (benchStep b x).2.i := by
  unfold benchStep
  split
  · exact cAfter_i (cAfter_i h)
  · exact cAfter_i (cAfter_i (cAfter_i h))
theorem bench_inv {x : Cur} (hi : 0 ≤ x.i) : ∀ k, BenchInv (benchTo x k).1 (cylS x) (cylT x) k ∧ (benchTo x k).2.b = x.b ∧ 0 ≤ (benchTo x k).2.i
  | 0 => by
    have h := cylOf_ok hi
    have h2 := cylEnd_b hi
    refine ⟨⟨(benchOk_iff _).2 ⟨h.1, by simp [benchTo], by simp [benchTo]⟩, ⟨rfl, rfl⟩, h.2, by simp [benchTo], fun q hq => by simp [benchTo] at hq⟩, ?_, cAfter_i h2.2⟩
    show (cAfter (cylEnd x) 7).b = _
    rw [cAfter_b]; exact h2.1
  | k + 1 => by
    obtain ⟨h1, h2, h3⟩ := bench_inv hi k
    exact ⟨h1.step _, (benchStep_b _ _).trans h2, benchStep_i h3⟩
theorem benchN_le (x : Cur) : benchN x ≤ 6 := by
  have := cBelow_range (cylEnd x) (show (0 : Int) < 7 by omega)
  unfold benchN; omega
theorem benchOf_inv {x : Cur} (hi : 0 ≤ x.i) : BenchInv (benchOf x) (cylS x) (cylT x) 6 := by
  have h := (bench_inv hi (benchN x)).1
  have h2 := benchN_le x
  exact ⟨h.ok, h.st, by have := h.len; simp only [benchOf]; omega, by have := h.old; simp only [benchOf]; omega, h.chg⟩
theorem benchEnd_b {x : Cur} (hi : 0 ≤ x.i) : (benchEnd x).b = x.b ∧ 0 ≤ (benchEnd x).i := (bench_inv hi (benchN x)).2
theorem q_cyl {b : List UInt8} (c : Cur) {m : Nat} {k : V → V → V → V → V → Prop} (hb : c.b = b) (h : 0 ≤ c.i) (hl : b.length ≤ 1048576) :
    P5 (.call F_l06Cylinder 0 m) [vL I1 vY b, .int .i64 c.i, .int .i64 c.h] k ↔ k (.int .i64 (cylOf c).s) (.int .i64 (cylOf c).t) (vL I2 v2 (cylOf c).p) (.int .i64 (cylEnd c).i) (.int .i64 (cylEnd c).h) := by
  subst hb; exact p_l06Cylinder ⟨h, hl⟩
theorem spec_l37Bench_ok : ∀ ds outs, F_l37Bench ds = some outs → shL spec_l37Bench_L (qRet outs) ds := F_l37Bench_elim fun x hp => by
  obtain ⟨i0, hb⟩ := hp
  have hE := cylEnd_b i0
  have hr := cBelow_range (cylEnd x) (show (0 : Int) < 7 by omega)
  rw [spec_l37Bench_L_sh, q_cyl (b := x.b) x rfl i0 hb, q_below (b := x.b) (cylEnd x) hE.1 hE.2 hb]
  refine loop_upto (benchN x) (fun k => [.int .i64 (cBelow (cylEnd x) 7 - k), vL I2 v2 (benchTo x k).1.p, vL IL2 vLL2 (benchTo x k).1.o, vL I1 vY x.b, .int .i64 (benchTo x k).2.i, .int .i64 (benchTo x k).2.h, .int .i64 0, .int .i64 0, .int .i64 (benchTo x k).1.s, .int .i64 (benchTo x k).1.t])
    (by intro i j hi hj h; simp only [List.cons.injEq, V.int.injEq, true_and] at h; omega) (fun _ => True) (by simp [benchTo]; rfl) trivial ?_
  intro k hk _
  obtain ⟨g1, g2, g3⟩ := bench_inv i0 k
  have hf : (benchTo x k).1.p.length ≤ 1048576 ∧ fitLL (benchTo x k).1.o := ⟨(bSmall_of_ok g1.ok).1, (bSmall_of_ok g1.ok).2.1⟩
  have hN : (benchN x : Int) = cBelow (cylEnd x) 7 := by unfold benchN; omega
  have e4 : benchTo x (k + 1) = benchStep (benchTo x k).1 (benchTo x k).2 := rfl
  rw [spec_l37Bench_b0_sh]
  simp only [P1_gtr, ifB_bool, decide_eq_true_eq, decide_eq_false_iff_not]
  refine ⟨fun h => ?_, fun h => ?_⟩
  · rw [q_once (b := x.b) _ g2 g3 hb]
    have hw : IntKind.i64.wrap (cBelow (cylEnd x) 7 - (k : Int) - 1) = cBelow (cylEnd x) 7 - ((k + 1 : Nat) : Int) := by rw [wrap_id (by omega) (by omega)]; omega
    simp only [ifB_bool, decide_eq_true_eq, decide_eq_false_iff_not, P1_sub, hw]
    refine ⟨fun h3 => ?_, fun h3 => ?_⟩
    · rw [q_below (b := x.b) (cAfter _ _) (by simp [g2]) (cAfter_i g3) hb]
      rw [p_TakePin (x_s := (benchTo x k).1.s) (x_t := (benchTo x k).1.t) (x_p := (benchTo x k).1.p) (x_o := (benchTo x k).1.o) hf]
      rw [e4]
      simp only [benchStep, h3, if_true]
      exact ⟨by omega, rfl, trivial⟩
    · rw [q_below (b := x.b) (cAfter _ _) (by simp [g2]) (cAfter_i g3) hb, q_below (b := x.b) (cAfter (cAfter _ _) _) (by simp [g2]) (cAfter_i (cAfter_i g3)) hb]
      rw [p_SetPin (x_s := (benchTo x k).1.s) (x_t := (benchTo x k).1.t) (x_p := (benchTo x k).1.p) (x_o := (benchTo x k).1.o) (y_a := cBelow (cAfter (benchTo x k).2 3) (benchTo x k).1.t) (y_b := cBelow (cAfter (cAfter (benchTo x k).2 3) (benchTo x k).1.t) (benchTo x k).1.s) hf]
      rw [e4]
      simp only [benchStep, h3, if_false]
      exact ⟨by omega, rfl, trivial⟩
  · have e : k = benchN x := by omega
    subst e
    simp [spec_l37Bench_r1_sh, benchOf, benchEnd]
end Go.Mw

namespace Go.Mw
theorem springMost_r (x : Cur) : 1 ≤ springMost x ∧ springMost x ≤ 20 := by
  have := cBelow_range x (show (0 : Int) < 20 by omega)
  unfold springMost; omega
theorem springEnd_b (x : Cur) : (springEnd x).b = x.b := by simp [springEnd]
theorem springEnd_i {x : Cur} (h : 0 ≤ x.i) : 0 ≤ (springEnd x).i := cAfter_i (cAfter_i (cAfter_i h))
theorem springOf_ok (x : Cur) : springOk (springOf x) = true := by
  have h1 := springMost_r x
  have h2 := cBelow_range (cAfter x 20) (show (0 : Int) < springMost x + 1 by omega)
  have h3 := cBelow_range (cAfter (cAfter x 20) (springMost x + 1)) (show (0 : Int) < 200 by omega)
  simp only [springOk, springOf, Bool.and_eq_true, within_iff']
  omega
theorem spec_l12Spring_ok : ∀ ds outs, F_l12Spring ds = some outs → shL spec_l12Spring_L (qRet outs) ds := F_l12Spring_elim fun x hp => by
  obtain ⟨i0, hb⟩ := hp
  have h1 := springMost_r x
  have h3 := cBelow_range (cAfter (cAfter x 20) (springMost x + 1)) (show (0 : Int) < 200 by omega)
  have w1 : IntKind.i64.wrap (1 + cBelow x 20) = springMost x := wrap_id (by unfold springMost at h1; omega) (by unfold springMost at h1; omega)
  have w2 : IntKind.i64.wrap (springMost x + 1) = springMost x + 1 := wrap_id (by omega) (by omega)
  rw [spec_l12Spring_L_sh, q_below (b := x.b) x rfl i0 hb]
  simp only [P1_add, w1, w2]
  rw [q_below (b := x.b) (cAfter x 20) (by simp) (cAfter_i i0) hb, q_below (b := x.b) (cAfter (cAfter x 20) _) (by simp) (cAfter_i (cAfter_i i0)) hb]
  have w3 : IntKind.i64.wrap (3 * cBelow (cAfter (cAfter x 20) (springMost x + 1)) 200) = 3 * cBelow (cAfter (cAfter x 20) (springMost x + 1)) 200 := wrap_id (by omega) (by omega)
  have w4 : IntKind.i64.wrap (1 + 3 * cBelow (cAfter (cAfter x 20) (springMost x + 1)) 200) = 1 + 3 * cBelow (cAfter (cAfter x 20) (springMost x + 1)) 200 := wrap_id (by omega) (by omega)
  simp [w3, w4, springOf, springEnd]

theorem combStep_r (x : Cur) : 0 ≤ (([0, 1, 2, 4] : List Int)[(cBelow x 4).toNat]?).getD 0 ∧ (([0, 1, 2, 4] : List Int)[(cBelow x 4).toNat]?).getD 0 ≤ 4 := by
  have h := cBelow_range x (show (0 : Int) < 4 by omega)
  generalize cBelow x 4 = v at *
  obtain rfl | rfl | rfl | rfl : v = 0 ∨ v = 1 ∨ v = 2 ∨ v = 3 := by omega
  all_goals simp
theorem upward_snoc {l : List Int} {y : Int} (h : upward l = true) (hl : ∀ x ∈ l, x ≤ y) : upward (l ++ [y]) = true := by
  induction l with
  | nil => rfl
  | cons a r ih =>
    cases r with
    | nil => simp [upward, hl a (by simp)]
    | cons b s =>
      simp only [upward, Bool.and_eq_true] at h
      have := ih h.2 (fun x hx => hl x (by simp [hx]))
      simp only [List.cons_append, upward, Bool.and_eq_true]
      exact ⟨h.1, this⟩
theorem comb_inv {x : Cur} (hi : 0 ≤ x.i) : ∀ k, (combTo x k).2.b = x.b ∧ 0 ≤ (combTo x k).2.i ∧ (combTo x k).1.1.length = k ∧ 10 ≤ (combTo x k).1.2 ∧ (combTo x k).1.2 ≤ 10 + 4 * k ∧
    (∀ y ∈ (combTo x k).1.1, 0 ≤ y ∧ y ≤ (combTo x k).1.2) ∧ upward (combTo x k).1.1 = true
  | 0 => ⟨rfl, hi, rfl, by simp [combTo], by simp [combTo], by simp [combTo], rfl⟩
  | k + 1 => by
    obtain ⟨h1, h2, h3, h4, h5, h6, h7⟩ := comb_inv hi k
    have r := combStep_r (combTo x k).2
    refine ⟨by simp [combTo, h1], cAfter_i h2, by simp [combTo, h3], ?_, ?_, ?_, upward_snoc h7 fun y hy => (h6 y hy).2⟩
    · simp only [combTo]; omega
    · simp only [combTo]; omega
    · intro y hy
      simp only [combTo, List.mem_append, List.mem_singleton] at hy ⊢
      rcases hy with hy | rfl
      · have := h6 y hy; omega
      · omega
theorem combTo_ok {x : Cur} (hi : 0 ≤ x.i) {k : Nat} (h1 : 1 ≤ k) (h2 : k ≤ 8) : combOk (combTo x k).1.1 = true := by
  obtain ⟨-, -, h3, h4, h5, h6, h7⟩ := comb_inv hi k
  simp only [combOk, Bool.and_eq_true, within_iff', List.all_eq_true, h3]
  refine ⟨by omega, fun y hy => ?_, h7⟩
  have := h6 y hy
  omega

theorem shopMoney_r (x : Cur) : 0 ≤ shopMoney x ∧ shopMoney x ≤ 999 := by
  have h := cBelow_range (springEnd (benchEnd x)) (show (0 : Int) < 4 by omega)
  unfold shopMoney
  generalize cBelow (springEnd (benchEnd x)) 4 = v at *
  obtain rfl | rfl | rfl | rfl : v = 0 ∨ v = 1 ∨ v = 2 ∨ v = 3 := by omega
  all_goals simp
theorem shopPlayed_r (x : Cur) : 0 ≤ shopPlayed x ∧ shopPlayed x ≤ 999999 := by
  have h := cBelow_range (cAfter (springEnd (benchEnd x)) 4) (show (0 : Int) < 3 by omega)
  unfold shopPlayed
  generalize cBelow (cAfter (springEnd (benchEnd x)) 4) 3 = v at *
  obtain rfl | rfl | rfl : v = 0 ∨ v = 1 ∨ v = 2 := by omega
  all_goals simp
theorem shopCur_b {x : Cur} (hi : 0 ≤ x.i) : (shopCur x).b = x.b ∧ 0 ≤ (shopCur x).i := by
  have h := benchEnd_b hi
  exact ⟨by simp [shopCur, springEnd_b, h.1], cAfter_i (cAfter_i (springEnd_i h.2))⟩
theorem benchOf_t {x : Cur} (hi : 0 ≤ x.i) : (4 ≤ (benchOf x).s ∧ (benchOf x).s ≤ 24) ∧ (1 ≤ (benchOf x).t ∧ (benchOf x).t ≤ 8) := by
  have h := (benchOf_inv hi).st
  have r := cyl_r x
  omega
theorem shopOf_ok {x : Cur} (hi : 0 ≤ x.i) : shopOk (shopOf x) = true := by
  have h := benchOf_inv hi
  have ht := benchOf_t hi
  have hc := shopCur_b hi
  have h1 := shopMoney_r x
  have h2 := shopPlayed_r x
  have h3 := comb_inv hc.2 (benchOf x).t.toNat
  rw [shopOk_iff]
  refine ⟨h.ok, combTo_ok hc.2 (by omega) (by omega), springOf_ok _, ?_, ?_, ?_⟩
  · show (benchOf x).t = ((combTo (shopCur x) (benchOf x).t.toNat).1.1.length : Int)
    rw [h3.2.2.1]; omega
  · rw [within_iff']; show 0 ≤ shopMoney x ∧ shopMoney x ≤ 1000000; omega
  · rw [within_iff']; show 0 ≤ shopPlayed x ∧ shopPlayed x ≤ 1000000; omega
theorem q_bench {b : List UInt8} (c : Cur) {m : Nat} {k : V → V → V → V → V → V → Prop} (hb : c.b = b) (h : 0 ≤ c.i) (hl : b.length ≤ 1048576) :
    P6 (.call F_l37Bench 0 m) [vL I1 vY b, .int .i64 c.i, .int .i64 c.h] k ↔ k (.int .i64 (benchOf c).s) (.int .i64 (benchOf c).t) (vL I2 v2 (benchOf c).p) (vL IL2 vLL2 (benchOf c).o) (.int .i64 (benchEnd c).i) (.int .i64 (benchEnd c).h) := by
  subst hb; exact p_l37Bench ⟨h, hl⟩
theorem q_spring {b : List UInt8} (c : Cur) {m : Nat} {k : V → V → V → V → V → Prop} (hb : c.b = b) (h : 0 ≤ c.i) (hl : b.length ≤ 1048576) :
    P5 (.call F_l12Spring 0 m) [vL I1 vY b, .int .i64 c.i, .int .i64 c.h] k ↔ k (.int .i64 (springOf c).a) (.int .i64 (springOf c).b) (.int .i64 (springOf c).c) (.int .i64 (springEnd c).i) (.int .i64 (springEnd c).h) := by
  subst hb; exact p_l12Spring ⟨h, hl⟩
@[simp] theorem P1_lstI4 {a b c d : Int} {k : V → Prop} : P1 (.lst [.sc] false 4) [.int .i64 a, .int .i64 b, .int .i64 c, .int .i64 d] k ↔ k (vL I1 v1 [a, b, c, d]) := P1_of (by simp [Prim.run, aksOk, akOk, chunk, V.pack, vL, v1]) k
theorem spec_l38Workshop_ok : ∀ ds outs, F_l38Workshop ds = some outs → shL spec_l38Workshop_L (qRet outs) ds := F_l38Workshop_elim fun x hp => by
  obtain ⟨i0, hb⟩ := hp
  have hE := benchEnd_b i0
  have hS := springEnd_i hE.2
  have hC := shopCur_b i0
  have ht := benchOf_t i0
  rw [spec_l38Workshop_L_sh, q_bench (b := x.b) x rfl i0 hb, q_spring (b := x.b) _ hE.1 hE.2 hb]
  simp only [P1_lstI4, P1_lstI3]
  rw [q_pick (b := x.b) (springEnd (benchEnd x)) (by rw [springEnd_b, hE.1]) hS hb (by simp) (by simp)]
  rw [q_pick (b := x.b) (cAfter (springEnd (benchEnd x)) _) (by rw [cAfter_b, springEnd_b, hE.1]) (cAfter_i hS) hb (by simp) (by simp)]
  have e4 : (([0, 1, 30, 999] : List Int).length : Int) = 4 := rfl
  have e3 : (([0, 12, 999999] : List Int).length : Int) = 3 := rfl
  simp only [e4, e3]
  refine loop_upto (benchOf x).t.toNat (fun k => [.int .i64 (combTo (shopCur x) k).1.2, .int .i64 k, vL I2 v2 (benchOf x).p, vL IL2 vLL2 (benchOf x).o, vL I1 v1 (combTo (shopCur x) k).1.1, vL I1 vY x.b, .int .i64 (combTo (shopCur x) k).2.i, .int .i64 (combTo (shopCur x) k).2.h,
      .int .i64 0, .int .i64 0, .int .i64 0, .int .i64 0, .int .i64 0, .int .i64 0, .int .i64 0, .int .i64 (benchOf x).s, .int .i64 (benchOf x).t, .int .i64 (springOf (benchEnd x)).a, .int .i64 (springOf (benchEnd x)).b, .int .i64 (springOf (benchEnd x)).c, .int .i64 (shopMoney x), .int .i64 (shopPlayed x)])
    (by intro i j hi hj h; simp only [List.cons.injEq, V.int.injEq, true_and] at h; omega) (fun _ => True) (by simp [combTo]; exact ⟨rfl, rfl, rfl, rfl⟩) trivial ?_
  intro k hk _
  obtain ⟨g1, g2, g3, g4, g5, -, -⟩ := comb_inv hC.2 k
  have r := combStep_r (combTo (shopCur x) k).2
  rw [spec_l38Workshop_b0_sh]
  simp only [P1_lss, ifB_bool, decide_eq_true_eq, decide_eq_false_iff_not]
  refine ⟨fun h => ?_, fun h => ?_⟩
  · simp only [P1_lstI4]
    have hw : IntKind.i64.wrap ((k : Int) + 1) = ((k + 1 : Nat) : Int) := by rw [wrap_id (by omega) (by omega)]; omega
    have hw2 : IntKind.i64.wrap ((combTo (shopCur x) k).1.2 + (([0, 1, 2, 4] : List Int)[(cBelow (combTo (shopCur x) k).2 4).toNat]?).getD 0) = (combTo (shopCur x) (k + 1)).1.2 := wrap_id (by omega) (by omega)
    simp only [P1_lst1, P1_appI_, g3, List.length_singleton]
    refine ⟨by omega, ?_⟩
    rw [q_pick (b := x.b) _ (g1.trans hC.1) g2 hb (by simp) (by simp)]
    have e4' : (([0, 1, 2, 4] : List Int).length : Int) = 4 := rfl
    simp only [e4', P1_add, hw, hw2]
    simp [combTo]
    omega
  · have e : k = (benchOf x).t.toNat := by omega
    subst e
    simp [spec_l38Workshop_r1_sh, shopOf, shopEnd]
end Go.Mw

namespace Go.Mw
theorem cur0_i (l : List UInt8) : 0 ≤ (cur0 l).i := by simp [cur0]
end Go.Mw

namespace Go.Mw
end Go.Mw

namespace Go.Mw
theorem withBench_f {x : Shop} {b : Bench} {k : Int} {ok : Bool} : (withBench x b k ok).y = (if benchFits x b k ok then x.y - k else x.y) ∧ (withBench x b k ok).d = x.d ∧ (withBench x b k ok).u = x.u := by
  unfold withBench
  split <;> simp [withB]
structure ActDoes (w w' : Shop) (a : T3) (n : Int) : Prop where
  y : w'.y = if n = 1 ∧ a.a = 1 then w.y - 1 else w.y
  d : w'.d = if n = 1 ∧ a.a = 5 then w.d + w.p.length else w.d
  u : w'.u = if n = 1 ∧ a.a = 5 then w.u - 1 else if a.a = 4 then w.u + n else w.u
  c : a.a = 6 → n = closest w'.bench.cyl
  p : n = 1 ∧ a.a = 5 → tooClose w.bench.cyl 2 = []
end Go.Mw

namespace Go.Mw
theorem Shop.eta (x : Shop) : (⟨x.s, x.t, x.p, x.o, x.c, x.u, x.m, x.f, x.y, x.d⟩ : Shop) = x := rfl
end Go.Mw

namespace Go.Mw
theorem rising_sub {l m : List T2} (h : rising l = true) (hs : m.Sublist l) : rising m = true := rising_of_pair ((rising_pair h).sublist hs)
theorem cyl_pull {c : Cyl} (h : cylOk c = true) (k : Nat) : cylOk ⟨c.s, c.t, c.p.take k ++ c.p.drop (k + 1)⟩ = true := by
  simp only [cylOk, Bool.and_eq_true, decide_eq_true_eq, List.all_eq_true] at h ⊢
  obtain ⟨⟨⟨h1, h2⟩, h3⟩, h4, h5⟩ := h
  have hs : (c.p.take k ++ c.p.drop (k + 1)).Sublist c.p := by
    have h6 : (c.p.drop (k + 1)).Sublist (c.p.drop k) := by rw [← List.drop_drop]; exact List.drop_sublist 1 _
    have h7 := List.Sublist.append (List.Sublist.refl (c.p.take k)) h6
    rwa [List.take_append_drop] at h7
  exact ⟨⟨⟨h1, h2⟩, Nat.le_trans hs.length_le h3⟩, fun x hx => h4 x (hs.subset hx), rising_sub h5 hs⟩
theorem cyl_put {c : Cyl} (h : cylOk c = true) {p : T2} (hp : pinIn c.s c.t p = true) (hl : c.p.length + 1 ≤ 100) : cylOk ⟨c.s, c.t, putPin c.p p⟩ = true := by
  simp only [cylOk, Bool.and_eq_true, decide_eq_true_eq, List.all_eq_true] at h ⊢
  obtain ⟨⟨⟨h1, h2⟩, h3⟩, h4, h5⟩ := h
  refine ⟨⟨⟨h1, h2⟩, Nat.le_trans (putPin_len _ _) hl⟩, fun x hx => ?_, putPin_rising h5⟩
  rcases putPin_mem hx with rfl | hx
  · exact hp
  · exact h4 x hx
theorem step_iff {b : Bench} {c : Cyl} (hb : benchOk b = true) (hc : cylOk c = true) (hs : c.s = b.s) (ht : c.t = b.t) : stepOk b c = decide (b.o.length < 30) := by
  obtain ⟨h1, h2, h3⟩ := (benchOk_iff b).1 hb
  unfold stepOk
  rw [hb, Bool.true_and]
  by_cases h : b.o.length < 30
  · rw [decide_eq_true h]
    refine (benchOk_iff _).2 ⟨hc, by simp [stepped]; omega, fun q hq => ?_⟩
    simp only [stepped, List.mem_append, List.mem_singleton] at hq ⊢
    rw [hs, ht]
    rcases hq with hq | rfl
    · exact h3 q hq
    · exact h1
  · rw [decide_eq_false h]
    cases h4 : benchOk (stepped b c) with
    | false => rfl
    | true =>
      have := ((benchOk_iff _).1 h4).2.1
      simp [stepped] at this
      omega
theorem there_iff {c : Cyl} {t a : Int} (hc : cylOk c = true) (ha : 0 ≤ a ∧ a < c.s) : t ∈ pinsAt c a ↔ (⟨t, a⟩ : T2) ∈ c.p := by
  have hb := cylOk_bounds hc
  have hw : within a (-1000000) 1000000 = true := by rw [within_iff']; omega
  have hm : a % c.s = a := Int.emod_eq_of_lt ha.1 ha.2
  simp only [pinsAt, hc, hw, Bool.and_self, if_true, List.mem_map, List.mem_filter, hm, beq_iff_eq]
  constructor
  · rintro ⟨p, ⟨h1, h2⟩, h3⟩
    have : p = ⟨t, a⟩ := by cases p; simp_all
    rwa [← this]
  · exact fun h => ⟨_, ⟨h, rfl⟩, rfl⟩
theorem set_iff {b : Bench} {p : T2} (hb : benchOk b = true) (hp : pinIn b.s b.t p = true) (hl : b.p.length + 1 ≤ 100) :
    (addOk b.cyl p && stepOk b (addTo b.cyl p)) = (!decide (p ∈ b.p) && decide (b.o.length < 30)) := by
  obtain ⟨h1, h2, h3⟩ := (benchOk_iff b).1 hb
  have hc : cylOk b.cyl = true := h1
  have h4 := cyl_put hc hp hl
  have e : addOk b.cyl p = !decide (p ∈ b.p) := by
    unfold addOk
    rw [hc, h4]
    simp [Bench.cyl]
    rfl
  rw [e]
  by_cases hm : p ∈ b.p
  · simp [hm]
  · have e2 : addOk b.cyl p = true := by rw [e]; simp [hm]
    have e3 : addTo b.cyl p = ⟨b.s, b.t, putPin b.p p⟩ := by unfold addTo; rw [if_pos e2]; rfl
    have h5 : cylOk ⟨b.s, b.t, putPin b.p p⟩ = true := h4
    rw [e3, step_iff hb h5 rfl rfl]
theorem set_eq {b : Bench} {p : T2} (h : (addOk b.cyl p && stepOk b (addTo b.cyl p)) = true) : setPin b p = stepped b (addTo b.cyl p) := by
  unfold setPin stepTo
  rw [if_pos h]
theorem pull_iff {b : Bench} {k : Int} (hb : benchOk b = true) (hk : 0 ≤ k ∧ k < b.p.length) : (pullOk b.cyl k && stepOk b (pulled b k)) = decide (b.o.length < 30) ∧ (pulled b k).p = b.p.take k.toNat ++ b.p.drop (k.toNat + 1) := by
  obtain ⟨h1, h2, h3⟩ := (benchOk_iff b).1 hb
  have hc : cylOk b.cyl = true := h1
  have e : pullOk b.cyl k = true := by simp [pullOk, hc, hk.1]; exact hk.2
  have e2 : (cylOk b.cyl && (decide (0 ≤ k) && decide (k < b.cyl.p.length))) = true := e
  have e3 : (pulled b k).p = b.p.take k.toNat ++ b.p.drop (k.toNat + 1) := by simp only [pulled, pullPin, e2, if_true]; rfl
  have h4 : cylOk (pulled b k) = true := by
    have := cyl_pull hc k.toNat
    have e4 : pulled b k = ⟨b.cyl.s, b.cyl.t, b.cyl.p.take k.toNat ++ b.cyl.p.drop (k.toNat + 1)⟩ := by
      have : pulled b k = ⟨b.s, b.t, (pulled b k).p⟩ := rfl
      rw [this, e3]; rfl
    rw [e4]; exact this
  rw [e, Bool.true_and, step_iff hb h4 rfl rfl]
  exact ⟨rfl, e3⟩
theorem pulled_len {l : List T2} {k : Nat} (hk : k < l.length) : (l.take k ++ l.drop (k + 1)).length = l.length - 1 := by simp; omega
end Go.Mw

namespace Go.Mw
theorem at_range {l : List UInt8} {n : Int} : 0 ≤ atB l n := by
  unfold atB
  split
  · omega
  · exact Int.le_refl _
end Go.Mw

namespace Go.Mw
def noteLess (x y : T2) : Bool := decide (x.a < y.a ∨ x.a = y.a ∧ x.b < y.b)
def putNote : List T2 → T2 → List T2
  | [], p => [p]
  | a :: r, p => if noteLess a p then a :: putNote r p else if a = p then a :: r else p :: a :: r
def noteIn (l : List T2) : List T2 := l.foldl putNote []
def cmpNotes (x y : T2) : Int := if noteLess x y then -1 else if x = y then 0 else 1
def sortN (l : List T2) : List T2 := l.mergeSort fun x y => !noteLess y x
def sortNotes (l : List T2) : List T2 := if l.length ≤ 40 then noteIn l else []
def noteOf (w : Shop) (x : T2) : T2 := ⟨x.b, w.c[x.a.toNat]?.getD 0⟩
def melody (w : Shop) : List T2 := if shopOk w && decide (w.p.length ≤ 40) then sortNotes (w.p.map (noteOf w)) else []
def uqTo (l : List T2) : Nat → List T2
  | 0 => []
  | k + 1 => uqTo l k ++ (if k = 0 ∨ l[k]? ≠ l[k - 1]? then [l[k]?.getD ⟨0, 0⟩] else [])
def uniq (l : List T2) : List T2 := uqTo l l.length
def E_l02Less : T2 × T2 → List V := fun (x, y) => [.int .i64 x.a, .int .i64 x.b, .int .i64 y.a, .int .i64 y.b]
noncomputable def F_l02Less : List V → Option (List V) := mkF E_l02Less (fun (_, _) => True) (fun (x, y) => [.bool (noteLess x y)])
theorem F_l02Less_inj : ∀ x y, E_l02Less x = E_l02Less y → x = y := by
  rintro ⟨⟨xa, xb⟩, ⟨ya, yb⟩⟩ ⟨⟨xa', xb'⟩, ⟨ya', yb'⟩⟩ h
  simpa [E_l02Less, and_assoc] using h
theorem F_l02Less_elim {P : List V → List V → Prop} (h : ∀ (x : T2) (y : T2), P [.int .i64 x.a, .int .i64 x.b, .int .i64 y.a, .int .i64 y.b] [.bool (noteLess x y)]) : ∀ ds outs, F_l02Less ds = some outs → P ds outs := by
  intro ds outs hh
  obtain ⟨⟨x, y⟩, rfl, -, rfl⟩ := mkF_inv hh
  exact h x y
@[simp] theorem p_l02Less {x_a : Int} {x_b : Int} {y_a : Int} {y_b : Int} {nr_ : Nat} {kk_ : V → Prop} : P1 (.call F_l02Less 0 nr_) [.int .i64 x_a, .int .i64 x_b, .int .i64 y_a, .int .i64 y_b] kk_ ↔ kk_ (.bool (noteLess (⟨x_a, x_b⟩ : T2) (⟨y_a, y_b⟩ : T2))) :=
  P1_callF (by unfold F_l02Less; exact mkF_eq F_l02Less_inj ((⟨x_a, x_b⟩ : T2), (⟨y_a, y_b⟩ : T2)) trivial)

def E_SortNotes (l : List T2) : List V := [vL I2 v2 l]
noncomputable def F_SortNotes : List V → Option (List V) := mkF E_SortNotes (fun l => l.length ≤ 1048576) (fun l => [vL I2 v2 (sortNotes l)])
theorem F_SortNotes_inj : ∀ x y, E_SortNotes x = E_SortNotes y → x = y := by
  rintro l l' h
  simpa [E_SortNotes] using h
theorem F_SortNotes_elim {P : List V → List V → Prop} (h : ∀ (l : List T2), (l.length ≤ 1048576) → P [vL I2 v2 l] [vL I2 v2 (sortNotes l)]) : ∀ ds outs, F_SortNotes ds = some outs → P ds outs := by
  intro ds outs hh
  obtain ⟨l, rfl, hp, rfl⟩ := mkF_inv hh
  exact h l hp
theorem p_SortNotes {l : List T2} {nr_ : Nat} {kk_ : V → Prop} (hp : l.length ≤ 1048576) : P1 (.call F_SortNotes 0 nr_) [vL I2 v2 l] kk_ ↔ kk_ (vL I2 v2 (sortNotes l)) :=
  P1_callF (by unfold F_SortNotes; exact mkF_eq F_SortNotes_inj (l) hp)

def E_MelodyOf (x : Shop) : List V := [.int .i64 x.s, .int .i64 x.t, vL I2 v2 x.p, vL IL2 vLL2 x.o, vL I1 v1 x.c, .int .i64 x.u, .int .i64 x.m, .int .i64 x.f, .int .i64 x.y, .int .i64 x.d]
noncomputable def F_MelodyOf : List V → Option (List V) := mkF E_MelodyOf (fun x => x.p.length ≤ 1048576 ∧ fitLL x.o ∧ x.c.length ≤ 1048576) (fun x => [vL I2 v2 (melody x)])
theorem F_MelodyOf_inj : ∀ x y, E_MelodyOf x = E_MelodyOf y → x = y := by
  rintro ⟨xs, xt, xp, xo, xc, xu, xm, xf, xy, xd⟩ ⟨xs', xt', xp', xo', xc', xu', xm', xf', xy', xd'⟩ h
  simpa [E_MelodyOf] using h
theorem F_MelodyOf_elim {P : List V → List V → Prop} (h : ∀ (x : Shop), (x.p.length ≤ 1048576 ∧ fitLL x.o ∧ x.c.length ≤ 1048576) → P [.int .i64 x.s, .int .i64 x.t, vL I2 v2 x.p, vL IL2 vLL2 x.o, vL I1 v1 x.c, .int .i64 x.u, .int .i64 x.m, .int .i64 x.f, .int .i64 x.y, .int .i64 x.d] [vL I2 v2 (melody x)]) : ∀ ds outs, F_MelodyOf ds = some outs → P ds outs := by
  intro ds outs hh
  obtain ⟨x, rfl, hp, rfl⟩ := mkF_inv hh
  exact h x hp
theorem p_MelodyOf {x_s : Int} {x_t : Int} {x_p : List T2} {x_o : List (List T2)} {x_c : List Int} {x_u : Int} {x_m : Int} {x_f : Int} {x_y : Int} {x_d : Int} {nr_ : Nat} {kk_ : V → Prop} (hp : (⟨x_s, x_t, x_p, x_o, x_c, x_u, x_m, x_f, x_y, x_d⟩ : Shop).p.length ≤ 1048576 ∧ fitLL (⟨x_s, x_t, x_p, x_o, x_c, x_u, x_m, x_f, x_y, x_d⟩ : Shop).o ∧ (⟨x_s, x_t, x_p, x_o, x_c, x_u, x_m, x_f, x_y, x_d⟩ : Shop).c.length ≤ 1048576) : P1 (.call F_MelodyOf 0 nr_) [.int .i64 x_s, .int .i64 x_t, vL I2 v2 x_p, vL IL2 vLL2 x_o, vL I1 v1 x_c, .int .i64 x_u, .int .i64 x_m, .int .i64 x_f, .int .i64 x_y, .int .i64 x_d] kk_ ↔ kk_ (vL I2 v2 (melody (⟨x_s, x_t, x_p, x_o, x_c, x_u, x_m, x_f, x_y, x_d⟩ : Shop))) :=
  P1_callF (by unfold F_MelodyOf; exact mkF_eq F_MelodyOf_inj ((⟨x_s, x_t, x_p, x_o, x_c, x_u, x_m, x_f, x_y, x_d⟩ : Shop)) hp)

def E_copyNotes (l : List T2) : List V := [vL I2 v2 l]
noncomputable def F_copyNotes : List V → Option (List V) := mkF E_copyNotes (fun l => l.length ≤ 1048576) (fun l => [vL I2 v2 l])
theorem F_copyNotes_inj : ∀ x y, E_copyNotes x = E_copyNotes y → x = y := by
  rintro l l' h
  simpa [E_copyNotes] using h
theorem F_copyNotes_elim {P : List V → List V → Prop} (h : ∀ (l : List T2), (l.length ≤ 1048576) → P [vL I2 v2 l] [vL I2 v2 l]) : ∀ ds outs, F_copyNotes ds = some outs → P ds outs := by
  intro ds outs hh
  obtain ⟨l, rfl, hp, rfl⟩ := mkF_inv hh
  exact h l hp
theorem p_copyNotes {l : List T2} {nr_ : Nat} {kk_ : V → Prop} (hp : l.length ≤ 1048576) : P1 (.call F_copyNotes 0 nr_) [vL I2 v2 l] kk_ ↔ kk_ (vL I2 v2 l) :=
  P1_callF (by unfold F_copyNotes; exact mkF_eq F_copyNotes_inj (l) hp)

def E_compareNotes : T2 × T2 → List V := fun (x, y) => [.int .i64 x.a, .int .i64 x.b, .int .i64 y.a, .int .i64 y.b]
noncomputable def F_compareNotes : List V → Option (List V) := mkF E_compareNotes (fun (_, _) => True) (fun (x, y) => [.int .i64 (cmpNotes x y)])
theorem F_compareNotes_inj : ∀ x y, E_compareNotes x = E_compareNotes y → x = y := by
  rintro ⟨⟨xa, xb⟩, ⟨ya, yb⟩⟩ ⟨⟨xa', xb'⟩, ⟨ya', yb'⟩⟩ h
  simpa [E_compareNotes, and_assoc] using h
theorem F_compareNotes_elim {P : List V → List V → Prop} (h : ∀ (x : T2) (y : T2), P [.int .i64 x.a, .int .i64 x.b, .int .i64 y.a, .int .i64 y.b] [.int .i64 (cmpNotes x y)]) : ∀ ds outs, F_compareNotes ds = some outs → P ds outs := by
  intro ds outs hh
  obtain ⟨⟨x, y⟩, rfl, -, rfl⟩ := mkF_inv hh
  exact h x y
@[simp] theorem p_compareNotes {x_a : Int} {x_b : Int} {y_a : Int} {y_b : Int} {nr_ : Nat} {kk_ : V → Prop} : P1 (.call F_compareNotes 0 nr_) [.int .i64 x_a, .int .i64 x_b, .int .i64 y_a, .int .i64 y_b] kk_ ↔ kk_ (.int .i64 (cmpNotes (⟨x_a, x_b⟩ : T2) (⟨y_a, y_b⟩ : T2))) :=
  P1_callF (by unfold F_compareNotes; exact mkF_eq F_compareNotes_inj ((⟨x_a, x_b⟩ : T2), (⟨y_a, y_b⟩ : T2)) trivial)

def E_slices_SortFunc_Limpl_Note_impl_Note (l : List T2) : List V := [vL I2 v2 l]
noncomputable def F_slices_SortFunc_Limpl_Note_impl_Note : List V → Option (List V) := mkF E_slices_SortFunc_Limpl_Note_impl_Note (fun l => l.length ≤ 1048576) (fun l => [vL I2 v2 (sortN l)])
theorem F_slices_SortFunc_Limpl_Note_impl_Note_inj : ∀ x y, E_slices_SortFunc_Limpl_Note_impl_Note x = E_slices_SortFunc_Limpl_Note_impl_Note y → x = y := by
  rintro l l' h
  simpa [E_slices_SortFunc_Limpl_Note_impl_Note] using h
theorem p_slices_SortFunc_Limpl_Note_impl_Note {l : List T2} {kk_ : V → Prop} (hp : l.length ≤ 1048576) : P1 (.call F_slices_SortFunc_Limpl_Note_impl_Note 1 0) [vL I2 v2 l, vL I2 v2 l] kk_ ↔ kk_ (vL I2 v2 (sortN l)) :=
  P1_of (callIo_run (as := [vL I2 v2 l]) (rs := [vL I2 v2 l]) (n := 1) (nr := 0) rfl (by simp) (by unfold F_slices_SortFunc_Limpl_Note_impl_Note; exact mkF_eq F_slices_SortFunc_Limpl_Note_impl_Note_inj (l) hp) (by simp [ksAll, vL, AK.eqs_refl]) rfl) kk_

def E_slices_Compact_Limpl_Note_impl_Note (l : List T2) : List V := [vL I2 v2 l]
noncomputable def F_slices_Compact_Limpl_Note_impl_Note : List V → Option (List V) := mkF E_slices_Compact_Limpl_Note_impl_Note (fun l => l.length ≤ 1048576) (fun l => [vL I2 v2 (uniq l)])
theorem F_slices_Compact_Limpl_Note_impl_Note_inj : ∀ x y, E_slices_Compact_Limpl_Note_impl_Note x = E_slices_Compact_Limpl_Note_impl_Note y → x = y := by
  rintro l l' h
  simpa [E_slices_Compact_Limpl_Note_impl_Note] using h
theorem p_slices_Compact_Limpl_Note_impl_Note {l : List T2} {nr_ : Nat} {kk_ : V → Prop} (hp : l.length ≤ 1048576) : P1 (.call F_slices_Compact_Limpl_Note_impl_Note 0 nr_) [vL I2 v2 l] kk_ ↔ kk_ (vL I2 v2 (uniq l)) :=
  P1_callF (by unfold F_slices_Compact_Limpl_Note_impl_Note; exact mkF_eq F_slices_Compact_Limpl_Note_impl_Note_inj (l) hp)

def E_sorted (l : List T2) : List V := [vL I2 v2 l]
noncomputable def F_sorted : List V → Option (List V) := mkF E_sorted (fun l => l.length ≤ 1048576) (fun l => [vL I2 v2 (noteIn l)])
theorem F_sorted_inj : ∀ x y, E_sorted x = E_sorted y → x = y := by
  rintro l l' h
  simpa [E_sorted] using h
theorem F_sorted_elim {P : List V → List V → Prop} (h : ∀ (l : List T2), (l.length ≤ 1048576) → P [vL I2 v2 l] [vL I2 v2 (noteIn l)]) : ∀ ds outs, F_sorted ds = some outs → P ds outs := by
  intro ds outs hh
  obtain ⟨l, rfl, hp, rfl⟩ := mkF_inv hh
  exact h l hp
theorem p_sorted {l : List T2} {nr_ : Nat} {kk_ : V → Prop} (hp : l.length ≤ 1048576) : P1 (.call F_sorted 0 nr_) [vL I2 v2 l] kk_ ↔ kk_ (vL I2 v2 (noteIn l)) :=
  P1_callF (by unfold F_sorted; exact mkF_eq F_sorted_inj (l) hp)

end Go.Mw

namespace Go.Mw
noncomputable section
def spec_l02Less_L : L := .seq (.rg []) (.seq (.rg [zb .lss 0 2, ⟨[(.v 4, false)], .bin .eql, [.v 0, .v 2], 1⟩, ⟨[(.v 4, false), (.v 5, true)], .bin .lss, [.v 1, .v 3], 1⟩, ⟨[(.v 4, false)], .pick, [.v 5, .v 6, .k (.bool false)], 1⟩, ⟨[], .pick, [.v 4, .k (.bool true), .v 7], 1⟩]) (.ret [.v 8]))
theorem spec_l02Less_L_sh (Q : QT) (x0 x1 x2 x3 : V) : shL spec_l02Less_L Q [x0, x1, x2, x3] = (
  P1 (.bin .lss) [x0, x2] fun v0 =>
  ifB v0 (
    Q .ret [.bool true]) (
    P1 (.bin .eql) [x0, x2] fun v1 =>
    ifB v1 (
      P1 (.bin .lss) [x1, x3] fun v2 =>
      Q .ret [v2]) (
      Q .ret [.bool false]))) := by kernel_rfl
def spec_l02Less_S : Sig := ⟨[.val true [.sc, .sc], .val true [.sc, .sc]], [(false, [.sc])], F_l02Less⟩
def spec_l02Less_hs : List NF := []

def impl_copyNotes_L : L := .seq (.rg []) (.seq (.rg [⟨[], .lst [.sc, .sc] true 0, [], 1⟩, ⟨[], .app [.sc, .sc] 16, [.v 1, .v 0], 1⟩]) (.ret [.v 2]))
theorem impl_copyNotes_L_sh (Q : QT) (x0 : V) : shL impl_copyNotes_L Q [x0] = (
  P1 (.lst [.sc, .sc] true 0) [] fun v0 =>
  P1 (.app [.sc, .sc] 16) [v0, x0] fun v1 =>
  Q .ret [v1]) := by kernel_rfl
def impl_copyNotes_S : Sig := ⟨[.val false [.sl [.sc, .sc]]], [(false, [.sl [.sc, .sc]])], F_copyNotes⟩
def impl_copyNotes_hs : List NF := []

def impl_compareNotes_L : L := .seq (.rg []) (.seq (.seq (.rg [zb .lss 0 2, ⟨[(.v 4, false)], .bin .eql, [.v 0, .v 2], 1⟩, ⟨[(.v 4, false), (.v 5, true)], .bin .lss, [.v 1, .v 3], 1⟩, ⟨[(.v 4, false)], .pick, [.v 5, .v 6, .k (.bool false)], 1⟩, ⟨[], .pick, [.v 4, .k (.bool true), .v 7], 1⟩]) (.ite (.v 8) (.seq (.rg []) (.ret [.k (.int .i64 (-1))])) (.skip))) (.seq (.seq (.rg [⟨[], .eqa false [.i, .i], [.v 0, .v 1, .v 2, .v 3], 1⟩]) (.ite (.v 9) (.seq (.rg []) (.ret [.k (.int .i64 0)])) (.skip))) (.seq (.rg []) (.ret [.k (.int .i64 1)]))))
theorem impl_compareNotes_L_sh (Q : QT) (x0 x1 x2 x3 : V) : shL impl_compareNotes_L Q [x0, x1, x2, x3] = (
  P1 (.bin .lss) [x0, x2] fun v0 =>
  ifB v0 (
    Q .ret [.int .i64 (-1)]) (
    P1 (.bin .eql) [x0, x2] fun v1 =>
    ifB v1 (
      P1 (.bin .lss) [x1, x3] fun v2 =>
      ifB v2 (
        Q .ret [.int .i64 (-1)]) (
        P1 (.eqa false [.i, .i]) [x0, x1, x2, x3] fun v3 =>
        ifB v3 (
          Q .ret [.int .i64 0]) (
          Q .ret [.int .i64 1]))) (
      P1 (.eqa false [.i, .i]) [x0, x1, x2, x3] fun v4 =>
      ifB v4 (
        Q .ret [.int .i64 0]) (
        Q .ret [.int .i64 1])))) := by kernel_rfl
def impl_compareNotes_S : Sig := ⟨[.val true [.sc, .sc], .val true [.sc, .sc]], [(false, [.sc])], F_compareNotes⟩
def impl_compareNotes_hs : List NF := []

def impl_sorted_L : L := .seq (.rg []) (.seq (.rg [zc F_copyNotes 1 [0]]) (.seq (.rg [⟨[], .call F_slices_SortFunc_Limpl_Note_impl_Note 1 0, [.v 1, .v 1], 1⟩]) (.seq (.rg [zc F_slices_Compact_Limpl_Note_impl_Note 1 [2]]) (.ret [.v 3]))))
theorem impl_sorted_L_sh (Q : QT) (x0 : V) : shL impl_sorted_L Q [x0] = (
  P1 (.call F_copyNotes 0 1) [x0] fun v0 =>
  P1 (.call F_slices_SortFunc_Limpl_Note_impl_Note 1 0) [v0, v0] fun v1 =>
  P1 (.call F_slices_Compact_Limpl_Note_impl_Note 0 1) [v1] fun v2 =>
  Q .ret [v2]) := by kernel_rfl
def impl_sorted_S : Sig := ⟨[.val false [.sl [.sc, .sc]]], [(false, [.sl [.sc, .sc]])], F_sorted⟩
def impl_sorted_hs : List NF := []

def impl_SortNotes_L : L := .seq (.rg []) (.seq (.seq (.rg [zl 0, zk .gtr 1 40]) (.ite (.v 2) (.seq (.rg []) (.ret [.k (.list [.sc, .sc] [])])) (.skip))) (.seq (.rg [zc F_sorted 1 [0]]) (.ret [.v 3])))
theorem impl_SortNotes_L_sh (Q : QT) (x0 : V) : shL impl_SortNotes_L Q [x0] = (
  P1 (.len) [x0] fun v0 =>
  P1 (.bin .gtr) [v0, .int .i64 40] fun v1 =>
  ifB v1 (
    Q .ret [.list [.sc, .sc] []]) (
    P1 (.call F_sorted 0 1) [x0] fun v2 =>
    Q .ret [v2])) := by kernel_rfl
def impl_SortNotes_S : Sig := ⟨[.val false [.sl [.sc, .sc]]], [(false, [.sl [.sc, .sc]])], F_SortNotes⟩
def impl_SortNotes_hs : List NF := []

def impl_MelodyOf_b0 : L := .seq (.seq (.rg [zb .lss 2 1]) (.seq (.ite (.v 14) (.skip) (.seq (zt [3]) (.exit 0))) (.seq (.block 1 (.seq (.seq (.rg [zj 0 2]) (.rg [zi 8 15, ⟨[], .lst [.sc, .sc] true 1, [.v 16, .v 17], 1⟩, ⟨[], .app [.sc, .sc] 16, [.v 3, .v 18], 1⟩])) (zt [0, 1, 2, 19, 4, 5, 6, 7, 8, 9, 10, 11, 12, 13]))) (.rg [zk .add 2 1])))) (zt [0, 1, 14, 3, 4, 5, 6, 7, 8, 9, 10, 11, 12, 13])
theorem impl_MelodyOf_b0_sh (Q : QT) (x0 x1 x2 x3 x4 x5 x6 x7 x8 x9 x10 x11 x12 x13 : V) : shL impl_MelodyOf_b0 Q [x0, x1, x2, x3, x4, x5, x6, x7, x8, x9, x10, x11, x12, x13] = (
  P1 (.bin .lss) [x2, x1] fun v0 =>
  ifB v0 (
    P2 (.idx [.sc, .sc]) [x0, x2] fun v1 v2 =>
    P1 (.idx [.sc]) [x8, v1] fun v3 =>
    P1 (.lst [.sc, .sc] true 1) [v2, v3] fun v4 =>
    P1 (.app [.sc, .sc] 16) [x3, v4] fun v5 =>
    P1 (.bin .add) [x2, .int .i64 1] fun v6 =>
    Q .normal [x0, x1, v6, v5, x4, x5, x6, x7, x8, x9, x10, x11, x12, x13]) (
    Q (.exit 0) [x3])) := by kernel_rfl

def impl_MelodyOf_r1 : L := .seq (.rg [zc F_SortNotes 1 [0]]) (.ret [.v 1])
theorem impl_MelodyOf_r1_sh (Q : QT) (x0 : V) : shL impl_MelodyOf_r1 Q [x0] = (
  P1 (.call F_SortNotes 0 1) [x0] fun v0 =>
  Q .ret [v0]) := by kernel_rfl

def impl_MelodyOf_L : L := .seq (.rg []) (.seq (.seq (.rg [zc F_WorkshopOk 1 [0, 1, 2, 3, 4, 5, 6, 7, 8, 9], zn 10, ⟨[(.v 11, false)], .len, [.v 2], 1⟩, ⟨[(.v 11, false)], .bin .gtr, [.v 12, .k (.int .i64 40)], 1⟩, ⟨[], .pick, [.v 11, .k (.bool true), .v 13], 1⟩]) (.ite (.v 14) (.seq (.rg []) (.ret [.k (.list [.sc, .sc] [])])) (.skip))) (.seq (.rg [⟨[], .lst [.sc, .sc] true 0, [], 1⟩]) (.seq (.seq (.rg [zl 2]) (.block 0 (.seq (.tup [.v 2, .v 16, .k (.int .i64 0), .v 15, .v 0, .v 1, .v 2, .v 3, .v 4, .v 5, .v 6, .v 7, .v 8, .v 9]) (.loop (impl_MelodyOf_b0))))) (impl_MelodyOf_r1))))
theorem impl_MelodyOf_L_sh (Q : QT) (x0 x1 x2 x3 x4 x5 x6 x7 x8 x9 : V) : shL impl_MelodyOf_L Q [x0, x1, x2, x3, x4, x5, x6, x7, x8, x9] = (
  P1 (.call F_WorkshopOk 0 1) [x0, x1, x2, x3, x4, x5, x6, x7, x8, x9] fun v0 =>
  P1 (.un .not) [v0] fun v1 =>
  ifB v1 (
    Q .ret [.list [.sc, .sc] []]) (
    P1 (.len) [x2] fun v2 =>
    P1 (.bin .gtr) [v2, .int .i64 40] fun v3 =>
    ifB v3 (
      Q .ret [.list [.sc, .sc] []]) (
      P1 (.lst [.sc, .sc] true 0) [] fun v4 =>
      P1 (.len) [x2] fun v5 =>
      shL (.loop impl_MelodyOf_b0) (qB 0 (qS (shL impl_MelodyOf_r1 Q) Q)) [x2, v5, .int .i64 0, v4, x0, x1, x2, x3, x4, x5, x6, x7, x8, x9]))) := by kernel_rfl
def impl_MelodyOf_S : Sig := ⟨[.val true [.sc, .sc, .sl [.sc, .sc], .sl [.sl [.sc, .sc]], .sl [.sc], .sc, .sc, .sc, .sc, .sc]], [(false, [.sl [.sc, .sc]])], F_MelodyOf⟩
def impl_MelodyOf_hs : List NF := [⟨[(3, zo 64)], [(64, true, [.sc, .sc])], [], 65⟩, ⟨[(1, .ptr 64 0), (3, zo 65), (21, zq), (22, zs), (23, zs)], [(65, true, [.sc, .sc])], [(64, [.sc, .sc, .ro [.sc, .sc], .ro [.sl [.sc, .sc]], .ro [.sc], .sc, .sc, .sc, .sc, .sc])], 66⟩, ⟨[(1, .ptr 64 0), (3, zo 65), (21, zq), (22, zs), (23, zs)], [(65, true, [.sc, .sc])], [(64, [.sc, .sc, .ro [.sc, .sc], .ro [.sl [.sc, .sc]], .ro [.sc], .sc, .sc, .sc, .sc, .sc])], 66⟩]

end
end Go.Mw

namespace Go.Mw
theorem noteLess_iff {x y : T2} : noteLess x y = true ↔ x.a < y.a ∨ x.a = y.a ∧ x.b < y.b := by simp [noteLess]
theorem noteLess_trans {a b c : T2} (h1 : noteLess a b = true) (h2 : noteLess b c = true) : noteLess a c = true := by
  rw [noteLess_iff] at *; omega
theorem noteLess_irrefl (a : T2) : noteLess a a = false := by simp [noteLess]
theorem noteLess_or {a b : T2} (h : noteLess a b = false) (hne : a ≠ b) : noteLess b a = true := by
  rw [noteLess_iff]
  have h : ¬ (a.a < b.a ∨ a.a = b.a ∧ a.b < b.b) := fun e => by rw [noteLess_iff.2 e] at h; exact absurd h (by simp)
  by_cases e : a.a = b.a ∧ a.b = b.b
  · exact absurd (by cases a; cases b; simp_all) hne
  · omega
theorem putNote_mem : ∀ {l : List T2} {y p : T2}, p ∈ putNote l y ↔ p = y ∨ p ∈ l
  | [], y, p => by simp [putNote]
  | a :: r, y, p => by
    unfold putNote
    split
    · rw [List.mem_cons, putNote_mem (l := r)]
      simp only [List.mem_cons]
      exact ⟨fun h => by rcases h with h | h | h <;> simp [h], fun h => by rcases h with h | h | h <;> simp [h]⟩
    · split
      · rename_i e
        subst e
        simp
      · simp
theorem putNote_less : ∀ {l : List T2} {y : T2}, (l.Pairwise fun x y => noteLess x y = true) → (putNote l y).Pairwise fun x y => noteLess x y = true
  | [], y, _ => by simp [putNote]
  | a :: r, y, h => by
    obtain ⟨h1, h2⟩ := List.pairwise_cons.1 h
    unfold putNote
    cases c : noteLess a y with
    | true =>
      rw [if_pos rfl]
      refine .cons (fun b hb => ?_) (putNote_less h2)
      rcases putNote_mem.1 hb with rfl | hb
      · exact c
      · exact h1 b hb
    | false =>
      rw [if_neg (by simp)]
      split
      · exact h
      · rename_i e
        have g := noteLess_or c e
        refine .cons (fun b hb => ?_) h
        rcases List.mem_cons.1 hb with rfl | hb
        · exact g
        · exact noteLess_trans g (h1 b hb)
theorem putNote_len (l : List T2) (y : T2) : (putNote l y).length ≤ l.length + 1 := by
  induction l with
  | nil => simp [putNote]
  | cons a r ih =>
    unfold putNote
    split
    · simp only [List.length_cons]; omega
    · split <;> simp
theorem note_one : ∀ {l m : List T2}, (l.Pairwise fun x y => noteLess x y = true) → (m.Pairwise fun x y => noteLess x y = true) → l.Perm m → l = m
  | [], m, _, _, h => by simpa using h.symm.eq_nil
  | a :: r, [], _, _, h => by simpa using h.eq_nil
  | a :: r, b :: s, h1, h2, h => by
    have hab : a = b := by
      have ha : a ∈ b :: s := h.subset (by simp)
      have hb : b ∈ a :: r := h.symm.subset (by simp)
      rcases List.mem_cons.1 ha with e | ha
      · exact e
      · rcases List.mem_cons.1 hb with e | hb
        · exact e.symm
        · have g1 := List.rel_of_pairwise_cons h1 hb
          have g2 := List.rel_of_pairwise_cons h2 ha
          have := noteLess_trans g1 g2
          rw [noteLess_irrefl] at this
          exact absurd this (by simp)
    subst hab
    rw [note_one h1.of_cons h2.of_cons (List.Perm.cons_inv h)]
theorem notes_mem : ∀ (l acc : List T2) (p : T2), p ∈ l.foldl putNote acc ↔ p ∈ l ∨ p ∈ acc
  | [], acc, p => by simp
  | x :: r, acc, p => by
    rw [List.foldl_cons, notes_mem r, putNote_mem, List.mem_cons]
    exact ⟨fun h => by rcases h with h | h | h <;> simp [h], fun h => by rcases h with (h | h) | h <;> simp [h]⟩
theorem notes_rising : ∀ (l acc : List T2), (acc.Pairwise fun x y => noteLess x y = true) → (l.foldl putNote acc).Pairwise fun x y => noteLess x y = true
  | [], _, h => h
  | _ :: r, _, h => notes_rising r _ (putNote_less h)
theorem note_nodup {l : List T2} (h : l.Pairwise fun x y => noteLess x y = true) : l.Nodup := h.imp fun {x y} hxy e => by rw [e, noteLess_irrefl] at hxy; exact absurd hxy (by simp)
theorem uq_spec {s : List T2} (hs : s.Pairwise fun x y => noteLess y x = false) : ∀ k, k ≤ s.length → (uqTo s k).Pairwise (fun x y => noteLess x y = true) ∧ ∀ p, p ∈ uqTo s k ↔ p ∈ s.take k
  | 0, _ => ⟨.nil, fun p => by simp [uqTo]⟩
  | k + 1, h => by
    have hk : k < s.length := by omega
    obtain ⟨h1, h2⟩ := uq_spec hs k (by omega)
    have hg := List.pairwise_iff_getElem.1 hs
    have e : uqTo s (k + 1) = uqTo s k ++ (if k = 0 ∨ s[k]? ≠ s[k - 1]? then [s[k]] else []) := by rw [uqTo, List.getElem?_eq_getElem hk]; rfl
    rw [e, take_succ_get hk]
    by_cases c : k = 0 ∨ s[k]? ≠ s[k - 1]?
    · rw [if_pos c]
      refine ⟨List.pairwise_append.2 ⟨h1, List.pairwise_singleton _ _, fun a ha b hb => ?_⟩, fun p => by rw [List.mem_append, List.mem_append, h2]⟩
      rw [List.mem_singleton.1 hb]
      obtain ⟨j, hj, ej⟩ := List.mem_take_iff_getElem.1 ((h2 a).1 ha)
      have hk0 : ¬ k = 0 := by omega
      have c : s[k]? ≠ s[k - 1]? := c.resolve_left hk0
      rw [List.getElem?_eq_getElem hk, List.getElem?_eq_getElem (show k - 1 < s.length by omega)] at c
      have c : s[k] ≠ s[k - 1] := fun e => c (by rw [e])
      have g1 := hg (k - 1) k (by omega) hk (by omega)
      have g3 : noteLess s[k - 1] s[k] = true := noteLess_or g1 c
      by_cases e : j = k - 1
      · subst e; rw [← ej]; exact g3
      · have g2 := hg j (k - 1) (by omega) (by omega) (by omega)
        rw [ej] at g2
        simp only [noteLess, decide_eq_true_eq, decide_eq_false_iff_not] at *
        omega
    · rw [if_neg c, List.append_nil]
      refine ⟨h1, fun p => ?_⟩
      rw [h2, List.mem_append, List.mem_singleton]
      refine ⟨.inl, fun h => h.elim id fun e => ?_⟩
      have c2 : ¬ k = 0 ∧ s[k]? = s[k - 1]? := by
        refine ⟨fun e => c (.inl e), ?_⟩
        by_cases e2 : s[k]? = s[k - 1]?
        · exact e2
        · exact absurd (.inr e2) c
      rw [List.getElem?_eq_getElem hk, List.getElem?_eq_getElem (show k - 1 < s.length by omega), Option.some.injEq] at c2
      rw [e, c2.2]
      exact List.mem_take_iff_getElem.2 ⟨k - 1, by omega, rfl⟩
theorem uniq_sort (l : List T2) : uniq (sortN l) = noteIn l := by
  have hs : (sortN l).Pairwise fun x y => noteLess y x = false := by
    refine (List.pairwise_mergeSort (le := fun x y => !noteLess y x) (fun x y z h1 h2 => ?_) (fun x y => ?_) l).imp fun h => by simpa using h
    · simp only [noteLess, Bool.not_eq_true', decide_eq_false_iff_not] at *; omega
    · simp only [noteLess, Bool.or_eq_true, Bool.not_eq_true', decide_eq_false_iff_not]; omega
  obtain ⟨h1, h2⟩ := uq_spec hs (sortN l).length (Nat.le_refl _)
  have h3 := notes_rising l [] .nil
  refine note_one h1 h3 ((List.perm_ext_iff_of_nodup (note_nodup h1) (note_nodup h3)).2 fun p => ?_)
  rw [h2, List.take_length, notes_mem]
  simp [sortN]
theorem notes_len : ∀ (l acc : List T2), (l.foldl putNote acc).length ≤ acc.length + l.length
  | [], acc => by simp
  | x :: r, acc => by
    have h1 := notes_len r (putNote acc x)
    have h2 := putNote_len acc x
    simp only [List.foldl_cons, List.length_cons]
    omega
theorem noteIn_len (l : List T2) : (noteIn l).length ≤ l.length := by have := notes_len l []; simpa [noteIn] using this
theorem sortNotes_len (l : List T2) : (sortNotes l).length ≤ 40 := by
  unfold sortNotes
  split
  · have := noteIn_len l; omega
  · simp
theorem melody_len (w : Shop) : (melody w).length ≤ 40 := by
  unfold melody
  split
  · exact sortNotes_len _
  · simp
theorem spec_l02Less_ok : ∀ ds outs, F_l02Less ds = some outs → shL spec_l02Less_L (qRet outs) ds := F_l02Less_elim fun x y => by
  rw [spec_l02Less_L_sh]; simp [noteLess]; grind
theorem cylOk_tooth {x : Cyl} (h : cylOk x = true) {k : Nat} (hk : k < x.p.length) : 0 ≤ x.p[k].a ∧ x.p[k].a < x.t := by
  have := ((cylOk_iff x).1 h).2.2.2 k hk
  have h2 := this.1
  simp only [pinIn, within, Bool.and_eq_true, decide_eq_true_eq] at h2
  omega
theorem impl_copyNotes_ok : ∀ ds outs, F_copyNotes ds = some outs → shL impl_copyNotes_L (qRet outs) ds := F_copyNotes_elim fun l hp => by
  rw [impl_copyNotes_L_sh]
  simp; omega
theorem impl_compareNotes_ok : ∀ ds outs, F_compareNotes ds = some outs → shL impl_compareNotes_L (qRet outs) ds := F_compareNotes_elim fun x y => by
  rw [impl_compareNotes_L_sh]
  cases x; cases y
  simp [cmpNotes, noteLess]
  grind
theorem impl_sorted_ok : ∀ ds outs, F_sorted ds = some outs → shL impl_sorted_L (qRet outs) ds := F_sorted_elim fun l hp => by
  have hl : (sortN l).length = l.length := List.length_mergeSort _
  rw [impl_sorted_L_sh, p_copyNotes hp, p_slices_SortFunc_Limpl_Note_impl_Note hp, p_slices_Compact_Limpl_Note_impl_Note (by omega), uniq_sort]
  simp
theorem impl_SortNotes_ok : ∀ ds outs, F_SortNotes ds = some outs → shL impl_SortNotes_L (qRet outs) ds := F_SortNotes_elim fun l hp => by
  rw [impl_SortNotes_L_sh]
  simp only [P1_len, P1_gtr, ifB_bool, decide_eq_true_eq, decide_eq_false_iff_not]
  refine ⟨fun h => ?_, fun h => ?_⟩
  · simp only [qRet_ret, sortNotes]
    rw [if_neg (by omega)]
    rfl
  · rw [p_sorted hp]
    simp only [qRet_ret, sortNotes]
    rw [if_pos (by omega)]
theorem impl_MelodyOf_ok : ∀ ds outs, F_MelodyOf ds = some outs → shL impl_MelodyOf_L (qRet outs) ds := F_MelodyOf_elim fun w hp => by
  obtain ⟨h1, h2, h3⟩ := hp
  rw [impl_MelodyOf_L_sh]
  simp only [P1_lst0, p_WorkshopOk (x_p := w.p) (x_o := w.o) (x_c := w.c) ⟨h1, h2, h3⟩, P1_not, P1_len, P1_gtr, ifB_bool, decide_eq_true_eq, decide_eq_false_iff_not]
  refine ⟨fun h => ?_, fun h => ⟨fun h4 => ?_, fun h4 => ?_⟩⟩
  · have hn : shopOk w = false := by simpa using h
    simp [melody, hn, vL]
  · simp only [qRet_ret, melody]
    rw [if_neg (by simp; omega)]
    rfl
  · have hok : shopOk w = true := by simpa using h
    have hl : w.p.length ≤ 40 := by omega
    have hs := (shopOk_iff w).1 hok
    have hc : cylOk ⟨w.s, w.t, w.p⟩ = true := ((benchOk_iff _).1 hs.1).1
    refine loop_upto w.p.length (fun k => [vL I2 v2 w.p, .int .i64 w.p.length, .int .i64 k, vL I2 v2 ((w.p.take k).map (noteOf w)), .int .i64 w.s, .int .i64 w.t, vL I2 v2 w.p, vL IL2 vLL2 w.o, vL I1 v1 w.c, .int .i64 w.u, .int .i64 w.m, .int .i64 w.f, .int .i64 w.y, .int .i64 w.d]) (by intro i j _ _ h; simp at h; omega) (fun _ => True) rfl trivial ?_
    intro k hk _
    rw [impl_MelodyOf_b0_sh]
    simp only [P1_lss, ifB_bool, decide_eq_true_eq, decide_eq_false_iff_not]
    refine ⟨fun h => ?_, fun h => ?_⟩
    · have hkl : k < w.p.length := by omega
      have ht := cylOk_tooth hc hkl
      have hw : IntKind.i64.wrap ((k : Int) + 1) = ((k + 1 : Nat) : Int) := by rw [wrap_id (by omega) (by omega)]; omega
      have hcl : w.p[k].a.toNat < w.c.length := by have := hs.2.2.2.1; dsimp only at ht; omega
      have e : (w.p.take k).map (noteOf w) ++ [(⟨w.p[k].b, w.c[w.p[k].a.toNat]⟩ : T2)] = (w.p.take (k + 1)).map (noteOf w) := by
        rw [take_succ_get hkl, List.map_append]
        simp [noteOf, hcl]
      have hlen : ((w.p.take k).map (noteOf w)).length = k := by simp; omega
      simp only [P2_idxI, Int.toNat_natCast, List.getElem?_eq_getElem hkl, P1_idxI, List.getElem?_eq_getElem hcl, Option.some.injEq, exists_eq_left', P1_lst2, P1_app2_, e, hlen, List.length_singleton, P1_add, hw, qS_normal]
      exact ⟨by omega, ht.1, ⟨by omega, by omega⟩, hkl, trivial, trivial⟩
    · obtain rfl : k = w.p.length := by omega
      simp only [qS_exit, qB_exit, if_true, qS_normal, impl_MelodyOf_r1_sh, List.take_length]
      rw [p_SortNotes (by simp; omega)]
      simp [melody, hok, hl]
end Go.Mw

namespace Go.Mw
end Go.Mw

namespace Go.Mw
def E_DrawWorkshop (l : List UInt8) : List V := [vL I1 vY l]
noncomputable def F_DrawWorkshop : List V → Option (List V) := mkF E_DrawWorkshop (fun l => l.length ≤ 1048576) (fun l => [.int .i64 (shopOf (cur0 l)).s, .int .i64 (shopOf (cur0 l)).t, vL I2 v2 (shopOf (cur0 l)).p, vL IL2 vLL2 (shopOf (cur0 l)).o, vL I1 v1 (shopOf (cur0 l)).c, .int .i64 (shopOf (cur0 l)).u, .int .i64 (shopOf (cur0 l)).m, .int .i64 (shopOf (cur0 l)).f, .int .i64 (shopOf (cur0 l)).y, .int .i64 (shopOf (cur0 l)).d])
theorem F_DrawWorkshop_inj : ∀ x y, E_DrawWorkshop x = E_DrawWorkshop y → x = y := by
  rintro l l' h
  simpa [E_DrawWorkshop] using h
theorem F_DrawWorkshop_elim {P : List V → List V → Prop} (h : ∀ (l : List UInt8), (l.length ≤ 1048576) → P [vL I1 vY l] [.int .i64 (shopOf (cur0 l)).s, .int .i64 (shopOf (cur0 l)).t, vL I2 v2 (shopOf (cur0 l)).p, vL IL2 vLL2 (shopOf (cur0 l)).o, vL I1 v1 (shopOf (cur0 l)).c, .int .i64 (shopOf (cur0 l)).u, .int .i64 (shopOf (cur0 l)).m, .int .i64 (shopOf (cur0 l)).f, .int .i64 (shopOf (cur0 l)).y, .int .i64 (shopOf (cur0 l)).d]) : ∀ ds outs, F_DrawWorkshop ds = some outs → P ds outs := by
  intro ds outs hh
  obtain ⟨l, rfl, hp, rfl⟩ := mkF_inv hh
  exact h l hp
theorem p_DrawWorkshop {l : List UInt8} {nr_ : Nat} {kk_ : V → V → V → V → V → V → V → V → V → V → Prop} (hp : l.length ≤ 1048576) : P10 (.call F_DrawWorkshop 0 nr_) [vL I1 vY l] kk_ ↔ kk_ (.int .i64 (shopOf (cur0 l)).s) (.int .i64 (shopOf (cur0 l)).t) (vL I2 v2 (shopOf (cur0 l)).p) (vL IL2 vLL2 (shopOf (cur0 l)).o) (vL I1 v1 (shopOf (cur0 l)).c) (.int .i64 (shopOf (cur0 l)).u) (.int .i64 (shopOf (cur0 l)).m) (.int .i64 (shopOf (cur0 l)).f) (.int .i64 (shopOf (cur0 l)).y) (.int .i64 (shopOf (cur0 l)).d) :=
  P10_callF (by unfold F_DrawWorkshop; exact mkF_eq F_DrawWorkshop_inj (l) hp)

def tuneAt (l : List T2) (j : Nat) : Bool := within (l[j]?.getD ⟨0, 0⟩).a 0 1000 && within (l[j]?.getD ⟨0, 0⟩).b 0 60 && (decide (j = 0) || noteLess (l[j - 1]?.getD ⟨0, 0⟩) (l[j]?.getD ⟨0, 0⟩))
def tuneOk (l : List T2) : Bool := (List.range l.length).all (tuneAt l) && decide (l.length ≤ 40)
def E_TuneOk (l : List T2) : List V := [vL I2 v2 l]
noncomputable def F_TuneOk : List V → Option (List V) := mkF E_TuneOk (fun l => l.length ≤ 1048576) (fun l => [.bool (tuneOk l)])
theorem F_TuneOk_inj : ∀ x y, E_TuneOk x = E_TuneOk y → x = y := by
  rintro l l' h
  simpa [E_TuneOk] using h
theorem F_TuneOk_elim {P : List V → List V → Prop} (h : ∀ (l : List T2), (l.length ≤ 1048576) → P [vL I2 v2 l] [.bool (tuneOk l)]) : ∀ ds outs, F_TuneOk ds = some outs → P ds outs := by
  intro ds outs hh
  obtain ⟨l, rfl, hp, rfl⟩ := mkF_inv hh
  exact h l hp
theorem p_TuneOk {l : List T2} {nr_ : Nat} {kk_ : V → Prop} (hp : l.length ≤ 1048576) : P1 (.call F_TuneOk 0 nr_) [vL I2 v2 l] kk_ ↔ kk_ (.bool (tuneOk l)) :=
  P1_callF (by unfold F_TuneOk; exact mkF_eq F_TuneOk_inj (l) hp)

def E_FnWorkshops (l : List UInt8) : List V := [vL I1 vY l]
noncomputable def F_FnWorkshops : List V → Option (List V) := mkF E_FnWorkshops (fun l => wfLY l) (fun _ => [.bool true])
theorem F_FnWorkshops_inj : ∀ x y, E_FnWorkshops x = E_FnWorkshops y → x = y := by
  rintro l l' h
  simpa [E_FnWorkshops] using h
theorem F_FnWorkshops_elim {P : List V → List V → Prop} (h : ∀ (l : List UInt8), (wfLY l) → P [vL I1 vY l] [.bool true]) : ∀ ds outs, F_FnWorkshops ds = some outs → P ds outs := by
  intro ds outs hh
  obtain ⟨l, rfl, hp, rfl⟩ := mkF_inv hh
  exact h l hp
theorem F_FnWorkshops_law : ∀ ds, okTKs [.list false [.int .u8]] ds → F_FnWorkshops ds = some [.bool true] := by
  intro ds g0
  obtain ⟨_, _, rfl, h0, g1⟩ := okTKs_cons g0
  obtain ⟨l, rfl, r0⟩ := dec_LY h0
  obtain rfl := okTKs_nil g1
  exact mkF_eq F_FnWorkshops_inj (l) r0


end Go.Mw

namespace Go.Mw
noncomputable section
def spec_DrawWorkshop_L : L := .seq (.rg []) (.seq (.rg [zc F_l01New 3 [0], ⟨[], .call F_l38Workshop 0 10, [.v 1, .v 2, .v 3], 12⟩]) (.ret [.v 4, .v 5, .v 6, .v 7, .v 8, .v 9, .v 10, .v 11, .v 12, .v 13]))
theorem spec_DrawWorkshop_L_sh (Q : QT) (x0 : V) : shL spec_DrawWorkshop_L Q [x0] = (
  P3 (.call F_l01New 0 3) [x0] fun v0 v1 v2 =>
  P12 (.call F_l38Workshop 0 10) [v0, v1, v2] fun v3 v4 v5 v6 v7 v8 v9 v10 v11 v12 _ _ =>
  Q .ret [v3, v4, v5, v6, v7, v8, v9, v10, v11, v12]) := by kernel_rfl
def spec_DrawWorkshop_S : Sig := ⟨[.val false [.sl [.sc]]], [(true, [.sc, .sc, .sl [.sc, .sc], .sl [.sl [.sc, .sc]], .sl [.sc], .sc, .sc, .sc, .sc, .sc])], F_DrawWorkshop⟩
def spec_DrawWorkshop_hs : List NF := []

def spec_TuneOk_b0 : L := .seq (.seq (.seq (.rg [zl 0, zb .lss 1 2]) (.ite (.v 3) (.skip) (.seq (zt [0]) (.exit 0)))) (.seq (.block 1 (.seq (.seq (.rg [zj 0 1, ⟨[], .call F_l01In 0 1, [.v 4, .k (.int .i64 0), .k (.int .i64 1000)], 1⟩, zn 6, ⟨[(.v 7, false)], .idx [.sc, .sc], [.v 0, .v 1], 2⟩, ⟨[(.v 7, false)], .call F_l01In 0 1, [.v 9, .k (.int .i64 0), .k (.int .i64 60)], 1⟩, ⟨[(.v 7, false)], .un .not, [.v 10], 1⟩, ⟨[], .pick, [.v 7, .k (.bool true), .v 11], 1⟩, ⟨[(.v 12, false)], .bin .gtr, [.v 1, .k (.int .i64 0)], 1⟩, ⟨[(.v 12, false), (.v 13, true)], .bin .sub, [.v 1, .k (.int .i64 1)], 1⟩, ⟨[(.v 12, false), (.v 13, true)], .idx [.sc, .sc], [.v 0, .v 14], 2⟩, ⟨[(.v 12, false), (.v 13, true)], .idx [.sc, .sc], [.v 0, .v 1], 2⟩, ⟨[(.v 12, false), (.v 13, true)], .call F_l02Less 0 1, [.v 15, .v 16, .v 17, .v 18], 1⟩, ⟨[(.v 12, false), (.v 13, true)], .un .not, [.v 19], 1⟩, ⟨[(.v 12, false)], .pick, [.v 13, .v 20, .k (.bool false)], 1⟩, ⟨[], .pick, [.v 12, .k (.bool true), .v 21], 1⟩]) (.ite (.v 22) (.seq (.rg []) (.ret [.k (.bool false)])) (.skip))) (zt [0, 1]))) (.rg [zk .add 1 1]))) (zt [0, 2])
theorem spec_TuneOk_b0_sh (Q : QT) (x0 x1 : V) : shL spec_TuneOk_b0 Q [x0, x1] = (
  P1 (.len) [x0] fun v0 =>
  P1 (.bin .lss) [x1, v0] fun v1 =>
  ifB v1 (
    P2 (.idx [.sc, .sc]) [x0, x1] fun v2 _ =>
    P1 (.call F_l01In 0 1) [v2, .int .i64 0, .int .i64 1000] fun v4 =>
    P1 (.un .not) [v4] fun v5 =>
    ifB v5 (
      Q .ret [.bool false]) (
      P2 (.idx [.sc, .sc]) [x0, x1] fun _ v7 =>
      P1 (.call F_l01In 0 1) [v7, .int .i64 0, .int .i64 60] fun v8 =>
      P1 (.un .not) [v8] fun v9 =>
      ifB v9 (
        Q .ret [.bool false]) (
        P1 (.bin .gtr) [x1, .int .i64 0] fun v10 =>
        ifB v10 (
          P1 (.bin .sub) [x1, .int .i64 1] fun v11 =>
          P2 (.idx [.sc, .sc]) [x0, v11] fun v12 v13 =>
          P2 (.idx [.sc, .sc]) [x0, x1] fun v14 v15 =>
          P1 (.call F_l02Less 0 1) [v12, v13, v14, v15] fun v16 =>
          P1 (.un .not) [v16] fun v17 =>
          ifB v17 (
            Q .ret [.bool false]) (
            P1 (.bin .add) [x1, .int .i64 1] fun v18 =>
            Q .normal [x0, v18])) (
          P1 (.bin .add) [x1, .int .i64 1] fun v19 =>
          Q .normal [x0, v19])))) (
    Q (.exit 0) [x0])) := by kernel_rfl

def spec_TuneOk_r1 : L := .seq (.rg [zl 0, zk .leq 1 40]) (.ret [.v 2])
theorem spec_TuneOk_r1_sh (Q : QT) (x0 : V) : shL spec_TuneOk_r1 Q [x0] = (
  P1 (.len) [x0] fun v0 =>
  P1 (.bin .leq) [v0, .int .i64 40] fun v1 =>
  Q .ret [v1]) := by kernel_rfl

def spec_TuneOk_L : L := .seq (.rg []) (.seq (.seq (.rg []) (.block 0 (.seq (.tup [.v 0, .k (.int .i64 0)]) (.loop (spec_TuneOk_b0))))) (spec_TuneOk_r1))
theorem spec_TuneOk_L_sh (Q : QT) (x0 : V) : shL spec_TuneOk_L Q [x0] = (
  shL (.loop spec_TuneOk_b0) (qB 0 (qS (shL spec_TuneOk_r1 Q) Q)) [x0, .int .i64 0]) := by kernel_rfl
def spec_TuneOk_S : Sig := ⟨[.val false [.sl [.sc, .sc]]], [(false, [.sc])], F_TuneOk⟩
def spec_TuneOk_hs : List NF := [⟨[(0, zq)], [], [], 64⟩, ⟨[(0, zq), (3, zs)], [], [], 64⟩, ⟨[(0, zq), (3, zs)], [], [], 64⟩]

def laws_FnWorkshops_r0 : L := .ite (.v 47) (.seq (.rg []) (.ret [.k (.bool false)])) (.skip)
theorem laws_FnWorkshops_r0_sh (Q : QT) (x0 x1 x2 x3 x4 x5 x6 x7 x8 x9 x10 x11 x12 x13 x14 x15 x16 x17 x18 x19 x20 x21 x22 x23 x24 x25 x26 x27 x28 x29 x30 x31 x32 x33 x34 x35 x36 x37 x38 x39 x40 x41 x42 x43 x44 x45 x46 x47 : V) : shL laws_FnWorkshops_r0 Q [x0, x1, x2, x3, x4, x5, x6, x7, x8, x9, x10, x11, x12, x13, x14, x15, x16, x17, x18, x19, x20, x21, x22, x23, x24, x25, x26, x27, x28, x29, x30, x31, x32, x33, x34, x35, x36, x37, x38, x39, x40, x41, x42, x43, x44, x45, x46, x47] = (
  ifB x47 (
    Q .ret [.bool false]) (
    Q .normal [x0, x1, x2, x3, x4, x5, x6, x7, x8, x9, x10, x11, x12, x13, x14, x15, x16, x17, x18, x19, x20, x21, x22, x23, x24, x25, x26, x27, x28, x29, x30, x31, x32, x33, x34, x35, x36, x37, x38, x39, x40, x41, x42, x43, x44, x45, x46, .bool false])) := by kernel_rfl

def laws_FnWorkshops_r2 : L := .ite (.v 76) (.seq (.rg []) (.ret [.k (.bool false)])) (.skip)
theorem laws_FnWorkshops_r2_sh (Q : QT) (x0 x1 x2 x3 x4 x5 x6 x7 x8 x9 x10 x11 x12 x13 x14 x15 x16 x17 x18 x19 x20 x21 x22 x23 x24 x25 x26 x27 x28 x29 x30 x31 x32 x33 x34 x35 x36 x37 x38 x39 x40 x41 x42 x43 x44 x45 x46 x47 x48 x49 x50 x51 x52 x53 x54 x55 x56 x57 x58 x59 x60 x61 x62 x63 x64 x65 x66 x67 x68 x69 x70 x71 x72 x73 x74 x75 x76 : V) : shL laws_FnWorkshops_r2 Q [x0, x1, x2, x3, x4, x5, x6, x7, x8, x9, x10, x11, x12, x13, x14, x15, x16, x17, x18, x19, x20, x21, x22, x23, x24, x25, x26, x27, x28, x29, x30, x31, x32, x33, x34, x35, x36, x37, x38, x39, x40, x41, x42, x43, x44, x45, x46, x47, x48, x49, x50, x51, x52, x53, x54, x55, x56, x57, x58, x59, x60, x61, x62, x63, x64, x65, x66, x67, x68, x69, x70, x71, x72, x73, x74, x75, x76] = (
  ifB x76 (
    Q .ret [.bool false]) (
    Q .normal [x0, x1, x2, x3, x4, x5, x6, x7, x8, x9, x10, x11, x12, x13, x14, x15, x16, x17, x18, x19, x20, x21, x22, x23, x24, x25, x26, x27, x28, x29, x30, x31, x32, x33, x34, x35, x36, x37, x38, x39, x40, x41, x42, x43, x44, x45, x46, x47, x48, x49, x50, x51, x52, x53, x54, x55, x56, x57, x58, x59, x60, x61, x62, x63, x64, x65, x66, x67, x68, x69, x70, x71, x72, x73, x74, x75, .bool false])) := by kernel_rfl

def laws_FnWorkshops_b7 : L := .seq (.seq (.seq (.rg [zl 4, zb .lss 2 16]) (.ite (.v 17) (.skip) (.seq (zt [0, 1, 3, 4, 5, 6, 7, 8, 9, 10, 11, 12, 13, 14, 15]) (.exit 2)))) (.seq (.block 3 (.seq (.rg [⟨[(.v 1, false)], .idx [.sc, .sc], [.v 4, .v 2], 2⟩, ⟨[(.v 1, false)], .idx [.sc, .sc], [.v 3, .v 0], 2⟩, ⟨[(.v 1, false)], .bin .eql, [.v 19, .v 20], 1⟩, ⟨[(.v 1, false), (.v 22, true)], .idx [.sc, .sc], [.v 4, .v 2], 2⟩, ⟨[(.v 1, false), (.v 22, true)], .idx [.sc], [.v 6, .v 23], 1⟩, ⟨[(.v 1, false), (.v 22, true)], .idx [.sc, .sc], [.v 3, .v 0], 2⟩, ⟨[(.v 1, false), (.v 22, true)], .bin .eql, [.v 25, .v 27], 1⟩, ⟨[(.v 1, false)], .pick, [.v 22, .v 28, .k (.bool false)], 1⟩, ⟨[], .pick, [.v 1, .k (.bool true), .v 29], 1⟩]) (zt [0, 30, 2, 3, 4, 5, 6, 7, 8, 9, 10, 11, 12, 13, 14, 15]))) (.rg [zk .add 2 1]))) (zt [0, 1, 16, 3, 4, 5, 6, 7, 8, 9, 10, 11, 12, 13, 14, 15])
theorem laws_FnWorkshops_b7_sh (Q : QT) (x0 x1 x2 x3 x4 x5 x6 x7 x8 x9 x10 x11 x12 x13 x14 x15 : V) : shL laws_FnWorkshops_b7 Q [x0, x1, x2, x3, x4, x5, x6, x7, x8, x9, x10, x11, x12, x13, x14, x15] = (
  P1 (.len) [x4] fun v0 =>
  P1 (.bin .lss) [x2, v0] fun v1 =>
  ifB v1 (
    ifB x1 (
      P1 (.bin .add) [x2, .int .i64 1] fun v2 =>
      Q .normal [x0, .bool true, v2, x3, x4, x5, x6, x7, x8, x9, x10, x11, x12, x13, x14, x15]) (
      P2 (.idx [.sc, .sc]) [x4, x2] fun _ v4 =>
      P2 (.idx [.sc, .sc]) [x3, x0] fun v5 _ =>
      P1 (.bin .eql) [v4, v5] fun v7 =>
      ifB v7 (
        P2 (.idx [.sc, .sc]) [x4, x2] fun v8 _ =>
        P1 (.idx [.sc]) [x6, v8] fun v10 =>
        P2 (.idx [.sc, .sc]) [x3, x0] fun _ v12 =>
        P1 (.bin .eql) [v10, v12] fun v13 =>
        P1 (.bin .add) [x2, .int .i64 1] fun v14 =>
        Q .normal [x0, v13, v14, x3, x4, x5, x6, x7, x8, x9, x10, x11, x12, x13, x14, x15]) (
        P1 (.bin .add) [x2, .int .i64 1] fun v15 =>
        Q .normal [x0, .bool false, v15, x3, x4, x5, x6, x7, x8, x9, x10, x11, x12, x13, x14, x15]))) (
    Q (.exit 2) [x0, x1, x3, x4, x5, x6, x7, x8, x9, x10, x11, x12, x13, x14, x15])) := by kernel_rfl

def laws_FnWorkshops_r8 : L := .seq (.rg [zn 1]) (.ite (.v 15) (.seq (.rg []) (.ret [.k (.bool false)])) (.skip))
theorem laws_FnWorkshops_r8_sh (Q : QT) (x0 x1 x2 x3 x4 x5 x6 x7 x8 x9 x10 x11 x12 x13 x14 : V) : shL laws_FnWorkshops_r8 Q [x0, x1, x2, x3, x4, x5, x6, x7, x8, x9, x10, x11, x12, x13, x14] = (
  P1 (.un .not) [x1] fun v0 =>
  ifB v0 (
    Q .ret [.bool false]) (
    Q .normal [x0, x1, x2, x3, x4, x5, x6, x7, x8, x9, x10, x11, x12, x13, x14, .bool false])) := by kernel_rfl

def laws_FnWorkshops_r9 : L := zt [0, 2, 3, 4, 5, 6, 7, 8, 9, 10, 11, 12, 13, 14]
theorem laws_FnWorkshops_r9_sh (Q : QT) (x0 x1 x2 x3 x4 x5 x6 x7 x8 x9 x10 x11 x12 x13 x14 x15 : V) : shL laws_FnWorkshops_r9 Q [x0, x1, x2, x3, x4, x5, x6, x7, x8, x9, x10, x11, x12, x13, x14, x15] = (
  Q .normal [x0, x2, x3, x4, x5, x6, x7, x8, x9, x10, x11, x12, x13, x14]) := by kernel_rfl

def laws_FnWorkshops_r10 : L := .rg [zk .add 0 1]
theorem laws_FnWorkshops_r10_sh (Q : QT) (x0 x1 x2 x3 x4 x5 x6 x7 x8 x9 x10 x11 x12 x13 : V) : shL laws_FnWorkshops_r10 Q [x0, x1, x2, x3, x4, x5, x6, x7, x8, x9, x10, x11, x12, x13] = (
  P1 (.bin .add) [x0, .int .i64 1] fun v0 =>
  Q .normal [x0, x1, x2, x3, x4, x5, x6, x7, x8, x9, x10, x11, x12, x13, v0]) := by kernel_rfl

def laws_FnWorkshops_r11 : L := zt [14, 1, 2, 3, 4, 5, 6, 7, 8, 9, 10, 11, 12, 13]
theorem laws_FnWorkshops_r11_sh (Q : QT) (x0 x1 x2 x3 x4 x5 x6 x7 x8 x9 x10 x11 x12 x13 x14 : V) : shL laws_FnWorkshops_r11 Q [x0, x1, x2, x3, x4, x5, x6, x7, x8, x9, x10, x11, x12, x13, x14] = (
  Q .normal [x14, x1, x2, x3, x4, x5, x6, x7, x8, x9, x10, x11, x12, x13]) := by kernel_rfl

def laws_FnWorkshops_b6 : L := .seq (.seq (.seq (.rg [zl 1, zb .lss 0 14]) (.ite (.v 15) (.skip) (.seq (.tup []) (.exit 0)))) (.seq (.block 1 (.seq (.seq (.rg []) (.seq (.seq (.rg []) (.block 2 (.seq (.tup [.v 0, .k (.bool false), .k (.int .i64 0), .v 1, .v 2, .v 3, .v 4, .v 5, .v 6, .v 7, .v 8, .v 9, .v 10, .v 11, .v 12, .v 13]) (.loop (laws_FnWorkshops_b7))))) (laws_FnWorkshops_r8))) (laws_FnWorkshops_r9))) (laws_FnWorkshops_r10))) (laws_FnWorkshops_r11)
theorem laws_FnWorkshops_b6_sh (Q : QT) (x0 x1 x2 x3 x4 x5 x6 x7 x8 x9 x10 x11 x12 x13 : V) : shL laws_FnWorkshops_b6 Q [x0, x1, x2, x3, x4, x5, x6, x7, x8, x9, x10, x11, x12, x13] = (
  P1 (.len) [x1] fun v0 =>
  P1 (.bin .lss) [x0, v0] fun v1 =>
  ifB v1 (
    shL (.loop laws_FnWorkshops_b7) (qB 2 (qS (shL laws_FnWorkshops_r8 (qS (shL laws_FnWorkshops_r9 (qB 1 (qS (shL laws_FnWorkshops_r10 (qS (shL laws_FnWorkshops_r11 Q) Q)) (qS (shL laws_FnWorkshops_r11 Q) Q)))) (qB 1 (qS (shL laws_FnWorkshops_r10 (qS (shL laws_FnWorkshops_r11 Q) Q)) (qS (shL laws_FnWorkshops_r11 Q) Q))))) (qS (shL laws_FnWorkshops_r9 (qB 1 (qS (shL laws_FnWorkshops_r10 (qS (shL laws_FnWorkshops_r11 Q) Q)) (qS (shL laws_FnWorkshops_r11 Q) Q)))) (qB 1 (qS (shL laws_FnWorkshops_r10 (qS (shL laws_FnWorkshops_r11 Q) Q)) (qS (shL laws_FnWorkshops_r11 Q) Q)))))) [x0, .bool false, .int .i64 0, x1, x2, x3, x4, x5, x6, x7, x8, x9, x10, x11, x12, x13]) (
    Q (.exit 0) [])) := by kernel_rfl

def laws_FnWorkshops_r12 : L := .seq (.rg [⟨[], .lst [.sc] false 2, [.k (.int .i64 3), .k (.int .i64 4)], 1⟩, ⟨[], .call F_OpenWorkshop 0 11, [.k (.int .i64 8), .v 0, .k (.int .i64 7)], 11⟩]) (.seq (.rg [⟨[(.v 11, true)], .bin .eql, [.v 9, .k (.int .i64 7)], 1⟩, ⟨[], .pick, [.v 11, .v 12, .k (.bool false)], 1⟩, ⟨[(.v 13, true)], .bin .eql, [.v 6, .k (.int .i64 0)], 1⟩, ⟨[], .pick, [.v 13, .v 14, .k (.bool false)], 1⟩]) (.ret [.v 15]))
theorem laws_FnWorkshops_r12_sh (Q : QT) : shL laws_FnWorkshops_r12 Q [] = (
  P1 (.lst [.sc] false 2) [.int .i64 3, .int .i64 4] fun v0 =>
  P11 (.call F_OpenWorkshop 0 11) [.int .i64 8, v0, .int .i64 7] fun _ _ _ _ _ v6 _ _ v9 _ v11 =>
  ifB v11 (
    P1 (.bin .eql) [v9, .int .i64 7] fun v12 =>
    ifB v12 (
      P1 (.bin .eql) [v6, .int .i64 0] fun v13 =>
      Q .ret [v13]) (
      Q .ret [.bool false])) (
    Q .ret [.bool false])) := by kernel_rfl

def laws_FnWorkshops_r5 : L := .seq (.rg [zc F_MelodyOf 1 [3, 4, 0, 1, 2, 5, 6, 7, 8, 9]]) (.seq (.seq (.rg [zl 12, zl 0, zb .gtr 13 14, ⟨[(.v 15, false)], .len, [.v 0], 1⟩, ⟨[(.v 15, false)], .bin .gtr, [.v 16, .k (.int .i64 0)], 1⟩, ⟨[(.v 15, false), (.v 17, true)], .len, [.v 12], 1⟩, ⟨[(.v 15, false), (.v 17, true)], .bin .eql, [.v 18, .k (.int .i64 0)], 1⟩, ⟨[(.v 15, false)], .pick, [.v 17, .v 19, .k (.bool false)], 1⟩, ⟨[], .pick, [.v 15, .k (.bool true), .v 20], 1⟩, ⟨[(.v 21, false)], .call F_TuneOk 0 1, [.v 12], 1⟩, ⟨[(.v 21, false)], .un .not, [.v 22], 1⟩, ⟨[], .pick, [.v 21, .k (.bool true), .v 23], 1⟩]) (.ite (.v 24) (.seq (.rg []) (.ret [.k (.bool false)])) (.skip))) (.seq (.seq (.rg []) (.block 0 (.seq (.tup [.k (.int .i64 0), .v 12, .v 0, .v 1, .v 2, .v 3, .v 4, .v 5, .v 6, .v 7, .v 8, .v 9, .v 10, .v 11]) (.loop (laws_FnWorkshops_b6))))) (laws_FnWorkshops_r12)))
theorem laws_FnWorkshops_r5_sh (Q : QT) (x0 x1 x2 x3 x4 x5 x6 x7 x8 x9 x10 x11 : V) : shL laws_FnWorkshops_r5 Q [x0, x1, x2, x3, x4, x5, x6, x7, x8, x9, x10, x11] = (
  P1 (.call F_MelodyOf 0 1) [x3, x4, x0, x1, x2, x5, x6, x7, x8, x9] fun v0 =>
  P1 (.len) [v0] fun v1 =>
  P1 (.len) [x0] fun v2 =>
  P1 (.bin .gtr) [v1, v2] fun v3 =>
  ifB v3 (
    Q .ret [.bool false]) (
    P1 (.len) [x0] fun v4 =>
    P1 (.bin .gtr) [v4, .int .i64 0] fun v5 =>
    ifB v5 (
      P1 (.len) [v0] fun v6 =>
      P1 (.bin .eql) [v6, .int .i64 0] fun v7 =>
      ifB v7 (
        Q .ret [.bool false]) (
        P1 (.call F_TuneOk 0 1) [v0] fun v8 =>
        P1 (.un .not) [v8] fun v9 =>
        ifB v9 (
          Q .ret [.bool false]) (
          shL (.loop laws_FnWorkshops_b6) (qB 0 (qS (shL laws_FnWorkshops_r12 Q) Q)) [.int .i64 0, v0, x0, x1, x2, x3, x4, x5, x6, x7, x8, x9, x10, x11]))) (
      P1 (.call F_TuneOk 0 1) [v0] fun v10 =>
      P1 (.un .not) [v10] fun v11 =>
      ifB v11 (
        Q .ret [.bool false]) (
        shL (.loop laws_FnWorkshops_b6) (qB 0 (qS (shL laws_FnWorkshops_r12 Q) Q)) [.int .i64 0, v0, x0, x1, x2, x3, x4, x5, x6, x7, x8, x9, x10, x11])))) := by kernel_rfl

def laws_FnWorkshops_r4 : L := .seq (.seq (.rg [zl 4, zk .gtr 96 0]) (.ite (.v 97) (.seq (.seq (.rg [⟨[], .call F_at 0 1, [.v 0, .k (.int .i64 3)], 1⟩, zl 4, zb .rem 98 99, zc F_RemovePin 11 [2, 3, 4, 5, 6, 7, 8, 9, 10, 11, 100]]) (.seq (.rg [zl 5, zk .lss 112 30, ⟨[], .binb .neq, [.v 111, .v 113], 1⟩, ⟨[(.v 114, false), (.v 111, true)], .len, [.v 103], 1⟩, ⟨[(.v 114, false), (.v 111, true)], .len, [.v 4], 1⟩, ⟨[(.v 114, false), (.v 111, true)], .bin .sub, [.v 116, .k (.int .i64 1)], 1⟩, ⟨[(.v 114, false), (.v 111, true)], .bin .neq, [.v 115, .v 117], 1⟩, ⟨[(.v 114, false), (.v 111, true), (.v 118, false)], .bin .neq, [.v 109, .v 10], 1⟩, ⟨[(.v 114, false), (.v 111, true)], .pick, [.v 118, .k (.bool true), .v 119], 1⟩, ⟨[(.v 114, false)], .pick, [.v 111, .v 120, .k (.bool false)], 1⟩, ⟨[], .pick, [.v 114, .k (.bool true), .v 121], 1⟩]) (.ite (.v 122) (.seq (.rg []) (.ret [.k (.bool false)])) (.skip)))) (zt [4, 5, 6, 2, 3, 7, 8, 9, 10, 11, 2, 3])) (.seq (.skip) (zt [4, 5, 6, 2, 3, 7, 8, 9, 10, 11, 2, 3])))) (laws_FnWorkshops_r5)
theorem laws_FnWorkshops_r4_sh (Q : QT) (x0 x1 x2 x3 x4 x5 x6 x7 x8 x9 x10 x11 x12 x13 x14 x15 x16 x17 x18 x19 x20 x21 x22 x23 x24 x25 x26 x27 x28 x29 x30 x31 x32 x33 x34 x35 x36 x37 x38 x39 x40 x41 x42 x43 x44 x45 x46 x47 x48 x49 x50 x51 x52 x53 x54 x55 x56 x57 x58 x59 x60 x61 x62 x63 x64 x65 x66 x67 x68 x69 x70 x71 x72 x73 x74 x75 x76 x77 x78 x79 x80 x81 x82 x83 x84 x85 x86 x87 x88 x89 x90 x91 x92 x93 x94 x95 : V) : shL laws_FnWorkshops_r4 Q [x0, x1, x2, x3, x4, x5, x6, x7, x8, x9, x10, x11, x12, x13, x14, x15, x16, x17, x18, x19, x20, x21, x22, x23, x24, x25, x26, x27, x28, x29, x30, x31, x32, x33, x34, x35, x36, x37, x38, x39, x40, x41, x42, x43, x44, x45, x46, x47, x48, x49, x50, x51, x52, x53, x54, x55, x56, x57, x58, x59, x60, x61, x62, x63, x64, x65, x66, x67, x68, x69, x70, x71, x72, x73, x74, x75, x76, x77, x78, x79, x80, x81, x82, x83, x84, x85, x86, x87, x88, x89, x90, x91, x92, x93, x94, x95] = (
  P1 (.len) [x4] fun v0 =>
  P1 (.bin .gtr) [v0, .int .i64 0] fun v1 =>
  ifB v1 (
    P1 (.call F_at 0 1) [x0, .int .i64 3] fun v2 =>
    P1 (.len) [x4] fun v3 =>
    P1 (.bin .rem) [v2, v3] fun v4 =>
    P11 (.call F_RemovePin 0 11) [x2, x3, x4, x5, x6, x7, x8, x9, x10, x11, v4] fun _ _ v7 _ _ _ _ _ v13 _ v15 =>
    P1 (.len) [x5] fun v16 =>
    P1 (.bin .lss) [v16, .int .i64 30] fun v17 =>
    P1 (.binb .neq) [v15, v17] fun v18 =>
    ifB v18 (
      Q .ret [.bool false]) (
      ifB v15 (
        P1 (.len) [v7] fun v19 =>
        P1 (.len) [x4] fun v20 =>
        P1 (.bin .sub) [v20, .int .i64 1] fun v21 =>
        P1 (.bin .neq) [v19, v21] fun v22 =>
        ifB v22 (
          Q .ret [.bool false]) (
          P1 (.bin .neq) [v13, x10] fun v23 =>
          ifB v23 (
            Q .ret [.bool false]) (
            shL laws_FnWorkshops_r5 Q [x4, x5, x6, x2, x3, x7, x8, x9, x10, x11, x2, x3]))) (
        shL laws_FnWorkshops_r5 Q [x4, x5, x6, x2, x3, x7, x8, x9, x10, x11, x2, x3]))) (
    shL laws_FnWorkshops_r5 Q [x4, x5, x6, x2, x3, x7, x8, x9, x10, x11, x2, x3])) := by kernel_rfl

def laws_FnWorkshops_r3 : L := .seq (.rg [⟨[], .call F_at 0 1, [.v 0, .k (.int .i64 2)], 1⟩, zk .rem 77 12]) (.seq (.rg [zc F_Crank 11 [2, 3, 4, 5, 6, 7, 8, 9, 10, 11, 78]]) (.seq (.seq (.rg [zb .sub 8 7, ⟨[], .mn, [.v 78, .v 90], 1⟩, zb .neq 89 91, ⟨[(.v 92, false)], .bin .add, [.v 7, .v 89], 1⟩, ⟨[(.v 92, false)], .bin .neq, [.v 84, .v 93], 1⟩, ⟨[], .pick, [.v 92, .k (.bool true), .v 94], 1⟩]) (.ite (.v 95) (.seq (.rg []) (.ret [.k (.bool false)])) (.skip))) (laws_FnWorkshops_r4)))
theorem laws_FnWorkshops_r3_sh (Q : QT) (x0 x1 x2 x3 x4 x5 x6 x7 x8 x9 x10 x11 x12 x13 x14 x15 x16 x17 x18 x19 x20 x21 x22 x23 x24 x25 x26 x27 x28 x29 x30 x31 x32 x33 x34 x35 x36 x37 x38 x39 x40 x41 x42 x43 x44 x45 x46 x47 x48 x49 x50 x51 x52 x53 x54 x55 x56 x57 x58 x59 x60 x61 x62 x63 x64 x65 x66 x67 x68 x69 x70 x71 x72 x73 x74 x75 x76 : V) : shL laws_FnWorkshops_r3 Q [x0, x1, x2, x3, x4, x5, x6, x7, x8, x9, x10, x11, x12, x13, x14, x15, x16, x17, x18, x19, x20, x21, x22, x23, x24, x25, x26, x27, x28, x29, x30, x31, x32, x33, x34, x35, x36, x37, x38, x39, x40, x41, x42, x43, x44, x45, x46, x47, x48, x49, x50, x51, x52, x53, x54, x55, x56, x57, x58, x59, x60, x61, x62, x63, x64, x65, x66, x67, x68, x69, x70, x71, x72, x73, x74, x75, x76] = (
  P1 (.call F_at 0 1) [x0, .int .i64 2] fun v0 =>
  P1 (.bin .rem) [v0, .int .i64 12] fun v1 =>
  P11 (.call F_Crank 0 11) [x2, x3, x4, x5, x6, x7, x8, x9, x10, x11, v1] fun v2 v3 v4 v5 v6 v7 v8 v9 v10 v11 v12 =>
  P1 (.bin .sub) [x8, x7] fun v13 =>
  P1 (.mn) [v1, v13] fun v14 =>
  P1 (.bin .neq) [v12, v14] fun v15 =>
  ifB v15 (
    Q .ret [.bool false]) (
    P1 (.bin .add) [x7, v12] fun v16 =>
    P1 (.bin .neq) [v7, v16] fun v17 =>
    ifB v17 (
      Q .ret [.bool false]) (
      shL laws_FnWorkshops_r4 Q [x0, x1, x2, x3, x4, x5, x6, x7, x8, x9, x10, x11, x12, x13, x14, x15, x16, x17, x18, x19, x20, x21, x22, x23, x24, x25, x26, x27, x28, x29, x30, x31, x32, x33, x34, x35, x36, x37, x38, x39, x40, x41, x42, x43, x44, x45, x46, x47, x48, x49, x50, x51, x52, x53, x54, x55, x56, x57, x58, x59, x60, x61, x62, x63, x64, x65, x66, x67, x68, x69, x70, x71, x72, x73, x74, x75, x76, v0, v1, v2, v3, v4, v5, v6, v7, v8, v9, v10, v11, v12, v13, v14, .bool false, v16, v17, .bool false]))) := by kernel_rfl

def laws_FnWorkshops_r1 : L := .seq (.rg [zc F_PlayOnce 11 [2, 3, 4, 5, 6, 7, 8, 9, 10, 11]]) (.seq (.seq (.rg [zk .gtr 7 0, ⟨[(.v 59, true)], .call F_IsPlayable 0 1, [.v 2, .v 3, .v 4, .k (.int .i64 2)], 1⟩, ⟨[], .pick, [.v 59, .v 60, .k (.bool false)], 1⟩, ⟨[(.v 61, true)], .len, [.v 4], 1⟩, ⟨[(.v 61, true)], .bin .add, [.v 11, .v 62], 1⟩, ⟨[(.v 61, true)], .bin .leq, [.v 63, .k (.int .i64 1000000)], 1⟩, ⟨[], .pick, [.v 61, .v 64, .k (.bool false)], 1⟩, ⟨[], .binb .neq, [.v 58, .v 65], 1⟩, ⟨[(.v 66, false), (.v 58, true)], .bin .sub, [.v 7, .k (.int .i64 1)], 1⟩, ⟨[(.v 66, false), (.v 58, true)], .bin .neq, [.v 53, .v 67], 1⟩, ⟨[(.v 66, false), (.v 58, true), (.v 68, false)], .len, [.v 4], 1⟩, ⟨[(.v 66, false), (.v 58, true), (.v 68, false)], .bin .add, [.v 11, .v 69], 1⟩, ⟨[(.v 66, false), (.v 58, true), (.v 68, false)], .bin .neq, [.v 57, .v 70], 1⟩, ⟨[(.v 66, false), (.v 58, true)], .pick, [.v 68, .k (.bool true), .v 71], 1⟩, ⟨[(.v 66, false), (.v 58, true), (.v 72, false)], .bin .neq, [.v 56, .v 10], 1⟩, ⟨[(.v 66, false), (.v 58, true)], .pick, [.v 72, .k (.bool true), .v 73], 1⟩, ⟨[(.v 66, false)], .pick, [.v 58, .v 74, .k (.bool false)], 1⟩, ⟨[], .pick, [.v 66, .k (.bool true), .v 75], 1⟩]) (laws_FnWorkshops_r2)) (laws_FnWorkshops_r3))
theorem laws_FnWorkshops_r1_sh (Q : QT) (x0 x1 x2 x3 x4 x5 x6 x7 x8 x9 x10 x11 x12 x13 x14 x15 x16 x17 x18 x19 x20 x21 x22 x23 x24 x25 x26 x27 x28 x29 x30 x31 x32 x33 x34 x35 x36 x37 x38 x39 x40 x41 x42 x43 x44 x45 x46 x47 : V) : shL laws_FnWorkshops_r1 Q [x0, x1, x2, x3, x4, x5, x6, x7, x8, x9, x10, x11, x12, x13, x14, x15, x16, x17, x18, x19, x20, x21, x22, x23, x24, x25, x26, x27, x28, x29, x30, x31, x32, x33, x34, x35, x36, x37, x38, x39, x40, x41, x42, x43, x44, x45, x46, x47] = (
  P11 (.call F_PlayOnce 0 11) [x2, x3, x4, x5, x6, x7, x8, x9, x10, x11] fun v0 v1 v2 v3 v4 v5 v6 v7 v8 v9 v10 =>
  P1 (.bin .gtr) [x7, .int .i64 0] fun v11 =>
  ifB v11 (
    P1 (.call F_IsPlayable 0 1) [x2, x3, x4, .int .i64 2] fun v12 =>
    ifB v12 (
      P1 (.len) [x4] fun v13 =>
      P1 (.bin .add) [x11, v13] fun v14 =>
      P1 (.bin .leq) [v14, .int .i64 1000000] fun v15 =>
      P1 (.binb .neq) [v10, v15] fun v16 =>
      ifB v16 (
        shL laws_FnWorkshops_r2 (qS (shL laws_FnWorkshops_r3 Q) Q) [x0, x1, x2, x3, x4, x5, x6, x7, x8, x9, x10, x11, x12, x13, x14, x15, x16, x17, x18, x19, x20, x21, x22, x23, x24, x25, x26, x27, x28, x29, x30, x31, x32, x33, x34, x35, x36, x37, x38, x39, x40, x41, x42, x43, x44, x45, x46, x47, v0, v1, v2, v3, v4, v5, v6, v7, v8, v9, v10, .bool true, v12, .bool true, v13, v14, v15, v15, .bool true, .list [] [], .list [] [], .list [] [], .list [] [], .list [] [], .list [] [], .list [] [], .list [] [], .list [] [], .bool true]) (
        ifB v10 (
          P1 (.bin .sub) [x7, .int .i64 1] fun v17 =>
          P1 (.bin .neq) [v5, v17] fun v18 =>
          ifB v18 (
            shL laws_FnWorkshops_r2 (qS (shL laws_FnWorkshops_r3 Q) Q) [x0, x1, x2, x3, x4, x5, x6, x7, x8, x9, x10, x11, x12, x13, x14, x15, x16, x17, x18, x19, x20, x21, x22, x23, x24, x25, x26, x27, x28, x29, x30, x31, x32, x33, x34, x35, x36, x37, x38, x39, x40, x41, x42, x43, x44, x45, x46, x47, v0, v1, v2, v3, v4, v5, v6, v7, v8, v9, .bool true, .bool true, v12, .bool true, v13, v14, v15, v15, .bool false, v17, .bool true, .list [] [], .list [] [], .list [] [], .bool true, .list [] [], .bool true, .bool true, .bool true]) (
            P1 (.len) [x4] fun v19 =>
            P1 (.bin .add) [x11, v19] fun v20 =>
            P1 (.bin .neq) [v9, v20] fun v21 =>
            ifB v21 (
              shL laws_FnWorkshops_r2 (qS (shL laws_FnWorkshops_r3 Q) Q) [x0, x1, x2, x3, x4, x5, x6, x7, x8, x9, x10, x11, x12, x13, x14, x15, x16, x17, x18, x19, x20, x21, x22, x23, x24, x25, x26, x27, x28, x29, x30, x31, x32, x33, x34, x35, x36, x37, x38, x39, x40, x41, x42, x43, x44, x45, x46, x47, v0, v1, v2, v3, v4, v5, v6, v7, v8, v9, .bool true, .bool true, v12, .bool true, v13, v14, v15, v15, .bool false, v17, .bool false, v19, v20, v21, .bool true, .list [] [], .bool true, .bool true, .bool true]) (
              P1 (.bin .neq) [v8, x10] fun v22 =>
              shL laws_FnWorkshops_r2 (qS (shL laws_FnWorkshops_r3 Q) Q) [x0, x1, x2, x3, x4, x5, x6, x7, x8, x9, x10, x11, x12, x13, x14, x15, x16, x17, x18, x19, x20, x21, x22, x23, x24, x25, x26, x27, x28, x29, x30, x31, x32, x33, x34, x35, x36, x37, x38, x39, x40, x41, x42, x43, x44, x45, x46, x47, v0, v1, v2, v3, v4, v5, v6, v7, v8, v9, .bool true, .bool true, v12, .bool true, v13, v14, v15, v15, .bool false, v17, .bool false, v19, v20, v21, .bool false, v22, v22, v22, v22]))) (
          shL laws_FnWorkshops_r2 (qS (shL laws_FnWorkshops_r3 Q) Q) [x0, x1, x2, x3, x4, x5, x6, x7, x8, x9, x10, x11, x12, x13, x14, x15, x16, x17, x18, x19, x20, x21, x22, x23, x24, x25, x26, x27, x28, x29, x30, x31, x32, x33, x34, x35, x36, x37, x38, x39, x40, x41, x42, x43, x44, x45, x46, x47, v0, v1, v2, v3, v4, v5, v6, v7, v8, v9, .bool false, .bool true, v12, .bool true, v13, v14, v15, v15, .bool false, .list [] [], .list [] [], .list [] [], .list [] [], .list [] [], .list [] [], .list [] [], .list [] [], .bool false, .bool false]))) (
      P1 (.binb .neq) [v10, .bool false] fun v23 =>
      ifB v23 (
        shL laws_FnWorkshops_r2 (qS (shL laws_FnWorkshops_r3 Q) Q) [x0, x1, x2, x3, x4, x5, x6, x7, x8, x9, x10, x11, x12, x13, x14, x15, x16, x17, x18, x19, x20, x21, x22, x23, x24, x25, x26, x27, x28, x29, x30, x31, x32, x33, x34, x35, x36, x37, x38, x39, x40, x41, x42, x43, x44, x45, x46, x47, v0, v1, v2, v3, v4, v5, v6, v7, v8, v9, v10, .bool true, v12, .bool false, .list [] [], .list [] [], .list [] [], .bool false, .bool true, .list [] [], .list [] [], .list [] [], .list [] [], .list [] [], .list [] [], .list [] [], .list [] [], .list [] [], .bool true]) (
        ifB v10 (
          P1 (.bin .sub) [x7, .int .i64 1] fun v24 =>
          P1 (.bin .neq) [v5, v24] fun v25 =>
          ifB v25 (
            shL laws_FnWorkshops_r2 (qS (shL laws_FnWorkshops_r3 Q) Q) [x0, x1, x2, x3, x4, x5, x6, x7, x8, x9, x10, x11, x12, x13, x14, x15, x16, x17, x18, x19, x20, x21, x22, x23, x24, x25, x26, x27, x28, x29, x30, x31, x32, x33, x34, x35, x36, x37, x38, x39, x40, x41, x42, x43, x44, x45, x46, x47, v0, v1, v2, v3, v4, v5, v6, v7, v8, v9, .bool true, .bool true, v12, .bool false, .list [] [], .list [] [], .list [] [], .bool false, .bool false, v24, .bool true, .list [] [], .list [] [], .list [] [], .bool true, .list [] [], .bool true, .bool true, .bool true]) (
            P1 (.len) [x4] fun v26 =>
            P1 (.bin .add) [x11, v26] fun v27 =>
            P1 (.bin .neq) [v9, v27] fun v28 =>
            ifB v28 (
              shL laws_FnWorkshops_r2 (qS (shL laws_FnWorkshops_r3 Q) Q) [x0, x1, x2, x3, x4, x5, x6, x7, x8, x9, x10, x11, x12, x13, x14, x15, x16, x17, x18, x19, x20, x21, x22, x23, x24, x25, x26, x27, x28, x29, x30, x31, x32, x33, x34, x35, x36, x37, x38, x39, x40, x41, x42, x43, x44, x45, x46, x47, v0, v1, v2, v3, v4, v5, v6, v7, v8, v9, .bool true, .bool true, v12, .bool false, .list [] [], .list [] [], .list [] [], .bool false, .bool false, v24, .bool false, v26, v27, v28, .bool true, .list [] [], .bool true, .bool true, .bool true]) (
              P1 (.bin .neq) [v8, x10] fun v29 =>
              shL laws_FnWorkshops_r2 (qS (shL laws_FnWorkshops_r3 Q) Q) [x0, x1, x2, x3, x4, x5, x6, x7, x8, x9, x10, x11, x12, x13, x14, x15, x16, x17, x18, x19, x20, x21, x22, x23, x24, x25, x26, x27, x28, x29, x30, x31, x32, x33, x34, x35, x36, x37, x38, x39, x40, x41, x42, x43, x44, x45, x46, x47, v0, v1, v2, v3, v4, v5, v6, v7, v8, v9, .bool true, .bool true, v12, .bool false, .list [] [], .list [] [], .list [] [], .bool false, .bool false, v24, .bool false, v26, v27, v28, .bool false, v29, v29, v29, v29]))) (
          shL laws_FnWorkshops_r2 (qS (shL laws_FnWorkshops_r3 Q) Q) [x0, x1, x2, x3, x4, x5, x6, x7, x8, x9, x10, x11, x12, x13, x14, x15, x16, x17, x18, x19, x20, x21, x22, x23, x24, x25, x26, x27, x28, x29, x30, x31, x32, x33, x34, x35, x36, x37, x38, x39, x40, x41, x42, x43, x44, x45, x46, x47, v0, v1, v2, v3, v4, v5, v6, v7, v8, v9, .bool false, .bool true, v12, .bool false, .list [] [], .list [] [], .list [] [], .bool false, .bool false, .list [] [], .list [] [], .list [] [], .list [] [], .list [] [], .list [] [], .list [] [], .list [] [], .bool false, .bool false])))) (
    P1 (.binb .neq) [v10, .bool false] fun v30 =>
    ifB v30 (
      shL laws_FnWorkshops_r2 (qS (shL laws_FnWorkshops_r3 Q) Q) [x0, x1, x2, x3, x4, x5, x6, x7, x8, x9, x10, x11, x12, x13, x14, x15, x16, x17, x18, x19, x20, x21, x22, x23, x24, x25, x26, x27, x28, x29, x30, x31, x32, x33, x34, x35, x36, x37, x38, x39, x40, x41, x42, x43, x44, x45, x46, x47, v0, v1, v2, v3, v4, v5, v6, v7, v8, v9, v10, .bool false, .list [] [], .bool false, .list [] [], .list [] [], .list [] [], .bool false, .bool true, .list [] [], .list [] [], .list [] [], .list [] [], .list [] [], .list [] [], .list [] [], .list [] [], .list [] [], .bool true]) (
      ifB v10 (
        P1 (.bin .sub) [x7, .int .i64 1] fun v31 =>
        P1 (.bin .neq) [v5, v31] fun v32 =>
        ifB v32 (
          shL laws_FnWorkshops_r2 (qS (shL laws_FnWorkshops_r3 Q) Q) [x0, x1, x2, x3, x4, x5, x6, x7, x8, x9, x10, x11, x12, x13, x14, x15, x16, x17, x18, x19, x20, x21, x22, x23, x24, x25, x26, x27, x28, x29, x30, x31, x32, x33, x34, x35, x36, x37, x38, x39, x40, x41, x42, x43, x44, x45, x46, x47, v0, v1, v2, v3, v4, v5, v6, v7, v8, v9, .bool true, .bool false, .list [] [], .bool false, .list [] [], .list [] [], .list [] [], .bool false, .bool false, v31, .bool true, .list [] [], .list [] [], .list [] [], .bool true, .list [] [], .bool true, .bool true, .bool true]) (
          P1 (.len) [x4] fun v33 =>
          P1 (.bin .add) [x11, v33] fun v34 =>
          P1 (.bin .neq) [v9, v34] fun v35 =>
          ifB v35 (
            shL laws_FnWorkshops_r2 (qS (shL laws_FnWorkshops_r3 Q) Q) [x0, x1, x2, x3, x4, x5, x6, x7, x8, x9, x10, x11, x12, x13, x14, x15, x16, x17, x18, x19, x20, x21, x22, x23, x24, x25, x26, x27, x28, x29, x30, x31, x32, x33, x34, x35, x36, x37, x38, x39, x40, x41, x42, x43, x44, x45, x46, x47, v0, v1, v2, v3, v4, v5, v6, v7, v8, v9, .bool true, .bool false, .list [] [], .bool false, .list [] [], .list [] [], .list [] [], .bool false, .bool false, v31, .bool false, v33, v34, v35, .bool true, .list [] [], .bool true, .bool true, .bool true]) (
            P1 (.bin .neq) [v8, x10] fun v36 =>
            shL laws_FnWorkshops_r2 (qS (shL laws_FnWorkshops_r3 Q) Q) [x0, x1, x2, x3, x4, x5, x6, x7, x8, x9, x10, x11, x12, x13, x14, x15, x16, x17, x18, x19, x20, x21, x22, x23, x24, x25, x26, x27, x28, x29, x30, x31, x32, x33, x34, x35, x36, x37, x38, x39, x40, x41, x42, x43, x44, x45, x46, x47, v0, v1, v2, v3, v4, v5, v6, v7, v8, v9, .bool true, .bool false, .list [] [], .bool false, .list [] [], .list [] [], .list [] [], .bool false, .bool false, v31, .bool false, v33, v34, v35, .bool false, v36, v36, v36, v36]))) (
        shL laws_FnWorkshops_r2 (qS (shL laws_FnWorkshops_r3 Q) Q) [x0, x1, x2, x3, x4, x5, x6, x7, x8, x9, x10, x11, x12, x13, x14, x15, x16, x17, x18, x19, x20, x21, x22, x23, x24, x25, x26, x27, x28, x29, x30, x31, x32, x33, x34, x35, x36, x37, x38, x39, x40, x41, x42, x43, x44, x45, x46, x47, v0, v1, v2, v3, v4, v5, v6, v7, v8, v9, .bool false, .bool false, .list [] [], .bool false, .list [] [], .list [] [], .list [] [], .bool false, .bool false, .list [] [], .list [] [], .list [] [], .list [] [], .list [] [], .list [] [], .list [] [], .list [] [], .bool false, .bool false])))) := by kernel_rfl

def laws_FnWorkshops_L : L := .seq (.rg []) (.seq (.seq (.rg [zc F_big 1 [0]]) (.ite (.v 1) (.seq (.rg []) (.ret [.k (.bool true)])) (.skip))) (.seq (.rg [zc F_DrawWorkshop 10 [0]]) (.seq (.rg []) (.seq (.rg [⟨[], .call F_at 0 1, [.v 0, .k (.int .i64 0)], 1⟩, zb .rem 12 3]) (.seq (.rg [⟨[], .call F_at 0 1, [.v 0, .k (.int .i64 1)], 1⟩, zb .rem 14 2]) (.seq (.rg [zc F_PutPin 11 [2, 3, 4, 5, 6, 7, 8, 9, 10, 11, 13, 15]]) (.seq (.rg [zc F_PinsAt 1 [2, 3, 4, 15], zc F_has 1 [27, 13]]) (.seq (.seq (.rg [zc F_WorkshopOk 1 [2, 3, 4, 5, 6, 7, 8, 9, 10, 11], zn 29, ⟨[(.v 30, false)], .un .not, [.v 28], 1⟩, ⟨[(.v 30, false), (.v 31, true)], .bin .gtr, [.v 10, .k (.int .i64 0)], 1⟩, ⟨[(.v 30, false)], .pick, [.v 31, .v 32, .k (.bool false)], 1⟩, ⟨[(.v 30, false), (.v 33, true)], .len, [.v 5], 1⟩, ⟨[(.v 30, false), (.v 33, true)], .bin .lss, [.v 34, .k (.int .i64 30)], 1⟩, ⟨[(.v 30, false)], .pick, [.v 33, .v 35, .k (.bool false)], 1⟩, ⟨[(.v 30, false)], .binb .neq, [.v 26, .v 36], 1⟩, ⟨[], .pick, [.v 30, .k (.bool true), .v 37], 1⟩, ⟨[(.v 38, false), (.v 26, true)], .bin .sub, [.v 10, .k (.int .i64 1)], 1⟩, ⟨[(.v 38, false), (.v 26, true)], .bin .neq, [.v 24, .v 39], 1⟩, ⟨[(.v 38, false), (.v 26, true), (.v 40, false)], .len, [.v 18], 1⟩, ⟨[(.v 38, false), (.v 26, true), (.v 40, false)], .len, [.v 4], 1⟩, ⟨[(.v 38, false), (.v 26, true), (.v 40, false)], .bin .add, [.v 42, .k (.int .i64 1)], 1⟩, ⟨[(.v 38, false), (.v 26, true), (.v 40, false)], .bin .neq, [.v 41, .v 43], 1⟩, ⟨[(.v 38, false), (.v 26, true)], .pick, [.v 40, .k (.bool true), .v 44], 1⟩, ⟨[(.v 38, false)], .pick, [.v 26, .v 45, .k (.bool false)], 1⟩, ⟨[], .pick, [.v 38, .k (.bool true), .v 46], 1⟩]) (laws_FnWorkshops_r0)) (laws_FnWorkshops_r1)))))))))
theorem laws_FnWorkshops_L_sh (Q : QT) (x0 : V) : shL laws_FnWorkshops_L Q [x0] = (
  P1 (.call F_big 0 1) [x0] fun v0 =>
  ifB v0 (
    Q .ret [.bool true]) (
    P10 (.call F_DrawWorkshop 0 10) [x0] fun v1 v2 v3 v4 v5 v6 v7 v8 v9 v10 =>
    P1 (.call F_at 0 1) [x0, .int .i64 0] fun v11 =>
    P1 (.bin .rem) [v11, v2] fun v12 =>
    P1 (.call F_at 0 1) [x0, .int .i64 1] fun v13 =>
    P1 (.bin .rem) [v13, v1] fun v14 =>
    P11 (.call F_PutPin 0 11) [v1, v2, v3, v4, v5, v6, v7, v8, v9, v10, v12, v14] fun v15 v16 v17 v18 v19 v20 v21 v22 v23 v24 v25 =>
    P1 (.call F_PinsAt 0 1) [v1, v2, v3, v14] fun v26 =>
    P1 (.call F_has 0 1) [v26, v12] fun v27 =>
    P1 (.call F_WorkshopOk 0 1) [v1, v2, v3, v4, v5, v6, v7, v8, v9, v10] fun v28 =>
    P1 (.un .not) [v28] fun v29 =>
    ifB v29 (
      shL laws_FnWorkshops_r0 (qS (shL laws_FnWorkshops_r1 Q) Q) [x0, .bool false, v1, v2, v3, v4, v5, v6, v7, v8, v9, v10, v11, v12, v13, v14, v15, v16, v17, v18, v19, v20, v21, v22, v23, v24, v25, v26, v27, v28, .bool true, .list [] [], .list [] [], .list [] [], .list [] [], .list [] [], .list [] [], .list [] [], .bool true, .list [] [], .list [] [], .list [] [], .list [] [], .list [] [], .list [] [], .list [] [], .list [] [], .bool true]) (
      P1 (.un .not) [v27] fun v30 =>
      ifB v30 (
        P1 (.bin .gtr) [v9, .int .i64 0] fun v31 =>
        ifB v31 (
          P1 (.len) [v4] fun v32 =>
          P1 (.bin .lss) [v32, .int .i64 30] fun v33 =>
          P1 (.binb .neq) [v25, v33] fun v34 =>
          ifB v34 (
            shL laws_FnWorkshops_r0 (qS (shL laws_FnWorkshops_r1 Q) Q) [x0, .bool false, v1, v2, v3, v4, v5, v6, v7, v8, v9, v10, v11, v12, v13, v14, v15, v16, v17, v18, v19, v20, v21, v22, v23, v24, v25, v26, v27, v28, .bool false, .bool true, v31, .bool true, v32, v33, v33, v34, .bool true, .list [] [], .list [] [], .list [] [], .list [] [], .list [] [], .list [] [], .list [] [], .list [] [], .bool true]) (
            ifB v25 (
              P1 (.bin .sub) [v9, .int .i64 1] fun v35 =>
              P1 (.bin .neq) [v23, v35] fun v36 =>
              ifB v36 (
                shL laws_FnWorkshops_r0 (qS (shL laws_FnWorkshops_r1 Q) Q) [x0, .bool false, v1, v2, v3, v4, v5, v6, v7, v8, v9, v10, v11, v12, v13, v14, v15, v16, v17, v18, v19, v20, v21, v22, v23, v24, .bool true, v26, v27, v28, .bool false, .bool true, v31, .bool true, v32, v33, v33, v34, .bool false, v35, .bool true, .list [] [], .list [] [], .list [] [], .list [] [], .bool true, .bool true, .bool true]) (
                P1 (.len) [v17] fun v37 =>
                P1 (.len) [v3] fun v38 =>
                P1 (.bin .add) [v38, .int .i64 1] fun v39 =>
                P1 (.bin .neq) [v37, v39] fun v40 =>
                shL laws_FnWorkshops_r0 (qS (shL laws_FnWorkshops_r1 Q) Q) [x0, .bool false, v1, v2, v3, v4, v5, v6, v7, v8, v9, v10, v11, v12, v13, v14, v15, v16, v17, v18, v19, v20, v21, v22, v23, v24, .bool true, v26, v27, v28, .bool false, .bool true, v31, .bool true, v32, v33, v33, v34, .bool false, v35, .bool false, v37, v38, v39, v40, v40, v40, v40])) (
              shL laws_FnWorkshops_r0 (qS (shL laws_FnWorkshops_r1 Q) Q) [x0, .bool false, v1, v2, v3, v4, v5, v6, v7, v8, v9, v10, v11, v12, v13, v14, v15, v16, v17, v18, v19, v20, v21, v22, v23, v24, .bool false, v26, v27, v28, .bool false, .bool true, v31, .bool true, v32, v33, v33, v34, .bool false, .list [] [], .list [] [], .list [] [], .list [] [], .list [] [], .list [] [], .list [] [], .bool false, .bool false]))) (
          P1 (.binb .neq) [v25, .bool false] fun v41 =>
          ifB v41 (
            shL laws_FnWorkshops_r0 (qS (shL laws_FnWorkshops_r1 Q) Q) [x0, .bool false, v1, v2, v3, v4, v5, v6, v7, v8, v9, v10, v11, v12, v13, v14, v15, v16, v17, v18, v19, v20, v21, v22, v23, v24, v25, v26, v27, v28, .bool false, .bool true, v31, .bool false, .list [] [], .list [] [], .bool false, v41, .bool true, .list [] [], .list [] [], .list [] [], .list [] [], .list [] [], .list [] [], .list [] [], .list [] [], .bool true]) (
            ifB v25 (
              P1 (.bin .sub) [v9, .int .i64 1] fun v42 =>
              P1 (.bin .neq) [v23, v42] fun v43 =>
              ifB v43 (
                shL laws_FnWorkshops_r0 (qS (shL laws_FnWorkshops_r1 Q) Q) [x0, .bool false, v1, v2, v3, v4, v5, v6, v7, v8, v9, v10, v11, v12, v13, v14, v15, v16, v17, v18, v19, v20, v21, v22, v23, v24, .bool true, v26, v27, v28, .bool false, .bool true, v31, .bool false, .list [] [], .list [] [], .bool false, v41, .bool false, v42, .bool true, .list [] [], .list [] [], .list [] [], .list [] [], .bool true, .bool true, .bool true]) (
                P1 (.len) [v17] fun v44 =>
                P1 (.len) [v3] fun v45 =>
                P1 (.bin .add) [v45, .int .i64 1] fun v46 =>
                P1 (.bin .neq) [v44, v46] fun v47 =>
                shL laws_FnWorkshops_r0 (qS (shL laws_FnWorkshops_r1 Q) Q) [x0, .bool false, v1, v2, v3, v4, v5, v6, v7, v8, v9, v10, v11, v12, v13, v14, v15, v16, v17, v18, v19, v20, v21, v22, v23, v24, .bool true, v26, v27, v28, .bool false, .bool true, v31, .bool false, .list [] [], .list [] [], .bool false, v41, .bool false, v42, .bool false, v44, v45, v46, v47, v47, v47, v47])) (
              shL laws_FnWorkshops_r0 (qS (shL laws_FnWorkshops_r1 Q) Q) [x0, .bool false, v1, v2, v3, v4, v5, v6, v7, v8, v9, v10, v11, v12, v13, v14, v15, v16, v17, v18, v19, v20, v21, v22, v23, v24, .bool false, v26, v27, v28, .bool false, .bool true, v31, .bool false, .list [] [], .list [] [], .bool false, v41, .bool false, .list [] [], .list [] [], .list [] [], .list [] [], .list [] [], .list [] [], .list [] [], .bool false, .bool false])))) (
        P1 (.binb .neq) [v25, .bool false] fun v48 =>
        ifB v48 (
          shL laws_FnWorkshops_r0 (qS (shL laws_FnWorkshops_r1 Q) Q) [x0, .bool false, v1, v2, v3, v4, v5, v6, v7, v8, v9, v10, v11, v12, v13, v14, v15, v16, v17, v18, v19, v20, v21, v22, v23, v24, v25, v26, v27, v28, .bool false, .bool false, .list [] [], .bool false, .list [] [], .list [] [], .bool false, v48, .bool true, .list [] [], .list [] [], .list [] [], .list [] [], .list [] [], .list [] [], .list [] [], .list [] [], .bool true]) (
          ifB v25 (
            P1 (.bin .sub) [v9, .int .i64 1] fun v49 =>
            P1 (.bin .neq) [v23, v49] fun v50 =>
            ifB v50 (
              shL laws_FnWorkshops_r0 (qS (shL laws_FnWorkshops_r1 Q) Q) [x0, .bool false, v1, v2, v3, v4, v5, v6, v7, v8, v9, v10, v11, v12, v13, v14, v15, v16, v17, v18, v19, v20, v21, v22, v23, v24, .bool true, v26, v27, v28, .bool false, .bool false, .list [] [], .bool false, .list [] [], .list [] [], .bool false, v48, .bool false, v49, .bool true, .list [] [], .list [] [], .list [] [], .list [] [], .bool true, .bool true, .bool true]) (
              P1 (.len) [v17] fun v51 =>
              P1 (.len) [v3] fun v52 =>
              P1 (.bin .add) [v52, .int .i64 1] fun v53 =>
              P1 (.bin .neq) [v51, v53] fun v54 =>
              shL laws_FnWorkshops_r0 (qS (shL laws_FnWorkshops_r1 Q) Q) [x0, .bool false, v1, v2, v3, v4, v5, v6, v7, v8, v9, v10, v11, v12, v13, v14, v15, v16, v17, v18, v19, v20, v21, v22, v23, v24, .bool true, v26, v27, v28, .bool false, .bool false, .list [] [], .bool false, .list [] [], .list [] [], .bool false, v48, .bool false, v49, .bool false, v51, v52, v53, v54, v54, v54, v54])) (
            shL laws_FnWorkshops_r0 (qS (shL laws_FnWorkshops_r1 Q) Q) [x0, .bool false, v1, v2, v3, v4, v5, v6, v7, v8, v9, v10, v11, v12, v13, v14, v15, v16, v17, v18, v19, v20, v21, v22, v23, v24, .bool false, v26, v27, v28, .bool false, .bool false, .list [] [], .bool false, .list [] [], .list [] [], .bool false, v48, .bool false, .list [] [], .list [] [], .list [] [], .list [] [], .list [] [], .list [] [], .list [] [], .bool false, .bool false])))))) := by kernel_rfl
def laws_FnWorkshops_S : Sig := ⟨[.val false [.sl [.sc]]], [(false, [.sc])], F_FnWorkshops⟩
def laws_FnWorkshops_hs : List NF := [⟨[(3, .ptr 64 0), (4, .ptr 65 0)], [(66, true, [.sc]), (67, true, [.sl [.sc, .sc]]), (68, true, [.sc])], [(64, [.sc, .sc, .own 66, .own 67, .own 68, .sc, .sc, .sc, .sc, .sc]), (65, [.sc, .sc, .own 66])], 69⟩, ⟨[], [], [], 64⟩, ⟨[(3, .ptr 64 0), (4, .ptr 65 0), (17, zo 66), (18, zs)], [(66, true, [.sc, .sc]), (67, true, [.sc]), (68, true, [.sl [.sc, .sc]]), (69, true, [.sc])], [(64, [.sc, .sc, .own 67, .own 68, .own 69, .sc, .sc, .sc, .sc, .sc]), (65, [.sc, .sc, .own 67])], 70⟩, ⟨[(3, .ptr 64 0), (4, .ptr 65 0), (17, zo 66), (18, zs)], [(66, true, [.sc, .sc]), (67, true, [.sc]), (68, true, [.sl [.sc, .sc]]), (69, true, [.sc])], [(64, [.sc, .sc, .own 67, .own 68, .own 69, .sc, .sc, .sc, .sc, .sc]), (65, [.sc, .sc, .own 67])], 70⟩, ⟨[(3, .ptr 64 0), (4, .ptr 65 0), (17, zo 66), (18, zs), (19, zs)], [(66, true, [.sc, .sc]), (67, true, [.sc]), (68, true, [.sl [.sc, .sc]]), (69, true, [.sc])], [(64, [.sc, .sc, .own 67, .own 68, .own 69, .sc, .sc, .sc, .sc, .sc]), (65, [.sc, .sc, .own 67])], 70⟩, ⟨[(3, .ptr 64 0), (4, .ptr 65 0), (17, zo 66), (18, zs), (19, zs), (20, zs)], [(66, true, [.sc, .sc]), (67, true, [.sc]), (68, true, [.sl [.sc, .sc]]), (69, true, [.sc])], [(64, [.sc, .sc, .own 67, .own 68, .own 69, .sc, .sc, .sc, .sc, .sc]), (65, [.sc, .sc, .own 67])], 70⟩, ⟨[(3, .ptr 64 0), (4, .ptr 65 0), (17, zo 66), (18, zs), (19, zs), (20, zs)], [(66, true, [.sc, .sc]), (67, true, [.sc]), (68, true, [.sl [.sc, .sc]]), (69, true, [.sc])], [(64, [.sc, .sc, .own 67, .own 68, .own 69, .sc, .sc, .sc, .sc, .sc]), (65, [.sc, .sc, .own 67])], 70⟩]

end
end Go.Mw

namespace Go.Mw
theorem spec_DrawWorkshop_ok : ∀ ds outs, F_DrawWorkshop ds = some outs → shL spec_DrawWorkshop_L (qRet outs) ds := F_DrawWorkshop_elim fun l hp => by
  rw [spec_DrawWorkshop_L_sh, p_l01New hp]
  refine (p_l38Workshop (x_b := (cur0 l).b) (x_i := (cur0 l).i) (x_h := (cur0 l).h) ⟨by simp [cur0], hp⟩).2 ?_
  show qRet _ .ret _
  simp
theorem tuneOk_no {l : List T2} {j : Nat} (hj : j < l.length) (h : tuneAt l j = false) : tuneOk l = false := by
  unfold tuneOk
  rw [Bool.and_eq_false_iff]
  refine .inl ?_
  rw [List.all_eq_false]
  exact ⟨j, List.mem_range.2 hj, by rw [h]; simp⟩
theorem spec_TuneOk_ok : ∀ ds outs, F_TuneOk ds = some outs → shL spec_TuneOk_L (qRet outs) ds := F_TuneOk_elim fun l hp => by
  rw [spec_TuneOk_L_sh]
  refine loop_upto l.length (fun k => [vL I2 v2 l, .int .i64 k]) (by intro i j _ _ h; simp at h; omega) (fun k => ∀ j, j < k → tuneAt l j = true) rfl (fun j h => by omega) ?_
  intro k hk hP
  rw [spec_TuneOk_b0_sh]
  simp only [P1_len, P1_lss, ifB_bool, decide_eq_true_eq, decide_eq_false_iff_not]
  refine ⟨fun h => ?_, fun h => ?_⟩
  · have hkl : k < l.length := by omega
    have hno := fun h => tuneOk_no (l := l) hkl h
    have hw : IntKind.i64.wrap ((k : Int) + 1) = ((k + 1 : Nat) : Int) := by rw [wrap_id (by omega) (by omega)]; omega
    have go : tuneAt l k = true → ∀ j, j < k + 1 → tuneAt l j = true := fun h j hj => by
      by_cases e : j = k
      · subst e; exact h
      · exact hP j (by omega)
    simp only [P2_idxI, Int.toNat_natCast, List.getElem?_eq_getElem hkl, Option.some.injEq, exists_eq_left', show F_l01In = F_within from rfl, p_within, P1_not, ifB_bool, P1_gtr, decide_eq_true_eq, decide_eq_false_iff_not, P1_add, hw, qS_normal]
    have eA : tuneAt l k = (within l[k].a 0 1000 && within l[k].b 0 60 && (decide (k = 0) || noteLess (l[k - 1]?.getD ⟨0, 0⟩) l[k])) := by
      unfold tuneAt; rw [List.getElem?_eq_getElem hkl]; rfl
    refine ⟨by omega, fun h1 => ?_, fun h1 => ⟨by omega, fun h2 => ?_, fun h2 => ⟨fun h3 => ?_, fun h3 => ?_⟩⟩⟩
    · have g1 : within l[k].a 0 1000 = false := by simpa using h1
      rw [hno (by rw [eA, g1]; rfl)]; simp
    · have g2 : within l[k].b 0 60 = false := by simpa using h2
      rw [hno (by rw [eA, g2]; simp)]; simp
    · have hk0 : k - 1 < l.length := by omega
      have w3 : IntKind.i64.wrap ((k : Int) - 1) = ((k - 1 : Nat) : Int) := by rw [wrap_id (by omega) (by omega)]; omega
      simp only [P1_sub, w3, P2_idxI, Int.toNat_natCast, List.getElem?_eq_getElem hk0, List.getElem?_eq_getElem hkl, Option.some.injEq, exists_eq_left']
      refine ⟨by omega, by omega, ?_⟩
      rw [p_l02Less (x_a := l[k - 1].a) (x_b := l[k - 1].b) (y_a := l[k].a) (y_b := l[k].b)]
      have eB : tuneAt l k = (within l[k].a 0 1000 && within l[k].b 0 60 && (decide (k = 0) || noteLess l[k - 1] l[k])) := by rw [eA, List.getElem?_eq_getElem hk0]; rfl
      simp only [P1_not, ifB_bool]
      refine ⟨fun h4 => ?_, fun h4 => ⟨hkl, trivial, go ?_⟩⟩
      · have g4 : noteLess l[k - 1] l[k] = false := by simpa using h4
        rw [hno (by rw [eB, g4, decide_eq_false (by omega)]; simp)]; simp
      · rw [eB]
        have g1 : within l[k].a 0 1000 = true := by simpa using h1
        have g2 : within l[k].b 0 60 = true := by simpa using h2
        have g4 : noteLess l[k - 1] l[k] = true := by simpa using h4
        rw [g1, g2, g4]
        simp
    · refine ⟨hkl, trivial, go ?_⟩
      have hk0 : k = 0 := by omega
      rw [eA]
      have g1 : within l[k].a 0 1000 = true := by simpa using h1
      have g2 : within l[k].b 0 60 = true := by simpa using h2
      rw [g1, g2, decide_eq_true hk0]
      rfl
  · obtain rfl : k = l.length := by omega
    simp only [qS_exit, qB_exit, if_true, qS_normal, spec_TuneOk_r1_sh, P1_len, P1_leq, qRet_ret]
    have e : (List.range l.length).all (tuneAt l) = true := List.all_eq_true.2 fun j hj => hP j (List.mem_range.1 hj)
    unfold tuneOk
    rw [e, Bool.true_and]
    by_cases c : l.length ≤ 40 <;> simp [c] <;> omega

theorem withB_ok {w : Shop} (h : shopOk w = true) {b : Bench} (hb : benchOk b = true) (ht : b.t = w.t) {k : Int} : shopOk (withB w b k) = within (w.y - k) 0 1000000 := by
  obtain ⟨h1, h2, h3, h4, h5, h6⟩ := (shopOk_iff w).1 h
  have e : ∀ x : Bool, (shopOk (withB w b k) = x) ↔ (shopOk (withB w b k) = true ↔ x = true) := fun x => by cases shopOk (withB w b k) <;> cases x <;> simp
  refine (e _).2 ?_
  rw [shopOk_iff]
  exact ⟨fun h => h.2.2.2.2.1, fun h => ⟨hb, h2, h3, by show b.t = w.c.length; omega, h, h6⟩⟩
theorem put_fits {w : Shop} (h : shopOk w = true) {p : T2} (hp : pinIn w.s w.t p = true) (hl : w.p.length + 1 ≤ 100) :
    benchFits w (setPin w.bench p) 1 (canSet w.bench p) = ((!decide (p ∈ w.p) && decide (w.o.length < 30)) && decide (0 < w.y)) := by
  obtain ⟨h1, -, -, -, h5, -⟩ := (shopOk_iff w).1 h
  have hc : canSet w.bench p = (!decide (p ∈ w.p) && decide (w.o.length < 30)) := set_iff h1 hp hl
  unfold benchFits
  rw [h, ← hc]
  cases c : canSet w.bench p with
  | false => simp
  | true =>
    have e := set_eq c
    have c2 := c
    simp only [canSet, Bool.and_eq_true, stepOk] at c2
    have et : (stepped w.bench (addTo w.bench.cyl p)).t = w.t := by
      show (addTo w.bench.cyl p).t = w.t
      unfold addTo
      split <;> rfl
    rw [e, withB_ok h c2.2.2 et]
    simp only [within] at h5 ⊢
    by_cases y : 0 < w.y <;> simp [y] <;> simp at h5 <;> omega
theorem pull_fits {w : Shop} (h : shopOk w = true) {k : Int} (hk : 0 ≤ k ∧ k < w.p.length) : benchFits w (takePin w.bench k) 0 (canTake w.bench k) = decide (w.o.length < 30) := by
  obtain ⟨h1, -, -, -, h5, -⟩ := (shopOk_iff w).1 h
  have hc : canTake w.bench k = decide (w.o.length < 30) := (pull_iff h1 hk).1
  unfold benchFits
  rw [h, ← hc]
  cases c : canTake w.bench k with
  | false => simp
  | true =>
    have c2 := c
    simp only [canTake, Bool.and_eq_true, stepOk] at c2
    have e : takePin w.bench k = stepped w.bench (pulled w.bench k) := by
      unfold takePin stepTo stepOk
      rw [c2.1, c2.2.1, c2.2.2]
      rfl
    rw [e, withB_ok h c2.2.2 rfl]
    simpa using h5
theorem play_ok {w : Shop} (h : shopOk w = true) : canPlay w = (decide (0 < w.u) && (playable ⟨w.s, w.t, w.p⟩ 2 && decide (w.d + w.p.length ≤ 1000000))) := by
  obtain ⟨h1, h2, h3, h4, h5, h6⟩ := (shopOk_iff w).1 h
  have h3' := h3
  simp only [springOk, Shop.spring, Bool.and_eq_true, within_iff'] at h3'
  have h6' := within_iff'.1 h6
  unfold canPlay
  rw [h, Bool.true_and]
  by_cases hu : 0 < w.u
  · have e1 : (!decide (w.u = 0)) = true := by simp; omega
    have e2 : shopOk (played w) = decide (w.d + w.p.length ≤ 1000000) := by
      have e : ∀ x : Bool, (shopOk (played w) = x) ↔ (shopOk (played w) = true ↔ x = true) := fun x => by cases shopOk (played w) <;> cases x <;> simp
      refine (e _).2 ?_
      rw [shopOk_iff, decide_eq_true_eq]
      refine ⟨fun g => (within_iff'.1 g.2.2.2.2.2).2, fun g => ⟨h1, h2, ?_, h4, h5, within_iff'.2 ⟨?_, g⟩⟩⟩
      · simp only [springOk, Shop.spring, played, Bool.and_eq_true, within_iff']
        omega
      · show 0 ≤ w.d + w.p.length; omega
    rw [e1, e2]
    simp [hu]
  · have e1 : (!decide (w.u = 0)) = false := by simp; omega
    rw [e1]
    simp [hu]
end Go.Mw

namespace Go.Mw
theorem melody_eq {w : Shop} (hok : shopOk w = true) (h40 : w.p.length ≤ 40) : melody w = noteIn (w.p.map (noteOf w)) := by
  unfold melody sortNotes
  rw [hok, decide_eq_true h40, Bool.and_true, if_pos rfl, if_pos (by simpa using h40)]
theorem melody_mem {w : Shop} (hok : shopOk w = true) (h40 : w.p.length ≤ 40) {n : T2} : n ∈ melody w ↔ ∃ q ∈ w.p, noteOf w q = n := by
  rw [melody_eq hok h40, noteIn, notes_mem]
  simp
theorem note_range {w : Shop} (hok : shopOk w = true) {q : T2} (hq : q ∈ w.p) : ((0 ≤ (noteOf w q).a ∧ (noteOf w q).a ≤ 95) ∧ 0 ≤ (noteOf w q).b ∧ (noteOf w q).b ≤ 60) ∧ 0 ≤ q.a ∧ q.a.toNat < w.c.length := by
  have hs := (shopOk_iff w).1 hok
  have hc : cylOk ⟨w.s, w.t, w.p⟩ = true := ((benchOk_iff _).1 hs.1).1
  obtain ⟨k, hk, rfl⟩ := List.getElem_of_mem hq
  have h1 := cylOk_pin hc hk
  have h2 := cylOk_tooth hc hk
  have h3 := hs.2.1
  have h4 := hs.2.2.2.1
  dsimp only at h1 h2
  have h5 : w.p[k].a.toNat < w.c.length := by omega
  simp only [combOk, Bool.and_eq_true, List.all_eq_true] at h3
  have h6 := within_iff'.1 (h3.2.1 w.c[w.p[k].a.toNat] (List.getElem_mem h5))
  refine ⟨⟨h1.2, ?_⟩, h1.1.1, h5⟩
  simp only [noteOf, List.getElem?_eq_getElem h5, Option.getD_some]
  exact h6
theorem melody_tune {w : Shop} (hok : shopOk w = true) (h40 : w.p.length ≤ 40) : tuneOk (melody w) = true := by
  unfold tuneOk
  rw [Bool.and_eq_true, List.all_eq_true]
  refine ⟨fun j hj => ?_, decide_eq_true (melody_len w)⟩
  have hj := List.mem_range.1 hj
  obtain ⟨q, hq, e⟩ := (melody_mem hok h40).1 (List.getElem_mem hj)
  have hr := (note_range hok hq).1
  rw [e] at hr
  have hup : (melody w).Pairwise fun x y => noteLess x y = true := by rw [melody_eq hok h40]; exact notes_rising _ _ .nil
  unfold tuneAt
  rw [List.getElem?_eq_getElem hj, Option.getD_some, within_iff'.2 (show 0 ≤ _ ∧ _ ≤ 1000 by omega), within_iff'.2 hr.2, Bool.true_and, Bool.true_and, Bool.or_eq_true, decide_eq_true_eq]
  by_cases h0 : j = 0
  · exact .inl h0
  · right
    have := List.pairwise_iff_getElem.1 hup (j - 1) j (by omega) hj (by omega)
    rw [List.getElem?_eq_getElem (show j - 1 < (melody w).length by omega), Option.getD_some]
    exact this
theorem open_const : shopOk (opened 8 [3, 4] 7) = true := by decide
theorem works_r12 : shL laws_FnWorkshops_r12 (qRet [.bool true]) [] := by
  rw [laws_FnWorkshops_r12_sh]
  simp only [P1_lstI2]
  rw [p_OpenWorkshop (by simp)]
  have e : openShop 8 [3, 4] 7 = opened 8 [3, 4] 7 := by unfold openShop; rw [if_pos open_const]
  rw [e, open_const]
  simp [opened]
def sounds (w : Shop) (n : T2) (k : Nat) : Bool := (w.p.take k).any fun q => decide (noteOf w q = n)
theorem sounds_succ {w : Shop} {n : T2} {k : Nat} (h : k < w.p.length) : sounds w n (k + 1) = (sounds w n k || decide (noteOf w w.p[k] = n)) := by
  unfold sounds
  rw [take_succ_get h, List.any_append, List.any_cons, List.any_nil, Bool.or_false]
theorem works_found {w : Shop} (hok : shopOk w = true) (h40 : w.p.length ≤ 40) :
    shL (.loop laws_FnWorkshops_b6) (qB 0 (qS (shL laws_FnWorkshops_r12 (qRet [.bool true])) (qRet [.bool true]))) [.int .i64 0, vL I2 v2 (melody w), vL I2 v2 w.p, vL IL2 vLL2 w.o, vL I1 v1 w.c, .int .i64 w.s, .int .i64 w.t, .int .i64 w.u, .int .i64 w.m, .int .i64 w.f, .int .i64 w.y, .int .i64 w.d, .int .i64 w.s, .int .i64 w.t] := by
  have hml := melody_len w
  have hmm := fun n => melody_mem hok h40 (n := n)
  generalize melody w = g at *
  refine loop_upto g.length (fun i => [.int .i64 i, vL I2 v2 g, vL I2 v2 w.p, vL IL2 vLL2 w.o, vL I1 v1 w.c, .int .i64 w.s, .int .i64 w.t, .int .i64 w.u, .int .i64 w.m, .int .i64 w.f, .int .i64 w.y, .int .i64 w.d, .int .i64 w.s, .int .i64 w.t]) (by intro i j _ _ h; simp at h; omega) (fun _ => True) rfl trivial ?_
  intro i hi _
  rw [laws_FnWorkshops_b6_sh]
  simp only [P1_len, P1_lss, ifB_bool, decide_eq_true_eq, decide_eq_false_iff_not]
  refine ⟨fun h => ?_, fun h => ?_⟩
  · have hig : i < g.length := by omega
    have hw : IntKind.i64.wrap ((i : Int) + 1) = ((i + 1 : Nat) : Int) := by rw [wrap_id (by omega) (by omega)]; omega
    obtain ⟨q0, hq0, eq0⟩ := (hmm g[i]).1 (List.getElem_mem hig)
    refine loop_upto w.p.length (fun j => [.int .i64 i, .bool (sounds w g[i] j), .int .i64 j, vL I2 v2 g, vL I2 v2 w.p, vL IL2 vLL2 w.o, vL I1 v1 w.c, .int .i64 w.s, .int .i64 w.t, .int .i64 w.u, .int .i64 w.m, .int .i64 w.f, .int .i64 w.y, .int .i64 w.d, .int .i64 w.s, .int .i64 w.t]) (by intro i j _ _ h; simp at h; omega) (fun _ => True) rfl trivial ?_
    intro j hj _
    rw [laws_FnWorkshops_b7_sh]
    simp only [P1_len, P1_lss, ifB_bool, decide_eq_true_eq, decide_eq_false_iff_not]
    refine ⟨fun h => ?_, fun h => ?_⟩
    · have hjp : j < w.p.length := by omega
      have hs := sounds_succ (n := g[i]) hjp
      have hr := note_range hok (List.getElem_mem hjp)
      have hw2 : IntKind.i64.wrap ((j : Int) + 1) = ((j + 1 : Nat) : Int) := by rw [wrap_id (by omega) (by omega)]; omega
      have en : (noteOf w w.p[j] = g[i]) ↔ w.p[j].b = g[i].a ∧ w.c[w.p[j].a.toNat] = g[i].b := by
        unfold noteOf
        rw [List.getElem?_eq_getElem hr.2.2, Option.getD_some]
        constructor
        · intro e; rw [← e]; exact ⟨rfl, rfl⟩
        · rintro ⟨h1, h2⟩; rw [h1, h2]
      simp only [P1_add, hw2, qS_normal]
      refine ⟨fun h2 => ?_, fun h2 => ?_⟩
      · rw [hs, h2]
        exact ⟨hjp, rfl, trivial⟩
      · simp only [P2_idxI, P1_idxI, Int.toNat_natCast, List.getElem?_eq_getElem hjp, List.getElem?_eq_getElem hig, List.getElem?_eq_getElem hr.2.2, Option.some.injEq, exists_eq_left', P1_eql, ifB_bool, beq_iff_eq, beq_eq_false_iff_ne]
        refine ⟨by omega, by omega, fun h3 => ⟨by omega, hr.2.1, by omega, hjp, ?_, trivial⟩, fun h3 => ⟨hjp, ?_, trivial⟩⟩
        · have : (w.c[w.p[j].a.toNat] == g[i].b) = sounds w g[i] (j + 1) := by
            rw [hs, h2, Bool.false_or]
            by_cases c : w.c[w.p[j].a.toNat] = g[i].b
            · rw [decide_eq_true (en.2 ⟨h3, c⟩)]; simpa using c
            · rw [decide_eq_false (fun e => c (en.1 e).2)]; simpa using c
          rw [this]
        · have : sounds w g[i] (j + 1) = false := by
            rw [hs, h2, Bool.false_or]
            exact decide_eq_false (fun e => h3 (en.1 e).1)
          rw [this]
    · obtain rfl : j = w.p.length := by omega
      have hfull : sounds w g[i] w.p.length = true := by
        unfold sounds
        rw [List.take_length, List.any_eq_true]
        exact ⟨q0, hq0, decide_eq_true eq0⟩
      simp only [qS_exit, qB_exit, if_true, qS_normal, laws_FnWorkshops_r8_sh, hfull, P1_not, ifB_bool, Bool.not_true, Bool.false_eq_true, false_implies, true_and, forall_const, laws_FnWorkshops_r9_sh, qB_normal, laws_FnWorkshops_r10_sh, P1_add, hw, laws_FnWorkshops_r11_sh]
      exact ⟨hig, trivial⟩
  · obtain rfl : i = g.length := by omega
    simp only [qS_exit, qB_exit, if_true, qS_normal]
    exact works_r12
theorem works_tune {w : Shop} (hok : shopOk w = true) (h40 : w.p.length ≤ 40) : shL laws_FnWorkshops_r5 (qRet [.bool true]) [vL I2 v2 w.p, vL IL2 vLL2 w.o, vL I1 v1 w.c, .int .i64 w.s, .int .i64 w.t, .int .i64 w.u, .int .i64 w.m, .int .i64 w.f, .int .i64 w.y, .int .i64 w.d, .int .i64 w.s, .int .i64 w.t] := by
  have hf : w.p.length ≤ 1048576 ∧ fitLL w.o ∧ w.c.length ≤ 1048576 := (sSmall_of_ok hok).1
  have h1 : (melody w).length ≤ w.p.length := by rw [melody_eq hok h40]; have := noteIn_len (w.p.map (noteOf w)); simpa using this
  have h2 := melody_tune hok h40
  have h3 := works_found hok h40
  have h4 : 0 < w.p.length → (melody w).length ≠ 0 := fun h e => by
    have : noteOf w w.p[0] ∈ melody w := (melody_mem hok h40).2 ⟨w.p[0], List.getElem_mem h, rfl⟩
    rw [List.length_eq_zero_iff.1 e] at this
    simp at this
  rw [laws_FnWorkshops_r5_sh, p_MelodyOf (x_p := w.p) (x_o := w.o) (x_c := w.c) hf, Shop.eta]
  generalize melody w = g at *
  simp only [P1_len, P1_gtr, P1_eql, ifB_bool, decide_eq_true_eq, decide_eq_false_iff_not, beq_iff_eq, beq_eq_false_iff_ne, p_TuneOk (l := g) (by omega), h2, P1_not, Bool.not_true, Bool.false_eq_true, false_implies, true_and, forall_const]
  refine ⟨fun h => by omega, fun _ => ⟨fun h => ⟨fun h5 => ?_, fun _ => h3⟩, fun _ => h3⟩⟩
  exact absurd (by omega) (h4 (by omega))
theorem wb_p {w : Shop} {b : Bench} {k : Int} {ok : Bool} : (withBench w b k ok).p = if benchFits w b k ok then b.p else w.p := by
  unfold withBench
  split <;> rfl
theorem works_r4 {l : List UInt8} (hl : l.length ≤ 1048576) {w : Shop} (hok : shopOk w = true) (h40 : w.p.length ≤ 40) {x1 x12 x13 x14 x15 x16 x17 x18 x19 x20 x21 x22 x23 x24 x25 x26 x27 x28 x29 x30 x31 x32 x33 x34 x35 x36 x37 x38 x39 x40 x41 x42 x43 x44 x45 x46 x47 x48 x49 x50 x51 x52 x53 x54 x55 x56 x57 x58 x59 x60 x61 x62 x63 x64 x65 x66 x67 x68 x69 x70 x71 x72 x73 x74 x75 x76 x77 x78 x79 x80 x81 x82 x83 x84 x85 x86 x87 x88 x89 x90 x91 x92 x93 x94 x95 : V} :
    shL laws_FnWorkshops_r4 (qRet [.bool true]) [vL I1 vY l, x1, .int .i64 w.s, .int .i64 w.t, vL I2 v2 w.p, vL IL2 vLL2 w.o, vL I1 v1 w.c, .int .i64 w.u, .int .i64 w.m, .int .i64 w.f, .int .i64 w.y, .int .i64 w.d, x12, x13, x14, x15, x16, x17, x18, x19, x20, x21, x22, x23, x24, x25, x26, x27, x28, x29, x30, x31, x32, x33, x34, x35, x36, x37, x38, x39, x40, x41, x42, x43, x44, x45, x46, x47, x48, x49, x50, x51, x52, x53, x54, x55, x56, x57, x58, x59, x60, x61, x62, x63, x64, x65, x66, x67, x68, x69, x70, x71, x72, x73, x74, x75, x76, x77, x78, x79, x80, x81, x82, x83, x84, x85, x86, x87, x88, x89, x90, x91, x92, x93, x94, x95] := by
  have hf : w.p.length ≤ 1048576 ∧ fitLL w.o ∧ w.c.length ≤ 1048576 := (sSmall_of_ok hok).1
  have ht := works_tune hok h40
  rw [laws_FnWorkshops_r4_sh]
  simp only [P1_len, P1_gtr, ifB_bool, decide_eq_true_eq, decide_eq_false_iff_not]
  refine ⟨fun h => ?_, fun _ => ht⟩
  have hk := tmod_range (at_range (l := l) (n := 3)) (show (0 : Int) < (w.p.length : Int) by omega)
  have hfit := pull_fits hok hk
  have hb := ((shopOk_iff w).1 hok).1
  have hpl := (pull_iff hb hk).2
  rw [p_at (l := l) (n := 3) ⟨hl, by omega, by omega⟩]
  simp only [P1_rem]
  refine ⟨by omega, ?_⟩
  generalize (atB l 3).tmod w.p.length = k at *
  rw [p_RemovePin (x_p := w.p) (x_o := w.o) (x_c := w.c) hf, Shop.eta]
  obtain ⟨gy, -, -⟩ := withBench_f (x := w) (b := takePin w.bench k) (k := 0) (ok := canTake w.bench k)
  have gp := wb_p (w := w) (b := takePin w.bench k) (k := 0) (ok := canTake w.bench k)
  rw [hfit] at gy gp
  rw [hfit]
  have e30 : decide ((w.o.length : Int) < 30) = decide (w.o.length < 30) := by rw [decide_eq_decide]; omega
  simp only [P1_len, P1_lss, e30, P1_bneq, ifB_bool]
  refine ⟨fun h2 => by simp at h2, fun _ => ⟨fun h2 => ?_, fun _ => ht⟩⟩
  rw [h2, if_pos rfl] at gy gp
  have hcan : canTake w.bench k = true := by
    have := (pull_iff hb hk).1
    unfold canTake
    rw [this]
    exact h2
  have et : takePin w.bench k = stepped w.bench (pulled w.bench k) := by
    unfold takePin stepTo
    rw [if_pos]
    exact hcan
  have e3 : (takePin w.bench k).p = (pulled w.bench k).p := by rw [et]; rfl
  have e4 : (w.bench.p.take k.toNat ++ w.bench.p.drop (k.toNat + 1)).length = w.bench.p.length - 1 := pulled_len (by show k.toNat < w.p.length; omega)
  have e5 : w.bench.p.length = w.p.length := rfl
  have w1 : IntKind.i64.wrap ((w.p.length : Int) - 1) = w.p.length - 1 := wrap_id (by omega) (by omega)
  rw [gy, gp, e3, hpl]
  simp only [P1_len, P1_sub, w1, P1_neq, ifB_bool, e4, e5]
  refine ⟨fun h3 => ?_, fun _ => ⟨fun h3 => ?_, fun _ => ht⟩⟩
  · simp at h3; omega
  · simp at h3
theorem works_r3 {l : List UInt8} (hl : l.length ≤ 1048576) {w : Shop} (hok : shopOk w = true) (h40 : w.p.length ≤ 40) {x1 x12 x13 x14 x15 x16 x17 x18 x19 x20 x21 x22 x23 x24 x25 x26 x27 x28 x29 x30 x31 x32 x33 x34 x35 x36 x37 x38 x39 x40 x41 x42 x43 x44 x45 x46 x47 x48 x49 x50 x51 x52 x53 x54 x55 x56 x57 x58 x59 x60 x61 x62 x63 x64 x65 x66 x67 x68 x69 x70 x71 x72 x73 x74 x75 x76 : V} :
    shL laws_FnWorkshops_r3 (qRet [.bool true]) [vL I1 vY l, x1, .int .i64 w.s, .int .i64 w.t, vL I2 v2 w.p, vL IL2 vLL2 w.o, vL I1 v1 w.c, .int .i64 w.u, .int .i64 w.m, .int .i64 w.f, .int .i64 w.y, .int .i64 w.d, x12, x13, x14, x15, x16, x17, x18, x19, x20, x21, x22, x23, x24, x25, x26, x27, x28, x29, x30, x31, x32, x33, x34, x35, x36, x37, x38, x39, x40, x41, x42, x43, x44, x45, x46, x47, x48, x49, x50, x51, x52, x53, x54, x55, x56, x57, x58, x59, x60, x61, x62, x63, x64, x65, x66, x67, x68, x69, x70, x71, x72, x73, x74, x75, x76] := by
  have hf : w.p.length ≤ 1048576 ∧ fitLL w.o ∧ w.c.length ≤ 1048576 := (sSmall_of_ok hok).1
  have hk := tmod_range (at_range (l := l) (n := 2)) (show (0 : Int) < 12 by omega)
  have hs := ((shopOk_iff w).1 hok).2.2.1
  rw [laws_FnWorkshops_r3_sh, p_at (l := l) (n := 2) ⟨hl, by omega, by omega⟩]
  simp only [P1_rem]
  refine ⟨by omega, ?_⟩
  generalize (atB l 2).tmod 12 = k at *
  rw [p_Crank (x_p := w.p) (x_o := w.o) (x_c := w.c) hf, Shop.eta]
  have hs' := hs
  simp only [springOk, Shop.spring, Bool.and_eq_true, within_iff'] at hs'
  have hwo : windOk w.spring k = true := by unfold windOk; rw [hs, within_iff'.2 (show 0 ≤ k ∧ k ≤ 100 by omega)]; rfl
  have e1 : windBy w.spring k = min k (w.m - w.u) := by unfold windBy; rw [if_pos hwo]; rfl
  have e2 : (crank w k).u = w.u + min k (w.m - w.u) := by unfold crank windTo; rw [if_pos hok, if_pos hwo]; rfl
  have w1 : IntKind.i64.wrap (w.m - w.u) = w.m - w.u := wrap_id (by omega) (by omega)
  have w2 : IntKind.i64.wrap (w.u + min k (w.m - w.u)) = w.u + min k (w.m - w.u) := wrap_id (by omega) (by omega)
  rw [hok, if_pos rfl, e1, e2]
  simp only [P1_sub, w1, P1_mn2, P1_neq, ifB_bool, P1_add, w2]
  refine ⟨fun h => by simp at h, fun _ => ⟨fun h => by simp at h, fun _ => ?_⟩⟩
  exact works_r4 hl hok h40
theorem works_r2 {l : List UInt8} (hl : l.length ≤ 1048576) {w : Shop} (hok : shopOk w = true) (h40 : w.p.length ≤ 40) {x1 x12 x13 x14 x15 x16 x17 x18 x19 x20 x21 x22 x23 x24 x25 x26 x27 x28 x29 x30 x31 x32 x33 x34 x35 x36 x37 x38 x39 x40 x41 x42 x43 x44 x45 x46 x47 x48 x49 x50 x51 x52 x53 x54 x55 x56 x57 x58 x59 x60 x61 x62 x63 x64 x65 x66 x67 x68 x69 x70 x71 x72 x73 x74 x75 : V} :
    shL laws_FnWorkshops_r2 (qS (shL laws_FnWorkshops_r3 (qRet [.bool true])) (qRet [.bool true])) [vL I1 vY l, x1, .int .i64 w.s, .int .i64 w.t, vL I2 v2 w.p, vL IL2 vLL2 w.o, vL I1 v1 w.c, .int .i64 w.u, .int .i64 w.m, .int .i64 w.f, .int .i64 w.y, .int .i64 w.d, x12, x13, x14, x15, x16, x17, x18, x19, x20, x21, x22, x23, x24, x25, x26, x27, x28, x29, x30, x31, x32, x33, x34, x35, x36, x37, x38, x39, x40, x41, x42, x43, x44, x45, x46, x47, x48, x49, x50, x51, x52, x53, x54, x55, x56, x57, x58, x59, x60, x61, x62, x63, x64, x65, x66, x67, x68, x69, x70, x71, x72, x73, x74, x75, .bool false] := by
  rw [laws_FnWorkshops_r2_sh]
  simp only [ifB_bool, Bool.false_eq_true, false_implies, true_and, forall_const, qS_normal]
  exact works_r3 hl hok h40
end Go.Mw

namespace Go.Mw
theorem played_f {w : Shop} (h : canPlay w = true) : (playOnce w).u = w.u - 1 ∧ (playOnce w).d = w.d + w.p.length ∧ (playOnce w).y = w.y := by
  unfold playOnce
  rw [if_pos h]
  exact ⟨rfl, rfl, rfl⟩
theorem works_r1 {l : List UInt8} (hl : l.length ≤ 1048576) {w : Shop} (hok : shopOk w = true) (h40 : w.p.length ≤ 40) {x1 x12 x13 x14 x15 x16 x17 x18 x19 x20 x21 x22 x23 x24 x25 x26 x27 x28 x29 x30 x31 x32 x33 x34 x35 x36 x37 x38 x39 x40 x41 x42 x43 x44 x45 x46 x47 : V} :
    shL laws_FnWorkshops_r1 (qRet [.bool true]) [vL I1 vY l, x1, .int .i64 w.s, .int .i64 w.t, vL I2 v2 w.p, vL IL2 vLL2 w.o, vL I1 v1 w.c, .int .i64 w.u, .int .i64 w.m, .int .i64 w.f, .int .i64 w.y, .int .i64 w.d, x12, x13, x14, x15, x16, x17, x18, x19, x20, x21, x22, x23, x24, x25, x26, x27, x28, x29, x30, x31, x32, x33, x34, x35, x36, x37, x38, x39, x40, x41, x42, x43, x44, x45, x46, x47] := by
  have hf : w.p.length ≤ 1048576 ∧ fitLL w.o ∧ w.c.length ≤ 1048576 := (sSmall_of_ok hok).1
  have e := play_ok hok
  obtain ⟨-, -, h3, -, -, h6⟩ := (shopOk_iff w).1 hok
  simp only [springOk, Shop.spring, Bool.and_eq_true, within_iff'] at h3
  have h6' := within_iff'.1 h6
  have w1 : IntKind.i64.wrap (w.u - 1) = w.u - 1 := wrap_id (by omega) (by omega)
  have w2 : IntKind.i64.wrap (w.d + w.p.length) = w.d + w.p.length := wrap_id (by omega) (by omega)
  have hp := played_f (w := w)
  rw [laws_FnWorkshops_r1_sh, p_PlayOnce (x_p := w.p) (x_o := w.o) (x_c := w.c) hf, Shop.eta]
  simp only [P1_gtr, p_IsPlayable (x_s := w.s) (x_t := w.t) (x_p := w.p) hf.1, P1_len, P1_add, w2, P1_leq, P1_sub, w1, P1_bneq, P1_neq]
  generalize canPlay w = c at *
  generalize playable ⟨w.s, w.t, w.p⟩ 2 = q at *
  by_cases hu : 0 < w.u
  · rw [decide_eq_true hu] at e
    cases q with
    | false =>
      obtain rfl : c = false := by simpa using e
      simp only [ifB_bool, decide_eq_true hu, Bool.false_eq_true, Bool.true_eq_false, false_implies, true_and, and_true, forall_const, beq_self_eq_true, Bool.not_true]
      exact works_r2 hl hok h40
    | true =>
      by_cases hd : w.d + w.p.length ≤ 1000000
      · obtain rfl : c = true := by simpa [hd] using e
        obtain ⟨g1, g2, g3⟩ := hp rfl
        simp only [g1, g2, g3, ifB_bool, decide_eq_true hu, decide_eq_true hd, Bool.false_eq_true, Bool.true_eq_false, false_implies, true_and, and_true, forall_const, beq_self_eq_true, bne_self_eq_false, Bool.not_true]
        exact works_r2 hl hok h40
      · obtain rfl : c = false := by simpa [hd] using e
        simp only [ifB_bool, decide_eq_true hu, decide_eq_false hd, Bool.false_eq_true, Bool.true_eq_false, false_implies, true_and, and_true, forall_const, beq_self_eq_true, bne_self_eq_false, Bool.not_true]
        exact works_r2 hl hok h40
  · rw [decide_eq_false hu] at e
    obtain rfl : c = false := by simpa using e
    simp only [ifB_bool, decide_eq_false hu, Bool.false_eq_true, Bool.true_eq_false, false_implies, true_and, and_true, forall_const, beq_self_eq_true, bne_self_eq_false, Bool.not_true]
    exact works_r2 hl hok h40
theorem works_r0 {l : List UInt8} (hl : l.length ≤ 1048576) {w : Shop} (hok : shopOk w = true) (h40 : w.p.length ≤ 40) {x1 x12 x13 x14 x15 x16 x17 x18 x19 x20 x21 x22 x23 x24 x25 x26 x27 x28 x29 x30 x31 x32 x33 x34 x35 x36 x37 x38 x39 x40 x41 x42 x43 x44 x45 x46 : V} :
    shL laws_FnWorkshops_r0 (qS (shL laws_FnWorkshops_r1 (qRet [.bool true])) (qRet [.bool true])) [vL I1 vY l, x1, .int .i64 w.s, .int .i64 w.t, vL I2 v2 w.p, vL IL2 vLL2 w.o, vL I1 v1 w.c, .int .i64 w.u, .int .i64 w.m, .int .i64 w.f, .int .i64 w.y, .int .i64 w.d, x12, x13, x14, x15, x16, x17, x18, x19, x20, x21, x22, x23, x24, x25, x26, x27, x28, x29, x30, x31, x32, x33, x34, x35, x36, x37, x38, x39, x40, x41, x42, x43, x44, x45, x46, .bool false] := by
  rw [laws_FnWorkshops_r0_sh]
  simp only [ifB_bool, Bool.false_eq_true, false_implies, true_and, forall_const, qS_normal]
  exact works_r1 hl hok h40
theorem laws_FnWorkshops_ok : ∀ ds outs, F_FnWorkshops ds = some outs → shL laws_FnWorkshops_L (qRet outs) ds := F_FnWorkshops_elim fun l hp => by
  rw [laws_FnWorkshops_L_sh, p_big hp]
  simp only [ifB_bool, decide_eq_true_eq, decide_eq_false_iff_not]
  refine ⟨fun _ => by simp, fun hb => ?_⟩
  have hl : l.length ≤ 1048576 := by omega
  have hi := (benchOf_inv (cur0_i l)).len
  have ht := benchOf_t (cur0_i l)
  have hok := shopOf_ok (cur0_i l)
  rw [p_DrawWorkshop hl]
  replace hi : (shopOf (cur0 l)).p.length ≤ 15 := hi
  replace ht : (4 ≤ (shopOf (cur0 l)).s ∧ (shopOf (cur0 l)).s ≤ 24) ∧ 1 ≤ (shopOf (cur0 l)).t ∧ (shopOf (cur0 l)).t ≤ 8 := ht
  generalize shopOf (cur0 l) = w at *
  have hf : w.p.length ≤ 1048576 ∧ fitLL w.o ∧ w.c.length ≤ 1048576 := (sSmall_of_ok hok).1
  have hA := tmod_range (at_range (l := l) (n := 0)) (show (0 : Int) < w.t by omega)
  have hB := tmod_range (at_range (l := l) (n := 1)) (show (0 : Int) < w.s by omega)
  rw [p_at (l := l) (n := 0) ⟨hl, by omega, by omega⟩]
  simp only [P1_rem, p_at (l := l) (n := 1) ⟨hl, by omega, by omega⟩]
  refine ⟨by omega, by omega, ?_⟩
  generalize (atB l 0).tmod w.t = A at *
  generalize (atB l 1).tmod w.s = B at *
  have hc : cylOk ⟨w.s, w.t, w.p⟩ = true := ((benchOk_iff _).1 ((shopOk_iff w).1 hok).1).1
  have hpin : pinIn w.s w.t ⟨A, B⟩ = true := by simp only [pinIn, Bool.and_eq_true, within_iff']; omega
  have hfit := put_fits hok hpin (by omega)
  have hpl : (pinsAt ⟨w.s, w.t, w.p⟩ B).length ≤ 1048576 := by
    have := pinsAt_le ⟨w.s, w.t, w.p⟩ B
    dsimp only at this
    omega
  have hth : decide (A ∈ pinsAt ⟨w.s, w.t, w.p⟩ B) = decide ((⟨A, B⟩ : T2) ∈ w.p) := by
    rw [decide_eq_decide]
    exact there_iff hc hB
  have h5 := within_iff'.1 ((shopOk_iff w).1 hok).2.2.2.2.1
  have e30 : decide ((w.o.length : Int) < 30) = decide (w.o.length < 30) := by rw [decide_eq_decide]; omega
  have w1 : IntKind.i64.wrap (w.y - 1) = w.y - 1 := wrap_id (by omega) (by omega)
  have w2 : IntKind.i64.wrap ((w.p.length : Int) + 1) = w.p.length + 1 := wrap_id (by omega) (by omega)
  have gy := (withBench_f (x := w) (b := setPin w.bench ⟨A, B⟩) (k := 1) (ok := canSet w.bench ⟨A, B⟩)).1
  have gp := wb_p (w := w) (b := setPin w.bench ⟨A, B⟩) (k := 1) (ok := canSet w.bench ⟨A, B⟩)
  have h1 := ((shopOk_iff w).1 hok).1
  have hset : canSet w.bench ⟨A, B⟩ = (!decide ((⟨A, B⟩ : T2) ∈ w.p) && decide (w.o.length < 30)) := set_iff h1 hpin (by show w.p.length + 1 ≤ 100; omega)
  rw [p_PutPin (x_p := w.p) (x_o := w.o) (x_c := w.c) hf, Shop.eta, hfit, p_PinsAt (x_s := w.s) (x_t := w.t) (x_p := w.p) hf.1, p_has hpl, hth, p_WorkshopOk (x_p := w.p) (x_o := w.o) (x_c := w.c) hf, Shop.eta, hok]
  rw [hfit] at gy gp
  have h40 : w.p.length ≤ 40 := by omega
  have len1 : ((!decide ((⟨A, B⟩ : T2) ∈ w.p) && decide (w.o.length < 30)) && decide (0 < w.y)) = true → (setPin w.bench ⟨A, B⟩).p.length = w.p.length + 1 := fun h => by
    have h2 : canSet w.bench ⟨A, B⟩ = true := by rw [hset]; rw [Bool.and_eq_true] at h; exact h.1
    have h3 : (⟨A, B⟩ : T2) ∉ w.p := by simp only [Bool.and_eq_true, Bool.not_eq_true', decide_eq_false_iff_not] at h; exact h.1.1
    have h4 : addOk w.bench.cyl ⟨A, B⟩ = true := by simp only [canSet, Bool.and_eq_true] at h2; exact h2.1
    rw [set_eq h2]
    show (addTo w.bench.cyl ⟨A, B⟩).p.length = _
    unfold addTo
    rw [if_pos h4]
    have := (putPin_perm (l := w.p) (y := ⟨A, B⟩) h3).length_eq
    rw [List.length_append, List.length_singleton] at this
    exact this
  generalize withBench w (setPin w.bench ⟨A, B⟩) 1 (canSet w.bench ⟨A, B⟩) = W' at *
  simp only [P1_not, P1_gtr, P1_len, P1_lss, e30, P1_bneq, P1_sub, w1, P1_neq, P1_add, w2]
  by_cases hm : (⟨A, B⟩ : T2) ∈ w.p
  · simp only [decide_eq_true hm, Bool.not_true, Bool.false_and] at gy gp
    simp only [decide_eq_true hm, Bool.not_true, Bool.false_and, ifB_bool, Bool.false_eq_true, Bool.true_eq_false, false_implies, true_and, and_true, forall_const, beq_self_eq_true]
    exact works_r0 hl hok h40
  · by_cases hy : 0 < w.y
    · by_cases ho : w.o.length < 30
      · rw [decide_eq_false hm, decide_eq_true ho, decide_eq_true hy] at gy gp len1
        simp only [Bool.not_false, Bool.and_self, if_true] at gy gp len1
        have e2 : W'.p.length = w.p.length + 1 := by rw [gp]; exact len1 trivial
        have e3 : ((W'.p.length : Int) != (w.p.length : Int) + 1) = false := by rw [e2]; simp
        simp only [gy, e3, decide_eq_false hm, decide_eq_true ho, decide_eq_true hy, Bool.not_true, Bool.not_false, Bool.and_self, ifB_bool, Bool.false_eq_true, Bool.true_eq_false, false_implies, true_and, and_true, forall_const, beq_self_eq_true, bne_self_eq_false]
        exact works_r0 hl hok h40
      · simp only [decide_eq_false hm, decide_eq_false ho, decide_eq_true hy, Bool.not_true, Bool.not_false, Bool.true_and, Bool.false_and, Bool.and_false, ifB_bool, Bool.false_eq_true, Bool.true_eq_false, false_implies, true_and, and_true, forall_const, beq_self_eq_true, bne_self_eq_false]
        exact works_r0 hl hok h40
    · simp only [decide_eq_false hm, decide_eq_false hy, Bool.not_true, Bool.not_false, Bool.true_and, Bool.false_and, Bool.and_false, ifB_bool, Bool.false_eq_true, Bool.true_eq_false, false_implies, true_and, and_true, forall_const, beq_self_eq_true, bne_self_eq_false]
      exact works_r0 hl hok h40
end Go.Mw

