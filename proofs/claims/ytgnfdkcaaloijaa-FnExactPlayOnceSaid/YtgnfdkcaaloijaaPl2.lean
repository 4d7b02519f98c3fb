/- What functions of the program compute, as small pure programs, shown against plain Lean functions: no condition. -/
import Derived.KernelRfl
import Derived.Test.YtgnfdkcaaloijaaPl1
/- Taking back; a step of the bench; pulling a pin. -/
namespace Go.Mw
/-- A bench whose memory is within bounds. -/
def bSmall (b : Bench) : Prop := b.p.length ≤ 1048576 ∧ fitLL b.o ∧ 1 + 2 * (b.p.length : Int) + 2 * sum2 b.o ≤ 1099511627776
theorem sum2_le {l : List (List T2)} {n m : Nat} (h1 : l.length ≤ n) (h2 : ∀ x ∈ l, x.length ≤ m) : sum2 l ≤ n * m := by
  induction l generalizing n with
  | nil => simp [sum2]
  | cons x l ih =>
    obtain ⟨n, rfl⟩ : ∃ k, n = k + 1 := ⟨n - 1, by simp at h1; omega⟩
    have h3 := ih (n := n) (by simpa using h1) (fun y hy => h2 y (by simp [hy]))
    have h4 := h2 x (by simp)
    simp only [sum2, List.map_cons, List.sum_cons, Nat.add_mul] at h3 ⊢
    omega
theorem bSmall_of_tot {b : Bench} (h : (b.p.length : Int) + tot2 b.o ≤ 1048576) : bSmall b := by
  have := tot2_eq b.o
  refine ⟨by omega, fit_of_tot (by omega), by omega⟩
theorem bSmall_of_ok {b : Bench} (h : benchOk b = true) : bSmall b := by
  have h1 := benchOk_len h
  have h2 := ((benchOk_iff b).1 h).2.1
  have h3 := sum2_le h2 h1.2
  exact ⟨by omega, ⟨by omega, fun x hx => by have := h1.2 x hx; omega⟩, by omega⟩
theorem P1_appLL2_1 {l : List (List T2)} {a : List T2} {b : Nat} {k : V → Prop} : P1 (.app [.sl [.sc, .sc]] b) [vL IL2 vLL2 l, vL IL2 vLL2 [a]] k ↔ ((l.length + 1) * b ≤ 140737488355328 ∧ l.length + 1 ≤ 140737488355328) ∧ k (vL IL2 vLL2 (l ++ [a])) := P1_appL2_
theorem step_fit {b : Bench} {c : Cyl} (h : benchOk b = true) (hc : c.p.length ≤ 1048576) : (stepped b c).p.length ≤ 1048576 ∧ fitLL (stepped b c).o := by
  have h1 := bSmall_of_ok h
  have h2 := ((benchOk_iff b).1 h).2.1
  refine ⟨hc, by simp [stepped]; omega, fun x hx => ?_⟩
  simp only [stepped, List.mem_append, List.mem_singleton] at hx
  rcases hx with hx | rfl
  · exact h1.2.1.2 x hx
  · exact h1.1
theorem spec_l37Step_ok : ∀ ds outs, F_l37Step ds = some outs → shL spec_l37Step_L (qRet outs) ds := F_l37Step_elim fun b c hp => by
  have hb := And.intro hp.1 hp.2.1
  have hl := hp.2.1.1
  rw [spec_l37Step_L_sh, p_l37Copy (x_p := b.p) (x_o := b.o) hb]
  simp only [P1_lst0, P1_app2_0, P1_lstL2, P1_appLL2_1, p_l37Copy (x_p := b.p) (x_o := b.o) hb, p_BenchOk (x_p := b.p) (x_o := b.o) hb]
  refine ⟨by omega, by omega, ?_⟩
  cases h : benchOk b with
  | false => simp [stepTo, stepOk, h]
  | true =>
    have hs := step_fit h hp.2.2
    have e := p_BenchOk (x_s := c.s) (x_t := c.t) (x_p := c.p) (x_o := b.o ++ [b.p]) (nr_ := 1) (kk_ := fun v => v = v) hs
    simp only [P1_not, ifB_bool, Bool.not_true, Bool.false_eq_true, false_implies, true_and, true_implies]
    rw [p_BenchOk (x_s := c.s) (x_t := c.t) (x_p := c.p) (x_o := b.o ++ [b.p]) hs]
    cases h2 : benchOk (stepped b c) with
    | false =>
      have h3 : benchOk ⟨c.s, c.t, c.p, b.o ++ [b.p]⟩ = false := h2
      simp [stepTo, stepOk, h, h2, h3]
    | true =>
      have h3 : benchOk ⟨c.s, c.t, c.p, b.o ++ [b.p]⟩ = true := h2
      simp [stepTo, stepOk, h, h2, h3, stepped]
theorem impl_replaced_ok : ∀ ds outs, F_replaced ds = some outs → shL impl_replaced_L (qRet outs) ds := F_replaced_elim fun b c n hp => by
  have hb := And.intro hp.1 hp.2.1
  have hl := hp.2.1.1
  have hbp : b.p.length ≤ 4194304 := by omega
  rw [impl_replaced_L_sh, p_copyBench (x_p := b.p) (x_o := b.o) hb, p_copyPins hbp]
  simp only [P1_lstL2, P1_appLL2_1, p_copyBench (x_p := b.p) (x_o := b.o) hb, p_BenchOk (x_p := b.p) (x_o := b.o) hb]
  refine ⟨by omega, ?_⟩
  cases n with
  | false => simp [stepTo]
  | true =>
  cases h : benchOk b with
  | false => simp [stepTo, stepOk, h]
  | true =>
    have hs := step_fit h hp.2.2
    simp only [P1_not, ifB_bool, Bool.not_true, Bool.false_eq_true, false_implies, true_and, true_implies]
    rw [p_BenchOk (x_s := c.s) (x_t := c.t) (x_p := c.p) (x_o := b.o ++ [b.p]) hs]
    cases h2 : benchOk (stepped b c) with
    | false =>
      have h3 : benchOk ⟨c.s, c.t, c.p, b.o ++ [b.p]⟩ = false := h2
      simp [stepTo, stepOk, h, h2, h3]
    | true =>
      have h3 : benchOk ⟨c.s, c.t, c.p, b.o ++ [b.p]⟩ = true := h2
      simp [stepTo, stepOk, h, h2, h3, stepped]
theorem pullPin_len (c : Cyl) (k : Int) : (pullPin c k).length ≤ c.p.length := by
  unfold pullPin
  split
  · simp; omega
  · exact Nat.le_refl _
theorem spec_TakePin_ok : ∀ ds outs, F_TakePin ds = some outs → shL spec_TakePin_L (qRet outs) ds := F_TakePin_elim fun b k hp => by
  have hl : (pullPin b.cyl k).length ≤ 1048576 := Nat.le_trans (pullPin_len b.cyl k) hp.1
  rw [spec_TakePin_L_sh, p_PullPin (x_p := b.p) hp.1]
  simp only [p_l37Copy (x_p := b.p) (x_o := b.o) hp]
  cases h : pullOk b.cyl k with
  | false =>
    have h' : (cylOk ⟨b.s, b.t, b.p⟩ && (decide (0 ≤ k) && decide (k < b.p.length))) = false := h
    simp [takePin, stepTo, h, h']
  | true =>
    have h' : (cylOk ⟨b.s, b.t, b.p⟩ && (decide (0 ≤ k) && decide (k < b.p.length))) = true := h
    simp only [h', P1_not, ifB_bool, Bool.not_true, Bool.false_eq_true, false_implies, true_and, true_implies]
    rw [p_l37Step (x_p := b.p) (x_o := b.o) (y_p := pullPin ⟨b.s, b.t, b.p⟩ k) ⟨hp.1, hp.2, hl⟩]
    simp only [takePin, h, Bool.true_and]
    exact ⟨rfl, rfl⟩
theorem impl_TakePin_ok : ∀ ds outs, F_TakePin ds = some outs → shL impl_TakePin_L (qRet outs) ds := F_TakePin_elim fun b k hp => by
  have hl : (pullPin b.cyl k).length ≤ 1048576 := Nat.le_trans (pullPin_len b.cyl k) hp.1
  rw [impl_TakePin_L_sh, p_PullPin (x_p := b.p) hp.1]
  rw [p_replaced (x_p := b.p) (x_o := b.o) (y_p := pullPin ⟨b.s, b.t, b.p⟩ k) ⟨hp.1, hp.2, hl⟩]
  exact ⟨rfl, rfl⟩
theorem stepTo_small {b : Bench} {c : Cyl} {n : Bool} (h : bSmall b) : bSmall (stepTo b c n) := by
  unfold stepTo
  split
  · rename_i hk
    simp only [stepOk, Bool.and_eq_true] at hk
    exact bSmall_of_ok hk.2.2
  · exact h
end Go.Mw

/- Copies of a bench (spec); pulling a pin. -/
namespace Go.Mw
theorem spec_l37Copy_ok : ∀ ds outs, F_l37Copy ds = some outs → shL spec_l37Copy_L (qRet outs) ds := F_l37Copy_elim fun b hp => by
  rw [spec_l37Copy_L_sh]
  have hl := hp.2.1
  rw [p_l06Copy (x_p := b.p) (by show b.p.length ≤ _; omega)]
  simp
  refine loop_upto b.o.length (fun k => [.int .i64 k, vL I2 v2 b.p, vL IL2 vLL2 (b.o.take k), .int .i64 b.s, .int .i64 b.t, vL I2 v2 b.p, vL IL2 vLL2 b.o, .int .i64 0, .int .i64 0, .int .i64 b.s, .int .i64 b.t]) (by intro i j _ _ h; simp at h; omega) (fun _ => True) (by simp; rfl) trivial ?_
  intro k hk _
  rw [spec_l37Copy_b0_sh]
  simp
  refine ⟨fun h => ?_, fun h => ?_⟩
  · have hx := hp.2.2 b.o[k] (by simp)
    have hw : IntKind.i64.wrap ((k : Int) + 1) = k + 1 := wrap_id (by omega) (by omega)
    simp only [List.getElem?_eq_getElem h, Option.some.injEq, exists_eq_left']
    simp [h, hw]
    omega
  · obtain rfl : k = b.o.length := by omega
    simp [spec_l37Copy_r1_sh]

theorem spec_PullPin_ok : ∀ ds outs, F_PullPin ds = some outs → shL spec_PullPin_L (qRet outs) ds := F_PullPin_elim fun x k hp => by
  rw [spec_PullPin_L_sh, p_l06Copy (x_p := x.p) (by show x.p.length ≤ _; omega), p_CylinderOk (x_p := x.p) hp]
  have hw : IntKind.i64.wrap ((x.p.length : Int) - 1) = x.p.length - 1 := wrap_id (by omega) (by omega)
  have hc : cylOk ⟨x.s, x.t, x.p⟩ = cylOk x := rfl
  simp only [hc]
  by_cases h : cylOk x = true
  · by_cases h2 : 0 ≤ k ∧ k < x.p.length
    · have hw2 : IntKind.i64.wrap (k + 1) = k + 1 := wrap_id (by omega) (by omega)
      have h3 : (k + 1).toNat = k.toNat + 1 := by omega
      simp [h, hw, within, pullPin, h2.1, h2.2, hw2, h3]
      grind
    · simp [h, hw, within, pullPin]
      grind
  · simp only [Bool.not_eq_true] at h
    simp [h, pullPin]

theorem impl_PullPin_ok : ∀ ds outs, F_PullPin ds = some outs → shL impl_PullPin_L (qRet outs) ds := F_PullPin_elim fun x k hp => by
  rw [impl_PullPin_L_sh, p_copyCylinder (x_p := x.p) (by show x.p.length ≤ _; omega), p_CylinderOk (x_p := x.p) hp]
  have hc : cylOk ⟨x.s, x.t, x.p⟩ = cylOk x := rfl
  simp only [hc]
  by_cases h : cylOk x = true
  · by_cases h2 : 0 ≤ k ∧ k < x.p.length
    · have hw2 : IntKind.i64.wrap (k + 1) = k + 1 := wrap_id (by omega) (by omega)
      have h3 : (k + 1).toNat = k.toNat + 1 := by omega
      have h4 : ¬ k < 0 := by omega
      have h5 : ¬ (x.p.length : Int) ≤ k := by omega
      simp [h, pullPin, h2.1, h2.2, h4, h5]
      rw [p_copyPins (by simp; omega)]
      simp [hw2, h3]
      omega
    · simp [h, pullPin]
      grind
  · simp only [Bool.not_eq_true] at h
    simp [h, pullPin]
end Go.Mw

/- What functions compute, in plain terms: the workshop's steps. -/
namespace Go.Mw
@[simp] theorem P1_lstLL1 {x : List Int} {k : V → Prop} : P1 (.lst [.sl [.sc]] false 1) [vL I1 v1 x] k ↔ k (vL IL1 vLL1 [x]) := P1_of (by simp [Prim.run, aksOk, akOk, chunk, V.pack, vL, vLL1, IL1, I1, AK.eqs_refl]) k
@[simp] theorem P1_lstI2 {a b : Int} {k : V → Prop} : P1 (.lst [.sc] false 2) [.int .i64 a, .int .i64 b] k ↔ k (vL I1 v1 [a, b]) := P1_of (by simp [Prim.run, aksOk, akOk, chunk, V.pack, vL, v1]) k
@[simp] theorem P1_appLL1 {l m : List (List Int)} {b : Nat} {k : V → Prop} : P1 (.app [.sl [.sc]] b) [vL IL1 vLL1 l, vL IL1 vLL1 m] k ↔ ((l.length + m.length) * b ≤ 140737488355328 ∧ l.length + m.length ≤ 140737488355328) ∧ k (vL IL1 vLL1 (l ++ m)) := P1_app
@[simp] theorem P1_appLL1_0 {m : List (List Int)} {b : Nat} {k : V → Prop} : P1 (.app [.sl [.sc]] b) [.list [.sl [.sc]] [], vL IL1 vLL1 m] k ↔ (m.length * b ≤ 140737488355328 ∧ m.length ≤ 140737488355328) ∧ k (vL IL1 vLL1 m) := P1_app0

def E_l38Copy (x : Shop) : List V := [.int .i64 x.s, .int .i64 x.t, vL I2 v2 x.p, vL IL2 vLL2 x.o, vL I1 v1 x.c, .int .i64 x.u, .int .i64 x.m, .int .i64 x.f, .int .i64 x.y, .int .i64 x.d]
noncomputable def F_l38Copy : List V → Option (List V) := mkF E_l38Copy (fun x => x.p.length ≤ 1048576 ∧ fitLL x.o ∧ x.c.length ≤ 1048576) (fun x => [.int .i64 x.s, .int .i64 x.t, vL I2 v2 x.p, vL IL2 vLL2 x.o, vL I1 v1 x.c, .int .i64 x.u, .int .i64 x.m, .int .i64 x.f, .int .i64 x.y, .int .i64 x.d])
theorem F_l38Copy_inj : ∀ x y, E_l38Copy x = E_l38Copy y → x = y := by
  rintro ⟨xs, xt, xp, xo, xc, xu, xm, xf, xy, xd⟩ ⟨xs', xt', xp', xo', xc', xu', xm', xf', xy', xd'⟩ h
  simpa [E_l38Copy] using h
theorem F_l38Copy_elim {P : List V → List V → Prop} (h : ∀ (x : Shop), (x.p.length ≤ 1048576 ∧ fitLL x.o ∧ x.c.length ≤ 1048576) → P [.int .i64 x.s, .int .i64 x.t, vL I2 v2 x.p, vL IL2 vLL2 x.o, vL I1 v1 x.c, .int .i64 x.u, .int .i64 x.m, .int .i64 x.f, .int .i64 x.y, .int .i64 x.d] [.int .i64 x.s, .int .i64 x.t, vL I2 v2 x.p, vL IL2 vLL2 x.o, vL I1 v1 x.c, .int .i64 x.u, .int .i64 x.m, .int .i64 x.f, .int .i64 x.y, .int .i64 x.d]) : ∀ ds outs, F_l38Copy ds = some outs → P ds outs := by
  intro ds outs hh
  obtain ⟨x, rfl, hp, rfl⟩ := mkF_inv hh
  exact h x hp
theorem p_l38Copy {x_s : Int} {x_t : Int} {x_p : List T2} {x_o : List (List T2)} {x_c : List Int} {x_u : Int} {x_m : Int} {x_f : Int} {x_y : Int} {x_d : Int} {nr_ : Nat} {kk_ : V → V → V → V → V → V → V → V → V → V → Prop} (hp : (⟨x_s, x_t, x_p, x_o, x_c, x_u, x_m, x_f, x_y, x_d⟩ : Shop).p.length ≤ 1048576 ∧ fitLL (⟨x_s, x_t, x_p, x_o, x_c, x_u, x_m, x_f, x_y, x_d⟩ : Shop).o ∧ (⟨x_s, x_t, x_p, x_o, x_c, x_u, x_m, x_f, x_y, x_d⟩ : Shop).c.length ≤ 1048576) : P10 (.call F_l38Copy 0 nr_) [.int .i64 x_s, .int .i64 x_t, vL I2 v2 x_p, vL IL2 vLL2 x_o, vL I1 v1 x_c, .int .i64 x_u, .int .i64 x_m, .int .i64 x_f, .int .i64 x_y, .int .i64 x_d] kk_ ↔ kk_ (.int .i64 ((⟨x_s, x_t, x_p, x_o, x_c, x_u, x_m, x_f, x_y, x_d⟩ : Shop)).s) (.int .i64 ((⟨x_s, x_t, x_p, x_o, x_c, x_u, x_m, x_f, x_y, x_d⟩ : Shop)).t) (vL I2 v2 ((⟨x_s, x_t, x_p, x_o, x_c, x_u, x_m, x_f, x_y, x_d⟩ : Shop)).p) (vL IL2 vLL2 ((⟨x_s, x_t, x_p, x_o, x_c, x_u, x_m, x_f, x_y, x_d⟩ : Shop)).o) (vL I1 v1 ((⟨x_s, x_t, x_p, x_o, x_c, x_u, x_m, x_f, x_y, x_d⟩ : Shop)).c) (.int .i64 ((⟨x_s, x_t, x_p, x_o, x_c, x_u, x_m, x_f, x_y, x_d⟩ : Shop)).u) (.int .i64 ((⟨x_s, x_t, x_p, x_o, x_c, x_u, x_m, x_f, x_y, x_d⟩ : Shop)).m) (.int .i64 ((⟨x_s, x_t, x_p, x_o, x_c, x_u, x_m, x_f, x_y, x_d⟩ : Shop)).f) (.int .i64 ((⟨x_s, x_t, x_p, x_o, x_c, x_u, x_m, x_f, x_y, x_d⟩ : Shop)).y) (.int .i64 ((⟨x_s, x_t, x_p, x_o, x_c, x_u, x_m, x_f, x_y, x_d⟩ : Shop)).d) :=
  P10_callF (by unfold F_l38Copy; exact mkF_eq F_l38Copy_inj ((⟨x_s, x_t, x_p, x_o, x_c, x_u, x_m, x_f, x_y, x_d⟩ : Shop)) hp)

def E_copyWorkshop (x : Shop) : List V := [.int .i64 x.s, .int .i64 x.t, vL I2 v2 x.p, vL IL2 vLL2 x.o, vL I1 v1 x.c, .int .i64 x.u, .int .i64 x.m, .int .i64 x.f, .int .i64 x.y, .int .i64 x.d]
noncomputable def F_copyWorkshop : List V → Option (List V) := mkF E_copyWorkshop (fun x => x.p.length ≤ 1048576 ∧ fitLL x.o ∧ x.c.length ≤ 1048576) (fun x => [.int .i64 x.s, .int .i64 x.t, vL I2 v2 x.p, vL IL2 vLL2 x.o, vL I1 v1 x.c, .int .i64 x.u, .int .i64 x.m, .int .i64 x.f, .int .i64 x.y, .int .i64 x.d])
theorem F_copyWorkshop_inj : ∀ x y, E_copyWorkshop x = E_copyWorkshop y → x = y := by
  rintro ⟨xs, xt, xp, xo, xc, xu, xm, xf, xy, xd⟩ ⟨xs', xt', xp', xo', xc', xu', xm', xf', xy', xd'⟩ h
  simpa [E_copyWorkshop] using h
theorem F_copyWorkshop_elim {P : List V → List V → Prop} (h : ∀ (x : Shop), (x.p.length ≤ 1048576 ∧ fitLL x.o ∧ x.c.length ≤ 1048576) → P [.int .i64 x.s, .int .i64 x.t, vL I2 v2 x.p, vL IL2 vLL2 x.o, vL I1 v1 x.c, .int .i64 x.u, .int .i64 x.m, .int .i64 x.f, .int .i64 x.y, .int .i64 x.d] [.int .i64 x.s, .int .i64 x.t, vL I2 v2 x.p, vL IL2 vLL2 x.o, vL I1 v1 x.c, .int .i64 x.u, .int .i64 x.m, .int .i64 x.f, .int .i64 x.y, .int .i64 x.d]) : ∀ ds outs, F_copyWorkshop ds = some outs → P ds outs := by
  intro ds outs hh
  obtain ⟨x, rfl, hp, rfl⟩ := mkF_inv hh
  exact h x hp
theorem p_copyWorkshop {x_s : Int} {x_t : Int} {x_p : List T2} {x_o : List (List T2)} {x_c : List Int} {x_u : Int} {x_m : Int} {x_f : Int} {x_y : Int} {x_d : Int} {nr_ : Nat} {kk_ : V → V → V → V → V → V → V → V → V → V → Prop} (hp : (⟨x_s, x_t, x_p, x_o, x_c, x_u, x_m, x_f, x_y, x_d⟩ : Shop).p.length ≤ 1048576 ∧ fitLL (⟨x_s, x_t, x_p, x_o, x_c, x_u, x_m, x_f, x_y, x_d⟩ : Shop).o ∧ (⟨x_s, x_t, x_p, x_o, x_c, x_u, x_m, x_f, x_y, x_d⟩ : Shop).c.length ≤ 1048576) : P10 (.call F_copyWorkshop 0 nr_) [.int .i64 x_s, .int .i64 x_t, vL I2 v2 x_p, vL IL2 vLL2 x_o, vL I1 v1 x_c, .int .i64 x_u, .int .i64 x_m, .int .i64 x_f, .int .i64 x_y, .int .i64 x_d] kk_ ↔ kk_ (.int .i64 ((⟨x_s, x_t, x_p, x_o, x_c, x_u, x_m, x_f, x_y, x_d⟩ : Shop)).s) (.int .i64 ((⟨x_s, x_t, x_p, x_o, x_c, x_u, x_m, x_f, x_y, x_d⟩ : Shop)).t) (vL I2 v2 ((⟨x_s, x_t, x_p, x_o, x_c, x_u, x_m, x_f, x_y, x_d⟩ : Shop)).p) (vL IL2 vLL2 ((⟨x_s, x_t, x_p, x_o, x_c, x_u, x_m, x_f, x_y, x_d⟩ : Shop)).o) (vL I1 v1 ((⟨x_s, x_t, x_p, x_o, x_c, x_u, x_m, x_f, x_y, x_d⟩ : Shop)).c) (.int .i64 ((⟨x_s, x_t, x_p, x_o, x_c, x_u, x_m, x_f, x_y, x_d⟩ : Shop)).u) (.int .i64 ((⟨x_s, x_t, x_p, x_o, x_c, x_u, x_m, x_f, x_y, x_d⟩ : Shop)).m) (.int .i64 ((⟨x_s, x_t, x_p, x_o, x_c, x_u, x_m, x_f, x_y, x_d⟩ : Shop)).f) (.int .i64 ((⟨x_s, x_t, x_p, x_o, x_c, x_u, x_m, x_f, x_y, x_d⟩ : Shop)).y) (.int .i64 ((⟨x_s, x_t, x_p, x_o, x_c, x_u, x_m, x_f, x_y, x_d⟩ : Shop)).d) :=
  P10_callF (by unfold F_copyWorkshop; exact mkF_eq F_copyWorkshop_inj ((⟨x_s, x_t, x_p, x_o, x_c, x_u, x_m, x_f, x_y, x_d⟩ : Shop)) hp)

def windOk (x : T3) (n : Int) : Bool := springOk x && within n 0 100
def windBy (x : T3) (n : Int) : Int := if windOk x n then min n (x.b - x.a) else -1
def windTo (x : T3) (n : Int) : T3 := if windOk x n then ⟨x.a + min n (x.b - x.a), x.b, x.c⟩ else x
def E_Wind : T3 × Int → List V := fun (x, n) => [.int .i64 x.a, .int .i64 x.b, .int .i64 x.c, .int .i64 n]
noncomputable def F_Wind : List V → Option (List V) := mkF E_Wind (fun (_, _) => True) (fun (x, n) => [.int .i64 (windTo x n).a, .int .i64 (windTo x n).b, .int .i64 (windTo x n).c, .int .i64 (windBy x n)])
theorem F_Wind_inj : ∀ x y, E_Wind x = E_Wind y → x = y := by
  rintro ⟨⟨xa, xb, xc⟩, n⟩ ⟨⟨xa', xb', xc'⟩, n'⟩ h
  simpa [E_Wind, and_assoc] using h
theorem F_Wind_elim {P : List V → List V → Prop} (h : ∀ (x : T3) (n : Int), P [.int .i64 x.a, .int .i64 x.b, .int .i64 x.c, .int .i64 n] [.int .i64 (windTo x n).a, .int .i64 (windTo x n).b, .int .i64 (windTo x n).c, .int .i64 (windBy x n)]) : ∀ ds outs, F_Wind ds = some outs → P ds outs := by
  intro ds outs hh
  obtain ⟨⟨x, n⟩, rfl, -, rfl⟩ := mkF_inv hh
  exact h x n
@[simp] theorem p_Wind {x_a : Int} {x_b : Int} {x_c : Int} {n : Int} {nr_ : Nat} {kk_ : V → V → V → V → Prop} : P4 (.call F_Wind 0 nr_) [.int .i64 x_a, .int .i64 x_b, .int .i64 x_c, .int .i64 n] kk_ ↔ kk_ (.int .i64 (windTo (⟨x_a, x_b, x_c⟩ : T3) n).a) (.int .i64 (windTo (⟨x_a, x_b, x_c⟩ : T3) n).b) (.int .i64 (windTo (⟨x_a, x_b, x_c⟩ : T3) n).c) (.int .i64 (windBy (⟨x_a, x_b, x_c⟩ : T3) n)) :=
  P4_callF (by unfold F_Wind; exact mkF_eq F_Wind_inj ((⟨x_a, x_b, x_c⟩ : T3), n) trivial)

def Shop.spring (w : Shop) : T3 := ⟨w.u, w.m, w.f⟩
def crank (w : Shop) (n : Int) : Shop := if shopOk w then ⟨w.s, w.t, w.p, w.o, w.c, (windTo w.spring n).a, (windTo w.spring n).b, (windTo w.spring n).c, w.y, w.d⟩ else w
def E_Crank : Shop × Int → List V := fun (x, n) => [.int .i64 x.s, .int .i64 x.t, vL I2 v2 x.p, vL IL2 vLL2 x.o, vL I1 v1 x.c, .int .i64 x.u, .int .i64 x.m, .int .i64 x.f, .int .i64 x.y, .int .i64 x.d, .int .i64 n]
noncomputable def F_Crank : List V → Option (List V) := mkF E_Crank (fun (x, _) => x.p.length ≤ 1048576 ∧ fitLL x.o ∧ x.c.length ≤ 1048576) (fun (x, n) => [.int .i64 (crank x n).s, .int .i64 (crank x n).t, vL I2 v2 (crank x n).p, vL IL2 vLL2 (crank x n).o, vL I1 v1 (crank x n).c, .int .i64 (crank x n).u, .int .i64 (crank x n).m, .int .i64 (crank x n).f, .int .i64 (crank x n).y, .int .i64 (crank x n).d, .int .i64 (if shopOk x then windBy x.spring n else -1)])
theorem F_Crank_inj : ∀ x y, E_Crank x = E_Crank y → x = y := by
  rintro ⟨⟨xs, xt, xp, xo, xc, xu, xm, xf, xy, xd⟩, n⟩ ⟨⟨xs', xt', xp', xo', xc', xu', xm', xf', xy', xd'⟩, n'⟩ h
  simpa [E_Crank, and_assoc] using h
theorem F_Crank_elim {P : List V → List V → Prop} (h : ∀ (x : Shop) (n : Int), (x.p.length ≤ 1048576 ∧ fitLL x.o ∧ x.c.length ≤ 1048576) → P [.int .i64 x.s, .int .i64 x.t, vL I2 v2 x.p, vL IL2 vLL2 x.o, vL I1 v1 x.c, .int .i64 x.u, .int .i64 x.m, .int .i64 x.f, .int .i64 x.y, .int .i64 x.d, .int .i64 n] [.int .i64 (crank x n).s, .int .i64 (crank x n).t, vL I2 v2 (crank x n).p, vL IL2 vLL2 (crank x n).o, vL I1 v1 (crank x n).c, .int .i64 (crank x n).u, .int .i64 (crank x n).m, .int .i64 (crank x n).f, .int .i64 (crank x n).y, .int .i64 (crank x n).d, .int .i64 (if shopOk x then windBy x.spring n else -1)]) : ∀ ds outs, F_Crank ds = some outs → P ds outs := by
  intro ds outs hh
  obtain ⟨⟨x, n⟩, rfl, hp, rfl⟩ := mkF_inv hh
  exact h x n hp
theorem p_Crank {x_s : Int} {x_t : Int} {x_p : List T2} {x_o : List (List T2)} {x_c : List Int} {x_u : Int} {x_m : Int} {x_f : Int} {x_y : Int} {x_d : Int} {n : Int} {nr_ : Nat} {kk_ : V → V → V → V → V → V → V → V → V → V → V → Prop} (hp : (⟨x_s, x_t, x_p, x_o, x_c, x_u, x_m, x_f, x_y, x_d⟩ : Shop).p.length ≤ 1048576 ∧ fitLL (⟨x_s, x_t, x_p, x_o, x_c, x_u, x_m, x_f, x_y, x_d⟩ : Shop).o ∧ (⟨x_s, x_t, x_p, x_o, x_c, x_u, x_m, x_f, x_y, x_d⟩ : Shop).c.length ≤ 1048576) : P11 (.call F_Crank 0 nr_) [.int .i64 x_s, .int .i64 x_t, vL I2 v2 x_p, vL IL2 vLL2 x_o, vL I1 v1 x_c, .int .i64 x_u, .int .i64 x_m, .int .i64 x_f, .int .i64 x_y, .int .i64 x_d, .int .i64 n] kk_ ↔ kk_ (.int .i64 (crank (⟨x_s, x_t, x_p, x_o, x_c, x_u, x_m, x_f, x_y, x_d⟩ : Shop) n).s) (.int .i64 (crank (⟨x_s, x_t, x_p, x_o, x_c, x_u, x_m, x_f, x_y, x_d⟩ : Shop) n).t) (vL I2 v2 (crank (⟨x_s, x_t, x_p, x_o, x_c, x_u, x_m, x_f, x_y, x_d⟩ : Shop) n).p) (vL IL2 vLL2 (crank (⟨x_s, x_t, x_p, x_o, x_c, x_u, x_m, x_f, x_y, x_d⟩ : Shop) n).o) (vL I1 v1 (crank (⟨x_s, x_t, x_p, x_o, x_c, x_u, x_m, x_f, x_y, x_d⟩ : Shop) n).c) (.int .i64 (crank (⟨x_s, x_t, x_p, x_o, x_c, x_u, x_m, x_f, x_y, x_d⟩ : Shop) n).u) (.int .i64 (crank (⟨x_s, x_t, x_p, x_o, x_c, x_u, x_m, x_f, x_y, x_d⟩ : Shop) n).m) (.int .i64 (crank (⟨x_s, x_t, x_p, x_o, x_c, x_u, x_m, x_f, x_y, x_d⟩ : Shop) n).f) (.int .i64 (crank (⟨x_s, x_t, x_p, x_o, x_c, x_u, x_m, x_f, x_y, x_d⟩ : Shop) n).y) (.int .i64 (crank (⟨x_s, x_t, x_p, x_o, x_c, x_u, x_m, x_f, x_y, x_d⟩ : Shop) n).d) (.int .i64 (if shopOk (⟨x_s, x_t, x_p, x_o, x_c, x_u, x_m, x_f, x_y, x_d⟩ : Shop) then windBy (⟨x_s, x_t, x_p, x_o, x_c, x_u, x_m, x_f, x_y, x_d⟩ : Shop).spring n else -1)) :=
  P11_callF (by unfold F_Crank; exact mkF_eq F_Crank_inj ((⟨x_s, x_t, x_p, x_o, x_c, x_u, x_m, x_f, x_y, x_d⟩ : Shop), n) hp)


def withB (w : Shop) (b : Bench) (k : Int) : Shop := ⟨b.s, b.t, b.p, b.o, w.c, w.u, w.m, w.f, w.y - k, w.d⟩
def benchFits (w : Shop) (b : Bench) (k : Int) (ok : Bool) : Bool := ok && (shopOk w && shopOk (withB w b k))
def withBench (w : Shop) (b : Bench) (k : Int) (ok : Bool) : Shop := if benchFits w b k ok then withB w b k else w
def E_withBench : Shop × Bench × Int × Bool → List V := fun (x, y, k, n) => [.int .i64 x.s, .int .i64 x.t, vL I2 v2 x.p, vL IL2 vLL2 x.o, vL I1 v1 x.c, .int .i64 x.u, .int .i64 x.m, .int .i64 x.f, .int .i64 x.y, .int .i64 x.d, .int .i64 y.s, .int .i64 y.t, vL I2 v2 y.p, vL IL2 vLL2 y.o, .int .i64 k, .bool n]
noncomputable def F_withBench : List V → Option (List V) := mkF E_withBench (fun (x, y, k, _) => x.p.length ≤ 1048576 ∧ fitLL x.o ∧ x.c.length ≤ 1048576 ∧ y.p.length ≤ 1048576 ∧ fitLL y.o ∧ -1000000000 ≤ k ∧ k ≤ 1000000000) (fun (x, y, k, n) => [.int .i64 (withBench x y k n).s, .int .i64 (withBench x y k n).t, vL I2 v2 (withBench x y k n).p, vL IL2 vLL2 (withBench x y k n).o, vL I1 v1 (withBench x y k n).c, .int .i64 (withBench x y k n).u, .int .i64 (withBench x y k n).m, .int .i64 (withBench x y k n).f, .int .i64 (withBench x y k n).y, .int .i64 (withBench x y k n).d, .bool (benchFits x y k n)])
theorem F_withBench_inj : ∀ x y, E_withBench x = E_withBench y → x = y := by
  rintro ⟨⟨xs, xt, xp, xo, xc, xu, xm, xf, xy, xd⟩, ⟨ys, yt, yp, yo⟩, k, n⟩ ⟨⟨xs', xt', xp', xo', xc', xu', xm', xf', xy', xd'⟩, ⟨ys', yt', yp', yo'⟩, k', n'⟩ h
  simpa [E_withBench, and_assoc] using h
theorem F_withBench_elim {P : List V → List V → Prop} (h : ∀ (x : Shop) (y : Bench) (k : Int) (n : Bool), (x.p.length ≤ 1048576 ∧ fitLL x.o ∧ x.c.length ≤ 1048576 ∧ y.p.length ≤ 1048576 ∧ fitLL y.o ∧ -1000000000 ≤ k ∧ k ≤ 1000000000) → P [.int .i64 x.s, .int .i64 x.t, vL I2 v2 x.p, vL IL2 vLL2 x.o, vL I1 v1 x.c, .int .i64 x.u, .int .i64 x.m, .int .i64 x.f, .int .i64 x.y, .int .i64 x.d, .int .i64 y.s, .int .i64 y.t, vL I2 v2 y.p, vL IL2 vLL2 y.o, .int .i64 k, .bool n] [.int .i64 (withBench x y k n).s, .int .i64 (withBench x y k n).t, vL I2 v2 (withBench x y k n).p, vL IL2 vLL2 (withBench x y k n).o, vL I1 v1 (withBench x y k n).c, .int .i64 (withBench x y k n).u, .int .i64 (withBench x y k n).m, .int .i64 (withBench x y k n).f, .int .i64 (withBench x y k n).y, .int .i64 (withBench x y k n).d, .bool (benchFits x y k n)]) : ∀ ds outs, F_withBench ds = some outs → P ds outs := by
  intro ds outs hh
  obtain ⟨⟨x, y, k, n⟩, rfl, hp, rfl⟩ := mkF_inv hh
  exact h x y k n hp
theorem p_withBench {x_s : Int} {x_t : Int} {x_p : List T2} {x_o : List (List T2)} {x_c : List Int} {x_u : Int} {x_m : Int} {x_f : Int} {x_y : Int} {x_d : Int} {y_s : Int} {y_t : Int} {y_p : List T2} {y_o : List (List T2)} {k : Int} {n : Bool} {nr_ : Nat} {kk_ : V → V → V → V → V → V → V → V → V → V → V → Prop} (hp : (⟨x_s, x_t, x_p, x_o, x_c, x_u, x_m, x_f, x_y, x_d⟩ : Shop).p.length ≤ 1048576 ∧ fitLL (⟨x_s, x_t, x_p, x_o, x_c, x_u, x_m, x_f, x_y, x_d⟩ : Shop).o ∧ (⟨x_s, x_t, x_p, x_o, x_c, x_u, x_m, x_f, x_y, x_d⟩ : Shop).c.length ≤ 1048576 ∧ (⟨y_s, y_t, y_p, y_o⟩ : Bench).p.length ≤ 1048576 ∧ fitLL (⟨y_s, y_t, y_p, y_o⟩ : Bench).o ∧ -1000000000 ≤ k ∧ k ≤ 1000000000) : P11 (.call F_withBench 0 nr_) [.int .i64 x_s, .int .i64 x_t, vL I2 v2 x_p, vL IL2 vLL2 x_o, vL I1 v1 x_c, .int .i64 x_u, .int .i64 x_m, .int .i64 x_f, .int .i64 x_y, .int .i64 x_d, .int .i64 y_s, .int .i64 y_t, vL I2 v2 y_p, vL IL2 vLL2 y_o, .int .i64 k, .bool n] kk_ ↔ kk_ (.int .i64 (withBench (⟨x_s, x_t, x_p, x_o, x_c, x_u, x_m, x_f, x_y, x_d⟩ : Shop) (⟨y_s, y_t, y_p, y_o⟩ : Bench) k n).s) (.int .i64 (withBench (⟨x_s, x_t, x_p, x_o, x_c, x_u, x_m, x_f, x_y, x_d⟩ : Shop) (⟨y_s, y_t, y_p, y_o⟩ : Bench) k n).t) (vL I2 v2 (withBench (⟨x_s, x_t, x_p, x_o, x_c, x_u, x_m, x_f, x_y, x_d⟩ : Shop) (⟨y_s, y_t, y_p, y_o⟩ : Bench) k n).p) (vL IL2 vLL2 (withBench (⟨x_s, x_t, x_p, x_o, x_c, x_u, x_m, x_f, x_y, x_d⟩ : Shop) (⟨y_s, y_t, y_p, y_o⟩ : Bench) k n).o) (vL I1 v1 (withBench (⟨x_s, x_t, x_p, x_o, x_c, x_u, x_m, x_f, x_y, x_d⟩ : Shop) (⟨y_s, y_t, y_p, y_o⟩ : Bench) k n).c) (.int .i64 (withBench (⟨x_s, x_t, x_p, x_o, x_c, x_u, x_m, x_f, x_y, x_d⟩ : Shop) (⟨y_s, y_t, y_p, y_o⟩ : Bench) k n).u) (.int .i64 (withBench (⟨x_s, x_t, x_p, x_o, x_c, x_u, x_m, x_f, x_y, x_d⟩ : Shop) (⟨y_s, y_t, y_p, y_o⟩ : Bench) k n).m) (.int .i64 (withBench (⟨x_s, x_t, x_p, x_o, x_c, x_u, x_m, x_f, x_y, x_d⟩ : Shop) (⟨y_s, y_t, y_p, y_o⟩ : Bench) k n).f) (.int .i64 (withBench (⟨x_s, x_t, x_p, x_o, x_c, x_u, x_m, x_f, x_y, x_d⟩ : Shop) (⟨y_s, y_t, y_p, y_o⟩ : Bench) k n).y) (.int .i64 (withBench (⟨x_s, x_t, x_p, x_o, x_c, x_u, x_m, x_f, x_y, x_d⟩ : Shop) (⟨y_s, y_t, y_p, y_o⟩ : Bench) k n).d) (.bool (benchFits (⟨x_s, x_t, x_p, x_o, x_c, x_u, x_m, x_f, x_y, x_d⟩ : Shop) (⟨y_s, y_t, y_p, y_o⟩ : Bench) k n)) :=
  P11_callF (by unfold F_withBench; exact mkF_eq F_withBench_inj ((⟨x_s, x_t, x_p, x_o, x_c, x_u, x_m, x_f, x_y, x_d⟩ : Shop), (⟨y_s, y_t, y_p, y_o⟩ : Bench), k, n) hp)

def canTake (b : Bench) (k : Int) : Bool := pullOk b.cyl k && stepOk b (pulled b k)
def E_RemovePin : Shop × Int → List V := fun (x, k) => [.int .i64 x.s, .int .i64 x.t, vL I2 v2 x.p, vL IL2 vLL2 x.o, vL I1 v1 x.c, .int .i64 x.u, .int .i64 x.m, .int .i64 x.f, .int .i64 x.y, .int .i64 x.d, .int .i64 k]
noncomputable def F_RemovePin : List V → Option (List V) := mkF E_RemovePin (fun (x, _) => x.p.length ≤ 1048576 ∧ fitLL x.o ∧ x.c.length ≤ 1048576) (fun (x, k) => [.int .i64 (withBench x (takePin x.bench k) 0 (canTake x.bench k)).s, .int .i64 (withBench x (takePin x.bench k) 0 (canTake x.bench k)).t, vL I2 v2 (withBench x (takePin x.bench k) 0 (canTake x.bench k)).p, vL IL2 vLL2 (withBench x (takePin x.bench k) 0 (canTake x.bench k)).o, vL I1 v1 (withBench x (takePin x.bench k) 0 (canTake x.bench k)).c, .int .i64 (withBench x (takePin x.bench k) 0 (canTake x.bench k)).u, .int .i64 (withBench x (takePin x.bench k) 0 (canTake x.bench k)).m, .int .i64 (withBench x (takePin x.bench k) 0 (canTake x.bench k)).f, .int .i64 (withBench x (takePin x.bench k) 0 (canTake x.bench k)).y, .int .i64 (withBench x (takePin x.bench k) 0 (canTake x.bench k)).d, .bool (benchFits x (takePin x.bench k) 0 (canTake x.bench k))])
theorem F_RemovePin_inj : ∀ x y, E_RemovePin x = E_RemovePin y → x = y := by
  rintro ⟨⟨xs, xt, xp, xo, xc, xu, xm, xf, xy, xd⟩, k⟩ ⟨⟨xs', xt', xp', xo', xc', xu', xm', xf', xy', xd'⟩, k'⟩ h
  simpa [E_RemovePin, and_assoc] using h
theorem F_RemovePin_elim {P : List V → List V → Prop} (h : ∀ (x : Shop) (k : Int), (x.p.length ≤ 1048576 ∧ fitLL x.o ∧ x.c.length ≤ 1048576) → P [.int .i64 x.s, .int .i64 x.t, vL I2 v2 x.p, vL IL2 vLL2 x.o, vL I1 v1 x.c, .int .i64 x.u, .int .i64 x.m, .int .i64 x.f, .int .i64 x.y, .int .i64 x.d, .int .i64 k] [.int .i64 (withBench x (takePin x.bench k) 0 (canTake x.bench k)).s, .int .i64 (withBench x (takePin x.bench k) 0 (canTake x.bench k)).t, vL I2 v2 (withBench x (takePin x.bench k) 0 (canTake x.bench k)).p, vL IL2 vLL2 (withBench x (takePin x.bench k) 0 (canTake x.bench k)).o, vL I1 v1 (withBench x (takePin x.bench k) 0 (canTake x.bench k)).c, .int .i64 (withBench x (takePin x.bench k) 0 (canTake x.bench k)).u, .int .i64 (withBench x (takePin x.bench k) 0 (canTake x.bench k)).m, .int .i64 (withBench x (takePin x.bench k) 0 (canTake x.bench k)).f, .int .i64 (withBench x (takePin x.bench k) 0 (canTake x.bench k)).y, .int .i64 (withBench x (takePin x.bench k) 0 (canTake x.bench k)).d, .bool (benchFits x (takePin x.bench k) 0 (canTake x.bench k))]) : ∀ ds outs, F_RemovePin ds = some outs → P ds outs := by
  intro ds outs hh
  obtain ⟨⟨x, k⟩, rfl, hp, rfl⟩ := mkF_inv hh
  exact h x k hp
theorem p_RemovePin {x_s : Int} {x_t : Int} {x_p : List T2} {x_o : List (List T2)} {x_c : List Int} {x_u : Int} {x_m : Int} {x_f : Int} {x_y : Int} {x_d : Int} {k : Int} {nr_ : Nat} {kk_ : V → V → V → V → V → V → V → V → V → V → V → Prop} (hp : (⟨x_s, x_t, x_p, x_o, x_c, x_u, x_m, x_f, x_y, x_d⟩ : Shop).p.length ≤ 1048576 ∧ fitLL (⟨x_s, x_t, x_p, x_o, x_c, x_u, x_m, x_f, x_y, x_d⟩ : Shop).o ∧ (⟨x_s, x_t, x_p, x_o, x_c, x_u, x_m, x_f, x_y, x_d⟩ : Shop).c.length ≤ 1048576) : P11 (.call F_RemovePin 0 nr_) [.int .i64 x_s, .int .i64 x_t, vL I2 v2 x_p, vL IL2 vLL2 x_o, vL I1 v1 x_c, .int .i64 x_u, .int .i64 x_m, .int .i64 x_f, .int .i64 x_y, .int .i64 x_d, .int .i64 k] kk_ ↔ kk_ (.int .i64 (withBench (⟨x_s, x_t, x_p, x_o, x_c, x_u, x_m, x_f, x_y, x_d⟩ : Shop) (takePin (⟨x_s, x_t, x_p, x_o, x_c, x_u, x_m, x_f, x_y, x_d⟩ : Shop).bench k) 0 (canTake (⟨x_s, x_t, x_p, x_o, x_c, x_u, x_m, x_f, x_y, x_d⟩ : Shop).bench k)).s) (.int .i64 (withBench (⟨x_s, x_t, x_p, x_o, x_c, x_u, x_m, x_f, x_y, x_d⟩ : Shop) (takePin (⟨x_s, x_t, x_p, x_o, x_c, x_u, x_m, x_f, x_y, x_d⟩ : Shop).bench k) 0 (canTake (⟨x_s, x_t, x_p, x_o, x_c, x_u, x_m, x_f, x_y, x_d⟩ : Shop).bench k)).t) (vL I2 v2 (withBench (⟨x_s, x_t, x_p, x_o, x_c, x_u, x_m, x_f, x_y, x_d⟩ : Shop) (takePin (⟨x_s, x_t, x_p, x_o, x_c, x_u, x_m, x_f, x_y, x_d⟩ : Shop).bench k) 0 (canTake (⟨x_s, x_t, x_p, x_o, x_c, x_u, x_m, x_f, x_y, x_d⟩ : Shop).bench k)).p) (vL IL2 vLL2 (withBench (⟨x_s, x_t, x_p, x_o, x_c, x_u, x_m, x_f, x_y, x_d⟩ : Shop) (takePin (⟨x_s, x_t, x_p, x_o, x_c, x_u, x_m, x_f, x_y, x_d⟩ : Shop).bench k) 0 (canTake (⟨x_s, x_t, x_p, x_o, x_c, x_u, x_m, x_f, x_y, x_d⟩ : Shop).bench k)).o) (vL I1 v1 (withBench (⟨x_s, x_t, x_p, x_o, x_c, x_u, x_m, x_f, x_y, x_d⟩ : Shop) (takePin (⟨x_s, x_t, x_p, x_o, x_c, x_u, x_m, x_f, x_y, x_d⟩ : Shop).bench k) 0 (canTake (⟨x_s, x_t, x_p, x_o, x_c, x_u, x_m, x_f, x_y, x_d⟩ : Shop).bench k)).c) (.int .i64 (withBench (⟨x_s, x_t, x_p, x_o, x_c, x_u, x_m, x_f, x_y, x_d⟩ : Shop) (takePin (⟨x_s, x_t, x_p, x_o, x_c, x_u, x_m, x_f, x_y, x_d⟩ : Shop).bench k) 0 (canTake (⟨x_s, x_t, x_p, x_o, x_c, x_u, x_m, x_f, x_y, x_d⟩ : Shop).bench k)).u) (.int .i64 (withBench (⟨x_s, x_t, x_p, x_o, x_c, x_u, x_m, x_f, x_y, x_d⟩ : Shop) (takePin (⟨x_s, x_t, x_p, x_o, x_c, x_u, x_m, x_f, x_y, x_d⟩ : Shop).bench k) 0 (canTake (⟨x_s, x_t, x_p, x_o, x_c, x_u, x_m, x_f, x_y, x_d⟩ : Shop).bench k)).m) (.int .i64 (withBench (⟨x_s, x_t, x_p, x_o, x_c, x_u, x_m, x_f, x_y, x_d⟩ : Shop) (takePin (⟨x_s, x_t, x_p, x_o, x_c, x_u, x_m, x_f, x_y, x_d⟩ : Shop).bench k) 0 (canTake (⟨x_s, x_t, x_p, x_o, x_c, x_u, x_m, x_f, x_y, x_d⟩ : Shop).bench k)).f) (.int .i64 (withBench (⟨x_s, x_t, x_p, x_o, x_c, x_u, x_m, x_f, x_y, x_d⟩ : Shop) (takePin (⟨x_s, x_t, x_p, x_o, x_c, x_u, x_m, x_f, x_y, x_d⟩ : Shop).bench k) 0 (canTake (⟨x_s, x_t, x_p, x_o, x_c, x_u, x_m, x_f, x_y, x_d⟩ : Shop).bench k)).y) (.int .i64 (withBench (⟨x_s, x_t, x_p, x_o, x_c, x_u, x_m, x_f, x_y, x_d⟩ : Shop) (takePin (⟨x_s, x_t, x_p, x_o, x_c, x_u, x_m, x_f, x_y, x_d⟩ : Shop).bench k) 0 (canTake (⟨x_s, x_t, x_p, x_o, x_c, x_u, x_m, x_f, x_y, x_d⟩ : Shop).bench k)).d) (.bool (benchFits (⟨x_s, x_t, x_p, x_o, x_c, x_u, x_m, x_f, x_y, x_d⟩ : Shop) (takePin (⟨x_s, x_t, x_p, x_o, x_c, x_u, x_m, x_f, x_y, x_d⟩ : Shop).bench k) 0 (canTake (⟨x_s, x_t, x_p, x_o, x_c, x_u, x_m, x_f, x_y, x_d⟩ : Shop).bench k))) :=
  P11_callF (by unfold F_RemovePin; exact mkF_eq F_RemovePin_inj ((⟨x_s, x_t, x_p, x_o, x_c, x_u, x_m, x_f, x_y, x_d⟩ : Shop), k) hp)


def gap (a b n : Int) : Int := if within n 1 1000 && (within a 0 (n - 1) && within b 0 (n - 1)) then min (max (a - b) (b - a)) (n - max (a - b) (b - a)) else -1
def E_GapAround : Int × Int × Int → List V := fun (a, b, n) => [.int .i64 a, .int .i64 b, .int .i64 n]
noncomputable def F_GapAround : List V → Option (List V) := mkF E_GapAround (fun (_, _, _) => True) (fun (a, b, n) => [.int .i64 (gap a b n)])
theorem F_GapAround_inj : ∀ x y, E_GapAround x = E_GapAround y → x = y := by
  rintro ⟨a, b, n⟩ ⟨a', b', n'⟩ h
  simpa [E_GapAround] using h
theorem F_GapAround_elim {P : List V → List V → Prop} (h : ∀ (a : Int) (b : Int) (n : Int), P [.int .i64 a, .int .i64 b, .int .i64 n] [.int .i64 (gap a b n)]) : ∀ ds outs, F_GapAround ds = some outs → P ds outs := by
  intro ds outs hh
  obtain ⟨⟨a, b, n⟩, rfl, -, rfl⟩ := mkF_inv hh
  exact h a b n
@[simp] theorem p_GapAround {a : Int} {b : Int} {n : Int} {nr_ : Nat} {kk_ : V → Prop} : P1 (.call F_GapAround 0 nr_) [.int .i64 a, .int .i64 b, .int .i64 n] kk_ ↔ kk_ (.int .i64 (gap a b n)) :=
  P1_callF (by unfold F_GapAround; exact mkF_eq F_GapAround_inj (a, b, n) trivial)

def closeAt (c : Cyl) (r : Int) (i j : Nat) : Bool := match c.p[i]?, c.p[j]? with | some x, some y => decide (x.a = y.a ∧ gap x.b y.b c.s < r) | _, _ => false
/-- The pairs of the i-th pin with those from the (i+1)-th on, below the k-th. -/
def closeRow (c : Cyl) (r : Int) (i : Nat) : Nat → List (List Int)
  | 0 => []
  | k + 1 => closeRow c r i k ++ (if i < k ∧ closeAt c r i k then [[(i : Int), (k : Int)]] else [])
def closeTo (c : Cyl) (r : Int) : Nat → List (List Int)
  | 0 => []
  | k + 1 => closeTo c r k ++ closeRow c r k c.p.length
def tooClose (c : Cyl) (r : Int) : List (List Int) := if cylOk c && within r 1 96 then closeTo c r c.p.length else []
def E_TooClose : Cyl × Int → List V := fun (x, r) => [.int .i64 x.s, .int .i64 x.t, vL I2 v2 x.p, .int .i64 r]
noncomputable def F_TooClose : List V → Option (List V) := mkF E_TooClose (fun (x, _) => x.p.length ≤ 1048576) (fun (x, r) => [vL IL1 vLL1 (tooClose x r)])
theorem F_TooClose_inj : ∀ x y, E_TooClose x = E_TooClose y → x = y := by
  rintro ⟨⟨xs, xt, xp⟩, r⟩ ⟨⟨xs', xt', xp'⟩, r'⟩ h
  simpa [E_TooClose, and_assoc] using h
theorem F_TooClose_elim {P : List V → List V → Prop} (h : ∀ (x : Cyl) (r : Int), (x.p.length ≤ 1048576) → P [.int .i64 x.s, .int .i64 x.t, vL I2 v2 x.p, .int .i64 r] [vL IL1 vLL1 (tooClose x r)]) : ∀ ds outs, F_TooClose ds = some outs → P ds outs := by
  intro ds outs hh
  obtain ⟨⟨x, r⟩, rfl, hp, rfl⟩ := mkF_inv hh
  exact h x r hp
theorem p_TooClose {x_s : Int} {x_t : Int} {x_p : List T2} {r : Int} {nr_ : Nat} {kk_ : V → Prop} (hp : (⟨x_s, x_t, x_p⟩ : Cyl).p.length ≤ 1048576) : P1 (.call F_TooClose 0 nr_) [.int .i64 x_s, .int .i64 x_t, vL I2 v2 x_p, .int .i64 r] kk_ ↔ kk_ (vL IL1 vLL1 (tooClose (⟨x_s, x_t, x_p⟩ : Cyl) r)) :=
  P1_callF (by unfold F_TooClose; exact mkF_eq F_TooClose_inj ((⟨x_s, x_t, x_p⟩ : Cyl), r) hp)

def playable (c : Cyl) (r : Int) : Bool := cylOk c && (within r 1 96 && decide (tooClose c r = []))
def E_IsPlayable : Cyl × Int → List V := fun (x, r) => [.int .i64 x.s, .int .i64 x.t, vL I2 v2 x.p, .int .i64 r]
noncomputable def F_IsPlayable : List V → Option (List V) := mkF E_IsPlayable (fun (x, _) => x.p.length ≤ 1048576) (fun (x, r) => [.bool (playable x r)])
theorem F_IsPlayable_inj : ∀ x y, E_IsPlayable x = E_IsPlayable y → x = y := by
  rintro ⟨⟨xs, xt, xp⟩, r⟩ ⟨⟨xs', xt', xp'⟩, r'⟩ h
  simpa [E_IsPlayable, and_assoc] using h
theorem F_IsPlayable_elim {P : List V → List V → Prop} (h : ∀ (x : Cyl) (r : Int), (x.p.length ≤ 1048576) → P [.int .i64 x.s, .int .i64 x.t, vL I2 v2 x.p, .int .i64 r] [.bool (playable x r)]) : ∀ ds outs, F_IsPlayable ds = some outs → P ds outs := by
  intro ds outs hh
  obtain ⟨⟨x, r⟩, rfl, hp, rfl⟩ := mkF_inv hh
  exact h x r hp
theorem p_IsPlayable {x_s : Int} {x_t : Int} {x_p : List T2} {r : Int} {nr_ : Nat} {kk_ : V → Prop} (hp : (⟨x_s, x_t, x_p⟩ : Cyl).p.length ≤ 1048576) : P1 (.call F_IsPlayable 0 nr_) [.int .i64 x_s, .int .i64 x_t, vL I2 v2 x_p, .int .i64 r] kk_ ↔ kk_ (.bool (playable (⟨x_s, x_t, x_p⟩ : Cyl) r)) :=
  P1_callF (by unfold F_IsPlayable; exact mkF_eq F_IsPlayable_inj ((⟨x_s, x_t, x_p⟩ : Cyl), r) hp)

def played (w : Shop) : Shop := ⟨w.s, w.t, w.p, w.o, w.c, w.u - 1, w.m, w.f, w.y, w.d + w.p.length⟩
def canPlay (w : Shop) : Bool := shopOk w && (!decide (w.u = 0) && (playable ⟨w.s, w.t, w.p⟩ 2 && shopOk (played w)))
def playOnce (w : Shop) : Shop := if canPlay w then played w else w
def E_PlayOnce (x : Shop) : List V := [.int .i64 x.s, .int .i64 x.t, vL I2 v2 x.p, vL IL2 vLL2 x.o, vL I1 v1 x.c, .int .i64 x.u, .int .i64 x.m, .int .i64 x.f, .int .i64 x.y, .int .i64 x.d]
noncomputable def F_PlayOnce : List V → Option (List V) := mkF E_PlayOnce (fun x => x.p.length ≤ 1048576 ∧ fitLL x.o ∧ x.c.length ≤ 1048576) (fun x => [.int .i64 (playOnce x).s, .int .i64 (playOnce x).t, vL I2 v2 (playOnce x).p, vL IL2 vLL2 (playOnce x).o, vL I1 v1 (playOnce x).c, .int .i64 (playOnce x).u, .int .i64 (playOnce x).m, .int .i64 (playOnce x).f, .int .i64 (playOnce x).y, .int .i64 (playOnce x).d, .bool (canPlay x)])
theorem F_PlayOnce_inj : ∀ x y, E_PlayOnce x = E_PlayOnce y → x = y := by
  rintro ⟨xs, xt, xp, xo, xc, xu, xm, xf, xy, xd⟩ ⟨xs', xt', xp', xo', xc', xu', xm', xf', xy', xd'⟩ h
  simpa [E_PlayOnce] using h
theorem F_PlayOnce_elim {P : List V → List V → Prop} (h : ∀ (x : Shop), (x.p.length ≤ 1048576 ∧ fitLL x.o ∧ x.c.length ≤ 1048576) → P [.int .i64 x.s, .int .i64 x.t, vL I2 v2 x.p, vL IL2 vLL2 x.o, vL I1 v1 x.c, .int .i64 x.u, .int .i64 x.m, .int .i64 x.f, .int .i64 x.y, .int .i64 x.d] [.int .i64 (playOnce x).s, .int .i64 (playOnce x).t, vL I2 v2 (playOnce x).p, vL IL2 vLL2 (playOnce x).o, vL I1 v1 (playOnce x).c, .int .i64 (playOnce x).u, .int .i64 (playOnce x).m, .int .i64 (playOnce x).f, .int .i64 (playOnce x).y, .int .i64 (playOnce x).d, .bool (canPlay x)]) : ∀ ds outs, F_PlayOnce ds = some outs → P ds outs := by
  intro ds outs hh
  obtain ⟨x, rfl, hp, rfl⟩ := mkF_inv hh
  exact h x hp
theorem p_PlayOnce {x_s : Int} {x_t : Int} {x_p : List T2} {x_o : List (List T2)} {x_c : List Int} {x_u : Int} {x_m : Int} {x_f : Int} {x_y : Int} {x_d : Int} {nr_ : Nat} {kk_ : V → V → V → V → V → V → V → V → V → V → V → Prop} (hp : (⟨x_s, x_t, x_p, x_o, x_c, x_u, x_m, x_f, x_y, x_d⟩ : Shop).p.length ≤ 1048576 ∧ fitLL (⟨x_s, x_t, x_p, x_o, x_c, x_u, x_m, x_f, x_y, x_d⟩ : Shop).o ∧ (⟨x_s, x_t, x_p, x_o, x_c, x_u, x_m, x_f, x_y, x_d⟩ : Shop).c.length ≤ 1048576) : P11 (.call F_PlayOnce 0 nr_) [.int .i64 x_s, .int .i64 x_t, vL I2 v2 x_p, vL IL2 vLL2 x_o, vL I1 v1 x_c, .int .i64 x_u, .int .i64 x_m, .int .i64 x_f, .int .i64 x_y, .int .i64 x_d] kk_ ↔ kk_ (.int .i64 (playOnce (⟨x_s, x_t, x_p, x_o, x_c, x_u, x_m, x_f, x_y, x_d⟩ : Shop)).s) (.int .i64 (playOnce (⟨x_s, x_t, x_p, x_o, x_c, x_u, x_m, x_f, x_y, x_d⟩ : Shop)).t) (vL I2 v2 (playOnce (⟨x_s, x_t, x_p, x_o, x_c, x_u, x_m, x_f, x_y, x_d⟩ : Shop)).p) (vL IL2 vLL2 (playOnce (⟨x_s, x_t, x_p, x_o, x_c, x_u, x_m, x_f, x_y, x_d⟩ : Shop)).o) (vL I1 v1 (playOnce (⟨x_s, x_t, x_p, x_o, x_c, x_u, x_m, x_f, x_y, x_d⟩ : Shop)).c) (.int .i64 (playOnce (⟨x_s, x_t, x_p, x_o, x_c, x_u, x_m, x_f, x_y, x_d⟩ : Shop)).u) (.int .i64 (playOnce (⟨x_s, x_t, x_p, x_o, x_c, x_u, x_m, x_f, x_y, x_d⟩ : Shop)).m) (.int .i64 (playOnce (⟨x_s, x_t, x_p, x_o, x_c, x_u, x_m, x_f, x_y, x_d⟩ : Shop)).f) (.int .i64 (playOnce (⟨x_s, x_t, x_p, x_o, x_c, x_u, x_m, x_f, x_y, x_d⟩ : Shop)).y) (.int .i64 (playOnce (⟨x_s, x_t, x_p, x_o, x_c, x_u, x_m, x_f, x_y, x_d⟩ : Shop)).d) (.bool (canPlay (⟨x_s, x_t, x_p, x_o, x_c, x_u, x_m, x_f, x_y, x_d⟩ : Shop))) :=
  P11_callF (by unfold F_PlayOnce; exact mkF_eq F_PlayOnce_inj ((⟨x_s, x_t, x_p, x_o, x_c, x_u, x_m, x_f, x_y, x_d⟩ : Shop)) hp)


def E_FnExactCrank : Shop × Int → List V := fun (x, k) => [.int .i64 x.s, .int .i64 x.t, vL I2 v2 x.p, vL IL2 vLL2 x.o, vL I1 v1 x.c, .int .i64 x.u, .int .i64 x.m, .int .i64 x.f, .int .i64 x.y, .int .i64 x.d, .int .i64 k]
noncomputable def F_FnExactCrank : List V → Option (List V) := mkF E_FnExactCrank (fun (x, k) => wfI x.s ∧ wfI x.t ∧ wfL2 x.p ∧ wfLL2 x.o ∧ wfL1 x.c ∧ wfI x.u ∧ wfI x.m ∧ wfI x.f ∧ wfI x.y ∧ wfI x.d ∧ wfI k) (fun (_, _) => [.bool true])
theorem F_FnExactCrank_inj : ∀ x y, E_FnExactCrank x = E_FnExactCrank y → x = y := by
  rintro ⟨⟨xs, xt, xp, xo, xc, xu, xm, xf, xy, xd⟩, k⟩ ⟨⟨xs', xt', xp', xo', xc', xu', xm', xf', xy', xd'⟩, k'⟩ h
  simpa [E_FnExactCrank, and_assoc] using h
theorem F_FnExactCrank_elim {P : List V → List V → Prop} (h : ∀ (x : Shop) (k : Int), (wfI x.s ∧ wfI x.t ∧ wfL2 x.p ∧ wfLL2 x.o ∧ wfL1 x.c ∧ wfI x.u ∧ wfI x.m ∧ wfI x.f ∧ wfI x.y ∧ wfI x.d ∧ wfI k) → P [.int .i64 x.s, .int .i64 x.t, vL I2 v2 x.p, vL IL2 vLL2 x.o, vL I1 v1 x.c, .int .i64 x.u, .int .i64 x.m, .int .i64 x.f, .int .i64 x.y, .int .i64 x.d, .int .i64 k] [.bool true]) : ∀ ds outs, F_FnExactCrank ds = some outs → P ds outs := by
  intro ds outs hh
  obtain ⟨⟨x, k⟩, rfl, hp, rfl⟩ := mkF_inv hh
  exact h x k hp
theorem F_FnExactCrank_law : ∀ ds, okTKs [.int .i64, .int .i64, .list true [.int .i64, .int .i64], .list false [.list true [.int .i64, .int .i64]], .list false [.int .i64], .int .i64, .int .i64, .int .i64, .int .i64, .int .i64, .int .i64] ds → F_FnExactCrank ds = some [.bool true] := by
  intro ds g0
  obtain ⟨_, _, rfl, h0, g1⟩ := okTKs_cons g0
  obtain ⟨x_s, rfl, r0⟩ := dec_I h0
  obtain ⟨_, _, rfl, h1, g2⟩ := okTKs_cons g1
  obtain ⟨x_t, rfl, r1⟩ := dec_I h1
  obtain ⟨_, _, rfl, h2, g3⟩ := okTKs_cons g2
  obtain ⟨x_p, rfl, r2⟩ := dec_L2 h2
  obtain ⟨_, _, rfl, h3, g4⟩ := okTKs_cons g3
  obtain ⟨x_o, rfl, r3⟩ := dec_LL2 h3
  obtain ⟨_, _, rfl, h4, g5⟩ := okTKs_cons g4
  obtain ⟨x_c, rfl, r4⟩ := dec_L1 h4
  obtain ⟨_, _, rfl, h5, g6⟩ := okTKs_cons g5
  obtain ⟨x_u, rfl, r5⟩ := dec_I h5
  obtain ⟨_, _, rfl, h6, g7⟩ := okTKs_cons g6
  obtain ⟨x_m, rfl, r6⟩ := dec_I h6
  obtain ⟨_, _, rfl, h7, g8⟩ := okTKs_cons g7
  obtain ⟨x_f, rfl, r7⟩ := dec_I h7
  obtain ⟨_, _, rfl, h8, g9⟩ := okTKs_cons g8
  obtain ⟨x_y, rfl, r8⟩ := dec_I h8
  obtain ⟨_, _, rfl, h9, g10⟩ := okTKs_cons g9
  obtain ⟨x_d, rfl, r9⟩ := dec_I h9
  obtain ⟨_, _, rfl, h10, g11⟩ := okTKs_cons g10
  obtain ⟨k, rfl, r10⟩ := dec_I h10
  obtain rfl := okTKs_nil g11
  exact mkF_eq F_FnExactCrank_inj ((⟨x_s, x_t, x_p, x_o, x_c, x_u, x_m, x_f, x_y, x_d⟩ : Shop), k) ⟨r0, r1, r2, r3, r4, r5, r6, r7, r8, r9, r10⟩

def E_FnExactRemovePin : Shop × Int → List V := fun (x, k) => [.int .i64 x.s, .int .i64 x.t, vL I2 v2 x.p, vL IL2 vLL2 x.o, vL I1 v1 x.c, .int .i64 x.u, .int .i64 x.m, .int .i64 x.f, .int .i64 x.y, .int .i64 x.d, .int .i64 k]
noncomputable def F_FnExactRemovePin : List V → Option (List V) := mkF E_FnExactRemovePin (fun (x, k) => wfI x.s ∧ wfI x.t ∧ wfL2 x.p ∧ wfLL2 x.o ∧ wfL1 x.c ∧ wfI x.u ∧ wfI x.m ∧ wfI x.f ∧ wfI x.y ∧ wfI x.d ∧ wfI k) (fun (_, _) => [.bool true])
theorem F_FnExactRemovePin_inj : ∀ x y, E_FnExactRemovePin x = E_FnExactRemovePin y → x = y := by
  rintro ⟨⟨xs, xt, xp, xo, xc, xu, xm, xf, xy, xd⟩, k⟩ ⟨⟨xs', xt', xp', xo', xc', xu', xm', xf', xy', xd'⟩, k'⟩ h
  simpa [E_FnExactRemovePin, and_assoc] using h
theorem F_FnExactRemovePin_elim {P : List V → List V → Prop} (h : ∀ (x : Shop) (k : Int), (wfI x.s ∧ wfI x.t ∧ wfL2 x.p ∧ wfLL2 x.o ∧ wfL1 x.c ∧ wfI x.u ∧ wfI x.m ∧ wfI x.f ∧ wfI x.y ∧ wfI x.d ∧ wfI k) → P [.int .i64 x.s, .int .i64 x.t, vL I2 v2 x.p, vL IL2 vLL2 x.o, vL I1 v1 x.c, .int .i64 x.u, .int .i64 x.m, .int .i64 x.f, .int .i64 x.y, .int .i64 x.d, .int .i64 k] [.bool true]) : ∀ ds outs, F_FnExactRemovePin ds = some outs → P ds outs := by
  intro ds outs hh
  obtain ⟨⟨x, k⟩, rfl, hp, rfl⟩ := mkF_inv hh
  exact h x k hp
theorem F_FnExactRemovePin_law : ∀ ds, okTKs [.int .i64, .int .i64, .list true [.int .i64, .int .i64], .list false [.list true [.int .i64, .int .i64]], .list false [.int .i64], .int .i64, .int .i64, .int .i64, .int .i64, .int .i64, .int .i64] ds → F_FnExactRemovePin ds = some [.bool true] := by
  intro ds g0
  obtain ⟨_, _, rfl, h0, g1⟩ := okTKs_cons g0
  obtain ⟨x_s, rfl, r0⟩ := dec_I h0
  obtain ⟨_, _, rfl, h1, g2⟩ := okTKs_cons g1
  obtain ⟨x_t, rfl, r1⟩ := dec_I h1
  obtain ⟨_, _, rfl, h2, g3⟩ := okTKs_cons g2
  obtain ⟨x_p, rfl, r2⟩ := dec_L2 h2
  obtain ⟨_, _, rfl, h3, g4⟩ := okTKs_cons g3
  obtain ⟨x_o, rfl, r3⟩ := dec_LL2 h3
  obtain ⟨_, _, rfl, h4, g5⟩ := okTKs_cons g4
  obtain ⟨x_c, rfl, r4⟩ := dec_L1 h4
  obtain ⟨_, _, rfl, h5, g6⟩ := okTKs_cons g5
  obtain ⟨x_u, rfl, r5⟩ := dec_I h5
  obtain ⟨_, _, rfl, h6, g7⟩ := okTKs_cons g6
  obtain ⟨x_m, rfl, r6⟩ := dec_I h6
  obtain ⟨_, _, rfl, h7, g8⟩ := okTKs_cons g7
  obtain ⟨x_f, rfl, r7⟩ := dec_I h7
  obtain ⟨_, _, rfl, h8, g9⟩ := okTKs_cons g8
  obtain ⟨x_y, rfl, r8⟩ := dec_I h8
  obtain ⟨_, _, rfl, h9, g10⟩ := okTKs_cons g9
  obtain ⟨x_d, rfl, r9⟩ := dec_I h9
  obtain ⟨_, _, rfl, h10, g11⟩ := okTKs_cons g10
  obtain ⟨k, rfl, r10⟩ := dec_I h10
  obtain rfl := okTKs_nil g11
  exact mkF_eq F_FnExactRemovePin_inj ((⟨x_s, x_t, x_p, x_o, x_c, x_u, x_m, x_f, x_y, x_d⟩ : Shop), k) ⟨r0, r1, r2, r3, r4, r5, r6, r7, r8, r9, r10⟩

def E_FnExactPlayOnce (x : Shop) : List V := [.int .i64 x.s, .int .i64 x.t, vL I2 v2 x.p, vL IL2 vLL2 x.o, vL I1 v1 x.c, .int .i64 x.u, .int .i64 x.m, .int .i64 x.f, .int .i64 x.y, .int .i64 x.d]
noncomputable def F_FnExactPlayOnce : List V → Option (List V) := mkF E_FnExactPlayOnce (fun x => wfI x.s ∧ wfI x.t ∧ wfL2 x.p ∧ wfLL2 x.o ∧ wfL1 x.c ∧ wfI x.u ∧ wfI x.m ∧ wfI x.f ∧ wfI x.y ∧ wfI x.d) (fun _ => [.bool true])
theorem F_FnExactPlayOnce_inj : ∀ x y, E_FnExactPlayOnce x = E_FnExactPlayOnce y → x = y := by
  rintro ⟨xs, xt, xp, xo, xc, xu, xm, xf, xy, xd⟩ ⟨xs', xt', xp', xo', xc', xu', xm', xf', xy', xd'⟩ h
  simpa [E_FnExactPlayOnce] using h
theorem F_FnExactPlayOnce_elim {P : List V → List V → Prop} (h : ∀ (x : Shop), (wfI x.s ∧ wfI x.t ∧ wfL2 x.p ∧ wfLL2 x.o ∧ wfL1 x.c ∧ wfI x.u ∧ wfI x.m ∧ wfI x.f ∧ wfI x.y ∧ wfI x.d) → P [.int .i64 x.s, .int .i64 x.t, vL I2 v2 x.p, vL IL2 vLL2 x.o, vL I1 v1 x.c, .int .i64 x.u, .int .i64 x.m, .int .i64 x.f, .int .i64 x.y, .int .i64 x.d] [.bool true]) : ∀ ds outs, F_FnExactPlayOnce ds = some outs → P ds outs := by
  intro ds outs hh
  obtain ⟨x, rfl, hp, rfl⟩ := mkF_inv hh
  exact h x hp
theorem F_FnExactPlayOnce_law : ∀ ds, okTKs [.int .i64, .int .i64, .list true [.int .i64, .int .i64], .list false [.list true [.int .i64, .int .i64]], .list false [.int .i64], .int .i64, .int .i64, .int .i64, .int .i64, .int .i64] ds → F_FnExactPlayOnce ds = some [.bool true] := by
  intro ds g0
  obtain ⟨_, _, rfl, h0, g1⟩ := okTKs_cons g0
  obtain ⟨x_s, rfl, r0⟩ := dec_I h0
  obtain ⟨_, _, rfl, h1, g2⟩ := okTKs_cons g1
  obtain ⟨x_t, rfl, r1⟩ := dec_I h1
  obtain ⟨_, _, rfl, h2, g3⟩ := okTKs_cons g2
  obtain ⟨x_p, rfl, r2⟩ := dec_L2 h2
  obtain ⟨_, _, rfl, h3, g4⟩ := okTKs_cons g3
  obtain ⟨x_o, rfl, r3⟩ := dec_LL2 h3
  obtain ⟨_, _, rfl, h4, g5⟩ := okTKs_cons g4
  obtain ⟨x_c, rfl, r4⟩ := dec_L1 h4
  obtain ⟨_, _, rfl, h5, g6⟩ := okTKs_cons g5
  obtain ⟨x_u, rfl, r5⟩ := dec_I h5
  obtain ⟨_, _, rfl, h6, g7⟩ := okTKs_cons g6
  obtain ⟨x_m, rfl, r6⟩ := dec_I h6
  obtain ⟨_, _, rfl, h7, g8⟩ := okTKs_cons g7
  obtain ⟨x_f, rfl, r7⟩ := dec_I h7
  obtain ⟨_, _, rfl, h8, g9⟩ := okTKs_cons g8
  obtain ⟨x_y, rfl, r8⟩ := dec_I h8
  obtain ⟨_, _, rfl, h9, g10⟩ := okTKs_cons g9
  obtain ⟨x_d, rfl, r9⟩ := dec_I h9
  obtain rfl := okTKs_nil g10
  exact mkF_eq F_FnExactPlayOnce_inj ((⟨x_s, x_t, x_p, x_o, x_c, x_u, x_m, x_f, x_y, x_d⟩ : Shop)) ⟨r0, r1, r2, r3, r4, r5, r6, r7, r8, r9⟩


end Go.Mw

/- Functions of the program, as small pure programs (printed by a program of ours). -/
namespace Go.Mw
noncomputable section
def spec_l38Copy_L : L := .seq (.rg []) (.seq (.rg [⟨[], .call F_l37Copy 0 4, [.v 0, .v 1, .v 2, .v 3], 4⟩, ⟨[], .lst [.sc] false 0, [], 1⟩, ⟨[], .app [.sc] 8, [.v 14, .v 4], 1⟩]) (.ret [.v 10, .v 11, .v 12, .v 13, .v 15, .v 5, .v 6, .v 7, .v 8, .v 9]))
theorem spec_l38Copy_L_sh (Q : QT) (x0 x1 x2 x3 x4 x5 x6 x7 x8 x9 : V) : shL spec_l38Copy_L Q [x0, x1, x2, x3, x4, x5, x6, x7, x8, x9] = (
  P4 (.call F_l37Copy 0 4) [x0, x1, x2, x3] fun v0 v1 v2 v3 =>
  P1 (.lst [.sc] false 0) [] fun v4 =>
  P1 (.app [.sc] 8) [v4, x4] fun v5 =>
  Q .ret [v0, v1, v2, v3, v5, x5, x6, x7, x8, x9]) := by kernel_rfl
def spec_l38Copy_S : Sig := ⟨[.val true [.sc, .sc, .sl [.sc, .sc], .sl [.sl [.sc, .sc]], .sl [.sc], .sc, .sc, .sc, .sc, .sc]], [(true, [.sc, .sc, .sl [.sc, .sc], .sl [.sl [.sc, .sc]], .sl [.sc], .sc, .sc, .sc, .sc, .sc])], F_l38Copy⟩
def spec_l38Copy_hs : List NF := []

def spec_Wind_L : L := .seq (.rg []) (.seq (.seq (.rg [⟨[], .call F_SpringOk 0 1, [.v 0, .v 1, .v 2], 1⟩, ⟨[], .un .not, [.v 4], 1⟩, ⟨[(.v 5, false)], .call F_l01In 0 1, [.v 3, .k (.int .i64 0), .k (.int .i64 100)], 1⟩, ⟨[(.v 5, false)], .un .not, [.v 6], 1⟩, ⟨[], .pick, [.v 5, .k (.bool true), .v 7], 1⟩]) (.ite (.v 8) (.seq (.rg []) (.ret [.v 0, .v 1, .v 2, .k (.int .i64 (-1))])) (.skip))) (.seq (.rg [⟨[], .bin .sub, [.v 1, .v 0], 1⟩, ⟨[], .mn, [.v 3, .v 9], 1⟩]) (.seq (.rg [⟨[], .bin .add, [.v 0, .v 10], 1⟩]) (.seq (.rg []) (.ret [.v 11, .v 1, .v 2, .v 10])))))
theorem spec_Wind_L_sh (Q : QT) (x0 x1 x2 x3 : V) : shL spec_Wind_L Q [x0, x1, x2, x3] = (
  P1 (.call F_SpringOk 0 1) [x0, x1, x2] fun v0 =>
  P1 (.un .not) [v0] fun v1 =>
  ifB v1 (
    Q .ret [x0, x1, x2, .int .i64 (-1)]) (
    P1 (.call F_l01In 0 1) [x3, .int .i64 0, .int .i64 100] fun v2 =>
    P1 (.un .not) [v2] fun v3 =>
    ifB v3 (
      Q .ret [x0, x1, x2, .int .i64 (-1)]) (
      P1 (.bin .sub) [x1, x0] fun v4 =>
      P1 (.mn) [x3, v4] fun v5 =>
      P1 (.bin .add) [x0, v5] fun v6 =>
      Q .ret [v6, x1, x2, v5]))) := by kernel_rfl
def spec_Wind_S : Sig := ⟨[.val true [.sc, .sc, .sc], .val false [.sc]], [(true, [.sc, .sc, .sc]), (false, [.sc])], F_Wind⟩
def spec_Wind_hs : List NF := []

def spec_Crank_L : L := .seq (.rg []) (.seq (.rg [⟨[], .call F_l38Copy 0 10, [.v 0, .v 1, .v 2, .v 3, .v 4, .v 5, .v 6, .v 7, .v 8, .v 9], 10⟩]) (.seq (.seq (.rg [⟨[], .call F_WorkshopOk 0 1, [.v 0, .v 1, .v 2, .v 3, .v 4, .v 5, .v 6, .v 7, .v 8, .v 9], 1⟩, ⟨[], .un .not, [.v 21], 1⟩]) (.ite (.v 22) (.seq (.rg []) (.ret [.v 11, .v 12, .v 13, .v 14, .v 15, .v 16, .v 17, .v 18, .v 19, .v 20, .k (.int .i64 (-1))])) (.skip))) (.seq (.rg [⟨[], .call F_Wind 0 4, [.v 5, .v 6, .v 7, .v 10], 4⟩]) (.seq (.rg []) (.seq (.rg []) (.ret [.v 11, .v 12, .v 13, .v 14, .v 15, .v 23, .v 24, .v 25, .v 19, .v 20, .v 26]))))))
theorem spec_Crank_L_sh (Q : QT) (x0 x1 x2 x3 x4 x5 x6 x7 x8 x9 x10 : V) : shL spec_Crank_L Q [x0, x1, x2, x3, x4, x5, x6, x7, x8, x9, x10] = (
  P10 (.call F_l38Copy 0 10) [x0, x1, x2, x3, x4, x5, x6, x7, x8, x9] fun v0 v1 v2 v3 v4 v5 v6 v7 v8 v9 =>
  P1 (.call F_WorkshopOk 0 1) [x0, x1, x2, x3, x4, x5, x6, x7, x8, x9] fun v10 =>
  P1 (.un .not) [v10] fun v11 =>
  ifB v11 (
    Q .ret [v0, v1, v2, v3, v4, v5, v6, v7, v8, v9, .int .i64 (-1)]) (
    P4 (.call F_Wind 0 4) [x5, x6, x7, x10] fun v12 v13 v14 v15 =>
    Q .ret [v0, v1, v2, v3, v4, v12, v13, v14, v8, v9, v15])) := by kernel_rfl
def spec_Crank_S : Sig := ⟨[.val true [.sc, .sc, .sl [.sc, .sc], .sl [.sl [.sc, .sc]], .sl [.sc], .sc, .sc, .sc, .sc, .sc], .val false [.sc]], [(true, [.sc, .sc, .sl [.sc, .sc], .sl [.sl [.sc, .sc]], .sl [.sc], .sc, .sc, .sc, .sc, .sc]), (false, [.sc])], F_Crank⟩
def spec_Crank_hs : List NF := []

def impl_copyWorkshop_L : L := .seq (.rg []) (.seq (.rg [⟨[], .call F_copyBench 0 4, [.v 0, .v 1, .v 2, .v 3], 4⟩]) (.seq (.rg [⟨[], .call F_copyInts 0 1, [.v 4], 1⟩]) (.seq (.rg []) (.ret [.v 10, .v 11, .v 12, .v 13, .v 14, .v 5, .v 6, .v 7, .v 8, .v 9]))))
theorem impl_copyWorkshop_L_sh (Q : QT) (x0 x1 x2 x3 x4 x5 x6 x7 x8 x9 : V) : shL impl_copyWorkshop_L Q [x0, x1, x2, x3, x4, x5, x6, x7, x8, x9] = (
  P4 (.call F_copyBench 0 4) [x0, x1, x2, x3] fun v0 v1 v2 v3 =>
  P1 (.call F_copyInts 0 1) [x4] fun v4 =>
  Q .ret [v0, v1, v2, v3, v4, x5, x6, x7, x8, x9]) := by kernel_rfl
def impl_copyWorkshop_S : Sig := ⟨[.val true [.sc, .sc, .sl [.sc, .sc], .sl [.sl [.sc, .sc]], .sl [.sc], .sc, .sc, .sc, .sc, .sc]], [(true, [.sc, .sc, .sl [.sc, .sc], .sl [.sl [.sc, .sc]], .sl [.sc], .sc, .sc, .sc, .sc, .sc])], F_copyWorkshop⟩
def impl_copyWorkshop_hs : List NF := []

def impl_Wind_L : L := .seq (.rg []) (.seq (.seq (.rg [⟨[], .call F_SpringOk 0 1, [.v 0, .v 1, .v 2], 1⟩, ⟨[], .un .not, [.v 4], 1⟩, ⟨[(.v 5, false)], .call F_within 0 1, [.v 3, .k (.int .i64 0), .k (.int .i64 100)], 1⟩, ⟨[(.v 5, false)], .un .not, [.v 6], 1⟩, ⟨[], .pick, [.v 5, .k (.bool true), .v 7], 1⟩]) (.ite (.v 8) (.seq (.rg []) (.ret [.v 0, .v 1, .v 2, .k (.int .i64 (-1))])) (.skip))) (.seq (.rg [⟨[], .bin .sub, [.v 1, .v 0], 1⟩, ⟨[], .mn, [.v 3, .v 9], 1⟩]) (.seq (.rg [⟨[], .bin .add, [.v 0, .v 10], 1⟩]) (.seq (.rg []) (.ret [.v 11, .v 1, .v 2, .v 10])))))
theorem impl_Wind_L_sh (Q : QT) (x0 x1 x2 x3 : V) : shL impl_Wind_L Q [x0, x1, x2, x3] = (
  P1 (.call F_SpringOk 0 1) [x0, x1, x2] fun v0 =>
  P1 (.un .not) [v0] fun v1 =>
  ifB v1 (
    Q .ret [x0, x1, x2, .int .i64 (-1)]) (
    P1 (.call F_within 0 1) [x3, .int .i64 0, .int .i64 100] fun v2 =>
    P1 (.un .not) [v2] fun v3 =>
    ifB v3 (
      Q .ret [x0, x1, x2, .int .i64 (-1)]) (
      P1 (.bin .sub) [x1, x0] fun v4 =>
      P1 (.mn) [x3, v4] fun v5 =>
      P1 (.bin .add) [x0, v5] fun v6 =>
      Q .ret [v6, x1, x2, v5]))) := by kernel_rfl
def impl_Wind_S : Sig := ⟨[.val true [.sc, .sc, .sc], .val false [.sc]], [(true, [.sc, .sc, .sc]), (false, [.sc])], F_Wind⟩
def impl_Wind_hs : List NF := []

def impl_Crank_L : L := .seq (.rg []) (.seq (.rg [⟨[], .call F_copyWorkshop 0 10, [.v 0, .v 1, .v 2, .v 3, .v 4, .v 5, .v 6, .v 7, .v 8, .v 9], 10⟩]) (.seq (.rg [⟨[], .call F_Wind 0 4, [.v 5, .v 6, .v 7, .v 10], 4⟩]) (.seq (.seq (.rg [⟨[], .call F_WorkshopOk 0 1, [.v 0, .v 1, .v 2, .v 3, .v 4, .v 5, .v 6, .v 7, .v 8, .v 9], 1⟩, ⟨[], .un .not, [.v 25], 1⟩, ⟨[(.v 26, false)], .bin .lss, [.v 24, .k (.int .i64 0)], 1⟩, ⟨[], .pick, [.v 26, .k (.bool true), .v 27], 1⟩]) (.ite (.v 28) (.seq (.rg []) (.ret [.v 11, .v 12, .v 13, .v 14, .v 15, .v 16, .v 17, .v 18, .v 19, .v 20, .k (.int .i64 (-1))])) (.skip))) (.seq (.rg []) (.seq (.rg []) (.ret [.v 11, .v 12, .v 13, .v 14, .v 15, .v 21, .v 22, .v 23, .v 19, .v 20, .v 24]))))))
theorem impl_Crank_L_sh (Q : QT) (x0 x1 x2 x3 x4 x5 x6 x7 x8 x9 x10 : V) : shL impl_Crank_L Q [x0, x1, x2, x3, x4, x5, x6, x7, x8, x9, x10] = (
  P10 (.call F_copyWorkshop 0 10) [x0, x1, x2, x3, x4, x5, x6, x7, x8, x9] fun v0 v1 v2 v3 v4 v5 v6 v7 v8 v9 =>
  P4 (.call F_Wind 0 4) [x5, x6, x7, x10] fun v10 v11 v12 v13 =>
  P1 (.call F_WorkshopOk 0 1) [x0, x1, x2, x3, x4, x5, x6, x7, x8, x9] fun v14 =>
  P1 (.un .not) [v14] fun v15 =>
  ifB v15 (
    Q .ret [v0, v1, v2, v3, v4, v5, v6, v7, v8, v9, .int .i64 (-1)]) (
    P1 (.bin .lss) [v13, .int .i64 0] fun v16 =>
    ifB v16 (
      Q .ret [v0, v1, v2, v3, v4, v5, v6, v7, v8, v9, .int .i64 (-1)]) (
      Q .ret [v0, v1, v2, v3, v4, v10, v11, v12, v8, v9, v13]))) := by kernel_rfl
def impl_Crank_S : Sig := ⟨[.val true [.sc, .sc, .sl [.sc, .sc], .sl [.sl [.sc, .sc]], .sl [.sc], .sc, .sc, .sc, .sc, .sc], .val false [.sc]], [(true, [.sc, .sc, .sl [.sc, .sc], .sl [.sl [.sc, .sc]], .sl [.sc], .sc, .sc, .sc, .sc, .sc]), (false, [.sc])], F_Crank⟩
def impl_Crank_hs : List NF := []

def laws_FnExactCrank_r1 : L := .seq (.rg []) (.seq (.rg [⟨[], .callN F_markWorkshop 3 1, [.v 44, .v 45, .v 46, .v 47, .v 48, .v 49, .v 50, .v 51, .v 52, .v 53, .k (.int .i64 1), .v 46, .v 47, .v 48], 4⟩]) (.seq (.rg []) (.seq (.rg [⟨[], .call F_heldWorkshop 0 1, [.v 44, .v 45, .v 82, .v 83, .v 84, .v 49, .v 50, .v 51, .v 52, .v 53, .k (.int .i64 1)], 1⟩]) (.seq (.seq (.rg [⟨[], .bin .lss, [.v 85, .k (.int .i64 0)], 1⟩]) (.ite (.v 86) (.seq (.rg []) (.ret [.k (.bool false)])) (.skip))) (.seq (.seq (.rg [⟨[], .bin .neq, [.v 85, .v 81], 1⟩]) (.ite (.v 87) (.seq (.rg []) (.ret [.k (.bool false)])) (.skip))) (.seq (.rg [⟨[], .call F_toWorkshop 0 10, [.v 0, .v 1, .v 2, .v 3, .v 4, .v 5, .v 6, .v 7, .v 8, .v 9], 10⟩, ⟨[], .call F_Crank 0 11, [.v 88, .v 89, .v 90, .v 91, .v 92, .v 93, .v 94, .v 95, .v 96, .v 97, .v 10], 11⟩]) (.seq (.seq (.rg [⟨[], .call F_eqWorkshop 0 1, [.v 98, .v 99, .v 100, .v 101, .v 102, .v 103, .v 104, .v 105, .v 106, .v 107, .v 23, .v 24, .v 25, .v 26, .v 27, .v 28, .v 29, .v 30, .v 31, .v 32], 1⟩, ⟨[], .un .not, [.v 109], 1⟩, ⟨[(.v 110, false)], .bin .neq, [.v 108, .v 33], 1⟩, ⟨[], .pick, [.v 110, .k (.bool true), .v 111], 1⟩]) (.ite (.v 112) (.seq (.rg []) (.ret [.k (.bool false)])) (.skip))) (.seq (.rg []) (.seq (.rg [⟨[], .call F_heldWorkshop 0 1, [.v 44, .v 45, .v 82, .v 83, .v 84, .v 49, .v 50, .v 51, .v 52, .v 53, .k (.int .i64 1)], 1⟩]) (.seq (.seq (.rg [⟨[], .bin .lss, [.v 113, .k (.int .i64 0)], 1⟩]) (.ite (.v 114) (.seq (.rg []) (.ret [.k (.bool false)])) (.skip))) (.seq (.seq (.rg [⟨[], .bin .neq, [.v 113, .v 81], 1⟩]) (.ite (.v 115) (.seq (.rg []) (.ret [.k (.bool false)])) (.skip))) (.seq (.rg []) (.ret [.k (.bool true)])))))))))))))
theorem laws_FnExactCrank_r1_sh (Q : QT) (x0 x1 x2 x3 x4 x5 x6 x7 x8 x9 x10 x11 x12 x13 x14 x15 x16 x17 x18 x19 x20 x21 x22 x23 x24 x25 x26 x27 x28 x29 x30 x31 x32 x33 x34 x35 x36 x37 x38 x39 x40 x41 x42 x43 x44 x45 x46 x47 x48 x49 x50 x51 x52 x53 x54 x55 x56 x57 x58 x59 x60 x61 x62 x63 x64 x65 x66 x67 x68 x69 x70 x71 x72 x73 x74 x75 x76 x77 x78 x79 x80 : V) : shL laws_FnExactCrank_r1 Q [x0, x1, x2, x3, x4, x5, x6, x7, x8, x9, x10, x11, x12, x13, x14, x15, x16, x17, x18, x19, x20, x21, x22, x23, x24, x25, x26, x27, x28, x29, x30, x31, x32, x33, x34, x35, x36, x37, x38, x39, x40, x41, x42, x43, x44, x45, x46, x47, x48, x49, x50, x51, x52, x53, x54, x55, x56, x57, x58, x59, x60, x61, x62, x63, x64, x65, x66, x67, x68, x69, x70, x71, x72, x73, x74, x75, x76, x77, x78, x79, x80] = (
  P4 (.callN F_markWorkshop 3 1) [x44, x45, x46, x47, x48, x49, x50, x51, x52, x53, .int .i64 1, x46, x47, x48] fun v0 v1 v2 v3 =>
  P1 (.call F_heldWorkshop 0 1) [x44, x45, v1, v2, v3, x49, x50, x51, x52, x53, .int .i64 1] fun v4 =>
  P1 (.bin .lss) [v4, .int .i64 0] fun v5 =>
  ifB v5 (
    Q .ret [.bool false]) (
    P1 (.bin .neq) [v4, v0] fun v6 =>
    ifB v6 (
      Q .ret [.bool false]) (
      P10 (.call F_toWorkshop 0 10) [x0, x1, x2, x3, x4, x5, x6, x7, x8, x9] fun v7 v8 v9 v10 v11 v12 v13 v14 v15 v16 =>
      P11 (.call F_Crank 0 11) [v7, v8, v9, v10, v11, v12, v13, v14, v15, v16, x10] fun v17 v18 v19 v20 v21 v22 v23 v24 v25 v26 v27 =>
      P1 (.call F_eqWorkshop 0 1) [v17, v18, v19, v20, v21, v22, v23, v24, v25, v26, x23, x24, x25, x26, x27, x28, x29, x30, x31, x32] fun v28 =>
      P1 (.un .not) [v28] fun v29 =>
      ifB v29 (
        Q .ret [.bool false]) (
        P1 (.bin .neq) [v27, x33] fun v30 =>
        ifB v30 (
          Q .ret [.bool false]) (
          P1 (.call F_heldWorkshop 0 1) [x44, x45, v1, v2, v3, x49, x50, x51, x52, x53, .int .i64 1] fun v31 =>
          P1 (.bin .lss) [v31, .int .i64 0] fun v32 =>
          ifB v32 (
            Q .ret [.bool false]) (
            P1 (.bin .neq) [v31, v0] fun v33 =>
            ifB v33 (
              Q .ret [.bool false]) (
              Q .ret [.bool true]))))))) := by kernel_rfl

def laws_FnExactCrank_r0 : L := .seq (.seq (.rg [⟨[], .call F_toWorkshop 0 10, [.v 0, .v 1, .v 2, .v 3, .v 4, .v 5, .v 6, .v 7, .v 8, .v 9], 10⟩, ⟨[], .call F_eqWorkshop 0 1, [.v 34, .v 35, .v 36, .v 37, .v 38, .v 39, .v 40, .v 41, .v 42, .v 43, .v 59, .v 60, .v 61, .v 62, .v 63, .v 64, .v 65, .v 66, .v 67, .v 68], 1⟩, ⟨[], .un .not, [.v 69], 1⟩]) (.ite (.v 70) (.seq (.rg []) (.ret [.k (.bool false)])) (.skip))) (.seq (.rg []) (.seq (.rg [⟨[], .callN F_markWorkshop 3 1, [.v 34, .v 35, .v 36, .v 37, .v 38, .v 39, .v 40, .v 41, .v 42, .v 43, .k (.int .i64 1), .v 36, .v 37, .v 38], 4⟩]) (.seq (.seq (.rg [⟨[], .bin .lss, [.v 71, .k (.int .i64 0)], 1⟩, ⟨[(.v 75, false)], .call F_eqWorkshop 0 1, [.v 44, .v 45, .v 46, .v 47, .v 48, .v 49, .v 50, .v 51, .v 52, .v 53, .v 23, .v 24, .v 25, .v 26, .v 27, .v 28, .v 29, .v 30, .v 31, .v 32], 1⟩, ⟨[(.v 75, false)], .un .not, [.v 76], 1⟩, ⟨[], .pick, [.v 75, .k (.bool true), .v 77], 1⟩, ⟨[(.v 78, false)], .bin .neq, [.v 54, .v 33], 1⟩, ⟨[], .pick, [.v 78, .k (.bool true), .v 79], 1⟩]) (.ite (.v 80) (.seq (.rg []) (.ret [.k (.bool false)])) (.skip))) (laws_FnExactCrank_r1))))
theorem laws_FnExactCrank_r0_sh (Q : QT) (x0 x1 x2 x3 x4 x5 x6 x7 x8 x9 x10 x11 x12 x13 x14 x15 x16 x17 x18 x19 x20 x21 x22 x23 x24 x25 x26 x27 x28 x29 x30 x31 x32 x33 x34 x35 x36 x37 x38 x39 x40 x41 x42 x43 x44 x45 x46 x47 x48 x49 x50 x51 x52 x53 x54 x55 x56 x57 x58 : V) : shL laws_FnExactCrank_r0 Q [x0, x1, x2, x3, x4, x5, x6, x7, x8, x9, x10, x11, x12, x13, x14, x15, x16, x17, x18, x19, x20, x21, x22, x23, x24, x25, x26, x27, x28, x29, x30, x31, x32, x33, x34, x35, x36, x37, x38, x39, x40, x41, x42, x43, x44, x45, x46, x47, x48, x49, x50, x51, x52, x53, x54, x55, x56, x57, x58] = (
  P10 (.call F_toWorkshop 0 10) [x0, x1, x2, x3, x4, x5, x6, x7, x8, x9] fun v0 v1 v2 v3 v4 v5 v6 v7 v8 v9 =>
  P1 (.call F_eqWorkshop 0 1) [x34, x35, x36, x37, x38, x39, x40, x41, x42, x43, v0, v1, v2, v3, v4, v5, v6, v7, v8, v9] fun v10 =>
  P1 (.un .not) [v10] fun v11 =>
  ifB v11 (
    Q .ret [.bool false]) (
    P4 (.callN F_markWorkshop 3 1) [x34, x35, x36, x37, x38, x39, x40, x41, x42, x43, .int .i64 1, x36, x37, x38] fun v12 v13 v14 v15 =>
    P1 (.bin .lss) [v12, .int .i64 0] fun v16 =>
    ifB v16 (
      Q .ret [.bool false]) (
      P1 (.call F_eqWorkshop 0 1) [x44, x45, x46, x47, x48, x49, x50, x51, x52, x53, x23, x24, x25, x26, x27, x28, x29, x30, x31, x32] fun v17 =>
      P1 (.un .not) [v17] fun v18 =>
      ifB v18 (
        Q .ret [.bool false]) (
        P1 (.bin .neq) [x54, x33] fun v19 =>
        ifB v19 (
          Q .ret [.bool false]) (
          shL laws_FnExactCrank_r1 Q [x0, x1, x2, x3, x4, x5, x6, x7, x8, x9, x10, x11, x12, x13, x14, x15, x16, x17, x18, x19, x20, x21, x22, x23, x24, x25, x26, x27, x28, x29, x30, x31, x32, x33, x34, x35, x36, x37, x38, x39, x40, x41, x42, x43, x44, x45, x46, x47, x48, x49, x50, x51, x52, x53, x54, x55, x56, x57, x58, v0, v1, v2, v3, v4, v5, v6, v7, v8, v9, v10, .bool false, v12, v13, v14, v15, .bool false, v17, v18, .bool false, v19, .bool false]))))) := by kernel_rfl

def laws_FnExactCrank_L : L := .seq (.rg []) (.seq (.rg []) (.seq (.rg [⟨[], .call F_szWorkshop 0 1, [.v 0, .v 1, .v 2, .v 3, .v 4, .v 5, .v 6, .v 7, .v 8, .v 9, .k (.int .i64 1048576)], 1⟩]) (.seq (.seq (.rg [⟨[], .bin .lss, [.v 11, .k (.int .i64 0)], 1⟩]) (.ite (.v 12) (.seq (.rg []) (.ret [.k (.bool true)])) (.skip))) (.seq (.rg [⟨[], .call F_toWorkshop 0 10, [.v 0, .v 1, .v 2, .v 3, .v 4, .v 5, .v 6, .v 7, .v 8, .v 9], 10⟩, ⟨[], .call F_Crank 0 11, [.v 13, .v 14, .v 15, .v 16, .v 17, .v 18, .v 19, .v 20, .v 21, .v 22, .v 10], 11⟩]) (.seq (.rg [⟨[], .call F_toWorkshop 0 10, [.v 0, .v 1, .v 2, .v 3, .v 4, .v 5, .v 6, .v 7, .v 8, .v 9], 10⟩]) (.seq (.rg [⟨[], .call F_Crank 0 11, [.v 34, .v 35, .v 36, .v 37, .v 38, .v 39, .v 40, .v 41, .v 42, .v 43, .v 10], 11⟩]) (.seq (.seq (.rg [⟨[], .call F_eqWorkshop 0 1, [.v 44, .v 45, .v 46, .v 47, .v 48, .v 49, .v 50, .v 51, .v 52, .v 53, .v 23, .v 24, .v 25, .v 26, .v 27, .v 28, .v 29, .v 30, .v 31, .v 32], 1⟩, ⟨[], .un .not, [.v 55], 1⟩, ⟨[(.v 56, false)], .bin .neq, [.v 54, .v 33], 1⟩, ⟨[], .pick, [.v 56, .k (.bool true), .v 57], 1⟩]) (.ite (.v 58) (.seq (.rg []) (.ret [.k (.bool false)])) (.skip))) (laws_FnExactCrank_r0))))))))
theorem laws_FnExactCrank_L_sh (Q : QT) (x0 x1 x2 x3 x4 x5 x6 x7 x8 x9 x10 : V) : shL laws_FnExactCrank_L Q [x0, x1, x2, x3, x4, x5, x6, x7, x8, x9, x10] = (
  P1 (.call F_szWorkshop 0 1) [x0, x1, x2, x3, x4, x5, x6, x7, x8, x9, .int .i64 1048576] fun v0 =>
  P1 (.bin .lss) [v0, .int .i64 0] fun v1 =>
  ifB v1 (
    Q .ret [.bool true]) (
    P10 (.call F_toWorkshop 0 10) [x0, x1, x2, x3, x4, x5, x6, x7, x8, x9] fun v2 v3 v4 v5 v6 v7 v8 v9 v10 v11 =>
    P11 (.call F_Crank 0 11) [v2, v3, v4, v5, v6, v7, v8, v9, v10, v11, x10] fun v12 v13 v14 v15 v16 v17 v18 v19 v20 v21 v22 =>
    P10 (.call F_toWorkshop 0 10) [x0, x1, x2, x3, x4, x5, x6, x7, x8, x9] fun v23 v24 v25 v26 v27 v28 v29 v30 v31 v32 =>
    P11 (.call F_Crank 0 11) [v23, v24, v25, v26, v27, v28, v29, v30, v31, v32, x10] fun v33 v34 v35 v36 v37 v38 v39 v40 v41 v42 v43 =>
    P1 (.call F_eqWorkshop 0 1) [v33, v34, v35, v36, v37, v38, v39, v40, v41, v42, v12, v13, v14, v15, v16, v17, v18, v19, v20, v21] fun v44 =>
    P1 (.un .not) [v44] fun v45 =>
    ifB v45 (
      Q .ret [.bool false]) (
      P1 (.bin .neq) [v43, v22] fun v46 =>
      ifB v46 (
        Q .ret [.bool false]) (
        shL laws_FnExactCrank_r0 Q [x0, x1, x2, x3, x4, x5, x6, x7, x8, x9, x10, v0, .bool false, v2, v3, v4, v5, v6, v7, v8, v9, v10, v11, v12, v13, v14, v15, v16, v17, v18, v19, v20, v21, v22, v23, v24, v25, v26, v27, v28, v29, v30, v31, v32, v33, v34, v35, v36, v37, v38, v39, v40, v41, v42, v43, v44, .bool false, v46, .bool false])))) := by kernel_rfl
def laws_FnExactCrank_S : Sig := ⟨[.val true [.sc, .sc, .sl [.sc, .sc], .sl [.sl [.sc, .sc]], .sl [.sc], .sc, .sc, .sc, .sc, .sc], .val false [.sc]], [(false, [.sc])], F_FnExactCrank⟩
def laws_FnExactCrank_hs : List NF := []

def spec_RemovePin_L : L := .seq (.rg []) (.seq (.rg [⟨[], .call F_l38Copy 0 10, [.v 0, .v 1, .v 2, .v 3, .v 4, .v 5, .v 6, .v 7, .v 8, .v 9], 10⟩]) (.seq (.rg [⟨[], .call F_TakePin 0 5, [.v 0, .v 1, .v 2, .v 3, .v 10], 5⟩]) (.seq (.rg []) (.seq (.seq (.rg [⟨[], .call F_WorkshopOk 0 1, [.v 0, .v 1, .v 2, .v 3, .v 4, .v 5, .v 6, .v 7, .v 8, .v 9], 1⟩, ⟨[], .un .not, [.v 26], 1⟩, ⟨[(.v 27, false)], .un .not, [.v 25], 1⟩, ⟨[], .pick, [.v 27, .k (.bool true), .v 28], 1⟩, ⟨[(.v 29, false)], .call F_WorkshopOk 0 1, [.v 21, .v 22, .v 23, .v 24, .v 15, .v 16, .v 17, .v 18, .v 19, .v 20], 1⟩, ⟨[(.v 29, false)], .un .not, [.v 30], 1⟩, ⟨[], .pick, [.v 29, .k (.bool true), .v 31], 1⟩]) (.ite (.v 32) (.seq (.rg [⟨[], .call F_l38Copy 0 10, [.v 0, .v 1, .v 2, .v 3, .v 4, .v 5, .v 6, .v 7, .v 8, .v 9], 10⟩]) (.ret [.v 33, .v 34, .v 35, .v 36, .v 37, .v 38, .v 39, .v 40, .v 41, .v 42, .k (.bool false)])) (.skip))) (.seq (.rg []) (.ret [.v 21, .v 22, .v 23, .v 24, .v 15, .v 16, .v 17, .v 18, .v 19, .v 20, .k (.bool true)]))))))
theorem spec_RemovePin_L_sh (Q : QT) (x0 x1 x2 x3 x4 x5 x6 x7 x8 x9 x10 : V) : shL spec_RemovePin_L Q [x0, x1, x2, x3, x4, x5, x6, x7, x8, x9, x10] = (
  P10 (.call F_l38Copy 0 10) [x0, x1, x2, x3, x4, x5, x6, x7, x8, x9] fun _ _ _ _ v4 v5 v6 v7 v8 v9 =>
  P5 (.call F_TakePin 0 5) [x0, x1, x2, x3, x10] fun v10 v11 v12 v13 v14 =>
  P1 (.call F_WorkshopOk 0 1) [x0, x1, x2, x3, x4, x5, x6, x7, x8, x9] fun v15 =>
  P1 (.un .not) [v15] fun v16 =>
  ifB v16 (
    P10 (.call F_l38Copy 0 10) [x0, x1, x2, x3, x4, x5, x6, x7, x8, x9] fun v17 v18 v19 v20 v21 v22 v23 v24 v25 v26 =>
    Q .ret [v17, v18, v19, v20, v21, v22, v23, v24, v25, v26, .bool false]) (
    P1 (.un .not) [v14] fun v27 =>
    ifB v27 (
      P10 (.call F_l38Copy 0 10) [x0, x1, x2, x3, x4, x5, x6, x7, x8, x9] fun v28 v29 v30 v31 v32 v33 v34 v35 v36 v37 =>
      Q .ret [v28, v29, v30, v31, v32, v33, v34, v35, v36, v37, .bool false]) (
      P1 (.call F_WorkshopOk 0 1) [v10, v11, v12, v13, v4, v5, v6, v7, v8, v9] fun v38 =>
      P1 (.un .not) [v38] fun v39 =>
      ifB v39 (
        P10 (.call F_l38Copy 0 10) [x0, x1, x2, x3, x4, x5, x6, x7, x8, x9] fun v40 v41 v42 v43 v44 v45 v46 v47 v48 v49 =>
        Q .ret [v40, v41, v42, v43, v44, v45, v46, v47, v48, v49, .bool false]) (
        Q .ret [v10, v11, v12, v13, v4, v5, v6, v7, v8, v9, .bool true])))) := by kernel_rfl
def spec_RemovePin_S : Sig := ⟨[.val true [.sc, .sc, .sl [.sc, .sc], .sl [.sl [.sc, .sc]], .sl [.sc], .sc, .sc, .sc, .sc, .sc], .val false [.sc]], [(true, [.sc, .sc, .sl [.sc, .sc], .sl [.sl [.sc, .sc]], .sl [.sc], .sc, .sc, .sc, .sc, .sc]), (false, [.sc])], F_RemovePin⟩
def spec_RemovePin_hs : List NF := []

def impl_withBench_L : L := .seq (.rg []) (.seq (.rg [⟨[], .call F_copyWorkshop 0 10, [.v 0, .v 1, .v 2, .v 3, .v 4, .v 5, .v 6, .v 7, .v 8, .v 9], 10⟩]) (.seq (.rg []) (.seq (.rg [⟨[], .bin .sub, [.v 24, .v 14], 1⟩]) (.seq (.seq (.rg [⟨[], .un .not, [.v 15], 1⟩, ⟨[(.v 27, false)], .call F_WorkshopOk 0 1, [.v 0, .v 1, .v 2, .v 3, .v 4, .v 5, .v 6, .v 7, .v 8, .v 9], 1⟩, ⟨[(.v 27, false)], .un .not, [.v 28], 1⟩, ⟨[], .pick, [.v 27, .k (.bool true), .v 29], 1⟩, ⟨[(.v 30, false)], .call F_WorkshopOk 0 1, [.v 10, .v 11, .v 12, .v 13, .v 20, .v 21, .v 22, .v 23, .v 26, .v 25], 1⟩, ⟨[(.v 30, false)], .un .not, [.v 31], 1⟩, ⟨[], .pick, [.v 30, .k (.bool true), .v 32], 1⟩]) (.ite (.v 33) (.seq (.rg [⟨[], .call F_copyWorkshop 0 10, [.v 0, .v 1, .v 2, .v 3, .v 4, .v 5, .v 6, .v 7, .v 8, .v 9], 10⟩]) (.ret [.v 34, .v 35, .v 36, .v 37, .v 38, .v 39, .v 40, .v 41, .v 42, .v 43, .k (.bool false)])) (.skip))) (.seq (.rg []) (.ret [.v 10, .v 11, .v 12, .v 13, .v 20, .v 21, .v 22, .v 23, .v 26, .v 25, .k (.bool true)]))))))
theorem impl_withBench_L_sh (Q : QT) (x0 x1 x2 x3 x4 x5 x6 x7 x8 x9 x10 x11 x12 x13 x14 x15 : V) : shL impl_withBench_L Q [x0, x1, x2, x3, x4, x5, x6, x7, x8, x9, x10, x11, x12, x13, x14, x15] = (
  P10 (.call F_copyWorkshop 0 10) [x0, x1, x2, x3, x4, x5, x6, x7, x8, x9] fun _ _ _ _ v4 v5 v6 v7 v8 v9 =>
  P1 (.bin .sub) [v8, x14] fun v10 =>
  P1 (.un .not) [x15] fun v11 =>
  ifB v11 (
    P10 (.call F_copyWorkshop 0 10) [x0, x1, x2, x3, x4, x5, x6, x7, x8, x9] fun v12 v13 v14 v15 v16 v17 v18 v19 v20 v21 =>
    Q .ret [v12, v13, v14, v15, v16, v17, v18, v19, v20, v21, .bool false]) (
    P1 (.call F_WorkshopOk 0 1) [x0, x1, x2, x3, x4, x5, x6, x7, x8, x9] fun v22 =>
    P1 (.un .not) [v22] fun v23 =>
    ifB v23 (
      P10 (.call F_copyWorkshop 0 10) [x0, x1, x2, x3, x4, x5, x6, x7, x8, x9] fun v24 v25 v26 v27 v28 v29 v30 v31 v32 v33 =>
      Q .ret [v24, v25, v26, v27, v28, v29, v30, v31, v32, v33, .bool false]) (
      P1 (.call F_WorkshopOk 0 1) [x10, x11, x12, x13, v4, v5, v6, v7, v10, v9] fun v34 =>
      P1 (.un .not) [v34] fun v35 =>
      ifB v35 (
        P10 (.call F_copyWorkshop 0 10) [x0, x1, x2, x3, x4, x5, x6, x7, x8, x9] fun v36 v37 v38 v39 v40 v41 v42 v43 v44 v45 =>
        Q .ret [v36, v37, v38, v39, v40, v41, v42, v43, v44, v45, .bool false]) (
        Q .ret [x10, x11, x12, x13, v4, v5, v6, v7, v10, v9, .bool true])))) := by kernel_rfl
def impl_withBench_S : Sig := ⟨[.val true [.sc, .sc, .sl [.sc, .sc], .sl [.sl [.sc, .sc]], .sl [.sc], .sc, .sc, .sc, .sc, .sc], .tk true [.sc, .sc, .sl [.sc, .sc], .sl [.sl [.sc, .sc]]], .val false [.sc], .val false [.sc]], [(true, [.sc, .sc, .sl [.sc, .sc], .sl [.sl [.sc, .sc]], .sl [.sc], .sc, .sc, .sc, .sc, .sc]), (false, [.sc])], F_withBench⟩
def impl_withBench_hs : List NF := []

def impl_RemovePin_L : L := .seq (.rg []) (.seq (.rg [⟨[], .call F_TakePin 0 5, [.v 0, .v 1, .v 2, .v 3, .v 10], 5⟩]) (.seq (.rg [⟨[], .call F_withBench 0 11, [.v 0, .v 1, .v 2, .v 3, .v 4, .v 5, .v 6, .v 7, .v 8, .v 9, .v 11, .v 12, .v 13, .v 14, .k (.int .i64 0), .v 15], 11⟩]) (.ret [.v 16, .v 17, .v 18, .v 19, .v 20, .v 21, .v 22, .v 23, .v 24, .v 25, .v 26])))
theorem impl_RemovePin_L_sh (Q : QT) (x0 x1 x2 x3 x4 x5 x6 x7 x8 x9 x10 : V) : shL impl_RemovePin_L Q [x0, x1, x2, x3, x4, x5, x6, x7, x8, x9, x10] = (
  P5 (.call F_TakePin 0 5) [x0, x1, x2, x3, x10] fun v0 v1 v2 v3 v4 =>
  P11 (.call F_withBench 0 11) [x0, x1, x2, x3, x4, x5, x6, x7, x8, x9, v0, v1, v2, v3, .int .i64 0, v4] fun v5 v6 v7 v8 v9 v10 v11 v12 v13 v14 v15 =>
  Q .ret [v5, v6, v7, v8, v9, v10, v11, v12, v13, v14, v15]) := by kernel_rfl
def impl_RemovePin_S : Sig := ⟨[.val true [.sc, .sc, .sl [.sc, .sc], .sl [.sl [.sc, .sc]], .sl [.sc], .sc, .sc, .sc, .sc, .sc], .val false [.sc]], [(true, [.sc, .sc, .sl [.sc, .sc], .sl [.sl [.sc, .sc]], .sl [.sc], .sc, .sc, .sc, .sc, .sc]), (false, [.sc])], F_RemovePin⟩
def impl_RemovePin_hs : List NF := []

def laws_FnExactRemovePin_r1 : L := .seq (.rg []) (.seq (.rg [⟨[], .callN F_markWorkshop 3 1, [.v 44, .v 45, .v 46, .v 47, .v 48, .v 49, .v 50, .v 51, .v 52, .v 53, .k (.int .i64 1), .v 46, .v 47, .v 48], 4⟩]) (.seq (.rg []) (.seq (.rg [⟨[], .call F_heldWorkshop 0 1, [.v 44, .v 45, .v 82, .v 83, .v 84, .v 49, .v 50, .v 51, .v 52, .v 53, .k (.int .i64 1)], 1⟩]) (.seq (.seq (.rg [⟨[], .bin .lss, [.v 85, .k (.int .i64 0)], 1⟩]) (.ite (.v 86) (.seq (.rg []) (.ret [.k (.bool false)])) (.skip))) (.seq (.seq (.rg [⟨[], .bin .neq, [.v 85, .v 81], 1⟩]) (.ite (.v 87) (.seq (.rg []) (.ret [.k (.bool false)])) (.skip))) (.seq (.rg [⟨[], .call F_toWorkshop 0 10, [.v 0, .v 1, .v 2, .v 3, .v 4, .v 5, .v 6, .v 7, .v 8, .v 9], 10⟩, ⟨[], .call F_RemovePin 0 11, [.v 88, .v 89, .v 90, .v 91, .v 92, .v 93, .v 94, .v 95, .v 96, .v 97, .v 10], 11⟩]) (.seq (.seq (.rg [⟨[], .call F_eqWorkshop 0 1, [.v 98, .v 99, .v 100, .v 101, .v 102, .v 103, .v 104, .v 105, .v 106, .v 107, .v 23, .v 24, .v 25, .v 26, .v 27, .v 28, .v 29, .v 30, .v 31, .v 32], 1⟩, ⟨[], .un .not, [.v 109], 1⟩, ⟨[(.v 110, false)], .binb .neq, [.v 108, .v 33], 1⟩, ⟨[], .pick, [.v 110, .k (.bool true), .v 111], 1⟩]) (.ite (.v 112) (.seq (.rg []) (.ret [.k (.bool false)])) (.skip))) (.seq (.rg []) (.seq (.rg [⟨[], .call F_heldWorkshop 0 1, [.v 44, .v 45, .v 82, .v 83, .v 84, .v 49, .v 50, .v 51, .v 52, .v 53, .k (.int .i64 1)], 1⟩]) (.seq (.seq (.rg [⟨[], .bin .lss, [.v 113, .k (.int .i64 0)], 1⟩]) (.ite (.v 114) (.seq (.rg []) (.ret [.k (.bool false)])) (.skip))) (.seq (.seq (.rg [⟨[], .bin .neq, [.v 113, .v 81], 1⟩]) (.ite (.v 115) (.seq (.rg []) (.ret [.k (.bool false)])) (.skip))) (.seq (.rg []) (.ret [.k (.bool true)])))))))))))))
theorem laws_FnExactRemovePin_r1_sh (Q : QT) (x0 x1 x2 x3 x4 x5 x6 x7 x8 x9 x10 x11 x12 x13 x14 x15 x16 x17 x18 x19 x20 x21 x22 x23 x24 x25 x26 x27 x28 x29 x30 x31 x32 x33 x34 x35 x36 x37 x38 x39 x40 x41 x42 x43 x44 x45 x46 x47 x48 x49 x50 x51 x52 x53 x54 x55 x56 x57 x58 x59 x60 x61 x62 x63 x64 x65 x66 x67 x68 x69 x70 x71 x72 x73 x74 x75 x76 x77 x78 x79 x80 : V) : shL laws_FnExactRemovePin_r1 Q [x0, x1, x2, x3, x4, x5, x6, x7, x8, x9, x10, x11, x12, x13, x14, x15, x16, x17, x18, x19, x20, x21, x22, x23, x24, x25, x26, x27, x28, x29, x30, x31, x32, x33, x34, x35, x36, x37, x38, x39, x40, x41, x42, x43, x44, x45, x46, x47, x48, x49, x50, x51, x52, x53, x54, x55, x56, x57, x58, x59, x60, x61, x62, x63, x64, x65, x66, x67, x68, x69, x70, x71, x72, x73, x74, x75, x76, x77, x78, x79, x80] = (
  P4 (.callN F_markWorkshop 3 1) [x44, x45, x46, x47, x48, x49, x50, x51, x52, x53, .int .i64 1, x46, x47, x48] fun v0 v1 v2 v3 =>
  P1 (.call F_heldWorkshop 0 1) [x44, x45, v1, v2, v3, x49, x50, x51, x52, x53, .int .i64 1] fun v4 =>
  P1 (.bin .lss) [v4, .int .i64 0] fun v5 =>
  ifB v5 (
    Q .ret [.bool false]) (
    P1 (.bin .neq) [v4, v0] fun v6 =>
    ifB v6 (
      Q .ret [.bool false]) (
      P10 (.call F_toWorkshop 0 10) [x0, x1, x2, x3, x4, x5, x6, x7, x8, x9] fun v7 v8 v9 v10 v11 v12 v13 v14 v15 v16 =>
      P11 (.call F_RemovePin 0 11) [v7, v8, v9, v10, v11, v12, v13, v14, v15, v16, x10] fun v17 v18 v19 v20 v21 v22 v23 v24 v25 v26 v27 =>
      P1 (.call F_eqWorkshop 0 1) [v17, v18, v19, v20, v21, v22, v23, v24, v25, v26, x23, x24, x25, x26, x27, x28, x29, x30, x31, x32] fun v28 =>
      P1 (.un .not) [v28] fun v29 =>
      ifB v29 (
        Q .ret [.bool false]) (
        P1 (.binb .neq) [v27, x33] fun v30 =>
        ifB v30 (
          Q .ret [.bool false]) (
          P1 (.call F_heldWorkshop 0 1) [x44, x45, v1, v2, v3, x49, x50, x51, x52, x53, .int .i64 1] fun v31 =>
          P1 (.bin .lss) [v31, .int .i64 0] fun v32 =>
          ifB v32 (
            Q .ret [.bool false]) (
            P1 (.bin .neq) [v31, v0] fun v33 =>
            ifB v33 (
              Q .ret [.bool false]) (
              Q .ret [.bool true]))))))) := by kernel_rfl

def laws_FnExactRemovePin_r0 : L := .seq (.seq (.rg [⟨[], .call F_toWorkshop 0 10, [.v 0, .v 1, .v 2, .v 3, .v 4, .v 5, .v 6, .v 7, .v 8, .v 9], 10⟩, ⟨[], .call F_eqWorkshop 0 1, [.v 34, .v 35, .v 36, .v 37, .v 38, .v 39, .v 40, .v 41, .v 42, .v 43, .v 59, .v 60, .v 61, .v 62, .v 63, .v 64, .v 65, .v 66, .v 67, .v 68], 1⟩, ⟨[], .un .not, [.v 69], 1⟩]) (.ite (.v 70) (.seq (.rg []) (.ret [.k (.bool false)])) (.skip))) (.seq (.rg []) (.seq (.rg [⟨[], .callN F_markWorkshop 3 1, [.v 34, .v 35, .v 36, .v 37, .v 38, .v 39, .v 40, .v 41, .v 42, .v 43, .k (.int .i64 1), .v 36, .v 37, .v 38], 4⟩]) (.seq (.seq (.rg [⟨[], .bin .lss, [.v 71, .k (.int .i64 0)], 1⟩, ⟨[(.v 75, false)], .call F_eqWorkshop 0 1, [.v 44, .v 45, .v 46, .v 47, .v 48, .v 49, .v 50, .v 51, .v 52, .v 53, .v 23, .v 24, .v 25, .v 26, .v 27, .v 28, .v 29, .v 30, .v 31, .v 32], 1⟩, ⟨[(.v 75, false)], .un .not, [.v 76], 1⟩, ⟨[], .pick, [.v 75, .k (.bool true), .v 77], 1⟩, ⟨[(.v 78, false)], .binb .neq, [.v 54, .v 33], 1⟩, ⟨[], .pick, [.v 78, .k (.bool true), .v 79], 1⟩]) (.ite (.v 80) (.seq (.rg []) (.ret [.k (.bool false)])) (.skip))) (laws_FnExactRemovePin_r1))))
theorem laws_FnExactRemovePin_r0_sh (Q : QT) (x0 x1 x2 x3 x4 x5 x6 x7 x8 x9 x10 x11 x12 x13 x14 x15 x16 x17 x18 x19 x20 x21 x22 x23 x24 x25 x26 x27 x28 x29 x30 x31 x32 x33 x34 x35 x36 x37 x38 x39 x40 x41 x42 x43 x44 x45 x46 x47 x48 x49 x50 x51 x52 x53 x54 x55 x56 x57 x58 : V) : shL laws_FnExactRemovePin_r0 Q [x0, x1, x2, x3, x4, x5, x6, x7, x8, x9, x10, x11, x12, x13, x14, x15, x16, x17, x18, x19, x20, x21, x22, x23, x24, x25, x26, x27, x28, x29, x30, x31, x32, x33, x34, x35, x36, x37, x38, x39, x40, x41, x42, x43, x44, x45, x46, x47, x48, x49, x50, x51, x52, x53, x54, x55, x56, x57, x58] = (
  P10 (.call F_toWorkshop 0 10) [x0, x1, x2, x3, x4, x5, x6, x7, x8, x9] fun v0 v1 v2 v3 v4 v5 v6 v7 v8 v9 =>
  P1 (.call F_eqWorkshop 0 1) [x34, x35, x36, x37, x38, x39, x40, x41, x42, x43, v0, v1, v2, v3, v4, v5, v6, v7, v8, v9] fun v10 =>
  P1 (.un .not) [v10] fun v11 =>
  ifB v11 (
    Q .ret [.bool false]) (
    P4 (.callN F_markWorkshop 3 1) [x34, x35, x36, x37, x38, x39, x40, x41, x42, x43, .int .i64 1, x36, x37, x38] fun v12 v13 v14 v15 =>
    P1 (.bin .lss) [v12, .int .i64 0] fun v16 =>
    ifB v16 (
      Q .ret [.bool false]) (
      P1 (.call F_eqWorkshop 0 1) [x44, x45, x46, x47, x48, x49, x50, x51, x52, x53, x23, x24, x25, x26, x27, x28, x29, x30, x31, x32] fun v17 =>
      P1 (.un .not) [v17] fun v18 =>
      ifB v18 (
        Q .ret [.bool false]) (
        P1 (.binb .neq) [x54, x33] fun v19 =>
        ifB v19 (
          Q .ret [.bool false]) (
          shL laws_FnExactRemovePin_r1 Q [x0, x1, x2, x3, x4, x5, x6, x7, x8, x9, x10, x11, x12, x13, x14, x15, x16, x17, x18, x19, x20, x21, x22, x23, x24, x25, x26, x27, x28, x29, x30, x31, x32, x33, x34, x35, x36, x37, x38, x39, x40, x41, x42, x43, x44, x45, x46, x47, x48, x49, x50, x51, x52, x53, x54, x55, x56, x57, x58, v0, v1, v2, v3, v4, v5, v6, v7, v8, v9, v10, .bool false, v12, v13, v14, v15, .bool false, v17, v18, .bool false, v19, .bool false]))))) := by kernel_rfl

def laws_FnExactRemovePin_L : L := .seq (.rg []) (.seq (.rg []) (.seq (.rg [⟨[], .call F_szWorkshop 0 1, [.v 0, .v 1, .v 2, .v 3, .v 4, .v 5, .v 6, .v 7, .v 8, .v 9, .k (.int .i64 1048576)], 1⟩]) (.seq (.seq (.rg [⟨[], .bin .lss, [.v 11, .k (.int .i64 0)], 1⟩]) (.ite (.v 12) (.seq (.rg []) (.ret [.k (.bool true)])) (.skip))) (.seq (.rg [⟨[], .call F_toWorkshop 0 10, [.v 0, .v 1, .v 2, .v 3, .v 4, .v 5, .v 6, .v 7, .v 8, .v 9], 10⟩, ⟨[], .call F_RemovePin 0 11, [.v 13, .v 14, .v 15, .v 16, .v 17, .v 18, .v 19, .v 20, .v 21, .v 22, .v 10], 11⟩]) (.seq (.rg [⟨[], .call F_toWorkshop 0 10, [.v 0, .v 1, .v 2, .v 3, .v 4, .v 5, .v 6, .v 7, .v 8, .v 9], 10⟩]) (.seq (.rg [⟨[], .call F_RemovePin 0 11, [.v 34, .v 35, .v 36, .v 37, .v 38, .v 39, .v 40, .v 41, .v 42, .v 43, .v 10], 11⟩]) (.seq (.seq (.rg [⟨[], .call F_eqWorkshop 0 1, [.v 44, .v 45, .v 46, .v 47, .v 48, .v 49, .v 50, .v 51, .v 52, .v 53, .v 23, .v 24, .v 25, .v 26, .v 27, .v 28, .v 29, .v 30, .v 31, .v 32], 1⟩, ⟨[], .un .not, [.v 55], 1⟩, ⟨[(.v 56, false)], .binb .neq, [.v 54, .v 33], 1⟩, ⟨[], .pick, [.v 56, .k (.bool true), .v 57], 1⟩]) (.ite (.v 58) (.seq (.rg []) (.ret [.k (.bool false)])) (.skip))) (laws_FnExactRemovePin_r0))))))))
theorem laws_FnExactRemovePin_L_sh (Q : QT) (x0 x1 x2 x3 x4 x5 x6 x7 x8 x9 x10 : V) : shL laws_FnExactRemovePin_L Q [x0, x1, x2, x3, x4, x5, x6, x7, x8, x9, x10] = (
  P1 (.call F_szWorkshop 0 1) [x0, x1, x2, x3, x4, x5, x6, x7, x8, x9, .int .i64 1048576] fun v0 =>
  P1 (.bin .lss) [v0, .int .i64 0] fun v1 =>
  ifB v1 (
    Q .ret [.bool true]) (
    P10 (.call F_toWorkshop 0 10) [x0, x1, x2, x3, x4, x5, x6, x7, x8, x9] fun v2 v3 v4 v5 v6 v7 v8 v9 v10 v11 =>
    P11 (.call F_RemovePin 0 11) [v2, v3, v4, v5, v6, v7, v8, v9, v10, v11, x10] fun v12 v13 v14 v15 v16 v17 v18 v19 v20 v21 v22 =>
    P10 (.call F_toWorkshop 0 10) [x0, x1, x2, x3, x4, x5, x6, x7, x8, x9] fun v23 v24 v25 v26 v27 v28 v29 v30 v31 v32 =>
    P11 (.call F_RemovePin 0 11) [v23, v24, v25, v26, v27, v28, v29, v30, v31, v32, x10] fun v33 v34 v35 v36 v37 v38 v39 v40 v41 v42 v43 =>
    P1 (.call F_eqWorkshop 0 1) [v33, v34, v35, v36, v37, v38, v39, v40, v41, v42, v12, v13, v14, v15, v16, v17, v18, v19, v20, v21] fun v44 =>
    P1 (.un .not) [v44] fun v45 =>
    ifB v45 (
      Q .ret [.bool false]) (
      P1 (.binb .neq) [v43, v22] fun v46 =>
      ifB v46 (
        Q .ret [.bool false]) (
        shL laws_FnExactRemovePin_r0 Q [x0, x1, x2, x3, x4, x5, x6, x7, x8, x9, x10, v0, .bool false, v2, v3, v4, v5, v6, v7, v8, v9, v10, v11, v12, v13, v14, v15, v16, v17, v18, v19, v20, v21, v22, v23, v24, v25, v26, v27, v28, v29, v30, v31, v32, v33, v34, v35, v36, v37, v38, v39, v40, v41, v42, v43, v44, .bool false, v46, .bool false])))) := by kernel_rfl
def laws_FnExactRemovePin_S : Sig := ⟨[.val true [.sc, .sc, .sl [.sc, .sc], .sl [.sl [.sc, .sc]], .sl [.sc], .sc, .sc, .sc, .sc, .sc], .val false [.sc]], [(false, [.sc])], F_FnExactRemovePin⟩
def laws_FnExactRemovePin_hs : List NF := []

def spec_GapAround_L : L := .seq (.rg []) (.seq (.seq (.rg [⟨[], .call F_l01In 0 1, [.v 2, .k (.int .i64 1), .k (.int .i64 1000)], 1⟩, ⟨[], .un .not, [.v 3], 1⟩, ⟨[(.v 4, false)], .bin .sub, [.v 2, .k (.int .i64 1)], 1⟩, ⟨[(.v 4, false)], .call F_l01In 0 1, [.v 0, .k (.int .i64 0), .v 5], 1⟩, ⟨[(.v 4, false)], .un .not, [.v 6], 1⟩, ⟨[], .pick, [.v 4, .k (.bool true), .v 7], 1⟩, ⟨[(.v 8, false)], .bin .sub, [.v 2, .k (.int .i64 1)], 1⟩, ⟨[(.v 8, false)], .call F_l01In 0 1, [.v 1, .k (.int .i64 0), .v 9], 1⟩, ⟨[(.v 8, false)], .un .not, [.v 10], 1⟩, ⟨[], .pick, [.v 8, .k (.bool true), .v 11], 1⟩]) (.ite (.v 12) (.seq (.rg []) (.ret [.k (.int .i64 (-1))])) (.skip))) (.seq (.rg [⟨[], .bin .sub, [.v 0, .v 1], 1⟩, ⟨[], .bin .sub, [.v 1, .v 0], 1⟩, ⟨[], .mx, [.v 13, .v 14], 1⟩]) (.seq (.rg [⟨[], .bin .sub, [.v 2, .v 15], 1⟩, ⟨[], .mn, [.v 15, .v 16], 1⟩]) (.ret [.v 17]))))
theorem spec_GapAround_L_sh (Q : QT) (x0 x1 x2 : V) : shL spec_GapAround_L Q [x0, x1, x2] = (
  P1 (.call F_l01In 0 1) [x2, .int .i64 1, .int .i64 1000] fun v0 =>
  P1 (.un .not) [v0] fun v1 =>
  ifB v1 (
    Q .ret [.int .i64 (-1)]) (
    P1 (.bin .sub) [x2, .int .i64 1] fun v2 =>
    P1 (.call F_l01In 0 1) [x0, .int .i64 0, v2] fun v3 =>
    P1 (.un .not) [v3] fun v4 =>
    ifB v4 (
      Q .ret [.int .i64 (-1)]) (
      P1 (.bin .sub) [x2, .int .i64 1] fun v5 =>
      P1 (.call F_l01In 0 1) [x1, .int .i64 0, v5] fun v6 =>
      P1 (.un .not) [v6] fun v7 =>
      ifB v7 (
        Q .ret [.int .i64 (-1)]) (
        P1 (.bin .sub) [x0, x1] fun v8 =>
        P1 (.bin .sub) [x1, x0] fun v9 =>
        P1 (.mx) [v8, v9] fun v10 =>
        P1 (.bin .sub) [x2, v10] fun v11 =>
        P1 (.mn) [v10, v11] fun v12 =>
        Q .ret [v12])))) := by kernel_rfl
def spec_GapAround_S : Sig := ⟨[.val false [.sc], .val false [.sc], .val false [.sc]], [(false, [.sc])], F_GapAround⟩
def spec_GapAround_hs : List NF := []

def spec_TooClose_b1 : L := .seq (.seq (.seq (.rg [⟨[], .len, [.v 6], 1⟩, ⟨[], .bin .lss, [.v 2, .v 7], 1⟩]) (.ite (.v 8) (.skip) (.seq (.tup [.v 0, .v 1, .v 3, .v 4, .v 5, .v 6]) (.exit 2)))) (.seq (.block 3 (.seq (.seq (.rg [⟨[], .idx [.sc, .sc], [.v 6, .v 1], 2⟩, ⟨[], .idx [.sc, .sc], [.v 6, .v 2], 2⟩, ⟨[], .bin .eql, [.v 9, .v 11], 1⟩, ⟨[(.v 13, true)], .idx [.sc, .sc], [.v 6, .v 1], 2⟩, ⟨[(.v 13, true)], .idx [.sc, .sc], [.v 6, .v 2], 2⟩, ⟨[(.v 13, true)], .call F_GapAround 0 1, [.v 15, .v 17, .v 4], 1⟩, ⟨[(.v 13, true)], .bin .lss, [.v 18, .v 0], 1⟩, ⟨[], .pick, [.v 13, .v 19, .k (.bool false)], 1⟩]) (.ite (.v 20) (.seq (.rg [⟨[], .lst [.sc] false 2, [.v 1, .v 2], 1⟩, ⟨[], .lst [.sl [.sc]] false 1, [.v 21], 1⟩, ⟨[], .app [.sl [.sc]] 24, [.v 3, .v 22], 1⟩]) (.tup [.v 0, .v 1, .v 2, .v 23, .v 4, .v 5, .v 6])) (.seq (.skip) (.tup [.v 0, .v 1, .v 2, .v 3, .v 4, .v 5, .v 6])))) (.tup [.v 0, .v 1, .v 2, .v 3, .v 4, .v 5, .v 6]))) (.rg [⟨[], .bin .add, [.v 2, .k (.int .i64 1)], 1⟩]))) (.tup [.v 0, .v 1, .v 7, .v 3, .v 4, .v 5, .v 6])
theorem spec_TooClose_b1_sh (Q : QT) (x0 x1 x2 x3 x4 x5 x6 : V) : shL spec_TooClose_b1 Q [x0, x1, x2, x3, x4, x5, x6] = (
  P1 (.len) [x6] fun v0 =>
  P1 (.bin .lss) [x2, v0] fun v1 =>
  ifB v1 (
    P2 (.idx [.sc, .sc]) [x6, x1] fun v2 _ =>
    P2 (.idx [.sc, .sc]) [x6, x2] fun v4 _ =>
    P1 (.bin .eql) [v2, v4] fun v6 =>
    ifB v6 (
      P2 (.idx [.sc, .sc]) [x6, x1] fun _ v8 =>
      P2 (.idx [.sc, .sc]) [x6, x2] fun _ v10 =>
      P1 (.call F_GapAround 0 1) [v8, v10, x4] fun v11 =>
      P1 (.bin .lss) [v11, x0] fun v12 =>
      ifB v12 (
        P1 (.lst [.sc] false 2) [x1, x2] fun v13 =>
        P1 (.lst [.sl [.sc]] false 1) [v13] fun v14 =>
        P1 (.app [.sl [.sc]] 24) [x3, v14] fun v15 =>
        P1 (.bin .add) [x2, .int .i64 1] fun v16 =>
        Q .normal [x0, x1, v16, v15, x4, x5, x6]) (
        P1 (.bin .add) [x2, .int .i64 1] fun v17 =>
        Q .normal [x0, x1, v17, x3, x4, x5, x6])) (
      P1 (.bin .add) [x2, .int .i64 1] fun v18 =>
      Q .normal [x0, x1, v18, x3, x4, x5, x6])) (
    Q (.exit 2) [x0, x1, x3, x4, x5, x6])) := by kernel_rfl

def spec_TooClose_r2 : L := .tup [.v 0, .v 1, .v 2, .v 3, .v 4, .v 5]
theorem spec_TooClose_r2_sh (Q : QT) (x0 x1 x2 x3 x4 x5 : V) : shL spec_TooClose_r2 Q [x0, x1, x2, x3, x4, x5] = (
  Q .normal [x0, x1, x2, x3, x4, x5]) := by kernel_rfl

def spec_TooClose_r3 : L := .rg [⟨[], .bin .add, [.v 1, .k (.int .i64 1)], 1⟩]
theorem spec_TooClose_r3_sh (Q : QT) (x0 x1 x2 x3 x4 x5 : V) : shL spec_TooClose_r3 Q [x0, x1, x2, x3, x4, x5] = (
  P1 (.bin .add) [x1, .int .i64 1] fun v0 =>
  Q .normal [x0, x1, x2, x3, x4, x5, v0]) := by kernel_rfl

def spec_TooClose_r4 : L := .tup [.v 0, .v 6, .v 2, .v 3, .v 4, .v 5]
theorem spec_TooClose_r4_sh (Q : QT) (x0 x1 x2 x3 x4 x5 x6 : V) : shL spec_TooClose_r4 Q [x0, x1, x2, x3, x4, x5, x6] = (
  Q .normal [x0, x6, x2, x3, x4, x5]) := by kernel_rfl

def spec_TooClose_b0 : L := .seq (.seq (.seq (.rg [⟨[], .len, [.v 5], 1⟩, ⟨[], .bin .lss, [.v 1, .v 6], 1⟩]) (.ite (.v 7) (.skip) (.seq (.tup [.v 2]) (.exit 0)))) (.seq (.block 1 (.seq (.seq (.rg [⟨[], .bin .add, [.v 1, .k (.int .i64 1)], 1⟩]) (.block 2 (.seq (.tup [.v 0, .v 1, .v 8, .v 2, .v 3, .v 4, .v 5]) (.loop (spec_TooClose_b1))))) (spec_TooClose_r2))) (spec_TooClose_r3))) (spec_TooClose_r4)
theorem spec_TooClose_b0_sh (Q : QT) (x0 x1 x2 x3 x4 x5 : V) : shL spec_TooClose_b0 Q [x0, x1, x2, x3, x4, x5] = (
  P1 (.len) [x5] fun v0 =>
  P1 (.bin .lss) [x1, v0] fun v1 =>
  ifB v1 (
    P1 (.bin .add) [x1, .int .i64 1] fun v2 =>
    shL (.loop spec_TooClose_b1) (qB 2 (qS (shL spec_TooClose_r2 (qB 1 (qS (shL spec_TooClose_r3 (qS (shL spec_TooClose_r4 Q) Q)) (qS (shL spec_TooClose_r4 Q) Q)))) (qB 1 (qS (shL spec_TooClose_r3 (qS (shL spec_TooClose_r4 Q) Q)) (qS (shL spec_TooClose_r4 Q) Q))))) [x0, x1, v2, x2, x3, x4, x5]) (
    Q (.exit 0) [x2])) := by kernel_rfl

def spec_TooClose_r5 : L := .seq (.rg []) (.ret [.v 0])
theorem spec_TooClose_r5_sh (Q : QT) (x0 : V) : shL spec_TooClose_r5 Q [x0] = (
  Q .ret [x0]) := by kernel_rfl

def spec_TooClose_L : L := .seq (.rg []) (.seq (.rg [⟨[], .lst [.sl [.sc]] false 0, [], 1⟩]) (.seq (.seq (.rg [⟨[], .call F_CylinderOk 0 1, [.v 0, .v 1, .v 2], 1⟩, ⟨[], .un .not, [.v 5], 1⟩, ⟨[(.v 6, false)], .call F_l01In 0 1, [.v 3, .k (.int .i64 1), .k (.int .i64 96)], 1⟩, ⟨[(.v 6, false)], .un .not, [.v 7], 1⟩, ⟨[], .pick, [.v 6, .k (.bool true), .v 8], 1⟩]) (.ite (.v 9) (.seq (.rg []) (.ret [.v 4])) (.skip))) (.seq (.seq (.rg []) (.block 0 (.seq (.tup [.v 3, .k (.int .i64 0), .v 4, .v 0, .v 1, .v 2]) (.loop (spec_TooClose_b0))))) (spec_TooClose_r5))))
theorem spec_TooClose_L_sh (Q : QT) (x0 x1 x2 x3 : V) : shL spec_TooClose_L Q [x0, x1, x2, x3] = (
  P1 (.lst [.sl [.sc]] false 0) [] fun v0 =>
  P1 (.call F_CylinderOk 0 1) [x0, x1, x2] fun v1 =>
  P1 (.un .not) [v1] fun v2 =>
  ifB v2 (
    Q .ret [v0]) (
    P1 (.call F_l01In 0 1) [x3, .int .i64 1, .int .i64 96] fun v3 =>
    P1 (.un .not) [v3] fun v4 =>
    ifB v4 (
      Q .ret [v0]) (
      shL (.loop spec_TooClose_b0) (qB 0 (qS (shL spec_TooClose_r5 Q) Q)) [x3, .int .i64 0, v0, x0, x1, x2]))) := by kernel_rfl
def spec_TooClose_S : Sig := ⟨[.val true [.sc, .sc, .sl [.sc, .sc]], .val false [.sc]], [(false, [.sl [.sl [.sc]]])], F_TooClose⟩
def spec_TooClose_hs : List NF := [⟨[(5, .sc false [.own 64])], [(64, true, [.sl [.sc]])], [], 65⟩, ⟨[(1, .sc false [.sc]), (2, .ptr 64 0), (5, .sc false [.own 65]), (6, .sc false [.sc])], [(65, true, [.sl [.sc]])], [(64, [.sc, .sc, .ro [.sc, .sc]])], 66⟩, ⟨[(1, .sc false [.sc]), (2, .ptr 64 0), (5, .sc false [.own 65]), (6, .sc false [.sc])], [(65, true, [.sl [.sc]])], [(64, [.sc, .sc, .ro [.sc, .sc]])], 66⟩, ⟨[(1, .sc false [.sc]), (2, .ptr 64 0), (5, .sc false [.own 65]), (6, .sc false [.sc])], [(65, true, [.sl [.sc]])], [(64, [.sc, .sc, .ro [.sc, .sc]])], 66⟩, ⟨[(1, .sc false [.sc]), (2, .ptr 64 0), (5, .sc false [.own 65]), (6, .sc false [.sc]), (7, .sc false [.sc])], [(65, true, [.sl [.sc]])], [(64, [.sc, .sc, .ro [.sc, .sc]])], 66⟩, ⟨[(1, .sc false [.sc]), (2, .ptr 64 0), (5, .sc false [.own 65]), (6, .sc false [.sc]), (7, .sc false [.sc])], [(65, true, [.sl [.sc]])], [(64, [.sc, .sc, .ro [.sc, .sc]])], 66⟩, ⟨[(1, .sc false [.sc]), (2, .ptr 64 0), (5, .sc false [.own 65]), (6, .sc false [.sc]), (7, .sc false [.sc])], [(65, true, [.sl [.sc]])], [(64, [.sc, .sc, .ro [.sc, .sc]])], 66⟩]

def spec_IsPlayable_L : L := .seq (.rg []) (.seq (.rg [⟨[], .call F_CylinderOk 0 1, [.v 0, .v 1, .v 2], 1⟩, ⟨[(.v 4, true)], .call F_l01In 0 1, [.v 3, .k (.int .i64 1), .k (.int .i64 96)], 1⟩, ⟨[], .pick, [.v 4, .v 5, .k (.bool false)], 1⟩, ⟨[(.v 6, true)], .call F_TooClose 0 1, [.v 0, .v 1, .v 2, .v 3], 1⟩, ⟨[(.v 6, true)], .len, [.v 7], 1⟩, ⟨[(.v 6, true)], .bin .eql, [.v 8, .k (.int .i64 0)], 1⟩, ⟨[], .pick, [.v 6, .v 9, .k (.bool false)], 1⟩]) (.ret [.v 10]))
theorem spec_IsPlayable_L_sh (Q : QT) (x0 x1 x2 x3 : V) : shL spec_IsPlayable_L Q [x0, x1, x2, x3] = (
  P1 (.call F_CylinderOk 0 1) [x0, x1, x2] fun v0 =>
  ifB v0 (
    P1 (.call F_l01In 0 1) [x3, .int .i64 1, .int .i64 96] fun v1 =>
    ifB v1 (
      P1 (.call F_TooClose 0 1) [x0, x1, x2, x3] fun v2 =>
      P1 (.len) [v2] fun v3 =>
      P1 (.bin .eql) [v3, .int .i64 0] fun v4 =>
      Q .ret [v4]) (
      Q .ret [.bool false])) (
    Q .ret [.bool false])) := by kernel_rfl
def spec_IsPlayable_S : Sig := ⟨[.val true [.sc, .sc, .sl [.sc, .sc]], .val false [.sc]], [(false, [.sc])], F_IsPlayable⟩
def spec_IsPlayable_hs : List NF := []

def spec_PlayOnce_r0 : L := .seq (.rg [⟨[], .bin .sub, [.v 5, .k (.int .i64 1)], 1⟩]) (.seq (.rg [⟨[], .len, [.v 2], 1⟩, ⟨[], .bin .add, [.v 9, .v 28], 1⟩]) (.seq (.seq (.rg [⟨[], .call F_WorkshopOk 0 1, [.v 10, .v 11, .v 12, .v 13, .v 14, .v 27, .v 16, .v 17, .v 18, .v 29], 1⟩, ⟨[], .un .not, [.v 30], 1⟩]) (.ite (.v 31) (.seq (.rg [⟨[], .call F_l38Copy 0 10, [.v 0, .v 1, .v 2, .v 3, .v 4, .v 5, .v 6, .v 7, .v 8, .v 9], 10⟩]) (.ret [.v 32, .v 33, .v 34, .v 35, .v 36, .v 37, .v 38, .v 39, .v 40, .v 41, .k (.bool false)])) (.skip))) (.seq (.rg []) (.ret [.v 10, .v 11, .v 12, .v 13, .v 14, .v 27, .v 16, .v 17, .v 18, .v 29, .k (.bool true)]))))
theorem spec_PlayOnce_r0_sh (Q : QT) (x0 x1 x2 x3 x4 x5 x6 x7 x8 x9 x10 x11 x12 x13 x14 x15 x16 x17 x18 x19 x20 x21 x22 x23 x24 x25 x26 : V) : shL spec_PlayOnce_r0 Q [x0, x1, x2, x3, x4, x5, x6, x7, x8, x9, x10, x11, x12, x13, x14, x15, x16, x17, x18, x19, x20, x21, x22, x23, x24, x25, x26] = (
  P1 (.bin .sub) [x5, .int .i64 1] fun v0 =>
  P1 (.len) [x2] fun v1 =>
  P1 (.bin .add) [x9, v1] fun v2 =>
  P1 (.call F_WorkshopOk 0 1) [x10, x11, x12, x13, x14, v0, x16, x17, x18, v2] fun v3 =>
  P1 (.un .not) [v3] fun v4 =>
  ifB v4 (
    P10 (.call F_l38Copy 0 10) [x0, x1, x2, x3, x4, x5, x6, x7, x8, x9] fun v5 v6 v7 v8 v9 v10 v11 v12 v13 v14 =>
    Q .ret [v5, v6, v7, v8, v9, v10, v11, v12, v13, v14, .bool false]) (
    Q .ret [x10, x11, x12, x13, x14, v0, x16, x17, x18, v2, .bool true])) := by kernel_rfl

def spec_PlayOnce_L : L := .seq (.rg []) (.seq (.rg [⟨[], .call F_l38Copy 0 10, [.v 0, .v 1, .v 2, .v 3, .v 4, .v 5, .v 6, .v 7, .v 8, .v 9], 10⟩]) (.seq (.seq (.rg [⟨[], .call F_WorkshopOk 0 1, [.v 0, .v 1, .v 2, .v 3, .v 4, .v 5, .v 6, .v 7, .v 8, .v 9], 1⟩, ⟨[], .un .not, [.v 20], 1⟩, ⟨[(.v 21, false)], .bin .eql, [.v 5, .k (.int .i64 0)], 1⟩, ⟨[], .pick, [.v 21, .k (.bool true), .v 22], 1⟩, ⟨[(.v 23, false)], .call F_IsPlayable 0 1, [.v 0, .v 1, .v 2, .k (.int .i64 2)], 1⟩, ⟨[(.v 23, false)], .un .not, [.v 24], 1⟩, ⟨[], .pick, [.v 23, .k (.bool true), .v 25], 1⟩]) (.ite (.v 26) (.seq (.rg []) (.ret [.v 10, .v 11, .v 12, .v 13, .v 14, .v 15, .v 16, .v 17, .v 18, .v 19, .k (.bool false)])) (.skip))) (spec_PlayOnce_r0)))
theorem spec_PlayOnce_L_sh (Q : QT) (x0 x1 x2 x3 x4 x5 x6 x7 x8 x9 : V) : shL spec_PlayOnce_L Q [x0, x1, x2, x3, x4, x5, x6, x7, x8, x9] = (
  P10 (.call F_l38Copy 0 10) [x0, x1, x2, x3, x4, x5, x6, x7, x8, x9] fun v0 v1 v2 v3 v4 v5 v6 v7 v8 v9 =>
  P1 (.call F_WorkshopOk 0 1) [x0, x1, x2, x3, x4, x5, x6, x7, x8, x9] fun v10 =>
  P1 (.un .not) [v10] fun v11 =>
  ifB v11 (
    Q .ret [v0, v1, v2, v3, v4, v5, v6, v7, v8, v9, .bool false]) (
    P1 (.bin .eql) [x5, .int .i64 0] fun v12 =>
    ifB v12 (
      Q .ret [v0, v1, v2, v3, v4, v5, v6, v7, v8, v9, .bool false]) (
      P1 (.call F_IsPlayable 0 1) [x0, x1, x2, .int .i64 2] fun v13 =>
      P1 (.un .not) [v13] fun v14 =>
      ifB v14 (
        Q .ret [v0, v1, v2, v3, v4, v5, v6, v7, v8, v9, .bool false]) (
        shL spec_PlayOnce_r0 Q [x0, x1, x2, x3, x4, x5, x6, x7, x8, x9, v0, v1, v2, v3, v4, v5, v6, v7, v8, v9, v10, .bool false, v12, .bool false, v13, v14, .bool false])))) := by kernel_rfl
def spec_PlayOnce_S : Sig := ⟨[.val true [.sc, .sc, .sl [.sc, .sc], .sl [.sl [.sc, .sc]], .sl [.sc], .sc, .sc, .sc, .sc, .sc]], [(true, [.sc, .sc, .sl [.sc, .sc], .sl [.sl [.sc, .sc]], .sl [.sc], .sc, .sc, .sc, .sc, .sc]), (false, [.sc])], F_PlayOnce⟩
def spec_PlayOnce_hs : List NF := []

def impl_GapAround_L : L := .seq (.rg []) (.seq (.seq (.rg [⟨[], .call F_within 0 1, [.v 2, .k (.int .i64 1), .k (.int .i64 1000)], 1⟩, ⟨[], .un .not, [.v 3], 1⟩, ⟨[(.v 4, false)], .bin .sub, [.v 2, .k (.int .i64 1)], 1⟩, ⟨[(.v 4, false)], .call F_within 0 1, [.v 0, .k (.int .i64 0), .v 5], 1⟩, ⟨[(.v 4, false)], .un .not, [.v 6], 1⟩, ⟨[], .pick, [.v 4, .k (.bool true), .v 7], 1⟩, ⟨[(.v 8, false)], .bin .sub, [.v 2, .k (.int .i64 1)], 1⟩, ⟨[(.v 8, false)], .call F_within 0 1, [.v 1, .k (.int .i64 0), .v 9], 1⟩, ⟨[(.v 8, false)], .un .not, [.v 10], 1⟩, ⟨[], .pick, [.v 8, .k (.bool true), .v 11], 1⟩]) (.ite (.v 12) (.seq (.rg []) (.ret [.k (.int .i64 (-1))])) (.skip))) (.seq (.rg [⟨[], .bin .sub, [.v 0, .v 1], 1⟩, ⟨[], .call F_magnitude 0 1, [.v 13], 1⟩]) (.seq (.rg [⟨[], .bin .sub, [.v 2, .v 14], 1⟩, ⟨[], .mn, [.v 14, .v 15], 1⟩]) (.ret [.v 16]))))
theorem impl_GapAround_L_sh (Q : QT) (x0 x1 x2 : V) : shL impl_GapAround_L Q [x0, x1, x2] = (
  P1 (.call F_within 0 1) [x2, .int .i64 1, .int .i64 1000] fun v0 =>
  P1 (.un .not) [v0] fun v1 =>
  ifB v1 (
    Q .ret [.int .i64 (-1)]) (
    P1 (.bin .sub) [x2, .int .i64 1] fun v2 =>
    P1 (.call F_within 0 1) [x0, .int .i64 0, v2] fun v3 =>
    P1 (.un .not) [v3] fun v4 =>
    ifB v4 (
      Q .ret [.int .i64 (-1)]) (
      P1 (.bin .sub) [x2, .int .i64 1] fun v5 =>
      P1 (.call F_within 0 1) [x1, .int .i64 0, v5] fun v6 =>
      P1 (.un .not) [v6] fun v7 =>
      ifB v7 (
        Q .ret [.int .i64 (-1)]) (
        P1 (.bin .sub) [x0, x1] fun v8 =>
        P1 (.call F_magnitude 0 1) [v8] fun v9 =>
        P1 (.bin .sub) [x2, v9] fun v10 =>
        P1 (.mn) [v9, v10] fun v11 =>
        Q .ret [v11])))) := by kernel_rfl
def impl_GapAround_S : Sig := ⟨[.val false [.sc], .val false [.sc], .val false [.sc]], [(false, [.sc])], F_GapAround⟩
def impl_GapAround_hs : List NF := []

def impl_TooClose_b1 : L := .seq (.seq (.seq (.rg [⟨[], .len, [.v 9], 1⟩, ⟨[], .bin .lss, [.v 2, .v 12], 1⟩]) (.ite (.v 13) (.skip) (.seq (.tup [.v 0, .v 3, .v 4, .v 5, .v 6, .v 7, .v 8, .v 9]) (.exit 2)))) (.seq (.block 3 (.seq (.seq (.rg [⟨[], .idx [.sc, .sc], [.v 9, .v 2], 2⟩]) (.seq (.rg [⟨[], .bin .eql, [.v 10, .v 14], 1⟩, ⟨[(.v 16, true)], .call F_GapAround 0 1, [.v 11, .v 15, .v 7], 1⟩, ⟨[(.v 16, true)], .bin .lss, [.v 17, .v 0], 1⟩, ⟨[], .pick, [.v 16, .v 18, .k (.bool false)], 1⟩]) (.ite (.v 19) (.seq (.rg [⟨[], .lst [.sc] false 2, [.v 1, .v 2], 1⟩, ⟨[], .lst [.sl [.sc]] false 1, [.v 20], 1⟩, ⟨[], .app [.sl [.sc]] 24, [.v 6, .v 21], 1⟩]) (.tup [.v 0, .v 1, .v 2, .v 3, .v 4, .v 5, .v 22, .v 7, .v 8, .v 9, .v 10, .v 11])) (.seq (.skip) (.tup [.v 0, .v 1, .v 2, .v 3, .v 4, .v 5, .v 6, .v 7, .v 8, .v 9, .v 10, .v 11]))))) (.tup [.v 0, .v 1, .v 2, .v 3, .v 4, .v 5, .v 6, .v 7, .v 8, .v 9, .v 10, .v 11]))) (.rg [⟨[], .bin .add, [.v 2, .k (.int .i64 1)], 1⟩]))) (.tup [.v 0, .v 1, .v 12, .v 3, .v 4, .v 5, .v 6, .v 7, .v 8, .v 9, .v 10, .v 11])
theorem impl_TooClose_b1_sh (Q : QT) (x0 x1 x2 x3 x4 x5 x6 x7 x8 x9 x10 x11 : V) : shL impl_TooClose_b1 Q [x0, x1, x2, x3, x4, x5, x6, x7, x8, x9, x10, x11] = (
  P1 (.len) [x9] fun v0 =>
  P1 (.bin .lss) [x2, v0] fun v1 =>
  ifB v1 (
    P2 (.idx [.sc, .sc]) [x9, x2] fun v2 v3 =>
    P1 (.bin .eql) [x10, v2] fun v4 =>
    ifB v4 (
      P1 (.call F_GapAround 0 1) [x11, v3, x7] fun v5 =>
      P1 (.bin .lss) [v5, x0] fun v6 =>
      ifB v6 (
        P1 (.lst [.sc] false 2) [x1, x2] fun v7 =>
        P1 (.lst [.sl [.sc]] false 1) [v7] fun v8 =>
        P1 (.app [.sl [.sc]] 24) [x6, v8] fun v9 =>
        P1 (.bin .add) [x2, .int .i64 1] fun v10 =>
        Q .normal [x0, x1, v10, x3, x4, x5, v9, x7, x8, x9, x10, x11]) (
        P1 (.bin .add) [x2, .int .i64 1] fun v11 =>
        Q .normal [x0, x1, v11, x3, x4, x5, x6, x7, x8, x9, x10, x11])) (
      P1 (.bin .add) [x2, .int .i64 1] fun v12 =>
      Q .normal [x0, x1, v12, x3, x4, x5, x6, x7, x8, x9, x10, x11])) (
    Q (.exit 2) [x0, x3, x4, x5, x6, x7, x8, x9])) := by kernel_rfl

def impl_TooClose_r2 : L := .tup [.v 0, .v 1, .v 2, .v 3, .v 4, .v 5, .v 6, .v 7]
theorem impl_TooClose_r2_sh (Q : QT) (x0 x1 x2 x3 x4 x5 x6 x7 : V) : shL impl_TooClose_r2 Q [x0, x1, x2, x3, x4, x5, x6, x7] = (
  Q .normal [x0, x1, x2, x3, x4, x5, x6, x7]) := by kernel_rfl

def impl_TooClose_r3 : L := .rg [⟨[], .bin .add, [.v 3, .k (.int .i64 1)], 1⟩]
theorem impl_TooClose_r3_sh (Q : QT) (x0 x1 x2 x3 x4 x5 x6 x7 : V) : shL impl_TooClose_r3 Q [x0, x1, x2, x3, x4, x5, x6, x7] = (
  P1 (.bin .add) [x3, .int .i64 1] fun v0 =>
  Q .normal [x0, x1, x2, x3, x4, x5, x6, x7, v0]) := by kernel_rfl

def impl_TooClose_r4 : L := .tup [.v 0, .v 1, .v 2, .v 8, .v 4, .v 5, .v 6, .v 7]
theorem impl_TooClose_r4_sh (Q : QT) (x0 x1 x2 x3 x4 x5 x6 x7 x8 : V) : shL impl_TooClose_r4 Q [x0, x1, x2, x3, x4, x5, x6, x7, x8] = (
  Q .normal [x0, x1, x2, x8, x4, x5, x6, x7]) := by kernel_rfl

def impl_TooClose_b0 : L := .seq (.seq (.rg [⟨[], .bin .lss, [.v 3, .v 2], 1⟩]) (.seq (.ite (.v 8) (.skip) (.seq (.tup [.v 4]) (.exit 0))) (.seq (.block 1 (.seq (.seq (.rg [⟨[], .idx [.sc, .sc], [.v 1, .v 3], 2⟩]) (.seq (.rg [⟨[], .bin .add, [.v 3, .k (.int .i64 1)], 1⟩]) (.block 2 (.seq (.tup [.v 0, .v 3, .v 11, .v 1, .v 2, .v 3, .v 4, .v 5, .v 6, .v 7, .v 9, .v 10]) (.loop (impl_TooClose_b1)))))) (impl_TooClose_r2))) (impl_TooClose_r3)))) (impl_TooClose_r4)
theorem impl_TooClose_b0_sh (Q : QT) (x0 x1 x2 x3 x4 x5 x6 x7 : V) : shL impl_TooClose_b0 Q [x0, x1, x2, x3, x4, x5, x6, x7] = (
  P1 (.bin .lss) [x3, x2] fun v0 =>
  ifB v0 (
    P2 (.idx [.sc, .sc]) [x1, x3] fun v1 v2 =>
    P1 (.bin .add) [x3, .int .i64 1] fun v3 =>
    shL (.loop impl_TooClose_b1) (qB 2 (qS (shL impl_TooClose_r2 (qB 1 (qS (shL impl_TooClose_r3 (qS (shL impl_TooClose_r4 Q) Q)) (qS (shL impl_TooClose_r4 Q) Q)))) (qB 1 (qS (shL impl_TooClose_r3 (qS (shL impl_TooClose_r4 Q) Q)) (qS (shL impl_TooClose_r4 Q) Q))))) [x0, x3, v3, x1, x2, x3, x4, x5, x6, x7, v1, v2]) (
    Q (.exit 0) [x4])) := by kernel_rfl

def impl_TooClose_r5 : L := .seq (.rg []) (.ret [.v 0])
theorem impl_TooClose_r5_sh (Q : QT) (x0 : V) : shL impl_TooClose_r5 Q [x0] = (
  Q .ret [x0]) := by kernel_rfl

def impl_TooClose_L : L := .seq (.rg []) (.seq (.seq (.rg [⟨[], .call F_CylinderOk 0 1, [.v 0, .v 1, .v 2], 1⟩, ⟨[], .un .not, [.v 4], 1⟩, ⟨[(.v 5, false)], .call F_within 0 1, [.v 3, .k (.int .i64 1), .k (.int .i64 96)], 1⟩, ⟨[(.v 5, false)], .un .not, [.v 6], 1⟩, ⟨[], .pick, [.v 5, .k (.bool true), .v 7], 1⟩]) (.ite (.v 8) (.seq (.rg []) (.ret [.k (.list [.sl [.sc]] [])])) (.skip))) (.seq (.rg [⟨[], .lst [.sl [.sc]] false 0, [], 1⟩]) (.seq (.seq (.rg [⟨[], .len, [.v 2], 1⟩]) (.block 0 (.seq (.tup [.v 3, .v 2, .v 10, .k (.int .i64 0), .v 9, .v 0, .v 1, .v 2]) (.loop (impl_TooClose_b0))))) (impl_TooClose_r5))))
theorem impl_TooClose_L_sh (Q : QT) (x0 x1 x2 x3 : V) : shL impl_TooClose_L Q [x0, x1, x2, x3] = (
  P1 (.call F_CylinderOk 0 1) [x0, x1, x2] fun v0 =>
  P1 (.un .not) [v0] fun v1 =>
  ifB v1 (
    Q .ret [.list [.sl [.sc]] []]) (
    P1 (.call F_within 0 1) [x3, .int .i64 1, .int .i64 96] fun v2 =>
    P1 (.un .not) [v2] fun v3 =>
    ifB v3 (
      Q .ret [.list [.sl [.sc]] []]) (
      P1 (.lst [.sl [.sc]] false 0) [] fun v4 =>
      P1 (.len) [x2] fun v5 =>
      shL (.loop impl_TooClose_b0) (qB 0 (qS (shL impl_TooClose_r5 Q) Q)) [x3, x2, v5, .int .i64 0, v4, x0, x1, x2]))) := by kernel_rfl
def impl_TooClose_S : Sig := ⟨[.val true [.sc, .sc, .sl [.sc, .sc]], .val false [.sc]], [(false, [.sl [.sl [.sc]]])], F_TooClose⟩
def impl_TooClose_hs : List NF := [⟨[(5, .sc false [.own 64])], [(64, true, [.sl [.sc]])], [], 65⟩, ⟨[(1, .sc false [.sc]), (2, .ptr 64 0), (5, .sc false [.own 65]), (20, .sc false [.ro [.sc, .sc]]), (21, .sc false [.sc]), (22, .sc false [.sc])], [(65, true, [.sl [.sc]])], [(64, [.sc, .sc, .ro [.sc, .sc]])], 66⟩, ⟨[(1, .sc false [.sc]), (2, .ptr 64 0), (5, .sc false [.own 65]), (20, .sc false [.ro [.sc, .sc]]), (21, .sc false [.sc]), (22, .sc false [.sc])], [(65, true, [.sl [.sc]])], [(64, [.sc, .sc, .ro [.sc, .sc]])], 66⟩, ⟨[(1, .sc false [.sc]), (2, .ptr 64 0), (5, .sc false [.own 65]), (20, .sc false [.ro [.sc, .sc]]), (21, .sc false [.sc]), (22, .sc false [.sc])], [(65, true, [.sl [.sc]])], [(64, [.sc, .sc, .ro [.sc, .sc]])], 66⟩, ⟨[(1, .sc false [.sc]), (2, .ptr 64 0), (5, .sc false [.own 65]), (6, .sc false [.sc]), (7, .ptr 66 0), (8, .sc false [.sc]), (20, .sc false [.ro [.sc, .sc]]), (21, .sc false [.sc]), (22, .sc false [.sc])], [(65, true, [.sl [.sc]])], [(64, [.sc, .sc, .ro [.sc, .sc]]), (66, [.sc, .sc])], 67⟩, ⟨[(1, .sc false [.sc]), (2, .ptr 64 0), (5, .sc false [.own 65]), (6, .sc false [.sc]), (7, .ptr 66 0), (8, .sc false [.sc]), (20, .sc false [.ro [.sc, .sc]]), (21, .sc false [.sc]), (22, .sc false [.sc])], [(65, true, [.sl [.sc]])], [(64, [.sc, .sc, .ro [.sc, .sc]]), (66, [.sc, .sc])], 67⟩, ⟨[(1, .sc false [.sc]), (2, .ptr 64 0), (5, .sc false [.own 65]), (6, .sc false [.sc]), (7, .ptr 66 0), (8, .sc false [.sc]), (20, .sc false [.ro [.sc, .sc]]), (21, .sc false [.sc]), (22, .sc false [.sc])], [(65, true, [.sl [.sc]])], [(64, [.sc, .sc, .ro [.sc, .sc]]), (66, [.sc, .sc])], 67⟩]

def impl_IsPlayable_L : L := .seq (.rg []) (.seq (.rg [⟨[], .call F_CylinderOk 0 1, [.v 0, .v 1, .v 2], 1⟩, ⟨[(.v 4, true)], .call F_within 0 1, [.v 3, .k (.int .i64 1), .k (.int .i64 96)], 1⟩, ⟨[], .pick, [.v 4, .v 5, .k (.bool false)], 1⟩, ⟨[(.v 6, true)], .call F_TooClose 0 1, [.v 0, .v 1, .v 2, .v 3], 1⟩, ⟨[(.v 6, true)], .len, [.v 7], 1⟩, ⟨[(.v 6, true)], .bin .eql, [.v 8, .k (.int .i64 0)], 1⟩, ⟨[], .pick, [.v 6, .v 9, .k (.bool false)], 1⟩]) (.ret [.v 10]))
theorem impl_IsPlayable_L_sh (Q : QT) (x0 x1 x2 x3 : V) : shL impl_IsPlayable_L Q [x0, x1, x2, x3] = (
  P1 (.call F_CylinderOk 0 1) [x0, x1, x2] fun v0 =>
  ifB v0 (
    P1 (.call F_within 0 1) [x3, .int .i64 1, .int .i64 96] fun v1 =>
    ifB v1 (
      P1 (.call F_TooClose 0 1) [x0, x1, x2, x3] fun v2 =>
      P1 (.len) [v2] fun v3 =>
      P1 (.bin .eql) [v3, .int .i64 0] fun v4 =>
      Q .ret [v4]) (
      Q .ret [.bool false])) (
    Q .ret [.bool false])) := by kernel_rfl
def impl_IsPlayable_S : Sig := ⟨[.val true [.sc, .sc, .sl [.sc, .sc]], .val false [.sc]], [(false, [.sc])], F_IsPlayable⟩
def impl_IsPlayable_hs : List NF := []

def impl_PlayOnce_r0 : L := .seq (.rg [⟨[], .bin .sub, [.v 15, .k (.int .i64 1)], 1⟩]) (.seq (.rg [⟨[], .len, [.v 2], 1⟩, ⟨[], .bin .add, [.v 19, .v 28], 1⟩]) (.seq (.seq (.rg [⟨[], .call F_WorkshopOk 0 1, [.v 10, .v 11, .v 12, .v 13, .v 14, .v 27, .v 16, .v 17, .v 18, .v 29], 1⟩, ⟨[], .un .not, [.v 30], 1⟩]) (.ite (.v 31) (.seq (.rg [⟨[], .call F_copyWorkshop 0 10, [.v 0, .v 1, .v 2, .v 3, .v 4, .v 5, .v 6, .v 7, .v 8, .v 9], 10⟩]) (.ret [.v 32, .v 33, .v 34, .v 35, .v 36, .v 37, .v 38, .v 39, .v 40, .v 41, .k (.bool false)])) (.skip))) (.seq (.rg []) (.ret [.v 10, .v 11, .v 12, .v 13, .v 14, .v 27, .v 16, .v 17, .v 18, .v 29, .k (.bool true)]))))
theorem impl_PlayOnce_r0_sh (Q : QT) (x0 x1 x2 x3 x4 x5 x6 x7 x8 x9 x10 x11 x12 x13 x14 x15 x16 x17 x18 x19 x20 x21 x22 x23 x24 x25 x26 : V) : shL impl_PlayOnce_r0 Q [x0, x1, x2, x3, x4, x5, x6, x7, x8, x9, x10, x11, x12, x13, x14, x15, x16, x17, x18, x19, x20, x21, x22, x23, x24, x25, x26] = (
  P1 (.bin .sub) [x15, .int .i64 1] fun v0 =>
  P1 (.len) [x2] fun v1 =>
  P1 (.bin .add) [x19, v1] fun v2 =>
  P1 (.call F_WorkshopOk 0 1) [x10, x11, x12, x13, x14, v0, x16, x17, x18, v2] fun v3 =>
  P1 (.un .not) [v3] fun v4 =>
  ifB v4 (
    P10 (.call F_copyWorkshop 0 10) [x0, x1, x2, x3, x4, x5, x6, x7, x8, x9] fun v5 v6 v7 v8 v9 v10 v11 v12 v13 v14 =>
    Q .ret [v5, v6, v7, v8, v9, v10, v11, v12, v13, v14, .bool false]) (
    Q .ret [x10, x11, x12, x13, x14, v0, x16, x17, x18, v2, .bool true])) := by kernel_rfl

def impl_PlayOnce_L : L := .seq (.rg []) (.seq (.rg [⟨[], .call F_copyWorkshop 0 10, [.v 0, .v 1, .v 2, .v 3, .v 4, .v 5, .v 6, .v 7, .v 8, .v 9], 10⟩]) (.seq (.seq (.rg [⟨[], .call F_WorkshopOk 0 1, [.v 0, .v 1, .v 2, .v 3, .v 4, .v 5, .v 6, .v 7, .v 8, .v 9], 1⟩, ⟨[], .un .not, [.v 20], 1⟩, ⟨[(.v 21, false)], .bin .eql, [.v 5, .k (.int .i64 0)], 1⟩, ⟨[], .pick, [.v 21, .k (.bool true), .v 22], 1⟩, ⟨[(.v 23, false)], .call F_IsPlayable 0 1, [.v 0, .v 1, .v 2, .k (.int .i64 2)], 1⟩, ⟨[(.v 23, false)], .un .not, [.v 24], 1⟩, ⟨[], .pick, [.v 23, .k (.bool true), .v 25], 1⟩]) (.ite (.v 26) (.seq (.rg []) (.ret [.v 10, .v 11, .v 12, .v 13, .v 14, .v 15, .v 16, .v 17, .v 18, .v 19, .k (.bool false)])) (.skip))) (impl_PlayOnce_r0)))
theorem impl_PlayOnce_L_sh (Q : QT) (x0 x1 x2 x3 x4 x5 x6 x7 x8 x9 : V) : shL impl_PlayOnce_L Q [x0, x1, x2, x3, x4, x5, x6, x7, x8, x9] = (
  P10 (.call F_copyWorkshop 0 10) [x0, x1, x2, x3, x4, x5, x6, x7, x8, x9] fun v0 v1 v2 v3 v4 v5 v6 v7 v8 v9 =>
  P1 (.call F_WorkshopOk 0 1) [x0, x1, x2, x3, x4, x5, x6, x7, x8, x9] fun v10 =>
  P1 (.un .not) [v10] fun v11 =>
  ifB v11 (
    Q .ret [v0, v1, v2, v3, v4, v5, v6, v7, v8, v9, .bool false]) (
    P1 (.bin .eql) [x5, .int .i64 0] fun v12 =>
    ifB v12 (
      Q .ret [v0, v1, v2, v3, v4, v5, v6, v7, v8, v9, .bool false]) (
      P1 (.call F_IsPlayable 0 1) [x0, x1, x2, .int .i64 2] fun v13 =>
      P1 (.un .not) [v13] fun v14 =>
      ifB v14 (
        Q .ret [v0, v1, v2, v3, v4, v5, v6, v7, v8, v9, .bool false]) (
        shL impl_PlayOnce_r0 Q [x0, x1, x2, x3, x4, x5, x6, x7, x8, x9, v0, v1, v2, v3, v4, v5, v6, v7, v8, v9, v10, .bool false, v12, .bool false, v13, v14, .bool false])))) := by kernel_rfl
def impl_PlayOnce_S : Sig := ⟨[.val true [.sc, .sc, .sl [.sc, .sc], .sl [.sl [.sc, .sc]], .sl [.sc], .sc, .sc, .sc, .sc, .sc]], [(true, [.sc, .sc, .sl [.sc, .sc], .sl [.sl [.sc, .sc]], .sl [.sc], .sc, .sc, .sc, .sc, .sc]), (false, [.sc])], F_PlayOnce⟩
def impl_PlayOnce_hs : List NF := []

def laws_FnExactPlayOnce_r1 : L := .seq (.rg []) (.seq (.rg [⟨[], .callN F_markWorkshop 3 1, [.v 43, .v 44, .v 45, .v 46, .v 47, .v 48, .v 49, .v 50, .v 51, .v 52, .k (.int .i64 1), .v 45, .v 46, .v 47], 4⟩]) (.seq (.rg []) (.seq (.rg [⟨[], .call F_heldWorkshop 0 1, [.v 43, .v 44, .v 81, .v 82, .v 83, .v 48, .v 49, .v 50, .v 51, .v 52, .k (.int .i64 1)], 1⟩]) (.seq (.seq (.rg [⟨[], .bin .lss, [.v 84, .k (.int .i64 0)], 1⟩]) (.ite (.v 85) (.seq (.rg []) (.ret [.k (.bool false)])) (.skip))) (.seq (.seq (.rg [⟨[], .bin .neq, [.v 84, .v 80], 1⟩]) (.ite (.v 86) (.seq (.rg []) (.ret [.k (.bool false)])) (.skip))) (.seq (.rg [⟨[], .call F_toWorkshop 0 10, [.v 0, .v 1, .v 2, .v 3, .v 4, .v 5, .v 6, .v 7, .v 8, .v 9], 10⟩, ⟨[], .call F_PlayOnce 0 11, [.v 87, .v 88, .v 89, .v 90, .v 91, .v 92, .v 93, .v 94, .v 95, .v 96], 11⟩]) (.seq (.seq (.rg [⟨[], .call F_eqWorkshop 0 1, [.v 97, .v 98, .v 99, .v 100, .v 101, .v 102, .v 103, .v 104, .v 105, .v 106, .v 22, .v 23, .v 24, .v 25, .v 26, .v 27, .v 28, .v 29, .v 30, .v 31], 1⟩, ⟨[], .un .not, [.v 108], 1⟩, ⟨[(.v 109, false)], .binb .neq, [.v 107, .v 32], 1⟩, ⟨[], .pick, [.v 109, .k (.bool true), .v 110], 1⟩]) (.ite (.v 111) (.seq (.rg []) (.ret [.k (.bool false)])) (.skip))) (.seq (.rg []) (.seq (.rg [⟨[], .call F_heldWorkshop 0 1, [.v 43, .v 44, .v 81, .v 82, .v 83, .v 48, .v 49, .v 50, .v 51, .v 52, .k (.int .i64 1)], 1⟩]) (.seq (.seq (.rg [⟨[], .bin .lss, [.v 112, .k (.int .i64 0)], 1⟩]) (.ite (.v 113) (.seq (.rg []) (.ret [.k (.bool false)])) (.skip))) (.seq (.seq (.rg [⟨[], .bin .neq, [.v 112, .v 80], 1⟩]) (.ite (.v 114) (.seq (.rg []) (.ret [.k (.bool false)])) (.skip))) (.seq (.rg []) (.ret [.k (.bool true)])))))))))))))
theorem laws_FnExactPlayOnce_r1_sh (Q : QT) (x0 x1 x2 x3 x4 x5 x6 x7 x8 x9 x10 x11 x12 x13 x14 x15 x16 x17 x18 x19 x20 x21 x22 x23 x24 x25 x26 x27 x28 x29 x30 x31 x32 x33 x34 x35 x36 x37 x38 x39 x40 x41 x42 x43 x44 x45 x46 x47 x48 x49 x50 x51 x52 x53 x54 x55 x56 x57 x58 x59 x60 x61 x62 x63 x64 x65 x66 x67 x68 x69 x70 x71 x72 x73 x74 x75 x76 x77 x78 x79 : V) : shL laws_FnExactPlayOnce_r1 Q [x0, x1, x2, x3, x4, x5, x6, x7, x8, x9, x10, x11, x12, x13, x14, x15, x16, x17, x18, x19, x20, x21, x22, x23, x24, x25, x26, x27, x28, x29, x30, x31, x32, x33, x34, x35, x36, x37, x38, x39, x40, x41, x42, x43, x44, x45, x46, x47, x48, x49, x50, x51, x52, x53, x54, x55, x56, x57, x58, x59, x60, x61, x62, x63, x64, x65, x66, x67, x68, x69, x70, x71, x72, x73, x74, x75, x76, x77, x78, x79] = (
  P4 (.callN F_markWorkshop 3 1) [x43, x44, x45, x46, x47, x48, x49, x50, x51, x52, .int .i64 1, x45, x46, x47] fun v0 v1 v2 v3 =>
  P1 (.call F_heldWorkshop 0 1) [x43, x44, v1, v2, v3, x48, x49, x50, x51, x52, .int .i64 1] fun v4 =>
  P1 (.bin .lss) [v4, .int .i64 0] fun v5 =>
  ifB v5 (
    Q .ret [.bool false]) (
    P1 (.bin .neq) [v4, v0] fun v6 =>
    ifB v6 (
      Q .ret [.bool false]) (
      P10 (.call F_toWorkshop 0 10) [x0, x1, x2, x3, x4, x5, x6, x7, x8, x9] fun v7 v8 v9 v10 v11 v12 v13 v14 v15 v16 =>
      P11 (.call F_PlayOnce 0 11) [v7, v8, v9, v10, v11, v12, v13, v14, v15, v16] fun v17 v18 v19 v20 v21 v22 v23 v24 v25 v26 v27 =>
      P1 (.call F_eqWorkshop 0 1) [v17, v18, v19, v20, v21, v22, v23, v24, v25, v26, x22, x23, x24, x25, x26, x27, x28, x29, x30, x31] fun v28 =>
      P1 (.un .not) [v28] fun v29 =>
      ifB v29 (
        Q .ret [.bool false]) (
        P1 (.binb .neq) [v27, x32] fun v30 =>
        ifB v30 (
          Q .ret [.bool false]) (
          P1 (.call F_heldWorkshop 0 1) [x43, x44, v1, v2, v3, x48, x49, x50, x51, x52, .int .i64 1] fun v31 =>
          P1 (.bin .lss) [v31, .int .i64 0] fun v32 =>
          ifB v32 (
            Q .ret [.bool false]) (
            P1 (.bin .neq) [v31, v0] fun v33 =>
            ifB v33 (
              Q .ret [.bool false]) (
              Q .ret [.bool true]))))))) := by kernel_rfl

def laws_FnExactPlayOnce_r0 : L := .seq (.seq (.rg [⟨[], .call F_toWorkshop 0 10, [.v 0, .v 1, .v 2, .v 3, .v 4, .v 5, .v 6, .v 7, .v 8, .v 9], 10⟩, ⟨[], .call F_eqWorkshop 0 1, [.v 33, .v 34, .v 35, .v 36, .v 37, .v 38, .v 39, .v 40, .v 41, .v 42, .v 58, .v 59, .v 60, .v 61, .v 62, .v 63, .v 64, .v 65, .v 66, .v 67], 1⟩, ⟨[], .un .not, [.v 68], 1⟩]) (.ite (.v 69) (.seq (.rg []) (.ret [.k (.bool false)])) (.skip))) (.seq (.rg []) (.seq (.rg [⟨[], .callN F_markWorkshop 3 1, [.v 33, .v 34, .v 35, .v 36, .v 37, .v 38, .v 39, .v 40, .v 41, .v 42, .k (.int .i64 1), .v 35, .v 36, .v 37], 4⟩]) (.seq (.seq (.rg [⟨[], .bin .lss, [.v 70, .k (.int .i64 0)], 1⟩, ⟨[(.v 74, false)], .call F_eqWorkshop 0 1, [.v 43, .v 44, .v 45, .v 46, .v 47, .v 48, .v 49, .v 50, .v 51, .v 52, .v 22, .v 23, .v 24, .v 25, .v 26, .v 27, .v 28, .v 29, .v 30, .v 31], 1⟩, ⟨[(.v 74, false)], .un .not, [.v 75], 1⟩, ⟨[], .pick, [.v 74, .k (.bool true), .v 76], 1⟩, ⟨[(.v 77, false)], .binb .neq, [.v 53, .v 32], 1⟩, ⟨[], .pick, [.v 77, .k (.bool true), .v 78], 1⟩]) (.ite (.v 79) (.seq (.rg []) (.ret [.k (.bool false)])) (.skip))) (laws_FnExactPlayOnce_r1))))
theorem laws_FnExactPlayOnce_r0_sh (Q : QT) (x0 x1 x2 x3 x4 x5 x6 x7 x8 x9 x10 x11 x12 x13 x14 x15 x16 x17 x18 x19 x20 x21 x22 x23 x24 x25 x26 x27 x28 x29 x30 x31 x32 x33 x34 x35 x36 x37 x38 x39 x40 x41 x42 x43 x44 x45 x46 x47 x48 x49 x50 x51 x52 x53 x54 x55 x56 x57 : V) : shL laws_FnExactPlayOnce_r0 Q [x0, x1, x2, x3, x4, x5, x6, x7, x8, x9, x10, x11, x12, x13, x14, x15, x16, x17, x18, x19, x20, x21, x22, x23, x24, x25, x26, x27, x28, x29, x30, x31, x32, x33, x34, x35, x36, x37, x38, x39, x40, x41, x42, x43, x44, x45, x46, x47, x48, x49, x50, x51, x52, x53, x54, x55, x56, x57] = (
  P10 (.call F_toWorkshop 0 10) [x0, x1, x2, x3, x4, x5, x6, x7, x8, x9] fun v0 v1 v2 v3 v4 v5 v6 v7 v8 v9 =>
  P1 (.call F_eqWorkshop 0 1) [x33, x34, x35, x36, x37, x38, x39, x40, x41, x42, v0, v1, v2, v3, v4, v5, v6, v7, v8, v9] fun v10 =>
  P1 (.un .not) [v10] fun v11 =>
  ifB v11 (
    Q .ret [.bool false]) (
    P4 (.callN F_markWorkshop 3 1) [x33, x34, x35, x36, x37, x38, x39, x40, x41, x42, .int .i64 1, x35, x36, x37] fun v12 v13 v14 v15 =>
    P1 (.bin .lss) [v12, .int .i64 0] fun v16 =>
    ifB v16 (
      Q .ret [.bool false]) (
      P1 (.call F_eqWorkshop 0 1) [x43, x44, x45, x46, x47, x48, x49, x50, x51, x52, x22, x23, x24, x25, x26, x27, x28, x29, x30, x31] fun v17 =>
      P1 (.un .not) [v17] fun v18 =>
      ifB v18 (
        Q .ret [.bool false]) (
        P1 (.binb .neq) [x53, x32] fun v19 =>
        ifB v19 (
          Q .ret [.bool false]) (
          shL laws_FnExactPlayOnce_r1 Q [x0, x1, x2, x3, x4, x5, x6, x7, x8, x9, x10, x11, x12, x13, x14, x15, x16, x17, x18, x19, x20, x21, x22, x23, x24, x25, x26, x27, x28, x29, x30, x31, x32, x33, x34, x35, x36, x37, x38, x39, x40, x41, x42, x43, x44, x45, x46, x47, x48, x49, x50, x51, x52, x53, x54, x55, x56, x57, v0, v1, v2, v3, v4, v5, v6, v7, v8, v9, v10, .bool false, v12, v13, v14, v15, .bool false, v17, v18, .bool false, v19, .bool false]))))) := by kernel_rfl

def laws_FnExactPlayOnce_L : L := .seq (.rg []) (.seq (.rg []) (.seq (.rg [⟨[], .call F_szWorkshop 0 1, [.v 0, .v 1, .v 2, .v 3, .v 4, .v 5, .v 6, .v 7, .v 8, .v 9, .k (.int .i64 1048576)], 1⟩]) (.seq (.seq (.rg [⟨[], .bin .lss, [.v 10, .k (.int .i64 0)], 1⟩]) (.ite (.v 11) (.seq (.rg []) (.ret [.k (.bool true)])) (.skip))) (.seq (.rg [⟨[], .call F_toWorkshop 0 10, [.v 0, .v 1, .v 2, .v 3, .v 4, .v 5, .v 6, .v 7, .v 8, .v 9], 10⟩, ⟨[], .call F_PlayOnce 0 11, [.v 12, .v 13, .v 14, .v 15, .v 16, .v 17, .v 18, .v 19, .v 20, .v 21], 11⟩]) (.seq (.rg [⟨[], .call F_toWorkshop 0 10, [.v 0, .v 1, .v 2, .v 3, .v 4, .v 5, .v 6, .v 7, .v 8, .v 9], 10⟩]) (.seq (.rg [⟨[], .call F_PlayOnce 0 11, [.v 33, .v 34, .v 35, .v 36, .v 37, .v 38, .v 39, .v 40, .v 41, .v 42], 11⟩]) (.seq (.seq (.rg [⟨[], .call F_eqWorkshop 0 1, [.v 43, .v 44, .v 45, .v 46, .v 47, .v 48, .v 49, .v 50, .v 51, .v 52, .v 22, .v 23, .v 24, .v 25, .v 26, .v 27, .v 28, .v 29, .v 30, .v 31], 1⟩, ⟨[], .un .not, [.v 54], 1⟩, ⟨[(.v 55, false)], .binb .neq, [.v 53, .v 32], 1⟩, ⟨[], .pick, [.v 55, .k (.bool true), .v 56], 1⟩]) (.ite (.v 57) (.seq (.rg []) (.ret [.k (.bool false)])) (.skip))) (laws_FnExactPlayOnce_r0))))))))
theorem laws_FnExactPlayOnce_L_sh (Q : QT) (x0 x1 x2 x3 x4 x5 x6 x7 x8 x9 : V) : shL laws_FnExactPlayOnce_L Q [x0, x1, x2, x3, x4, x5, x6, x7, x8, x9] = (
  P1 (.call F_szWorkshop 0 1) [x0, x1, x2, x3, x4, x5, x6, x7, x8, x9, .int .i64 1048576] fun v0 =>
  P1 (.bin .lss) [v0, .int .i64 0] fun v1 =>
  ifB v1 (
    Q .ret [.bool true]) (
    P10 (.call F_toWorkshop 0 10) [x0, x1, x2, x3, x4, x5, x6, x7, x8, x9] fun v2 v3 v4 v5 v6 v7 v8 v9 v10 v11 =>
    P11 (.call F_PlayOnce 0 11) [v2, v3, v4, v5, v6, v7, v8, v9, v10, v11] fun v12 v13 v14 v15 v16 v17 v18 v19 v20 v21 v22 =>
    P10 (.call F_toWorkshop 0 10) [x0, x1, x2, x3, x4, x5, x6, x7, x8, x9] fun v23 v24 v25 v26 v27 v28 v29 v30 v31 v32 =>
    P11 (.call F_PlayOnce 0 11) [v23, v24, v25, v26, v27, v28, v29, v30, v31, v32] fun v33 v34 v35 v36 v37 v38 v39 v40 v41 v42 v43 =>
    P1 (.call F_eqWorkshop 0 1) [v33, v34, v35, v36, v37, v38, v39, v40, v41, v42, v12, v13, v14, v15, v16, v17, v18, v19, v20, v21] fun v44 =>
    P1 (.un .not) [v44] fun v45 =>
    ifB v45 (
      Q .ret [.bool false]) (
      P1 (.binb .neq) [v43, v22] fun v46 =>
      ifB v46 (
        Q .ret [.bool false]) (
        shL laws_FnExactPlayOnce_r0 Q [x0, x1, x2, x3, x4, x5, x6, x7, x8, x9, v0, .bool false, v2, v3, v4, v5, v6, v7, v8, v9, v10, v11, v12, v13, v14, v15, v16, v17, v18, v19, v20, v21, v22, v23, v24, v25, v26, v27, v28, v29, v30, v31, v32, v33, v34, v35, v36, v37, v38, v39, v40, v41, v42, v43, v44, .bool false, v46, .bool false])))) := by kernel_rfl
def laws_FnExactPlayOnce_S : Sig := ⟨[.val true [.sc, .sc, .sl [.sc, .sc], .sl [.sl [.sc, .sc]], .sl [.sc], .sc, .sc, .sc, .sc, .sc]], [(false, [.sc])], F_FnExactPlayOnce⟩
def laws_FnExactPlayOnce_hs : List NF := []

end
end Go.Mw

/- Crank, RemovePin, the gap. -/
namespace Go.Mw
theorem shopOk_iff (w : Shop) : shopOk w = true ↔ benchOk w.bench = true ∧ combOk w.c = true ∧ springOk w.spring = true ∧ w.t = w.c.length ∧ within w.y 0 1000000 = true ∧ within w.d 0 1000000 = true := by
  simp [shopOk, Shop.spring]
theorem combOk_len {l : List Int} (h : combOk l = true) : l.length ≤ 24 := by
  simp [combOk, within] at h; omega
/-- A workshop whose memory is within bounds. -/
def sFit (w : Shop) : Prop := w.p.length ≤ 1048576 ∧ fitLL w.o ∧ w.c.length ≤ 1048576
def sSmall (w : Shop) : Prop := sFit w ∧ 1 + 2 * (w.p.length : Int) + 2 * sum2 w.o ≤ 1099511627776
theorem sSmall_of_tot {w : Shop} (h : (w.p.length : Int) + tot2 w.o + w.c.length ≤ 1048576) : sSmall w := by
  have h0 : 0 ≤ tot2 w.o := by rw [tot2_eq]; omega
  have := bSmall_of_tot (b := w.bench) (by simp only [Shop.bench]; omega)
  exact ⟨⟨this.1, this.2.1, by omega⟩, this.2.2⟩
theorem sSmall_of_ok {w : Shop} (h : shopOk w = true) : sSmall w := by
  have h := (shopOk_iff w).1 h
  have h1 := bSmall_of_ok h.1
  have h2 := combOk_len h.2.1
  exact ⟨⟨h1.1, h1.2.1, by omega⟩, h1.2.2⟩

theorem spec_l38Copy_ok : ∀ ds outs, F_l38Copy ds = some outs → shL spec_l38Copy_L (qRet outs) ds := F_l38Copy_elim fun x hp => by
  rw [spec_l38Copy_L_sh, p_l37Copy (x_p := x.p) (x_o := x.o) ⟨hp.1, hp.2.1⟩]
  simp
  omega
theorem impl_copyWorkshop_ok : ∀ ds outs, F_copyWorkshop ds = some outs → shL impl_copyWorkshop_L (qRet outs) ds := F_copyWorkshop_elim fun x hp => by
  rw [impl_copyWorkshop_L_sh, p_copyBench (x_p := x.p) (x_o := x.o) ⟨hp.1, hp.2.1⟩]
  simp only [p_copyInts (l := x.c) (by omega)]
  simp
theorem spec_Wind_ok : ∀ ds outs, F_Wind ds = some outs → shL spec_Wind_L (qRet outs) ds := F_Wind_elim fun x n => by
  rw [spec_Wind_L_sh]
  cases h : springOk x with
  | false => simp [h, windTo, windBy, windOk]
  | true =>
    have hb : 1 ≤ x.b ∧ x.b ≤ 50 ∧ 0 ≤ x.a ∧ x.a ≤ x.b := by simp [springOk, within] at h; omega
    cases h2 : within n 0 100 with
    | false => simp [h, h2, windTo, windBy, windOk]
    | true =>
      have hw : IntKind.i64.wrap (x.b - x.a) = x.b - x.a := wrap_id (by omega) (by omega)
      have hn : 0 ≤ n ∧ n ≤ 100 := by simpa [within] using h2
      have hw2 : IntKind.i64.wrap (x.a + min n (x.b - x.a)) = x.a + min n (x.b - x.a) := wrap_id (by omega) (by omega)
      simp [h, h2, windTo, windBy, windOk, hw, hw2]
theorem impl_Wind_ok : ∀ ds outs, F_Wind ds = some outs → shL impl_Wind_L (qRet outs) ds := F_Wind_elim fun x n => by
  rw [impl_Wind_L_sh]
  cases h : springOk x with
  | false => simp [h, windTo, windBy, windOk]
  | true =>
    have hb : 1 ≤ x.b ∧ x.b ≤ 50 ∧ 0 ≤ x.a ∧ x.a ≤ x.b := by simp [springOk, within] at h; omega
    cases h2 : within n 0 100 with
    | false => simp [h, h2, windTo, windBy, windOk]
    | true =>
      have hw : IntKind.i64.wrap (x.b - x.a) = x.b - x.a := wrap_id (by omega) (by omega)
      have hn : 0 ≤ n ∧ n ≤ 100 := by simpa [within] using h2
      have hw2 : IntKind.i64.wrap (x.a + min n (x.b - x.a)) = x.a + min n (x.b - x.a) := wrap_id (by omega) (by omega)
      simp [h, h2, windTo, windBy, windOk, hw, hw2]
theorem spec_Crank_ok : ∀ ds outs, F_Crank ds = some outs → shL spec_Crank_L (qRet outs) ds := F_Crank_elim fun x n hp => by
  rw [spec_Crank_L_sh, p_l38Copy (x_p := x.p) (x_o := x.o) (x_c := x.c) hp]
  simp only [p_WorkshopOk (x_p := x.p) (x_o := x.o) (x_c := x.c) hp]
  cases h : shopOk x <;> simp [h, crank, Shop.spring]
theorem windBy_neg {x : T3} {n : Int} (h : windBy x n < 0) : windTo x n = x ∧ windBy x n = -1 := by
  unfold windBy windTo at *
  cases hw : windOk x n with
  | false => simp
  | true =>
    exfalso
    rw [hw] at h
    simp only [windOk, springOk, within, Bool.and_eq_true, decide_eq_true_eq] at hw
    simp at h
    omega
theorem impl_Crank_ok : ∀ ds outs, F_Crank ds = some outs → shL impl_Crank_L (qRet outs) ds := F_Crank_elim fun x n hp => by
  rw [impl_Crank_L_sh, p_copyWorkshop (x_p := x.p) (x_o := x.o) (x_c := x.c) hp]
  simp only [p_Wind, p_WorkshopOk (x_p := x.p) (x_o := x.o) (x_c := x.c) hp]
  cases h : shopOk x with
  | false => simp [h, crank]
  | true =>
    simp [h, crank, Shop.spring]
    intro hn
    have := windBy_neg hn
    simp [this.1, this.2]

theorem impl_withBench_ok : ∀ ds outs, F_withBench ds = some outs → shL impl_withBench_L (qRet outs) ds := F_withBench_elim fun x y k n hp => by
  have h1 : x.p.length ≤ 1048576 ∧ fitLL x.o ∧ x.c.length ≤ 1048576 := ⟨hp.1, hp.2.1, hp.2.2.1⟩
  have h2 : y.p.length ≤ 1048576 ∧ fitLL y.o ∧ x.c.length ≤ 1048576 := ⟨hp.2.2.2.1, hp.2.2.2.2.1, hp.2.2.1⟩
  rw [impl_withBench_L_sh]
  simp only [p_copyWorkshop (x_p := x.p) (x_o := x.o) (x_c := x.c) h1, P1_sub, P1_not, p_WorkshopOk (x_p := x.p) (x_o := x.o) (x_c := x.c) h1, p_WorkshopOk (x_p := y.p) (x_o := y.o) (x_c := x.c) h2]
  cases n with
  | false => simp [withBench, benchFits]
  | true =>
    cases h : shopOk x with
    | false => simp [h, withBench, benchFits]
    | true =>
      have hy := ((shopOk_iff x).1 h).2.2.2.2.1
      have hy : 0 ≤ x.y ∧ x.y ≤ 1000000 := by simpa [within] using hy
      have hw : IntKind.i64.wrap (x.y - k) = x.y - k := wrap_id (by omega) (by omega)
      have e : (⟨y.s, y.t, y.p, y.o, x.c, x.u, x.m, x.f, x.y - k, x.d⟩ : Shop) = withB x y k := rfl
      rw [hw, e]
      cases h3 : shopOk (withB x y k) <;> simp [h, h3, withBench, benchFits]
      simp [withB]
theorem takePin_small {b : Bench} {k : Int} (h : bSmall b) : bSmall (takePin b k) := stepTo_small h
end Go.Mw

/- RemovePin; the law. -/
namespace Go.Mw
theorem takePin_no {b : Bench} {k : Int} (h : canTake b k = false) : takePin b k = b := by
  unfold canTake at h; unfold takePin stepTo; rw [h]; simp
theorem spec_RemovePin_ok : ∀ ds outs, F_RemovePin ds = some outs → shL spec_RemovePin_L (qRet outs) ds := F_RemovePin_elim fun x k hp => by
  have hb : x.p.length ≤ 1048576 ∧ fitLL x.o := ⟨hp.1, hp.2.1⟩
  rw [spec_RemovePin_L_sh, p_l38Copy (x_p := x.p) (x_o := x.o) (x_c := x.c) hp]
  simp only [p_l38Copy (x_p := x.p) (x_o := x.o) (x_c := x.c) hp, p_TakePin (x_p := x.p) (x_o := x.o) hb, p_WorkshopOk (x_p := x.p) (x_o := x.o) (x_c := x.c) hp]
  have e0 : (⟨x.s, x.t, x.p, x.o⟩ : Bench) = x.bench := rfl
  have e1 : (pullOk x.bench.cyl k && stepOk x.bench (pulled x.bench k)) = canTake x.bench k := rfl
  simp only [e0, e1]
  cases h : shopOk x with
  | false => simp [h, withBench, benchFits]
  | true =>
    cases h2 : canTake x.bench k with
    | false => simp [h, withBench, benchFits]
    | true =>
      have hs := takePin_small (k := k) (bSmall_of_ok ((shopOk_iff x).1 h).1)
      have hf : (takePin x.bench k).p.length ≤ 1048576 ∧ fitLL (takePin x.bench k).o ∧ x.c.length ≤ 1048576 := ⟨hs.1, hs.2.1, hp.2.2⟩
      have e : (⟨(takePin x.bench k).s, (takePin x.bench k).t, (takePin x.bench k).p, (takePin x.bench k).o, x.c, x.u, x.m, x.f, x.y, x.d⟩ : Shop) = withB x (takePin x.bench k) 0 := by simp [withB]
      simp only [p_WorkshopOk (x_p := (takePin x.bench k).p) (x_o := (takePin x.bench k).o) (x_c := x.c) hf, e]
      cases h3 : shopOk (withB x (takePin x.bench k) 0) <;> simp [h, h3, withBench, benchFits]
      simp [withB]
theorem impl_RemovePin_ok : ∀ ds outs, F_RemovePin ds = some outs → shL impl_RemovePin_L (qRet outs) ds := F_RemovePin_elim fun x k hp => by
  have hb : x.p.length ≤ 1048576 ∧ fitLL x.o := ⟨hp.1, hp.2.1⟩
  rw [impl_RemovePin_L_sh, p_TakePin (x_p := x.p) (x_o := x.o) hb]
  have e0 : (⟨x.s, x.t, x.p, x.o⟩ : Bench) = x.bench := rfl
  have e1 : (pullOk x.bench.cyl k && stepOk x.bench (pulled x.bench k)) = canTake x.bench k := rfl
  simp only [e0, e1]
  have hf : (takePin x.bench k).p.length ≤ 1048576 ∧ fitLL (takePin x.bench k).o := by
    cases h2 : canTake x.bench k with
    | false => rw [takePin_no h2]; exact hb
    | true =>
      have : stepOk x.bench (pulled x.bench k) = true := by simp [canTake] at h2; exact h2.2
      have hs : benchOk x.bench = true := by simp [stepOk] at this; exact this.1
      have := takePin_small (k := k) (bSmall_of_ok hs)
      exact ⟨this.1, this.2.1⟩
  generalize takePin x.bench k = B at *
  rw [p_withBench (x_p := x.p) (x_o := x.o) (x_c := x.c) (y_p := B.p) (y_o := B.o) ⟨hp.1, hp.2.1, hp.2.2, hf.1, hf.2, by omega, by omega⟩]
  simp
theorem withBench_small {x : Shop} {b : Bench} {k : Int} {ok : Bool} (h : sSmall x) : sSmall (withBench x b k ok) := by
  unfold withBench
  cases h2 : benchFits x b k ok with
  | false => simpa using h
  | true => simp [benchFits] at h2; simpa using sSmall_of_ok h2.2.2
theorem laws_FnExactRemovePin_ok : ∀ ds outs, F_FnExactRemovePin ds = some outs → shL laws_FnExactRemovePin_L (qRet outs) ds := F_FnExactRemovePin_elim fun x k hp => by
  rw [laws_FnExactRemovePin_L_sh]
  have hw : x.o.length ≤ 9223372036854775807 ∧ ∀ y ∈ x.o, y.length ≤ 9223372036854775807 := ⟨hp.2.2.2.1.1, fun y hy => (hp.2.2.2.1.2 y hy).1⟩
  rw [p_szWorkshop (x_p := x.p) (x_o := x.o) (x_c := x.c) ⟨hp.2.2.1.1, hw.1, hw.2, hp.2.2.2.2.1.1, by omega, by omega⟩]
  by_cases h : (x.p.length : Int) + tot2 x.o + x.c.length ≤ 1048576
  · have hx := sSmall_of_tot h
    have hs : sSmall (withBench x (takePin x.bench k) 0 (canTake x.bench k)) := withBench_small hx
    have h3 : ¬ (1048576 - (x.p.length : Int) - tot2 x.o - x.c.length < 0) := by omega
    have hf : x.p.length ≤ 1048576 ∧ fitLL x.o ∧ x.c.length ≤ 1048576 := hx.1
    rw [if_pos h]
    simp only [P1_lss, ifB_bool, decide_eq_true_eq, decide_eq_false_iff_not, laws_FnExactRemovePin_r0_sh, laws_FnExactRemovePin_r1_sh, p_toWorkshop (x_p := x.p) (x_o := x.o) (x_c := x.c) hf, p_RemovePin (x_p := x.p) (x_o := x.o) (x_c := x.c) hf]
    refine ⟨fun h4 => absurd h4 h3, fun _ => ?_⟩
    obtain ⟨⟨x1, x2, x3⟩, x4⟩ := hx
    clear h3 h hw hp
    generalize withBench x (takePin x.bench k) 0 (canTake x.bench k) = B at *
    obtain ⟨⟨b1, b2, b3⟩, b4⟩ := hs
    have b5 := fit_mark (1 + 2 * (B.p.length : Int)) b2
    have b6 : (0 : Int) ≤ 1 + 2 * (B.p.length : Int) + 2 * sum2 B.o + B.c.length := by omega
    have x6 : (0 : Int) ≤ 1 + 2 * (x.p.length : Int) + 2 * sum2 x.o + x.c.length := by omega
    simp [p_eqWorkshop, b1, b2, b3, x1, x2, x3, p_markWorkshop, p_heldWorkshop, b4, b5, b6, x4, x6, sum2_mark, markLL2_idem]
  · rw [if_neg h]; simp
theorem crank_small {x : Shop} {n : Int} (h : sSmall x) : sSmall (crank x n) := by
  unfold crank
  split
  · exact h
  · exact h
theorem laws_FnExactCrank_ok : ∀ ds outs, F_FnExactCrank ds = some outs → shL laws_FnExactCrank_L (qRet outs) ds := F_FnExactCrank_elim fun x k hp => by
  rw [laws_FnExactCrank_L_sh]
  have hw : x.o.length ≤ 9223372036854775807 ∧ ∀ y ∈ x.o, y.length ≤ 9223372036854775807 := ⟨hp.2.2.2.1.1, fun y hy => (hp.2.2.2.1.2 y hy).1⟩
  rw [p_szWorkshop (x_p := x.p) (x_o := x.o) (x_c := x.c) ⟨hp.2.2.1.1, hw.1, hw.2, hp.2.2.2.2.1.1, by omega, by omega⟩]
  by_cases h : (x.p.length : Int) + tot2 x.o + x.c.length ≤ 1048576
  · have hx := sSmall_of_tot h
    have hs : sSmall (crank x k) := crank_small hx
    have h3 : ¬ (1048576 - (x.p.length : Int) - tot2 x.o - x.c.length < 0) := by omega
    have hf : x.p.length ≤ 1048576 ∧ fitLL x.o ∧ x.c.length ≤ 1048576 := hx.1
    rw [if_pos h]
    simp only [P1_lss, ifB_bool, decide_eq_true_eq, decide_eq_false_iff_not, laws_FnExactCrank_r0_sh, laws_FnExactCrank_r1_sh, p_toWorkshop (x_p := x.p) (x_o := x.o) (x_c := x.c) hf, p_Crank (x_p := x.p) (x_o := x.o) (x_c := x.c) hf]
    refine ⟨fun h4 => absurd h4 h3, fun _ => ?_⟩
    obtain ⟨⟨x1, x2, x3⟩, x4⟩ := hx
    clear h3 h hw hp
    generalize crank x k = B at *
    obtain ⟨⟨b1, b2, b3⟩, b4⟩ := hs
    have b5 := fit_mark (1 + 2 * (B.p.length : Int)) b2
    have b6 : (0 : Int) ≤ 1 + 2 * (B.p.length : Int) + 2 * sum2 B.o + B.c.length := by omega
    have x6 : (0 : Int) ≤ 1 + 2 * (x.p.length : Int) + 2 * sum2 x.o + x.c.length := by omega
    simp [p_eqWorkshop, b1, b2, b3, x1, x2, x3, p_markWorkshop, p_heldWorkshop, b4, b5, b6, x4, x6, sum2_mark, markLL2_idem]
  · rw [if_neg h]; simp
end Go.Mw

/- The gap; pins that stand too close. -/
namespace Go.Mw
theorem within_iff {a b c : Int} : within a b c = true ↔ b ≤ a ∧ a ≤ c := by simp [within]
theorem spec_GapAround_ok : ∀ ds outs, F_GapAround ds = some outs → shL spec_GapAround_L (qRet outs) ds := F_GapAround_elim fun a b n => by
  rw [spec_GapAround_L_sh]
  cases h : within n 1 1000 with
  | false => simp [h, gap]
  | true =>
    have hn := within_iff.1 h
    have hw : IntKind.i64.wrap (n - 1) = n - 1 := wrap_id (by omega) (by omega)
    cases h2 : within a 0 (n - 1) with
    | false => simp [h, hw, h2, gap]
    | true =>
      cases h3 : within b 0 (n - 1) with
      | false => simp [h, hw, h2, h3, gap]
      | true =>
        have ha := within_iff.1 h2
        have hb := within_iff.1 h3
        have w1 : IntKind.i64.wrap (a - b) = a - b := wrap_id (by omega) (by omega)
        have w2 : IntKind.i64.wrap (b - a) = b - a := wrap_id (by omega) (by omega)
        have w3 : IntKind.i64.wrap (n - max (a - b) (b - a)) = n - max (a - b) (b - a) := wrap_id (by omega) (by omega)
        simp [h, hw, h2, h3, gap, w1, w2, w3]
theorem impl_GapAround_ok : ∀ ds outs, F_GapAround ds = some outs → shL impl_GapAround_L (qRet outs) ds := F_GapAround_elim fun a b n => by
  rw [impl_GapAround_L_sh]
  cases h : within n 1 1000 with
  | false => simp [h, gap]
  | true =>
    have hn := within_iff.1 h
    have hw : IntKind.i64.wrap (n - 1) = n - 1 := wrap_id (by omega) (by omega)
    cases h2 : within a 0 (n - 1) with
    | false => simp [h, hw, h2, gap]
    | true =>
      cases h3 : within b 0 (n - 1) with
      | false => simp [h, hw, h2, h3, gap]
      | true =>
        have ha := within_iff.1 h2
        have hb := within_iff.1 h3
        have w1 : IntKind.i64.wrap (a - b) = a - b := wrap_id (by omega) (by omega)
        have w3 : IntKind.i64.wrap (n - max (a - b) (b - a)) = n - max (a - b) (b - a) := wrap_id (by omega) (by omega)
        have e : mag (a - b) = max (a - b) (b - a) := by unfold mag; split <;> omega
        have hm : -9223372036854775807 ≤ a - b ∧ a - b ≤ 9223372036854775807 := by omega
        simp [h, hw, h2, h3, gap, w1, p_magnitude hm, e, w3]

theorem closeRow_len (c : Cyl) (r : Int) (i k : Nat) : (closeRow c r i k).length ≤ k := by
  induction k with
  | zero => simp [closeRow]
  | succ k ih => simp only [closeRow, List.length_append]; split <;> simp <;> omega
theorem closeTo_len (c : Cyl) (r : Int) (k : Nat) : (closeTo c r k).length ≤ k * c.p.length := by
  induction k with
  | zero => simp [closeTo]
  | succ k ih =>
    have := closeRow_len c r k c.p.length
    simp only [closeTo, List.length_append, Nat.add_mul]; omega
theorem closeRow_none (c : Cyl) (r : Int) (i k : Nat) (h : k ≤ i + 1) : closeRow c r i k = [] := by
  induction k with
  | zero => rfl
  | succ k ih => simp only [closeRow, ih (by omega)]; rw [if_neg (by omega)]; rfl
theorem closeRow_len2 (c : Cyl) (r : Int) (i k : Nat) : (closeTo c r i ++ closeRow c r i k).length ≤ i * c.p.length + k := by
  have h1 := closeTo_len c r i
  have h2 := closeRow_len c r i k
  simp only [List.length_append]; omega

theorem closeAt_eq {c : Cyl} {r : Int} {i j : Nat} (hi : i < c.p.length) (hj : j < c.p.length) : closeAt c r i j = decide (c.p[i].a = c.p[j].a ∧ gap c.p[i].b c.p[j].b c.s < r) := by
  simp [closeAt, List.getElem?_eq_getElem hi, List.getElem?_eq_getElem hj]
theorem spec_TooClose_ok : ∀ ds outs, F_TooClose ds = some outs → shL spec_TooClose_L (qRet outs) ds := F_TooClose_elim fun x r hp => by
  rw [spec_TooClose_L_sh]
  simp only [p_CylinderOk (x_p := x.p) hp]
  have hc : cylOk ⟨x.s, x.t, x.p⟩ = cylOk x := rfl
  simp only [hc]
  cases h : cylOk x with
  | false => simp [h, tooClose]; rfl
  | true =>
    cases h2 : within r 1 96 with
    | false => simp [h, h2, tooClose]; rfl
    | true =>
      have hb := cylOk_bounds h
      have hl := hb.2.2
      simp [h, h2]
      refine loop_upto x.p.length (fun i => [.int .i64 r, .int .i64 i, vL IL1 vLL1 (closeTo x r i), .int .i64 x.s, .int .i64 x.t, vL I2 v2 x.p]) (by intro i j _ _ h; simp at h; omega) (fun _ => True) (by simp [closeTo]; rfl) trivial ?_
      intro i hi _
      rw [spec_TooClose_b0_sh]
      simp
      refine ⟨fun hi2 => ?_, fun hi2 => ?_⟩
      · have hw : IntKind.i64.wrap ((i : Int) + 1) = i + 1 := wrap_id (by omega) (by omega)
        rw [hw]
        refine loop_upto (x.p.length - (i + 1)) (fun j => [.int .i64 r, .int .i64 i, .int .i64 ((i + 1 + j : Nat) : Int), vL IL1 vLL1 (closeTo x r i ++ closeRow x r i (i + 1 + j)), .int .i64 x.s, .int .i64 x.t, vL I2 v2 x.p]) (by intro a b _ _ h; simp at h; omega) (fun _ => True) (by simp [closeRow_none]) trivial ?_
        intro j hj _
        rw [spec_TooClose_b1_sh]
        generalize hm : i + 1 + j = m at *
        simp only [P1_len, P1_lss, ifB_bool, decide_eq_true_eq, decide_eq_false_iff_not]
        refine ⟨fun h3 => ?_, fun h3 => ?_⟩
        · have h4 : m < x.p.length := by omega
          have hw2 : IntKind.i64.wrap ((m : Int) + 1) = m + 1 := wrap_id (by omega) (by omega)
          have e2 : i + 1 + (j + 1) = m + 1 := by omega
          have hx := closeRow_len2 x r i m
          have hx2 : i * x.p.length + m ≤ 100 * 100 + 100 := by
            have := Nat.mul_le_mul (show i ≤ 100 by omega) hl
            omega
          have him : i < m := by omega
          have hj2 : j < x.p.length - (i + 1) := by omega
          have hrow : closeRow x r i (m + 1) = closeRow x r i m ++ (if x.p[i].a = x.p[m].a ∧ gap x.p[i].b x.p[m].b x.s < r then [[(i : Int), (m : Int)]] else []) := by
            simp [closeRow, him, closeAt_eq hi2 h4]
          have hx3 : (closeTo x r i).length + (closeRow x r i m).length ≤ 10100 := by
            simp only [List.length_append] at hx; omega
          simp only [e2, hrow]
          generalize closeRow x r i m = R at *
          clear hrow
          simp [hi2, h4, hw2, hj2]
          refine ⟨fun h5 => ⟨fun h6 => ?_, fun h6 => ?_⟩, fun h5 => ?_⟩
          · simp [h5, h6]; omega
          · exact fun _ => h6
          · exact fun h8 => absurd h8 h5
        · obtain rfl : m = x.p.length := by omega
          simp [spec_TooClose_r2_sh, spec_TooClose_r3_sh, spec_TooClose_r4_sh, hw, closeTo, hi2]
      · obtain rfl : i = x.p.length := by omega
        simp [spec_TooClose_r5_sh, tooClose, h, h2]
theorem impl_TooClose_ok : ∀ ds outs, F_TooClose ds = some outs → shL impl_TooClose_L (qRet outs) ds := F_TooClose_elim fun x r hp => by
  rw [impl_TooClose_L_sh]
  simp only [p_CylinderOk (x_p := x.p) hp]
  have hc : cylOk ⟨x.s, x.t, x.p⟩ = cylOk x := rfl
  simp only [hc]
  cases h : cylOk x with
  | false => simp [h, tooClose]; rfl
  | true =>
    cases h2 : within r 1 96 with
    | false => simp [h, h2, tooClose]; rfl
    | true =>
      have hb := cylOk_bounds h
      have hl := hb.2.2
      simp [h, h2]
      refine loop_upto x.p.length (fun i => [.int .i64 r, vL I2 v2 x.p, .int .i64 x.p.length, .int .i64 i, vL IL1 vLL1 (closeTo x r i), .int .i64 x.s, .int .i64 x.t, vL I2 v2 x.p]) (by intro i j _ _ h; simp at h; omega) (fun _ => True) (by simp [closeTo]; rfl) trivial ?_
      intro i hi _
      rw [impl_TooClose_b0_sh]
      simp
      refine ⟨fun hi2 => ?_, fun hi2 => ?_⟩
      · have hw : IntKind.i64.wrap ((i : Int) + 1) = i + 1 := wrap_id (by omega) (by omega)
        simp only [List.getElem?_eq_getElem hi2, Option.some.injEq, exists_eq_left', hw]
        refine loop_upto (x.p.length - (i + 1)) (fun j => [.int .i64 r, .int .i64 i, .int .i64 ((i + 1 + j : Nat) : Int), vL I2 v2 x.p, .int .i64 x.p.length, .int .i64 i, vL IL1 vLL1 (closeTo x r i ++ closeRow x r i (i + 1 + j)), .int .i64 x.s, .int .i64 x.t, vL I2 v2 x.p, .int .i64 x.p[i].a, .int .i64 x.p[i].b]) (by intro a b _ _ h; simp at h; omega) (fun _ => True) (by simp [closeRow_none]) trivial ?_
        intro j hj _
        rw [impl_TooClose_b1_sh]
        generalize hm : i + 1 + j = m at *
        simp only [P1_len, P1_lss, ifB_bool, decide_eq_true_eq, decide_eq_false_iff_not]
        refine ⟨fun h3 => ?_, fun h3 => ?_⟩
        · have h4 : m < x.p.length := by omega
          have hw2 : IntKind.i64.wrap ((m : Int) + 1) = m + 1 := wrap_id (by omega) (by omega)
          have e2 : i + 1 + (j + 1) = m + 1 := by omega
          have hx := closeRow_len2 x r i m
          have hx2 : i * x.p.length + m ≤ 100 * 100 + 100 := by
            have := Nat.mul_le_mul (show i ≤ 100 by omega) hl
            omega
          have him : i < m := by omega
          have hj2 : j < x.p.length - (i + 1) := by omega
          have hrow : closeRow x r i (m + 1) = closeRow x r i m ++ (if x.p[i].a = x.p[m].a ∧ gap x.p[i].b x.p[m].b x.s < r then [[(i : Int), (m : Int)]] else []) := by
            simp [closeRow, him, closeAt_eq hi2 h4]
          have hx3 : (closeTo x r i).length + (closeRow x r i m).length ≤ 10100 := by
            simp only [List.length_append] at hx; omega
          simp only [e2, hrow]
          generalize closeRow x r i m = R at *
          clear hrow
          simp [h4, hw2, hj2]
          refine ⟨fun h5 => ⟨fun h6 => ?_, fun h6 => ?_⟩, fun h5 => ?_⟩
          · simp [h5, h6]; omega
          · exact fun _ => h6
          · exact fun h8 => absurd h8 h5
        · obtain rfl : m = x.p.length := by omega
          simp [impl_TooClose_r2_sh, impl_TooClose_r3_sh, impl_TooClose_r4_sh, hw, closeTo, hi2]
      · obtain rfl : i = x.p.length := by omega
        simp [impl_TooClose_r5_sh, tooClose, h, h2]

theorem spec_IsPlayable_ok : ∀ ds outs, F_IsPlayable ds = some outs → shL spec_IsPlayable_L (qRet outs) ds := F_IsPlayable_elim fun x r hp => by
  rw [spec_IsPlayable_L_sh]
  simp only [p_CylinderOk (x_p := x.p) hp, p_TooClose (x_p := x.p) hp]
  have hc : cylOk ⟨x.s, x.t, x.p⟩ = cylOk x := rfl
  simp only [hc, playable]
  have e : ((tooClose x r).length : Int) = 0 ↔ tooClose x r = [] := by rw [← List.length_eq_zero_iff]; omega
  have e2 : (((tooClose x r).length : Int) == 0) = decide (tooClose x r = []) := by rw [← decide_eq_decide.2 e]; rfl
  cases h : cylOk x <;> cases h2 : within r 1 96 <;> simp [h2, e2]
theorem impl_IsPlayable_ok : ∀ ds outs, F_IsPlayable ds = some outs → shL impl_IsPlayable_L (qRet outs) ds := F_IsPlayable_elim fun x r hp => by
  rw [impl_IsPlayable_L_sh]
  simp only [p_CylinderOk (x_p := x.p) hp, p_TooClose (x_p := x.p) hp]
  have hc : cylOk ⟨x.s, x.t, x.p⟩ = cylOk x := rfl
  simp only [hc, playable]
  have e : ((tooClose x r).length : Int) = 0 ↔ tooClose x r = [] := by rw [← List.length_eq_zero_iff]; omega
  have e2 : (((tooClose x r).length : Int) == 0) = decide (tooClose x r = []) := by rw [← decide_eq_decide.2 e]; rfl
  cases h : cylOk x <;> cases h2 : within r 1 96 <;> simp [h2, e2]
theorem spec_PlayOnce_ok : ∀ ds outs, F_PlayOnce ds = some outs → shL spec_PlayOnce_L (qRet outs) ds := F_PlayOnce_elim fun x hp => by
  rw [spec_PlayOnce_L_sh]
  simp only [p_l38Copy (x_p := x.p) (x_o := x.o) (x_c := x.c) hp, p_WorkshopOk (x_p := x.p) (x_o := x.o) (x_c := x.c) hp, p_IsPlayable (x_p := x.p) hp.1, spec_PlayOnce_r0_sh]
  cases h : shopOk x with
  | false => simp [h, playOnce, canPlay]
  | true =>
    have hs := (shopOk_iff x).1 h
    have hu : 0 ≤ x.u ∧ x.u ≤ 50 := by have h9 := hs.2.2.1; simp only [Shop.spring, springOk, Bool.and_eq_true, within_iff] at h9; omega
    have hd := within_iff.1 hs.2.2.2.2.2
    by_cases h2 : x.u = 0
    · simp [h, h2, playOnce, canPlay]
    · cases h3 : playable ⟨x.s, x.t, x.p⟩ 2 with
      | false => simp [h, h2, h3, playOnce, canPlay]
      | true =>
        have hw : IntKind.i64.wrap (x.u - 1) = x.u - 1 := wrap_id (by omega) (by omega)
        have hw2 : IntKind.i64.wrap (x.d + x.p.length) = x.d + x.p.length := wrap_id (by omega) (by omega)
        have e : (⟨x.s, x.t, x.p, x.o, x.c, x.u - 1, x.m, x.f, x.y, x.d + x.p.length⟩ : Shop) = played x := rfl
        have hq := fun (nr_ : Nat) (kk_ : V → Prop) => p_WorkshopOk (x_s := x.s) (x_t := x.t) (x_p := x.p) (x_o := x.o) (x_c := x.c) (x_u := x.u - 1) (x_m := x.m) (x_f := x.f) (x_y := x.y) (x_d := x.d + x.p.length) (nr_ := nr_) (kk_ := kk_) hp
        rw [e] at hq
        simp only [P1_sub, P1_add, P1_len, hw, hw2, hq]
        cases h4 : shopOk (played x) <;> simp [h, h2, h3, h4, playOnce, canPlay]
        simp [played]
theorem impl_PlayOnce_ok : ∀ ds outs, F_PlayOnce ds = some outs → shL impl_PlayOnce_L (qRet outs) ds := F_PlayOnce_elim fun x hp => by
  rw [impl_PlayOnce_L_sh]
  simp only [p_copyWorkshop (x_p := x.p) (x_o := x.o) (x_c := x.c) hp, p_WorkshopOk (x_p := x.p) (x_o := x.o) (x_c := x.c) hp, p_IsPlayable (x_p := x.p) hp.1, impl_PlayOnce_r0_sh]
  cases h : shopOk x with
  | false => simp [h, playOnce, canPlay]
  | true =>
    have hs := (shopOk_iff x).1 h
    have hu : 0 ≤ x.u ∧ x.u ≤ 50 := by have h9 := hs.2.2.1; simp only [Shop.spring, springOk, Bool.and_eq_true, within_iff] at h9; omega
    have hd := within_iff.1 hs.2.2.2.2.2
    by_cases h2 : x.u = 0
    · simp [h, h2, playOnce, canPlay]
    · cases h3 : playable ⟨x.s, x.t, x.p⟩ 2 with
      | false => simp [h, h2, h3, playOnce, canPlay]
      | true =>
        have hw : IntKind.i64.wrap (x.u - 1) = x.u - 1 := wrap_id (by omega) (by omega)
        have hw2 : IntKind.i64.wrap (x.d + x.p.length) = x.d + x.p.length := wrap_id (by omega) (by omega)
        have e : (⟨x.s, x.t, x.p, x.o, x.c, x.u - 1, x.m, x.f, x.y, x.d + x.p.length⟩ : Shop) = played x := rfl
        have hq := fun (nr_ : Nat) (kk_ : V → Prop) => p_WorkshopOk (x_s := x.s) (x_t := x.t) (x_p := x.p) (x_o := x.o) (x_c := x.c) (x_u := x.u - 1) (x_m := x.m) (x_f := x.f) (x_y := x.y) (x_d := x.d + x.p.length) (nr_ := nr_) (kk_ := kk_) hp
        rw [e] at hq
        simp only [P1_sub, P1_add, P1_len, hw, hw2, hq]
        cases h4 : shopOk (played x) <;> simp [h, h2, h3, h4, playOnce, canPlay]
        simp [played]
theorem playOnce_small {x : Shop} (h : sSmall x) : sSmall (playOnce x) := by
  unfold playOnce
  split
  · exact h
  · exact h
theorem laws_FnExactPlayOnce_ok : ∀ ds outs, F_FnExactPlayOnce ds = some outs → shL laws_FnExactPlayOnce_L (qRet outs) ds := F_FnExactPlayOnce_elim fun x hp => by
  rw [laws_FnExactPlayOnce_L_sh]
  have hw : x.o.length ≤ 9223372036854775807 ∧ ∀ y ∈ x.o, y.length ≤ 9223372036854775807 := ⟨hp.2.2.2.1.1, fun y hy => (hp.2.2.2.1.2 y hy).1⟩
  rw [p_szWorkshop (x_p := x.p) (x_o := x.o) (x_c := x.c) ⟨hp.2.2.1.1, hw.1, hw.2, hp.2.2.2.2.1.1, by omega, by omega⟩]
  by_cases h : (x.p.length : Int) + tot2 x.o + x.c.length ≤ 1048576
  · have hx := sSmall_of_tot h
    have hs : sSmall (playOnce x) := playOnce_small hx
    have h3 : ¬ (1048576 - (x.p.length : Int) - tot2 x.o - x.c.length < 0) := by omega
    have hf : x.p.length ≤ 1048576 ∧ fitLL x.o ∧ x.c.length ≤ 1048576 := hx.1
    rw [if_pos h]
    simp only [P1_lss, ifB_bool, decide_eq_true_eq, decide_eq_false_iff_not, laws_FnExactPlayOnce_r0_sh, laws_FnExactPlayOnce_r1_sh, p_toWorkshop (x_p := x.p) (x_o := x.o) (x_c := x.c) hf, p_PlayOnce (x_p := x.p) (x_o := x.o) (x_c := x.c) hf]
    refine ⟨fun h4 => absurd h4 h3, fun _ => ?_⟩
    obtain ⟨⟨x1, x2, x3⟩, x4⟩ := hx
    clear h3 h hw hp
    generalize playOnce x = B at *
    obtain ⟨⟨b1, b2, b3⟩, b4⟩ := hs
    have b5 := fit_mark (1 + 2 * (B.p.length : Int)) b2
    have b6 : (0 : Int) ≤ 1 + 2 * (B.p.length : Int) + 2 * sum2 B.o + B.c.length := by omega
    have x6 : (0 : Int) ≤ 1 + 2 * (x.p.length : Int) + 2 * sum2 x.o + x.c.length := by omega
    simp [p_eqWorkshop, b1, b2, b3, x1, x2, x3, p_markWorkshop, p_heldWorkshop, b4, b5, b6, x4, x6, sum2_mark, markLL2_idem]
  · rw [if_neg h]; simp
end Go.Mw

