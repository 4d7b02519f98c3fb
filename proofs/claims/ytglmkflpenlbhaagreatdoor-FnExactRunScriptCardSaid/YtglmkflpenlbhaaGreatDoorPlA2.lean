/- What functions of the program compute, as small pure programs, shown against plain Lean functions: no condition. -/
import Derived.KernelRfl
import Derived.Lib.ItoaMem
import Derived.Lib.ItoaLen
import Derived.Lib.AtoiAll
import Derived.Lib.Join
import Derived.Lib.Repeat
import Derived.Lib.Split
import Derived.Test.YtglmkflpenlbhaaGreatDoorPlA1
namespace Go.Mw
theorem within_iff {a b c : Int} : within a b c = true ↔ b ≤ a ∧ a ≤ c := by simp [within]
theorem spec_GapAround_ok : ∀ ds outs, F_GapAround ds = some outs → shL spec_GapAround_L (qRet outs) ds := F_GapAround_elim fun a b n => by
  rw [spec_GapAround_L_sh]
  cases h : within n 1 1000 with
  | false => simp [h, gap]
  | true =>
    have hn := within_iff.1 h
    have hw : IntKind.i64.wrap (n - 1) = n - 1 := wrap_id (by omega) (by omega)
    cases h2 : within a 0 (n - 1) with
    | false => simp [h, hw, h2, gap]
    | true =>
      cases h3 : within b 0 (n - 1) with
      | false => simp [h, hw, h2, h3, gap]
      | true =>
        have ha := within_iff.1 h2
        have hb := within_iff.1 h3
        have w1 : IntKind.i64.wrap (a - b) = a - b := wrap_id (by omega) (by omega)
        have w2 : IntKind.i64.wrap (b - a) = b - a := wrap_id (by omega) (by omega)
        have w3 : IntKind.i64.wrap (n - max (a - b) (b - a)) = n - max (a - b) (b - a) := wrap_id (by omega) (by omega)
        simp [h, hw, h2, h3, gap, w1, w2, w3]
theorem impl_GapAround_ok : ∀ ds outs, F_GapAround ds = some outs → shL impl_GapAround_L (qRet outs) ds := F_GapAround_elim fun a b n => by
  rw [impl_GapAround_L_sh]
  cases h : within n 1 1000 with
  | false => simp [h, gap]
  | true =>
    have hn := within_iff.1 h
    have hw : IntKind.i64.wrap (n - 1) = n - 1 := wrap_id (by omega) (by omega)
    cases h2 : within a 0 (n - 1) with
    | false => simp [h, hw, h2, gap]
    | true =>
      cases h3 : within b 0 (n - 1) with
      | false => simp [h, hw, h2, h3, gap]
      | true =>
        have ha := within_iff.1 h2
        have hb := within_iff.1 h3
        have w1 : IntKind.i64.wrap (a - b) = a - b := wrap_id (by omega) (by omega)
        have w3 : IntKind.i64.wrap (n - max (a - b) (b - a)) = n - max (a - b) (b - a) := wrap_id (by omega) (by omega)
        have e : mag (a - b) = max (a - b) (b - a) := by unfold mag; split <;> omega
        have hm : -9223372036854775807 ≤ a - b ∧ a - b ≤ 9223372036854775807 := by omega
        simp [h, hw, h2, h3, gap, w1, p_magnitude hm, e, w3]

theorem closeRow_len (c : Cyl) (r : Int) (i k : Nat) : (closeRow c r i k).length ≤ k := by
  induction k with
  | zero => simp [closeRow]
  | succ k ih => simp only [closeRow, List.length_append]; split <;> simp <;> omega
theorem closeTo_len (c : Cyl) (r : Int) (k : Nat) : (closeTo c r k).length ≤ k * c.p.length := by
  induction k with
  | zero => simp [closeTo]
  | succ k ih =>
    have := closeRow_len c r k c.p.length
    simp only [closeTo, List.length_append, Nat.add_mul]; omega
theorem closeRow_none (c : Cyl) (r : Int) (i k : Nat) (h : k ≤ i + 1) : closeRow c r i k = [] := by
  induction k with
  | zero => rfl
  | succ k ih => simp only [closeRow, ih (by omega)]; rw [if_neg (by omega)]; rfl
theorem closeRow_len2 (c : Cyl) (r : Int) (i k : Nat) : (closeTo c r i ++ closeRow c r i k).length ≤ i * c.p.length + k := by
  have h1 := closeTo_len c r i
  have h2 := closeRow_len c r i k
  simp only [List.length_append]; omega

theorem closeAt_eq {c : Cyl} {r : Int} {i j : Nat} (hi : i < c.p.length) (hj : j < c.p.length) : closeAt c r i j = decide (c.p[i].a = c.p[j].a ∧ gap c.p[i].b c.p[j].b c.s < r) := by
  simp [closeAt, List.getElem?_eq_getElem hi, List.getElem?_eq_getElem hj]
theorem spec_TooClose_ok : ∀ ds outs, F_TooClose ds = some outs → shL spec_TooClose_L (qRet outs) ds := F_TooClose_elim fun x r hp => by
  rw [spec_TooClose_L_sh]
  simp only [p_CylinderOk (x_p := x.p) hp]
  have hc : cylOk ⟨x.s, x.t, x.p⟩ = cylOk x := rfl
  simp only [hc]
  cases h : cylOk x with
  | false => simp [h, tooClose]; rfl
  | true =>
    cases h2 : within r 1 96 with
    | false => simp [h, h2, tooClose]; rfl
    | true =>
      have hb := cylOk_bounds h
      have hl := hb.2.2
      simp [h, h2]
      refine loop_upto x.p.length (fun i => [.int .i64 r, .int .i64 i, vL IL1 vLL1 (closeTo x r i), .int .i64 x.s, .int .i64 x.t, vL I2 v2 x.p]) (by intro i j _ _ h; simp at h; omega) (fun _ => True) (by simp [closeTo]; rfl) trivial ?_
      intro i hi _
      rw [spec_TooClose_b0_sh]
      simp
      refine ⟨fun hi2 => ?_, fun hi2 => ?_⟩
      · have hw : IntKind.i64.wrap ((i : Int) + 1) = i + 1 := wrap_id (by omega) (by omega)
        rw [hw]
        refine loop_upto (x.p.length - (i + 1)) (fun j => [.int .i64 r, .int .i64 i, .int .i64 ((i + 1 + j : Nat) : Int), vL IL1 vLL1 (closeTo x r i ++ closeRow x r i (i + 1 + j)), .int .i64 x.s, .int .i64 x.t, vL I2 v2 x.p]) (by intro a b _ _ h; simp at h; omega) (fun _ => True) (by simp [closeRow_none]) trivial ?_
        intro j hj _
        rw [spec_TooClose_b1_sh]
        generalize hm : i + 1 + j = m at *
        simp only [P1_len, P1_lss, ifB_bool, decide_eq_true_eq, decide_eq_false_iff_not]
        refine ⟨fun h3 => ?_, fun h3 => ?_⟩
        · have h4 : m < x.p.length := by omega
          have hw2 : IntKind.i64.wrap ((m : Int) + 1) = m + 1 := wrap_id (by omega) (by omega)
          have e2 : i + 1 + (j + 1) = m + 1 := by omega
          have hx := closeRow_len2 x r i m
          have hx2 : i * x.p.length + m ≤ 100 * 100 + 100 := by
            have := Nat.mul_le_mul (show i ≤ 100 by omega) hl
            omega
          have him : i < m := by omega
          have hj2 : j < x.p.length - (i + 1) := by omega
          have hrow : closeRow x r i (m + 1) = closeRow x r i m ++ (if x.p[i].a = x.p[m].a ∧ gap x.p[i].b x.p[m].b x.s < r then [[(i : Int), (m : Int)]] else []) := by
            simp [closeRow, him, closeAt_eq hi2 h4]
          have hx3 : (closeTo x r i).length + (closeRow x r i m).length ≤ 10100 := by
            simp only [List.length_append] at hx; omega
          simp only [e2, hrow]
          generalize closeRow x r i m = R at *
          clear hrow
          simp [hi2, h4, hw2, hj2]
          refine ⟨fun h5 => ⟨fun h6 => ?_, fun h6 => ?_⟩, fun h5 => ?_⟩
          · simp [h5, h6]; omega
          · exact fun _ => h6
          · exact fun h8 => absurd h8 h5
        · obtain rfl : m = x.p.length := by omega
          simp [spec_TooClose_r2_sh, spec_TooClose_r3_sh, spec_TooClose_r4_sh, hw, closeTo, hi2]
      · obtain rfl : i = x.p.length := by omega
        simp [spec_TooClose_r5_sh, tooClose, h, h2]
theorem impl_TooClose_ok : ∀ ds outs, F_TooClose ds = some outs → shL impl_TooClose_L (qRet outs) ds := F_TooClose_elim fun x r hp => by
  rw [impl_TooClose_L_sh]
  simp only [p_CylinderOk (x_p := x.p) hp]
  have hc : cylOk ⟨x.s, x.t, x.p⟩ = cylOk x := rfl
  simp only [hc]
  cases h : cylOk x with
  | false => simp [h, tooClose]; rfl
  | true =>
    cases h2 : within r 1 96 with
    | false => simp [h, h2, tooClose]; rfl
    | true =>
      have hb := cylOk_bounds h
      have hl := hb.2.2
      simp [h, h2]
      refine loop_upto x.p.length (fun i => [.int .i64 r, vL I2 v2 x.p, .int .i64 x.p.length, .int .i64 i, vL IL1 vLL1 (closeTo x r i), .int .i64 x.s, .int .i64 x.t, vL I2 v2 x.p]) (by intro i j _ _ h; simp at h; omega) (fun _ => True) (by simp [closeTo]; rfl) trivial ?_
      intro i hi _
      rw [impl_TooClose_b0_sh]
      simp
      refine ⟨fun hi2 => ?_, fun hi2 => ?_⟩
      · have hw : IntKind.i64.wrap ((i : Int) + 1) = i + 1 := wrap_id (by omega) (by omega)
        simp only [List.getElem?_eq_getElem hi2, Option.some.injEq, exists_eq_left', hw]
        refine loop_upto (x.p.length - (i + 1)) (fun j => [.int .i64 r, .int .i64 i, .int .i64 ((i + 1 + j : Nat) : Int), vL I2 v2 x.p, .int .i64 x.p.length, .int .i64 i, vL IL1 vLL1 (closeTo x r i ++ closeRow x r i (i + 1 + j)), .int .i64 x.s, .int .i64 x.t, vL I2 v2 x.p, .int .i64 x.p[i].a, .int .i64 x.p[i].b]) (by intro a b _ _ h; simp at h; omega) (fun _ => True) (by simp [closeRow_none]) trivial ?_
        intro j hj _
        rw [impl_TooClose_b1_sh]
        generalize hm : i + 1 + j = m at *
        simp only [P1_len, P1_lss, ifB_bool, decide_eq_true_eq, decide_eq_false_iff_not]
        refine ⟨fun h3 => ?_, fun h3 => ?_⟩
        · have h4 : m < x.p.length := by omega
          have hw2 : IntKind.i64.wrap ((m : Int) + 1) = m + 1 := wrap_id (by omega) (by omega)
          have e2 : i + 1 + (j + 1) = m + 1 := by omega
          have hx := closeRow_len2 x r i m
          have hx2 : i * x.p.length + m ≤ 100 * 100 + 100 := by
            have := Nat.mul_le_mul (show i ≤ 100 by omega) hl
            omega
          have him : i < m := by omega
          have hj2 : j < x.p.length - (i + 1) := by omega
          have hrow : closeRow x r i (m + 1) = closeRow x r i m ++ (if x.p[i].a = x.p[m].a ∧ gap x.p[i].b x.p[m].b x.s < r then [[(i : Int), (m : Int)]] else []) := by
            simp [closeRow, him, closeAt_eq hi2 h4]
          have hx3 : (closeTo x r i).length + (closeRow x r i m).length ≤ 10100 := by
            simp only [List.length_append] at hx; omega
          simp only [e2, hrow]
          generalize closeRow x r i m = R at *
          clear hrow
          simp [h4, hw2, hj2]
          refine ⟨fun h5 => ⟨fun h6 => ?_, fun h6 => ?_⟩, fun h5 => ?_⟩
          · simp [h5, h6]; omega
          · exact fun _ => h6
          · exact fun h8 => absurd h8 h5
        · obtain rfl : m = x.p.length := by omega
          simp [impl_TooClose_r2_sh, impl_TooClose_r3_sh, impl_TooClose_r4_sh, hw, closeTo, hi2]
      · obtain rfl : i = x.p.length := by omega
        simp [impl_TooClose_r5_sh, tooClose, h, h2]

theorem spec_IsPlayable_ok : ∀ ds outs, F_IsPlayable ds = some outs → shL spec_IsPlayable_L (qRet outs) ds := F_IsPlayable_elim fun x r hp => by
  rw [spec_IsPlayable_L_sh]
  simp only [p_CylinderOk (x_p := x.p) hp, p_TooClose (x_p := x.p) hp]
  have hc : cylOk ⟨x.s, x.t, x.p⟩ = cylOk x := rfl
  simp only [hc, playable]
  have e : ((tooClose x r).length : Int) = 0 ↔ tooClose x r = [] := by rw [← List.length_eq_zero_iff]; omega
  have e2 : (((tooClose x r).length : Int) == 0) = decide (tooClose x r = []) := by rw [← decide_eq_decide.2 e]; rfl
  cases h : cylOk x <;> cases h2 : within r 1 96 <;> simp [h2, e2]
theorem impl_IsPlayable_ok : ∀ ds outs, F_IsPlayable ds = some outs → shL impl_IsPlayable_L (qRet outs) ds := F_IsPlayable_elim fun x r hp => by
  rw [impl_IsPlayable_L_sh]
  simp only [p_CylinderOk (x_p := x.p) hp, p_TooClose (x_p := x.p) hp]
  have hc : cylOk ⟨x.s, x.t, x.p⟩ = cylOk x := rfl
  simp only [hc, playable]
  have e : ((tooClose x r).length : Int) = 0 ↔ tooClose x r = [] := by rw [← List.length_eq_zero_iff]; omega
  have e2 : (((tooClose x r).length : Int) == 0) = decide (tooClose x r = []) := by rw [← decide_eq_decide.2 e]; rfl
  cases h : cylOk x <;> cases h2 : within r 1 96 <;> simp [h2, e2]
theorem spec_PlayOnce_ok : ∀ ds outs, F_PlayOnce ds = some outs → shL spec_PlayOnce_L (qRet outs) ds := F_PlayOnce_elim fun x hp => by
  rw [spec_PlayOnce_L_sh]
  simp only [p_l38Copy (x_p := x.p) (x_o := x.o) (x_c := x.c) hp, p_WorkshopOk (x_p := x.p) (x_o := x.o) (x_c := x.c) hp, p_IsPlayable (x_p := x.p) hp.1, spec_PlayOnce_r0_sh]
  cases h : shopOk x with
  | false => simp [h, playOnce, canPlay]
  | true =>
    have hs := (shopOk_iff x).1 h
    have hu : 0 ≤ x.u ∧ x.u ≤ 50 := by have h9 := hs.2.2.1; simp only [Shop.spring, springOk, Bool.and_eq_true, within_iff] at h9; omega
    have hd := within_iff.1 hs.2.2.2.2.2
    by_cases h2 : x.u = 0
    · simp [h, h2, playOnce, canPlay]
    · cases h3 : playable ⟨x.s, x.t, x.p⟩ 2 with
      | false => simp [h, h2, h3, playOnce, canPlay]
      | true =>
        have hw : IntKind.i64.wrap (x.u - 1) = x.u - 1 := wrap_id (by omega) (by omega)
        have hw2 : IntKind.i64.wrap (x.d + x.p.length) = x.d + x.p.length := wrap_id (by omega) (by omega)
        have e : (⟨x.s, x.t, x.p, x.o, x.c, x.u - 1, x.m, x.f, x.y, x.d + x.p.length⟩ : Shop) = played x := rfl
        have hq := fun (nr_ : Nat) (kk_ : V → Prop) => p_WorkshopOk (x_s := x.s) (x_t := x.t) (x_p := x.p) (x_o := x.o) (x_c := x.c) (x_u := x.u - 1) (x_m := x.m) (x_f := x.f) (x_y := x.y) (x_d := x.d + x.p.length) (nr_ := nr_) (kk_ := kk_) hp
        rw [e] at hq
        simp only [P1_sub, P1_add, P1_len, hw, hw2, hq]
        cases h4 : shopOk (played x) <;> simp [h, h2, h3, h4, playOnce, canPlay]
        simp [played]
theorem impl_PlayOnce_ok : ∀ ds outs, F_PlayOnce ds = some outs → shL impl_PlayOnce_L (qRet outs) ds := F_PlayOnce_elim fun x hp => by
  rw [impl_PlayOnce_L_sh]
  simp only [p_copyWorkshop (x_p := x.p) (x_o := x.o) (x_c := x.c) hp, p_WorkshopOk (x_p := x.p) (x_o := x.o) (x_c := x.c) hp, p_IsPlayable (x_p := x.p) hp.1, impl_PlayOnce_r0_sh]
  cases h : shopOk x with
  | false => simp [h, playOnce, canPlay]
  | true =>
    have hs := (shopOk_iff x).1 h
    have hu : 0 ≤ x.u ∧ x.u ≤ 50 := by have h9 := hs.2.2.1; simp only [Shop.spring, springOk, Bool.and_eq_true, within_iff] at h9; omega
    have hd := within_iff.1 hs.2.2.2.2.2
    by_cases h2 : x.u = 0
    · simp [h, h2, playOnce, canPlay]
    · cases h3 : playable ⟨x.s, x.t, x.p⟩ 2 with
      | false => simp [h, h2, h3, playOnce, canPlay]
      | true =>
        have hw : IntKind.i64.wrap (x.u - 1) = x.u - 1 := wrap_id (by omega) (by omega)
        have hw2 : IntKind.i64.wrap (x.d + x.p.length) = x.d + x.p.length := wrap_id (by omega) (by omega)
        have e : (⟨x.s, x.t, x.p, x.o, x.c, x.u - 1, x.m, x.f, x.y, x.d + x.p.length⟩ : Shop) = played x := rfl
        have hq := fun (nr_ : Nat) (kk_ : V → Prop) => p_WorkshopOk (x_s := x.s) (x_t := x.t) (x_p := x.p) (x_o := x.o) (x_c := x.c) (x_u := x.u - 1) (x_m := x.m) (x_f := x.f) (x_y := x.y) (x_d := x.d + x.p.length) (nr_ := nr_) (kk_ := kk_) hp
        rw [e] at hq
        simp only [P1_sub, P1_add, P1_len, hw, hw2, hq]
        cases h4 : shopOk (played x) <;> simp [h, h2, h3, h4, playOnce, canPlay]
        simp [played]
theorem playOnce_small {x : Shop} (h : sSmall x) : sSmall (playOnce x) := by
  unfold playOnce
  split
  · exact h
  · exact h
end Go.Mw

namespace Go.Mw
def land (a b : Int) : Int := IntKind.i64.wrap (BitVec.ofInt IntKind.i64.bits a &&& BitVec.ofInt IntKind.i64.bits b).toNat
def lxor (a b : Int) : Int := IntKind.i64.wrap (BitVec.ofInt IntKind.i64.bits a ^^^ BitVec.ofInt IntKind.i64.bits b).toNat
@[simp] theorem P1_and {a b : Int} {k : V → Prop} : P1 (.bin .and) [.int .i64 a, .int .i64 b] k ↔ k (.int .i64 (land a b)) := P1_of (by simp [Prim.run, binV, binI, land]) k
@[simp] theorem P1_xor {a b : Int} {k : V → Prop} : P1 (.bin .xor) [.int .i64 a, .int .i64 b] k ↔ k (.int .i64 (lxor a b)) := P1_of (by simp [Prim.run, binV, binI, lxor]) k
structure Cur where
  b : List UInt8
  i : Int
  h : Int
def hNext (h : Int) : Int := IntKind.i64.wrap (IntKind.i64.wrap (h * 6364136223846793005) + 1442695040888963407)
def cStep (x : Cur) : Cur := ⟨x.b, if x.i < x.b.length then x.i + 1 else x.i, hNext x.h⟩
def cAfter (x : Cur) (n : Int) : Cur := if n ≤ 0 then x else if n ≤ 256 then cStep x else cStep (cStep (cStep (cStep x)))
def putPin : List T2 → T2 → List T2
  | [], p => [p]
  | a :: r, p => if pinLess a p then a :: putPin r p else if a = p then a :: r else p :: a :: r
def putNew : List T2 → T2 → Bool
  | [], _ => true
  | a :: r, p => if pinLess a p then putNew r p else decide (a ≠ p)
def E_l06Put : List T2 × T2 → List V := fun (l, y) => [vL I2 v2 l, .int .i64 y.a, .int .i64 y.b]
noncomputable def F_l06Put : List V → Option (List V) := mkF E_l06Put (fun (l, _) => l.length ≤ 1048576) (fun (l, y) => [vL I2 v2 (putPin l y), .bool (putNew l y)])
theorem F_l06Put_inj : ∀ x y, E_l06Put x = E_l06Put y → x = y := by
  rintro ⟨l, ⟨ya, yb⟩⟩ ⟨l', ⟨ya', yb'⟩⟩ h
  simpa [E_l06Put, and_assoc] using h
theorem F_l06Put_elim {P : List V → List V → Prop} (h : ∀ (l : List T2) (y : T2), (l.length ≤ 1048576) → P [vL I2 v2 l, .int .i64 y.a, .int .i64 y.b] [vL I2 v2 (putPin l y), .bool (putNew l y)]) : ∀ ds outs, F_l06Put ds = some outs → P ds outs := by
  intro ds outs hh
  obtain ⟨⟨l, y⟩, rfl, hp, rfl⟩ := mkF_inv hh
  exact h l y hp
theorem p_l06Put {l : List T2} {y_a : Int} {y_b : Int} {nr_ : Nat} {kk_ : V → V → Prop} (hp : l.length ≤ 1048576) : P2 (.call F_l06Put 0 nr_) [vL I2 v2 l, .int .i64 y_a, .int .i64 y_b] kk_ ↔ kk_ (vL I2 v2 (putPin l (⟨y_a, y_b⟩ : T2))) (.bool (putNew l (⟨y_a, y_b⟩ : T2))) :=
  P2_callF (by unfold F_l06Put; exact mkF_eq F_l06Put_inj (l, (⟨y_a, y_b⟩ : T2)) hp)

def cylX (x : Cur) : Cur := cAfter (cAfter (cAfter x 21) 8) 10
end Go.Mw

namespace Go.Mw
noncomputable section
def spec_l06Put_b0 : L := .seq (.seq (.seq (.rg [zl 0, zb .lss 1 4, ⟨[(.v 5, true)], .idx [.sc, .sc], [.v 0, .v 1], 2⟩, ⟨[(.v 5, true)], .call F_l06Less 0 1, [.v 6, .v 7, .v 2, .v 3], 1⟩, ⟨[], .pick, [.v 5, .v 8, .k (.bool false)], 1⟩]) (.ite (.v 9) (.skip) (.seq (zt [0, 1, 2, 3]) (.exit 0)))) (.block 1 (.seq (.rg [zk .add 1 1]) (zt [0, 10, 2, 3])))) (zt [0, 1, 2, 3])
theorem spec_l06Put_b0_sh (Q : QT) (x0 x1 x2 x3 : V) : shL spec_l06Put_b0 Q [x0, x1, x2, x3] = (
  P1 (.len) [x0] fun v0 =>
  P1 (.bin .lss) [x1, v0] fun v1 =>
  ifB v1 (
    P2 (.idx [.sc, .sc]) [x0, x1] fun v2 v3 =>
    P1 (.call F_l06Less 0 1) [v2, v3, x2, x3] fun v4 =>
    ifB v4 (
      P1 (.bin .add) [x1, .int .i64 1] fun v5 =>
      Q .normal [x0, v5, x2, x3]) (
      Q (.exit 0) [x0, x1, x2, x3])) (
    Q (.exit 0) [x0, x1, x2, x3])) := by kernel_rfl

def spec_l06Put_r1 : L := .seq (.seq (.rg [zl 0, zb .lss 1 4, ⟨[(.v 5, true)], .idx [.sc, .sc], [.v 0, .v 1], 2⟩, ⟨[(.v 5, true)], .eqa false [.i, .i], [.v 6, .v 7, .v 2, .v 3], 1⟩, ⟨[], .pick, [.v 5, .v 8, .k (.bool false)], 1⟩]) (.ite (.v 9) (.seq (.rg [⟨[], .lst [.sc, .sc] true 0, [], 1⟩, ⟨[], .app [.sc, .sc] 16, [.v 10, .v 0], 1⟩]) (.ret [.v 11, .k (.bool false)])) (.skip))) (.seq (.rg [⟨[], .lst [.sc, .sc] true 0, [], 1⟩, ⟨[], .lsub [.sc, .sc], [.v 0, .k (.int .i64 0), .v 1], 1⟩, ⟨[], .app [.sc, .sc] 16, [.v 10, .v 11], 1⟩, ⟨[], .lst [.sc, .sc] true 1, [.v 2, .v 3], 1⟩, ⟨[], .app [.sc, .sc] 16, [.v 12, .v 13], 1⟩, ⟨[], .lsub [.sc, .sc], [.v 0, .v 1], 1⟩, ⟨[], .app [.sc, .sc] 16, [.v 14, .v 15], 1⟩]) (.ret [.v 16, .k (.bool true)]))
theorem spec_l06Put_r1_sh (Q : QT) (x0 x1 x2 x3 : V) : shL spec_l06Put_r1 Q [x0, x1, x2, x3] = (
  P1 (.len) [x0] fun v0 =>
  P1 (.bin .lss) [x1, v0] fun v1 =>
  ifB v1 (
    P2 (.idx [.sc, .sc]) [x0, x1] fun v2 v3 =>
    P1 (.eqa false [.i, .i]) [v2, v3, x2, x3] fun v4 =>
    ifB v4 (
      P1 (.lst [.sc, .sc] true 0) [] fun v5 =>
      P1 (.app [.sc, .sc] 16) [v5, x0] fun v6 =>
      Q .ret [v6, .bool false]) (
      P1 (.lst [.sc, .sc] true 0) [] fun v7 =>
      P1 (.lsub [.sc, .sc]) [x0, .int .i64 0, x1] fun v8 =>
      P1 (.app [.sc, .sc] 16) [v7, v8] fun v9 =>
      P1 (.lst [.sc, .sc] true 1) [x2, x3] fun v10 =>
      P1 (.app [.sc, .sc] 16) [v9, v10] fun v11 =>
      P1 (.lsub [.sc, .sc]) [x0, x1] fun v12 =>
      P1 (.app [.sc, .sc] 16) [v11, v12] fun v13 =>
      Q .ret [v13, .bool true])) (
    P1 (.lst [.sc, .sc] true 0) [] fun v14 =>
    P1 (.lsub [.sc, .sc]) [x0, .int .i64 0, x1] fun v15 =>
    P1 (.app [.sc, .sc] 16) [v14, v15] fun v16 =>
    P1 (.lst [.sc, .sc] true 1) [x2, x3] fun v17 =>
    P1 (.app [.sc, .sc] 16) [v16, v17] fun v18 =>
    P1 (.lsub [.sc, .sc]) [x0, x1] fun v19 =>
    P1 (.app [.sc, .sc] 16) [v18, v19] fun v20 =>
    Q .ret [v20, .bool true])) := by kernel_rfl

def spec_l06Put_L : L := .seq (.rg []) (.seq (.rg []) (.seq (.block 0 (.seq (.tup [.v 0, .k (.int .i64 0), .v 1, .v 2]) (.loop (spec_l06Put_b0)))) (spec_l06Put_r1)))
theorem spec_l06Put_L_sh (Q : QT) (x0 x1 x2 : V) : shL spec_l06Put_L Q [x0, x1, x2] = (
  shL (.loop spec_l06Put_b0) (qB 0 (qS (shL spec_l06Put_r1 Q) Q)) [x0, .int .i64 0, x1, x2]) := by kernel_rfl
def spec_l06Put_S : Sig := ⟨[.val false [.sl [.sc, .sc]], .val true [.sc, .sc]], [(false, [.sl [.sc, .sc]]), (false, [.sc])], F_l06Put⟩
def spec_l06Put_hs : List NF := [⟨[(0, zq), (3, .ptr 64 0), (6, zs)], [], [(64, [.sc, .sc])], 65⟩, ⟨[(0, zq), (3, .ptr 64 0), (6, zs)], [], [(64, [.sc, .sc])], 65⟩, ⟨[(0, zq), (3, .ptr 64 0), (6, zs)], [], [(64, [.sc, .sc])], 65⟩]

end
end Go.Mw

namespace Go.Mw
@[simp] theorem cStep_b (x : Cur) : (cStep x).b = x.b := rfl
@[simp] theorem cAfter_b (x : Cur) (n : Int) : (cAfter x n).b = x.b := by unfold cAfter; split <;> (try split) <;> simp
theorem put_at : ∀ (l : List T2) (y : T2) (i : Nat), (∀ j (h : j < l.length), j < i → pinLess l[j] y = true) → i ≤ l.length → (∀ (h : i < l.length), pinLess l[i] y = false) →
    putPin l y = (if l[i]? = some y then l else l.take i ++ [y] ++ l.drop i) ∧ putNew l y = !decide (l[i]? = some y)
  | [], y, i, _, hi, _ => by
    obtain rfl : i = 0 := by simpa using hi
    simp [putPin, putNew]
  | a :: r, y, 0, _, _, h => by
    have h := h (by simp)
    simp only [List.getElem_cons_zero] at h
    by_cases e : a = y
    · subst e; simp [putPin, putNew, h]
    · simp [putPin, putNew, h, e]
  | a :: r, y, i + 1, h1, h2, h3 => by
    have ha := h1 0 (by simp) (by omega)
    simp only [List.getElem_cons_zero] at ha
    have ih := put_at r y i (fun j hj hji => by have := h1 (j + 1) (by simp; omega) (by omega); simpa using this) (by simpa using h2) (fun h => by have := h3 (by simp; omega); simpa using this)
    simp only [putPin, putNew, ha, if_true, List.getElem?_cons_succ, ih.1, ih.2, List.take_succ_cons, List.drop_succ_cons]
    refine ⟨?_, trivial⟩
    split <;> simp
theorem spec_l06Put_ok : ∀ ds outs, F_l06Put ds = some outs → shL spec_l06Put_L (qRet outs) ds := F_l06Put_elim fun l y hp => by
  rw [spec_l06Put_L_sh]
  refine loop_upto l.length (fun k => [vL I2 v2 l, .int .i64 k, .int .i64 y.a, .int .i64 y.b]) (by intro i j _ _ h; simp at h; omega) (fun k => ∀ j (h : j < l.length), j < k → pinLess l[j] y = true) (by simp) (by simp) ?_
  intro k hk hP
  have fin : (∀ (h : k < l.length), pinLess l[k] y = false) → shL spec_l06Put_r1 (qRet [vL I2 v2 (putPin l y), .bool (putNew l y)]) [vL I2 v2 l, .int .i64 k, .int .i64 y.a, .int .i64 y.b] := by
    intro h
    obtain ⟨e1, e2⟩ := put_at l y k hP hk h
    rw [spec_l06Put_r1_sh, e1, e2]
    by_cases hl : k < l.length
    · by_cases hy : l[k] = y
      · have h5 : l[k].a = y.a ∧ l[k].b = y.b := by rw [hy]; exact ⟨rfl, rfl⟩
        simp [hl, hy]; omega
      · have h5 : ¬ (l[k].a = y.a ∧ l[k].b = y.b) := fun h => hy (by cases hh : l[k]; rw [hh] at h; cases y; simp_all)
        simp [hl, hy]; omega
    · have h6 : k = l.length := by omega
      subst h6
      simp; omega
  rw [spec_l06Put_b0_sh]
  simp
  refine ⟨fun h => ?_, fun h => fin (fun h2 => absurd h2 (by omega))⟩
  simp only [List.getElem?_eq_getElem h, Option.some.injEq, exists_eq_left']
  cases hl : pinLess l[k] y with
  | false =>
    simp
    exact fin (fun _ => hl)
  | true =>
    have hw : IntKind.i64.wrap ((k : Int) + 1) = k + 1 := wrap_id (by omega) (by omega)
    simp [hw, h]
    intro j hj hjk
    by_cases e : j = k
    · subst e; exact hl
    · exact hP j hj (by omega)
theorem putPin_len (l : List T2) (y : T2) : (putPin l y).length ≤ l.length + 1 := by
  induction l with
  | nil => simp [putPin]
  | cons a r ih => unfold putPin; split <;> (try split) <;> simp <;> omega
end Go.Mw

namespace Go.Mw
theorem within_iff' {a b c : Int} : within a b c = true ↔ b ≤ a ∧ a ≤ c := by simp [within]
@[simp] theorem P1_lstI3 {a b c : Int} {k : V → Prop} : P1 (.lst [.sc] false 3) [.int .i64 a, .int .i64 b, .int .i64 c] k ↔ k (vL I1 v1 [a, b, c]) := P1_of (by simp [Prim.run, aksOk, akOk, chunk, V.pack, vL, v1]) k

theorem pinLess_or {a b : T2} (h : pinLess a b = false) (hne : a ≠ b) : pinLess b a = true := by
  cases a; cases b
  simp only [pinLess, decide_eq_false_iff_not, decide_eq_true_eq, ne_eq, T2.mk.injEq] at *
  omega
theorem rising_cons {a : T2} {r : List T2} : rising (a :: r) = true ↔ (∀ h, r.head? = some h → pinLess a h = true) ∧ rising r = true := by
  cases r <;> simp [rising]
theorem putPin_head {l : List T2} {y h : T2} (hh : (putPin l y).head? = some h) : h = y ∨ l.head? = some h := by
  cases l with
  | nil => simp [putPin] at hh; exact .inl hh.symm
  | cons a r =>
    unfold putPin at hh
    split at hh
    · simp at hh; exact .inr (by simp [hh])
    · split at hh
      · simp at hh; exact .inr (by simp [hh])
      · simp at hh; exact .inl hh.symm
theorem putPin_rising {l : List T2} {y : T2} (h : rising l = true) : rising (putPin l y) = true := by
  induction l with
  | nil => simp [putPin, rising]
  | cons a r ih =>
    have hr := rising_cons.1 h
    unfold putPin
    by_cases h1 : pinLess a y = true
    · rw [if_pos h1, rising_cons]
      refine ⟨fun b hb => ?_, ih hr.2⟩
      rcases putPin_head hb with rfl | hb
      · exact h1
      · exact hr.1 b hb
    · rw [if_neg h1]
      by_cases h2 : a = y
      · rw [if_pos h2]; exact h
      · rw [if_neg h2, rising_cons]
        refine ⟨fun b hb => ?_, h⟩
        simp only [List.head?_cons, Option.some.injEq] at hb
        subst hb
        exact pinLess_or (by simpa using h1) h2
@[simp] theorem cylX_b (x : Cur) : (cylX x).b = x.b := by simp [cylX]
end Go.Mw

namespace Go.Mw
@[simp] theorem P1_neaX {a c e g : Int} {b f : Bool} {k : V → Prop} : P1 (.eqa true [.i, .b, .i]) [.int .i64 a, .bool b, .int .i64 c, .int .i64 e, .bool f, .int .i64 g] k ↔ k (.bool (!decide (a = e ∧ b = f ∧ c = g))) := P1_of (by simp only [Prim.run, eqVs, eqV1, List.length_cons, List.length_nil, List.take, List.drop, if_true]; cases b <;> cases f <;> simp <;> grind) k
theorem pinsAt_le (c : Cyl) (a : Int) : (pinsAt c a).length ≤ c.p.length := by
  unfold pinsAt
  split
  · simpa using List.length_filter_le _ _
  · simp
theorem it_p (c : Cyl) (x : Stt) : ∀ k, (itS c x k).p = x.p + (itL c x k).length ∧ (itL c x k).length ≤ k * c.p.length
  | 0 => by simp [itS, itL]
  | k + 1 => by
    obtain ⟨h1, h2⟩ := it_p c x k
    have h3 := pinsAt_le c (itS c x k).a
    simp only [itS, itL, nextStt, List.length_append, h1, Nat.add_mul]
    omega
structure Small (c : Cyl) (x : Stt) : Prop where
  ok : sttOk c x = true
  len : c.p.length ≤ 9
  p : x.p ≤ 77
theorem Small.it {c : Cyl} {x : Stt} (h : Small c x) (hn : x.n = true) {k : Nat} (hk : k ≤ runN c x) : sttOk c (itS c x k) = true := by
  have h0 := (sttOk_iff c x).1 h.ok
  have hb := cylOk_bounds h0.1
  have h1 := it_p c x k
  have h77 := h.p
  have h2 : k * c.p.length ≤ 96 * 9 := Nat.mul_le_mul (by simp only [runN] at hk; omega) h.len
  rw [sttOk_iff]
  refine ⟨h0.1, ?_, by omega⟩
  by_cases e : k < runN c x
  · have := (itS_on h.ok hn k e).1
    simp only [runN] at e
    omega
  · obtain rfl : k = runN c x := by omega
    have := (itS_off h.ok hn).1
    omega
theorem Small.can {c : Cyl} {x : Stt} (h : Small c x) (hn : x.n = true) {k : Nat} (hk : k < runN c x) : canStep c (itS c x k) = true := by
  rw [canStep_iff]
  exact ⟨h.it hn (by omega), (itS_on h.ok hn k hk).2, h.it hn (k := k + 1) hk⟩
def runM (c : Cyl) (x : Stt) : Nat := if x.n then runN c x else 0
theorem Small.steps {c : Cyl} {x : Stt} (h : Small c x) : stepsLeft c x = runM c x := by
  have h0 := (sttOk_iff c x).1 h.ok
  unfold stepsLeft runM
  rw [if_pos h.ok]
  cases x.n
  · simp
  · simp only [if_true, runN]; omega
theorem Small.run {c : Cyl} {x : Stt} (h : Small c x) : runBox c x = (itS c x (runM c x), itL c x (runM c x)) := by
  unfold runBox runM
  cases hn : x.n with
  | false =>
    have : runOk c x = false := by simp [runOk, hn]
    simp [this, itS, itL]
  | true =>
    have : runOk c x = true := by
      simp only [runOk, h.ok, hn, Bool.true_and, List.all_eq_true, List.mem_range]
      intro k hk; exact h.can hn hk
    simp [this]
end Go.Mw

namespace Go.Mw
end Go.Mw

namespace Go.Mw
end Go.Mw

namespace Go.Mw
noncomputable section
end
end Go.Mw

namespace Go.Mw
end Go.Mw

namespace Go.Mw
structure Word (w : List Int) : Prop where
  lo : 2 ≤ w.length
  hi : w.length ≤ 21
  dig : ∀ x ∈ w, 0 ≤ x ∧ x ≤ 9
theorem Word.are {w : List Int} (h : Word w) : areDigits w 2 21 = true := by
  rw [areDigits_iff]
  have h1 := h.lo; have h2 := h.hi
  exact ⟨within_iff'.2 (by omega), fun x hx => within_iff'.2 (h.dig x hx)⟩
theorem Word.set {w : List Int} (h : Word w) {k : Nat} {e : Int} (he : 0 ≤ e ∧ e ≤ 9) : Word (w.set k e) := by
  refine ⟨by simpa using h.lo, by simpa using h.hi, fun x hx => ?_⟩
  rcases List.mem_or_eq_of_mem_set hx with hx | rfl
  · exact h.dig x hx
  · exact he
end Go.Mw

namespace Go.Mw
end Go.Mw

namespace Go.Mw
def cmpPins (x y : T2) : Int := if pinLess x y then -1 else if x = y then 0 else 1
def sortPins (l : List T2) : List T2 := l.mergeSort fun x y => !pinLess y x
def E_slices_SortFunc_Limpl_Pin_impl_Pin (l : List T2) : List V := [vL I2 v2 l]
noncomputable def F_slices_SortFunc_Limpl_Pin_impl_Pin : List V → Option (List V) := mkF E_slices_SortFunc_Limpl_Pin_impl_Pin (fun l => l.length ≤ 1048576) (fun l => [vL I2 v2 (sortPins l)])
theorem F_slices_SortFunc_Limpl_Pin_impl_Pin_inj : ∀ x y, E_slices_SortFunc_Limpl_Pin_impl_Pin x = E_slices_SortFunc_Limpl_Pin_impl_Pin y → x = y := by
  rintro l l' h
  simpa [E_slices_SortFunc_Limpl_Pin_impl_Pin] using h
theorem p_slices_SortFunc_Limpl_Pin_impl_Pin {l : List T2} {kk_ : V → Prop} (hp : l.length ≤ 1048576) : P1 (.call F_slices_SortFunc_Limpl_Pin_impl_Pin 1 0) [vL I2 v2 l, vL I2 v2 l] kk_ ↔ kk_ (vL I2 v2 (sortPins l)) :=
  P1_of (callIo_run (as := [vL I2 v2 l]) (rs := [vL I2 v2 l]) (n := 1) (nr := 0) rfl (by simp) (by unfold F_slices_SortFunc_Limpl_Pin_impl_Pin; exact mkF_eq F_slices_SortFunc_Limpl_Pin_impl_Pin_inj (l) hp) (by simp [ksAll, vL, AK.eqs_refl]) rfl) kk_

def E_sortedPins (l : List T2) : List V := [vL I2 v2 l]
noncomputable def F_sortedPins : List V → Option (List V) := mkF E_sortedPins (fun l => l.length ≤ 1048576) (fun l => [vL I2 v2 (sortPins l)])
theorem F_sortedPins_inj : ∀ x y, E_sortedPins x = E_sortedPins y → x = y := by
  rintro l l' h
  simpa [E_sortedPins] using h
theorem F_sortedPins_elim {P : List V → List V → Prop} (h : ∀ (l : List T2), (l.length ≤ 1048576) → P [vL I2 v2 l] [vL I2 v2 (sortPins l)]) : ∀ ds outs, F_sortedPins ds = some outs → P ds outs := by
  intro ds outs hh
  obtain ⟨l, rfl, hp, rfl⟩ := mkF_inv hh
  exact h l hp
theorem p_sortedPins {l : List T2} {nr_ : Nat} {kk_ : V → Prop} (hp : l.length ≤ 1048576) : P1 (.call F_sortedPins 0 nr_) [vL I2 v2 l] kk_ ↔ kk_ (vL I2 v2 (sortPins l)) :=
  P1_callF (by unfold F_sortedPins; exact mkF_eq F_sortedPins_inj (l) hp)

def addOk (c : Cyl) (p : T2) : Bool := cylOk c && (!decide (p ∈ c.p) && cylOk ⟨c.s, c.t, putPin c.p p⟩)
def addTo (c : Cyl) (p : T2) : Cyl := if addOk c p then ⟨c.s, c.t, putPin c.p p⟩ else c
def E_AddPin : Cyl × T2 → List V := fun (x, y) => [.int .i64 x.s, .int .i64 x.t, vL I2 v2 x.p, .int .i64 y.a, .int .i64 y.b]
noncomputable def F_AddPin : List V → Option (List V) := mkF E_AddPin (fun (x, _) => x.p.length ≤ 1048576) (fun (x, y) => [.int .i64 (addTo x y).s, .int .i64 (addTo x y).t, vL I2 v2 (addTo x y).p, .bool (addOk x y)])
theorem F_AddPin_inj : ∀ x y, E_AddPin x = E_AddPin y → x = y := by
  rintro ⟨⟨xs, xt, xp⟩, ⟨ya, yb⟩⟩ ⟨⟨xs', xt', xp'⟩, ⟨ya', yb'⟩⟩ h
  simpa [E_AddPin, and_assoc] using h
theorem F_AddPin_elim {P : List V → List V → Prop} (h : ∀ (x : Cyl) (y : T2), (x.p.length ≤ 1048576) → P [.int .i64 x.s, .int .i64 x.t, vL I2 v2 x.p, .int .i64 y.a, .int .i64 y.b] [.int .i64 (addTo x y).s, .int .i64 (addTo x y).t, vL I2 v2 (addTo x y).p, .bool (addOk x y)]) : ∀ ds outs, F_AddPin ds = some outs → P ds outs := by
  intro ds outs hh
  obtain ⟨⟨x, y⟩, rfl, hp, rfl⟩ := mkF_inv hh
  exact h x y hp
theorem p_AddPin {x_s : Int} {x_t : Int} {x_p : List T2} {y_a : Int} {y_b : Int} {nr_ : Nat} {kk_ : V → V → V → V → Prop} (hp : (⟨x_s, x_t, x_p⟩ : Cyl).p.length ≤ 1048576) : P4 (.call F_AddPin 0 nr_) [.int .i64 x_s, .int .i64 x_t, vL I2 v2 x_p, .int .i64 y_a, .int .i64 y_b] kk_ ↔ kk_ (.int .i64 (addTo (⟨x_s, x_t, x_p⟩ : Cyl) (⟨y_a, y_b⟩ : T2)).s) (.int .i64 (addTo (⟨x_s, x_t, x_p⟩ : Cyl) (⟨y_a, y_b⟩ : T2)).t) (vL I2 v2 (addTo (⟨x_s, x_t, x_p⟩ : Cyl) (⟨y_a, y_b⟩ : T2)).p) (.bool (addOk (⟨x_s, x_t, x_p⟩ : Cyl) (⟨y_a, y_b⟩ : T2))) :=
  P4_callF (by unfold F_AddPin; exact mkF_eq F_AddPin_inj ((⟨x_s, x_t, x_p⟩ : Cyl), (⟨y_a, y_b⟩ : T2)) hp)

def setPin (b : Bench) (p : T2) : Bench := stepTo b (addTo b.cyl p) (addOk b.cyl p)
def E_SetPin : Bench × T2 → List V := fun (x, y) => [.int .i64 x.s, .int .i64 x.t, vL I2 v2 x.p, vL IL2 vLL2 x.o, .int .i64 y.a, .int .i64 y.b]
noncomputable def F_SetPin : List V → Option (List V) := mkF E_SetPin (fun (x, _) => x.p.length ≤ 1048576 ∧ fitLL x.o) (fun (x, y) => [.int .i64 (setPin x y).s, .int .i64 (setPin x y).t, vL I2 v2 (setPin x y).p, vL IL2 vLL2 (setPin x y).o, .bool (addOk x.cyl y && stepOk x (addTo x.cyl y))])
theorem F_SetPin_inj : ∀ x y, E_SetPin x = E_SetPin y → x = y := by
  rintro ⟨⟨xs, xt, xp, xo⟩, ⟨ya, yb⟩⟩ ⟨⟨xs', xt', xp', xo'⟩, ⟨ya', yb'⟩⟩ h
  simpa [E_SetPin, and_assoc] using h
theorem F_SetPin_elim {P : List V → List V → Prop} (h : ∀ (x : Bench) (y : T2), (x.p.length ≤ 1048576 ∧ fitLL x.o) → P [.int .i64 x.s, .int .i64 x.t, vL I2 v2 x.p, vL IL2 vLL2 x.o, .int .i64 y.a, .int .i64 y.b] [.int .i64 (setPin x y).s, .int .i64 (setPin x y).t, vL I2 v2 (setPin x y).p, vL IL2 vLL2 (setPin x y).o, .bool (addOk x.cyl y && stepOk x (addTo x.cyl y))]) : ∀ ds outs, F_SetPin ds = some outs → P ds outs := by
  intro ds outs hh
  obtain ⟨⟨x, y⟩, rfl, hp, rfl⟩ := mkF_inv hh
  exact h x y hp
theorem p_SetPin {x_s : Int} {x_t : Int} {x_p : List T2} {x_o : List (List T2)} {y_a : Int} {y_b : Int} {nr_ : Nat} {kk_ : V → V → V → V → V → Prop} (hp : (⟨x_s, x_t, x_p, x_o⟩ : Bench).p.length ≤ 1048576 ∧ fitLL (⟨x_s, x_t, x_p, x_o⟩ : Bench).o) : P5 (.call F_SetPin 0 nr_) [.int .i64 x_s, .int .i64 x_t, vL I2 v2 x_p, vL IL2 vLL2 x_o, .int .i64 y_a, .int .i64 y_b] kk_ ↔ kk_ (.int .i64 (setPin (⟨x_s, x_t, x_p, x_o⟩ : Bench) (⟨y_a, y_b⟩ : T2)).s) (.int .i64 (setPin (⟨x_s, x_t, x_p, x_o⟩ : Bench) (⟨y_a, y_b⟩ : T2)).t) (vL I2 v2 (setPin (⟨x_s, x_t, x_p, x_o⟩ : Bench) (⟨y_a, y_b⟩ : T2)).p) (vL IL2 vLL2 (setPin (⟨x_s, x_t, x_p, x_o⟩ : Bench) (⟨y_a, y_b⟩ : T2)).o) (.bool (addOk (⟨x_s, x_t, x_p, x_o⟩ : Bench).cyl (⟨y_a, y_b⟩ : T2) && stepOk (⟨x_s, x_t, x_p, x_o⟩ : Bench) (addTo (⟨x_s, x_t, x_p, x_o⟩ : Bench).cyl (⟨y_a, y_b⟩ : T2)))) :=
  P5_callF (by unfold F_SetPin; exact mkF_eq F_SetPin_inj ((⟨x_s, x_t, x_p, x_o⟩ : Bench), (⟨y_a, y_b⟩ : T2)) hp)

end Go.Mw

namespace Go.Mw
noncomputable section
def spec_AddPin_L : L := .seq (.rg []) (.seq (.rg [zc F_l06Copy 3 [0, 1, 2]]) (.seq (.seq (.rg [zc F_CylinderOk 1 [0, 1, 2], zn 8]) (.ite (.v 9) (.seq (.rg []) (.ret [.v 5, .v 6, .v 7, .k (.bool false)])) (.skip))) (.seq (.rg [zc F_l06Put 2 [2, 3, 4]]) (.seq (.rg []) (.seq (.seq (.rg [zn 11, ⟨[(.v 12, false)], .call F_CylinderOk 0 1, [.v 5, .v 6, .v 10], 1⟩, ⟨[(.v 12, false)], .un .not, [.v 13], 1⟩, ⟨[], .pick, [.v 12, .k (.bool true), .v 14], 1⟩]) (.ite (.v 15) (.seq (.rg [zc F_l06Copy 3 [0, 1, 2]]) (.ret [.v 16, .v 17, .v 18, .k (.bool false)])) (.skip))) (.seq (.rg []) (.ret [.v 5, .v 6, .v 10, .k (.bool true)])))))))
theorem spec_AddPin_L_sh (Q : QT) (x0 x1 x2 x3 x4 : V) : shL spec_AddPin_L Q [x0, x1, x2, x3, x4] = (
  P3 (.call F_l06Copy 0 3) [x0, x1, x2] fun v0 v1 v2 =>
  P1 (.call F_CylinderOk 0 1) [x0, x1, x2] fun v3 =>
  P1 (.un .not) [v3] fun v4 =>
  ifB v4 (
    Q .ret [v0, v1, v2, .bool false]) (
    P2 (.call F_l06Put 0 2) [x2, x3, x4] fun v5 v6 =>
    P1 (.un .not) [v6] fun v7 =>
    ifB v7 (
      P3 (.call F_l06Copy 0 3) [x0, x1, x2] fun v8 v9 v10 =>
      Q .ret [v8, v9, v10, .bool false]) (
      P1 (.call F_CylinderOk 0 1) [v0, v1, v5] fun v11 =>
      P1 (.un .not) [v11] fun v12 =>
      ifB v12 (
        P3 (.call F_l06Copy 0 3) [x0, x1, x2] fun v13 v14 v15 =>
        Q .ret [v13, v14, v15, .bool false]) (
        Q .ret [v0, v1, v5, .bool true])))) := by kernel_rfl
def spec_AddPin_S : Sig := ⟨[.val true [.sc, .sc, .sl [.sc, .sc]], .val true [.sc, .sc]], [(true, [.sc, .sc, .sl [.sc, .sc]]), (false, [.sc])], F_AddPin⟩
def spec_AddPin_hs : List NF := []

def spec_SetPin_L : L := .seq (.rg []) (.seq (.rg [zc F_AddPin 4 [0, 1, 2, 4, 5]]) (.seq (.seq (.rg [zn 9]) (.ite (.v 10) (.seq (.rg [zc F_l37Copy 4 [0, 1, 2, 3]]) (.ret [.v 11, .v 12, .v 13, .v 14, .k (.bool false)])) (.skip))) (.seq (.rg [zc F_l37Step 5 [0, 1, 2, 3, 6, 7, 8]]) (.seq (.rg []) (.ret [.v 11, .v 12, .v 13, .v 14, .v 15])))))
theorem spec_SetPin_L_sh (Q : QT) (x0 x1 x2 x3 x4 x5 : V) : shL spec_SetPin_L Q [x0, x1, x2, x3, x4, x5] = (
  P4 (.call F_AddPin 0 4) [x0, x1, x2, x4, x5] fun v0 v1 v2 v3 =>
  P1 (.un .not) [v3] fun v4 =>
  ifB v4 (
    P4 (.call F_l37Copy 0 4) [x0, x1, x2, x3] fun v5 v6 v7 v8 =>
    Q .ret [v5, v6, v7, v8, .bool false]) (
    P5 (.call F_l37Step 0 5) [x0, x1, x2, x3, v0, v1, v2] fun v9 v10 v11 v12 v13 =>
    Q .ret [v9, v10, v11, v12, v13])) := by kernel_rfl
def spec_SetPin_S : Sig := ⟨[.val true [.sc, .sc, .sl [.sc, .sc], .sl [.sl [.sc, .sc]]], .val true [.sc, .sc]], [(true, [.sc, .sc, .sl [.sc, .sc], .sl [.sl [.sc, .sc]]]), (false, [.sc])], F_SetPin⟩
def spec_SetPin_hs : List NF := []

def impl_sortedPins_L : L := .seq (.rg []) (.seq (.rg [zc F_copyPins 1 [0]]) (.seq (.rg [⟨[], .call F_slices_SortFunc_Limpl_Pin_impl_Pin 1 0, [.v 1, .v 1], 1⟩]) (.seq (.rg []) (.ret [.v 2]))))
theorem impl_sortedPins_L_sh (Q : QT) (x0 : V) : shL impl_sortedPins_L Q [x0] = (
  P1 (.call F_copyPins 0 1) [x0] fun v0 =>
  P1 (.call F_slices_SortFunc_Limpl_Pin_impl_Pin 1 0) [v0, v0] fun v1 =>
  Q .ret [v1]) := by kernel_rfl
def impl_sortedPins_S : Sig := ⟨[.val false [.sl [.sc, .sc]]], [(false, [.sl [.sc, .sc]])], F_sortedPins⟩
def impl_sortedPins_hs : List NF := []

def impl_AddPin_L : L := .seq (.rg []) (.seq (.seq (.rg [zc F_CylinderOk 1 [0, 1, 2], zn 5, ⟨[(.v 6, false)], .call F_hasPin 0 1, [.v 2, .v 3, .v 4], 1⟩, ⟨[], .pick, [.v 6, .k (.bool true), .v 7], 1⟩]) (.ite (.v 8) (.seq (.rg [zc F_copyCylinder 3 [0, 1, 2]]) (.ret [.v 9, .v 10, .v 11, .k (.bool false)])) (.skip))) (.seq (.rg [zc F_copyCylinder 3 [0, 1, 2]]) (.seq (.rg [⟨[], .lst [.sc, .sc] true 1, [.v 3, .v 4], 1⟩, ⟨[], .app [.sc, .sc] 16, [.v 11, .v 12], 1⟩, zc F_sortedPins 1 [13]]) (.seq (.seq (.rg [zc F_CylinderOk 1 [9, 10, 14], zn 15]) (.ite (.v 16) (.seq (.rg [zc F_copyCylinder 3 [0, 1, 2]]) (.ret [.v 17, .v 18, .v 19, .k (.bool false)])) (.skip))) (.seq (.rg []) (.ret [.v 9, .v 10, .v 14, .k (.bool true)]))))))
theorem impl_AddPin_L_sh (Q : QT) (x0 x1 x2 x3 x4 : V) : shL impl_AddPin_L Q [x0, x1, x2, x3, x4] = (
  P1 (.call F_CylinderOk 0 1) [x0, x1, x2] fun v0 =>
  P1 (.un .not) [v0] fun v1 =>
  ifB v1 (
    P3 (.call F_copyCylinder 0 3) [x0, x1, x2] fun v2 v3 v4 =>
    Q .ret [v2, v3, v4, .bool false]) (
    P1 (.call F_hasPin 0 1) [x2, x3, x4] fun v5 =>
    ifB v5 (
      P3 (.call F_copyCylinder 0 3) [x0, x1, x2] fun v6 v7 v8 =>
      Q .ret [v6, v7, v8, .bool false]) (
      P3 (.call F_copyCylinder 0 3) [x0, x1, x2] fun v9 v10 v11 =>
      P1 (.lst [.sc, .sc] true 1) [x3, x4] fun v12 =>
      P1 (.app [.sc, .sc] 16) [v11, v12] fun v13 =>
      P1 (.call F_sortedPins 0 1) [v13] fun v14 =>
      P1 (.call F_CylinderOk 0 1) [v9, v10, v14] fun v15 =>
      P1 (.un .not) [v15] fun v16 =>
      ifB v16 (
        P3 (.call F_copyCylinder 0 3) [x0, x1, x2] fun v17 v18 v19 =>
        Q .ret [v17, v18, v19, .bool false]) (
        Q .ret [v9, v10, v14, .bool true])))) := by kernel_rfl
def impl_AddPin_S : Sig := ⟨[.val true [.sc, .sc, .sl [.sc, .sc]], .val true [.sc, .sc]], [(true, [.sc, .sc, .sl [.sc, .sc]]), (false, [.sc])], F_AddPin⟩
def impl_AddPin_hs : List NF := []

def impl_SetPin_L : L := .seq (.rg []) (.seq (.rg [zc F_AddPin 4 [0, 1, 2, 4, 5]]) (.seq (.rg [zc F_replaced 5 [0, 1, 2, 3, 6, 7, 8, 9]]) (.ret [.v 10, .v 11, .v 12, .v 13, .v 14])))
theorem impl_SetPin_L_sh (Q : QT) (x0 x1 x2 x3 x4 x5 : V) : shL impl_SetPin_L Q [x0, x1, x2, x3, x4, x5] = (
  P4 (.call F_AddPin 0 4) [x0, x1, x2, x4, x5] fun v0 v1 v2 v3 =>
  P5 (.call F_replaced 0 5) [x0, x1, x2, x3, v0, v1, v2, v3] fun v4 v5 v6 v7 v8 =>
  Q .ret [v4, v5, v6, v7, v8]) := by kernel_rfl
def impl_SetPin_S : Sig := ⟨[.val true [.sc, .sc, .sl [.sc, .sc], .sl [.sl [.sc, .sc]]], .val true [.sc, .sc]], [(true, [.sc, .sc, .sl [.sc, .sc], .sl [.sl [.sc, .sc]]]), (false, [.sc])], F_SetPin⟩
def impl_SetPin_hs : List NF := []

end
end Go.Mw

namespace Go.Mw
def leP (x y : T2) : Bool := !pinLess y x
theorem leP_iff {x y : T2} : leP x y = true ↔ x.b < y.b ∨ x.b = y.b ∧ x.a ≤ y.a := by
  simp only [leP, pinLess, Bool.not_eq_true', decide_eq_false_iff_not]; omega
theorem leP_trans (x y z : T2) (h1 : leP x y = true) (h2 : leP y z = true) : leP x z = true := by
  rw [leP_iff] at *; omega
theorem leP_total (x y : T2) : (leP x y || leP y x) = true := by
  rw [Bool.or_eq_true, leP_iff, leP_iff]; omega
theorem leP_anti {x y : T2} (h1 : leP x y = true) (h2 : leP y x = true) : x = y := by
  cases x; cases y
  rw [leP_iff] at *
  simp only [T2.mk.injEq] at *
  omega
theorem perm_one : ∀ {l m : List T2}, l.Pairwise (fun x y => leP x y = true) → m.Pairwise (fun x y => leP x y = true) → l.Perm m → l = m
  | [], m, _, _, h => by simpa using h.symm.eq_nil
  | a :: r, [], _, _, h => by simpa using h.eq_nil
  | a :: r, b :: s, h1, h2, h => by
    have hab : a = b := by
      have ha : a ∈ b :: s := h.subset (by simp)
      have hb : b ∈ a :: r := h.symm.subset (by simp)
      rcases List.mem_cons.1 ha with e | ha
      · exact e
      · rcases List.mem_cons.1 hb with e | hb
        · exact e.symm
        · exact leP_anti (List.rel_of_pairwise_cons h1 hb) (List.rel_of_pairwise_cons h2 ha)
    subst hab
    rw [perm_one h1.of_cons h2.of_cons (List.Perm.cons_inv h)]
theorem pinLess_trans {a b c : T2} (h1 : pinLess a b = true) (h2 : pinLess b c = true) : pinLess a c = true := by
  simp only [pinLess, decide_eq_true_eq] at *; omega
theorem pinLess_irrefl (a : T2) : pinLess a a = false := by simp [pinLess]
theorem rising_less {a : T2} : ∀ {l : List T2}, rising (a :: l) = true → ∀ b ∈ l, pinLess a b = true
  | [], _, b, hb => by simp at hb
  | c :: r, h, b, hb => by
    have h1 := rising_cons.1 h
    have h2 : pinLess a c = true := h1.1 c rfl
    rcases List.mem_cons.1 hb with rfl | hb
    · exact h2
    · exact pinLess_trans h2 (rising_less h1.2 b hb)
theorem rising_sorted : ∀ {l : List T2}, rising l = true → l.Pairwise (fun x y => leP x y = true)
  | [], _ => .nil
  | a :: r, h => by
    refine .cons (fun b hb => ?_) (rising_sorted (rising_cons.1 h).2)
    have := rising_less h b hb
    rw [leP_iff]; simp only [pinLess, decide_eq_true_eq] at this; omega
theorem putPin_perm : ∀ {l : List T2} {y : T2}, y ∉ l → (putPin l y).Perm (l ++ [y])
  | [], y, _ => by simp [putPin]
  | a :: r, y, h => by
    simp only [List.mem_cons, not_or] at h
    unfold putPin
    split
    · exact .cons _ (putPin_perm h.2)
    · rw [if_neg (fun e => h.1 e.symm)]
      exact (List.perm_append_singleton y (a :: r)).symm
theorem sort_put {l : List T2} {y : T2} (h : rising l = true) (hy : y ∉ l) : sortPins (l ++ [y]) = putPin l y := by
  refine perm_one ?_ (rising_sorted (putPin_rising h)) ((List.mergeSort_perm _ _).trans (putPin_perm hy).symm)
  exact List.pairwise_mergeSort leP_trans leP_total _
theorem putNew_iff : ∀ {l : List T2} {y : T2}, rising l = true → putNew l y = !decide (y ∈ l)
  | [], y, _ => by simp [putNew]
  | a :: r, y, h => by
    have h1 := rising_cons.1 h
    unfold putNew
    by_cases h2 : pinLess a y = true
    · rw [if_pos h2, putNew_iff h1.2]
      have : y ≠ a := by rintro rfl; rw [pinLess_irrefl] at h2; cases h2
      simp [this]
    · rw [if_neg h2]
      by_cases h3 : a = y
      · simp [h3]
      · have h4 : y ∉ r := fun hr => h2 (rising_less h y hr)
        have h5 : ¬ y = a := fun e => h3 e.symm
        simp [h3, h4, h5]
theorem cylOk_rising {c : Cyl} (h : cylOk c = true) : rising c.p = true := by
  simp only [cylOk, Bool.and_eq_true] at h; exact h.2.2

theorem impl_sortedPins_ok : ∀ ds outs, F_sortedPins ds = some outs → shL impl_sortedPins_L (qRet outs) ds := F_sortedPins_elim fun l hp => by
  rw [impl_sortedPins_L_sh, p_copyPins (by omega), p_slices_SortFunc_Limpl_Pin_impl_Pin hp]
  simp
theorem spec_AddPin_ok : ∀ ds outs, F_AddPin ds = some outs → shL spec_AddPin_L (qRet outs) ds := F_AddPin_elim fun x y hp => by
  have hp4 : x.p.length ≤ 4194304 := by omega
  rw [spec_AddPin_L_sh, p_l06Copy (x_p := x.p) hp4]
  simp only [p_CylinderOk (x_p := x.p) hp, Cyl.eta, p_l06Copy (x_p := x.p) hp4]
  cases h : cylOk x with
  | false => simp [h, addTo, addOk]
  | true =>
    have hl := (cylOk_bounds h).2.2
    have h1 := putPin_len x.p y
    rw [P1_not, p_l06Put hp, putNew_iff (cylOk_rising h)]
    simp only [p_CylinderOk (x_p := putPin x.p y) (show _ ≤ 1048576 by show (putPin x.p y).length ≤ _; omega)]
    by_cases h2 : y ∈ x.p
    · simp [h, h2, addTo, addOk]
    · cases h3 : cylOk ⟨x.s, x.t, putPin x.p y⟩ <;> simp [h, h2, h3, addTo, addOk]
theorem impl_AddPin_ok : ∀ ds outs, F_AddPin ds = some outs → shL impl_AddPin_L (qRet outs) ds := F_AddPin_elim fun x y hp => by
  have hp4 : x.p.length ≤ 4194304 := by omega
  rw [impl_AddPin_L_sh]
  simp only [p_CylinderOk (x_p := x.p) hp, Cyl.eta, p_copyCylinder (x_p := x.p) hp4, p_hasPin hp]
  cases h : cylOk x with
  | false => simp [h, addTo, addOk]
  | true =>
    have hl := (cylOk_bounds h).2.2
    have h1 := putPin_len x.p y
    by_cases h2 : y ∈ x.p
    · simp [h, h2, addTo, addOk]
    · have e := sort_put (cylOk_rising h) h2
      have h5 : (x.p ++ [y]).length ≤ 1048576 := by simp; omega
      have h6 : (x.p.length + 1) * 16 ≤ 140737488355328 ∧ x.p.length ≤ 140737488355327 := by omega
      have h7 := fun (nr_ : Nat) (kk_ : V → Prop) => p_sortedPins (nr_ := nr_) (kk_ := kk_) h5
      rw [e] at h7
      simp [h2, h6, h7]
      rw [p_CylinderOk (x_p := putPin x.p y) (show _ ≤ 1048576 by show (putPin x.p y).length ≤ _; omega)]
      cases h3 : cylOk ⟨x.s, x.t, putPin x.p y⟩ <;> simp [h, h2, h3, addTo, addOk]
theorem addTo_len {c : Cyl} {p : T2} (h : c.p.length ≤ 1048576) : (addTo c p).p.length ≤ 1048576 := by
  unfold addTo
  cases h2 : addOk c p with
  | false => simpa using h
  | true =>
    simp only [addOk, Bool.and_eq_true] at h2
    have := (cylOk_bounds h2.2.2).2.2
    simp only [if_true]
    dsimp only at this ⊢
    omega
theorem spec_SetPin_ok : ∀ ds outs, F_SetPin ds = some outs → shL spec_SetPin_L (qRet outs) ds := F_SetPin_elim fun x y hp => by
  rw [spec_SetPin_L_sh, p_AddPin (x_p := x.p) hp.1]
  have e0 : (⟨x.s, x.t, x.p⟩ : Cyl) = x.cyl := rfl
  have e1 : (⟨x.s, x.t, x.p, x.o⟩ : Bench) = x := rfl
  have e2 : (⟨y.a, y.b⟩ : T2) = y := rfl
  have hl := addTo_len (p := y) (show x.cyl.p.length ≤ 1048576 from hp.1)
  simp only [e0, e2]
  cases h : addOk x.cyl y with
  | false =>
    simp only [p_l37Copy (x_p := x.p) (x_o := x.o) hp]
    simp [setPin, stepTo, h]
  | true =>
    unfold setPin
    rw [h]
    generalize addTo x.cyl y = c at *
    simp only [p_l37Step (x_p := x.p) (x_o := x.o) (y_p := c.p) ⟨hp.1, hp.2, hl⟩]
    simp
theorem impl_SetPin_ok : ∀ ds outs, F_SetPin ds = some outs → shL impl_SetPin_L (qRet outs) ds := F_SetPin_elim fun x y hp => by
  rw [impl_SetPin_L_sh, p_AddPin (x_p := x.p) hp.1]
  have e0 : (⟨x.s, x.t, x.p⟩ : Cyl) = x.cyl := rfl
  have e2 : (⟨y.a, y.b⟩ : T2) = y := rfl
  have hl := addTo_len (p := y) (show x.cyl.p.length ≤ 1048576 from hp.1)
  simp only [e0, e2]
  unfold setPin
  generalize addTo x.cyl y = c at *
  rw [p_replaced (x_p := x.p) (x_o := x.o) (y_p := c.p) ⟨hp.1, hp.2, hl⟩]
  simp
theorem setPin_small {b : Bench} {p : T2} (h : bSmall b) : bSmall (setPin b p) := stepTo_small h
end Go.Mw

namespace Go.Mw
def canSet (b : Bench) (p : T2) : Bool := addOk b.cyl p && stepOk b (addTo b.cyl p)
def E_PutPin : Shop × Int × Int → List V := fun (x, t, a) => [.int .i64 x.s, .int .i64 x.t, vL I2 v2 x.p, vL IL2 vLL2 x.o, vL I1 v1 x.c, .int .i64 x.u, .int .i64 x.m, .int .i64 x.f, .int .i64 x.y, .int .i64 x.d, .int .i64 t, .int .i64 a]
noncomputable def F_PutPin : List V → Option (List V) := mkF E_PutPin (fun (x, _, _) => x.p.length ≤ 1048576 ∧ fitLL x.o ∧ x.c.length ≤ 1048576) (fun (x, t, a) => [.int .i64 (withBench x (setPin x.bench ⟨t, a⟩) 1 (canSet x.bench ⟨t, a⟩)).s, .int .i64 (withBench x (setPin x.bench ⟨t, a⟩) 1 (canSet x.bench ⟨t, a⟩)).t, vL I2 v2 (withBench x (setPin x.bench ⟨t, a⟩) 1 (canSet x.bench ⟨t, a⟩)).p, vL IL2 vLL2 (withBench x (setPin x.bench ⟨t, a⟩) 1 (canSet x.bench ⟨t, a⟩)).o, vL I1 v1 (withBench x (setPin x.bench ⟨t, a⟩) 1 (canSet x.bench ⟨t, a⟩)).c, .int .i64 (withBench x (setPin x.bench ⟨t, a⟩) 1 (canSet x.bench ⟨t, a⟩)).u, .int .i64 (withBench x (setPin x.bench ⟨t, a⟩) 1 (canSet x.bench ⟨t, a⟩)).m, .int .i64 (withBench x (setPin x.bench ⟨t, a⟩) 1 (canSet x.bench ⟨t, a⟩)).f, .int .i64 (withBench x (setPin x.bench ⟨t, a⟩) 1 (canSet x.bench ⟨t, a⟩)).y, .int .i64 (withBench x (setPin x.bench ⟨t, a⟩) 1 (canSet x.bench ⟨t, a⟩)).d, .bool (benchFits x (setPin x.bench ⟨t, a⟩) 1 (canSet x.bench ⟨t, a⟩))])
theorem F_PutPin_inj : ∀ x y, E_PutPin x = E_PutPin y → x = y := by
  rintro ⟨⟨xs, xt, xp, xo, xc, xu, xm, xf, xy, xd⟩, t, a⟩ ⟨⟨xs', xt', xp', xo', xc', xu', xm', xf', xy', xd'⟩, t', a'⟩ h
  simpa [E_PutPin, and_assoc] using h
theorem F_PutPin_elim {P : List V → List V → Prop} (h : ∀ (x : Shop) (t : Int) (a : Int), (x.p.length ≤ 1048576 ∧ fitLL x.o ∧ x.c.length ≤ 1048576) → P [.int .i64 x.s, .int .i64 x.t, vL I2 v2 x.p, vL IL2 vLL2 x.o, vL I1 v1 x.c, .int .i64 x.u, .int .i64 x.m, .int .i64 x.f, .int .i64 x.y, .int .i64 x.d, .int .i64 t, .int .i64 a] [.int .i64 (withBench x (setPin x.bench ⟨t, a⟩) 1 (canSet x.bench ⟨t, a⟩)).s, .int .i64 (withBench x (setPin x.bench ⟨t, a⟩) 1 (canSet x.bench ⟨t, a⟩)).t, vL I2 v2 (withBench x (setPin x.bench ⟨t, a⟩) 1 (canSet x.bench ⟨t, a⟩)).p, vL IL2 vLL2 (withBench x (setPin x.bench ⟨t, a⟩) 1 (canSet x.bench ⟨t, a⟩)).o, vL I1 v1 (withBench x (setPin x.bench ⟨t, a⟩) 1 (canSet x.bench ⟨t, a⟩)).c, .int .i64 (withBench x (setPin x.bench ⟨t, a⟩) 1 (canSet x.bench ⟨t, a⟩)).u, .int .i64 (withBench x (setPin x.bench ⟨t, a⟩) 1 (canSet x.bench ⟨t, a⟩)).m, .int .i64 (withBench x (setPin x.bench ⟨t, a⟩) 1 (canSet x.bench ⟨t, a⟩)).f, .int .i64 (withBench x (setPin x.bench ⟨t, a⟩) 1 (canSet x.bench ⟨t, a⟩)).y, .int .i64 (withBench x (setPin x.bench ⟨t, a⟩) 1 (canSet x.bench ⟨t, a⟩)).d, .bool (benchFits x (setPin x.bench ⟨t, a⟩) 1 (canSet x.bench ⟨t, a⟩))]) : ∀ ds outs, F_PutPin ds = some outs → P ds outs := by
  intro ds outs hh
  obtain ⟨⟨x, t, a⟩, rfl, hp, rfl⟩ := mkF_inv hh
  exact h x t a hp
theorem p_PutPin {x_s : Int} {x_t : Int} {x_p : List T2} {x_o : List (List T2)} {x_c : List Int} {x_u : Int} {x_m : Int} {x_f : Int} {x_y : Int} {x_d : Int} {t : Int} {a : Int} {nr_ : Nat} {kk_ : V → V → V → V → V → V → V → V → V → V → V → Prop} (hp : (⟨x_s, x_t, x_p, x_o, x_c, x_u, x_m, x_f, x_y, x_d⟩ : Shop).p.length ≤ 1048576 ∧ fitLL (⟨x_s, x_t, x_p, x_o, x_c, x_u, x_m, x_f, x_y, x_d⟩ : Shop).o ∧ (⟨x_s, x_t, x_p, x_o, x_c, x_u, x_m, x_f, x_y, x_d⟩ : Shop).c.length ≤ 1048576) : P11 (.call F_PutPin 0 nr_) [.int .i64 x_s, .int .i64 x_t, vL I2 v2 x_p, vL IL2 vLL2 x_o, vL I1 v1 x_c, .int .i64 x_u, .int .i64 x_m, .int .i64 x_f, .int .i64 x_y, .int .i64 x_d, .int .i64 t, .int .i64 a] kk_ ↔ kk_ (.int .i64 (withBench (⟨x_s, x_t, x_p, x_o, x_c, x_u, x_m, x_f, x_y, x_d⟩ : Shop) (setPin (⟨x_s, x_t, x_p, x_o, x_c, x_u, x_m, x_f, x_y, x_d⟩ : Shop).bench ⟨t, a⟩) 1 (canSet (⟨x_s, x_t, x_p, x_o, x_c, x_u, x_m, x_f, x_y, x_d⟩ : Shop).bench ⟨t, a⟩)).s) (.int .i64 (withBench (⟨x_s, x_t, x_p, x_o, x_c, x_u, x_m, x_f, x_y, x_d⟩ : Shop) (setPin (⟨x_s, x_t, x_p, x_o, x_c, x_u, x_m, x_f, x_y, x_d⟩ : Shop).bench ⟨t, a⟩) 1 (canSet (⟨x_s, x_t, x_p, x_o, x_c, x_u, x_m, x_f, x_y, x_d⟩ : Shop).bench ⟨t, a⟩)).t) (vL I2 v2 (withBench (⟨x_s, x_t, x_p, x_o, x_c, x_u, x_m, x_f, x_y, x_d⟩ : Shop) (setPin (⟨x_s, x_t, x_p, x_o, x_c, x_u, x_m, x_f, x_y, x_d⟩ : Shop).bench ⟨t, a⟩) 1 (canSet (⟨x_s, x_t, x_p, x_o, x_c, x_u, x_m, x_f, x_y, x_d⟩ : Shop).bench ⟨t, a⟩)).p) (vL IL2 vLL2 (withBench (⟨x_s, x_t, x_p, x_o, x_c, x_u, x_m, x_f, x_y, x_d⟩ : Shop) (setPin (⟨x_s, x_t, x_p, x_o, x_c, x_u, x_m, x_f, x_y, x_d⟩ : Shop).bench ⟨t, a⟩) 1 (canSet (⟨x_s, x_t, x_p, x_o, x_c, x_u, x_m, x_f, x_y, x_d⟩ : Shop).bench ⟨t, a⟩)).o) (vL I1 v1 (withBench (⟨x_s, x_t, x_p, x_o, x_c, x_u, x_m, x_f, x_y, x_d⟩ : Shop) (setPin (⟨x_s, x_t, x_p, x_o, x_c, x_u, x_m, x_f, x_y, x_d⟩ : Shop).bench ⟨t, a⟩) 1 (canSet (⟨x_s, x_t, x_p, x_o, x_c, x_u, x_m, x_f, x_y, x_d⟩ : Shop).bench ⟨t, a⟩)).c) (.int .i64 (withBench (⟨x_s, x_t, x_p, x_o, x_c, x_u, x_m, x_f, x_y, x_d⟩ : Shop) (setPin (⟨x_s, x_t, x_p, x_o, x_c, x_u, x_m, x_f, x_y, x_d⟩ : Shop).bench ⟨t, a⟩) 1 (canSet (⟨x_s, x_t, x_p, x_o, x_c, x_u, x_m, x_f, x_y, x_d⟩ : Shop).bench ⟨t, a⟩)).u) (.int .i64 (withBench (⟨x_s, x_t, x_p, x_o, x_c, x_u, x_m, x_f, x_y, x_d⟩ : Shop) (setPin (⟨x_s, x_t, x_p, x_o, x_c, x_u, x_m, x_f, x_y, x_d⟩ : Shop).bench ⟨t, a⟩) 1 (canSet (⟨x_s, x_t, x_p, x_o, x_c, x_u, x_m, x_f, x_y, x_d⟩ : Shop).bench ⟨t, a⟩)).m) (.int .i64 (withBench (⟨x_s, x_t, x_p, x_o, x_c, x_u, x_m, x_f, x_y, x_d⟩ : Shop) (setPin (⟨x_s, x_t, x_p, x_o, x_c, x_u, x_m, x_f, x_y, x_d⟩ : Shop).bench ⟨t, a⟩) 1 (canSet (⟨x_s, x_t, x_p, x_o, x_c, x_u, x_m, x_f, x_y, x_d⟩ : Shop).bench ⟨t, a⟩)).f) (.int .i64 (withBench (⟨x_s, x_t, x_p, x_o, x_c, x_u, x_m, x_f, x_y, x_d⟩ : Shop) (setPin (⟨x_s, x_t, x_p, x_o, x_c, x_u, x_m, x_f, x_y, x_d⟩ : Shop).bench ⟨t, a⟩) 1 (canSet (⟨x_s, x_t, x_p, x_o, x_c, x_u, x_m, x_f, x_y, x_d⟩ : Shop).bench ⟨t, a⟩)).y) (.int .i64 (withBench (⟨x_s, x_t, x_p, x_o, x_c, x_u, x_m, x_f, x_y, x_d⟩ : Shop) (setPin (⟨x_s, x_t, x_p, x_o, x_c, x_u, x_m, x_f, x_y, x_d⟩ : Shop).bench ⟨t, a⟩) 1 (canSet (⟨x_s, x_t, x_p, x_o, x_c, x_u, x_m, x_f, x_y, x_d⟩ : Shop).bench ⟨t, a⟩)).d) (.bool (benchFits (⟨x_s, x_t, x_p, x_o, x_c, x_u, x_m, x_f, x_y, x_d⟩ : Shop) (setPin (⟨x_s, x_t, x_p, x_o, x_c, x_u, x_m, x_f, x_y, x_d⟩ : Shop).bench ⟨t, a⟩) 1 (canSet (⟨x_s, x_t, x_p, x_o, x_c, x_u, x_m, x_f, x_y, x_d⟩ : Shop).bench ⟨t, a⟩))) :=
  P11_callF (by unfold F_PutPin; exact mkF_eq F_PutPin_inj ((⟨x_s, x_t, x_p, x_o, x_c, x_u, x_m, x_f, x_y, x_d⟩ : Shop), t, a) hp)

def num (b : Bool) : Int := if b then 1 else 0
def E_numberOf (n : Bool) : List V := [.bool n]
noncomputable def F_numberOf : List V → Option (List V) := mkF E_numberOf (fun _ => True) (fun n => [.int .i64 (num n)])
theorem F_numberOf_inj : ∀ x y, E_numberOf x = E_numberOf y → x = y := by
  rintro n n' h
  simpa [E_numberOf] using h
theorem F_numberOf_elim {P : List V → List V → Prop} (h : ∀ (n : Bool), P [.bool n] [.int .i64 (num n)]) : ∀ ds outs, F_numberOf ds = some outs → P ds outs := by
  intro ds outs hh
  obtain ⟨n, rfl, -, rfl⟩ := mkF_inv hh
  exact h n
@[simp] theorem p_numberOf {n : Bool} {nr_ : Nat} {kk_ : V → Prop} : P1 (.call F_numberOf 0 nr_) [.bool n] kk_ ↔ kk_ (.int .i64 (num n)) :=
  P1_callF (by unfold F_numberOf; exact mkF_eq F_numberOf_inj (n) trivial)

noncomputable abbrev F_l39Bool := F_numberOf
def cmRow (c : Cyl) (i : Nat) : Nat → Int → Int
  | 0, b => b
  | k + 1, b => match c.p[i]?, c.p[k]? with
    | some x, some y => if x.a = y.a then min (cmRow c i k b) (gap x.b y.b c.s) else cmRow c i k b
    | _, _ => cmRow c i k b
def cmTo (c : Cyl) : Nat → Int
  | 0 => c.s
  | i + 1 => cmRow c i i (cmTo c i)
def closest (c : Cyl) : Int := if cylOk c then cmTo c c.p.length else -1
def E_ClosestPins (x : Cyl) : List V := [.int .i64 x.s, .int .i64 x.t, vL I2 v2 x.p]
noncomputable def F_ClosestPins : List V → Option (List V) := mkF E_ClosestPins (fun x => x.p.length ≤ 1048576) (fun x => [.int .i64 (closest x)])
theorem F_ClosestPins_inj : ∀ x y, E_ClosestPins x = E_ClosestPins y → x = y := by
  rintro ⟨xs, xt, xp⟩ ⟨xs', xt', xp'⟩ h
  simpa [E_ClosestPins] using h
theorem F_ClosestPins_elim {P : List V → List V → Prop} (h : ∀ (x : Cyl), (x.p.length ≤ 1048576) → P [.int .i64 x.s, .int .i64 x.t, vL I2 v2 x.p] [.int .i64 (closest x)]) : ∀ ds outs, F_ClosestPins ds = some outs → P ds outs := by
  intro ds outs hh
  obtain ⟨x, rfl, hp, rfl⟩ := mkF_inv hh
  exact h x hp
theorem p_ClosestPins {x_s : Int} {x_t : Int} {x_p : List T2} {nr_ : Nat} {kk_ : V → Prop} (hp : (⟨x_s, x_t, x_p⟩ : Cyl).p.length ≤ 1048576) : P1 (.call F_ClosestPins 0 nr_) [.int .i64 x_s, .int .i64 x_t, vL I2 v2 x_p] kk_ ↔ kk_ (.int .i64 (closest (⟨x_s, x_t, x_p⟩ : Cyl))) :=
  P1_callF (by unfold F_ClosestPins; exact mkF_eq F_ClosestPins_inj ((⟨x_s, x_t, x_p⟩ : Cyl)) hp)

def removeW (w : Shop) (k : Int) : Shop := withBench w (takePin w.bench k) 0 (canTake w.bench k)
def removeOk (w : Shop) (k : Int) : Bool := benchFits w (takePin w.bench k) 0 (canTake w.bench k)
def putW (w : Shop) (p : T2) : Shop := withBench w (setPin w.bench p) 1 (canSet w.bench p)
def putOk (w : Shop) (p : T2) : Bool := benchFits w (setPin w.bench p) 1 (canSet w.bench p)
def backW (w : Shop) : Shop := withBench w (takeBack w.bench) 0 (takeOk w.bench)
def backOk (w : Shop) : Bool := benchFits w (takeBack w.bench) 0 (takeOk w.bench)
def canAct (w : Shop) (a : T3) : Bool := shopOk w && actOk a
def actW (w : Shop) (a : T3) : Shop :=
  if canAct w a then (if a.a = 1 then putW w ⟨a.b, a.c⟩ else if a.a = 2 then removeW w a.b else if a.a = 3 then backW w else if a.a = 4 then crank w a.b else if a.a = 5 then playOnce w else w) else w
def actN (w : Shop) (a : T3) : Int :=
  if canAct w a then (if a.a = 1 then num (putOk w ⟨a.b, a.c⟩) else if a.a = 2 then num (removeOk w a.b) else if a.a = 3 then num (backOk w) else if a.a = 4 then (if shopOk w then windBy w.spring a.b else -1) else if a.a = 5 then num (canPlay w) else closest w.bench.cyl) else -1
def E_DoAct : Shop × T3 → List V := fun (x, y) => [.int .i64 x.s, .int .i64 x.t, vL I2 v2 x.p, vL IL2 vLL2 x.o, vL I1 v1 x.c, .int .i64 x.u, .int .i64 x.m, .int .i64 x.f, .int .i64 x.y, .int .i64 x.d, .int .i64 y.a, .int .i64 y.b, .int .i64 y.c]
noncomputable def F_DoAct : List V → Option (List V) := mkF E_DoAct (fun (x, _) => x.p.length ≤ 1048576 ∧ fitLL x.o ∧ x.c.length ≤ 1048576) (fun (x, y) => [.int .i64 (actW x y).s, .int .i64 (actW x y).t, vL I2 v2 (actW x y).p, vL IL2 vLL2 (actW x y).o, vL I1 v1 (actW x y).c, .int .i64 (actW x y).u, .int .i64 (actW x y).m, .int .i64 (actW x y).f, .int .i64 (actW x y).y, .int .i64 (actW x y).d, .int .i64 (actN x y)])
theorem F_DoAct_inj : ∀ x y, E_DoAct x = E_DoAct y → x = y := by
  rintro ⟨⟨xs, xt, xp, xo, xc, xu, xm, xf, xy, xd⟩, ⟨ya, yb, yc⟩⟩ ⟨⟨xs', xt', xp', xo', xc', xu', xm', xf', xy', xd'⟩, ⟨ya', yb', yc'⟩⟩ h
  simpa [E_DoAct, and_assoc] using h
theorem F_DoAct_elim {P : List V → List V → Prop} (h : ∀ (x : Shop) (y : T3), (x.p.length ≤ 1048576 ∧ fitLL x.o ∧ x.c.length ≤ 1048576) → P [.int .i64 x.s, .int .i64 x.t, vL I2 v2 x.p, vL IL2 vLL2 x.o, vL I1 v1 x.c, .int .i64 x.u, .int .i64 x.m, .int .i64 x.f, .int .i64 x.y, .int .i64 x.d, .int .i64 y.a, .int .i64 y.b, .int .i64 y.c] [.int .i64 (actW x y).s, .int .i64 (actW x y).t, vL I2 v2 (actW x y).p, vL IL2 vLL2 (actW x y).o, vL I1 v1 (actW x y).c, .int .i64 (actW x y).u, .int .i64 (actW x y).m, .int .i64 (actW x y).f, .int .i64 (actW x y).y, .int .i64 (actW x y).d, .int .i64 (actN x y)]) : ∀ ds outs, F_DoAct ds = some outs → P ds outs := by
  intro ds outs hh
  obtain ⟨⟨x, y⟩, rfl, hp, rfl⟩ := mkF_inv hh
  exact h x y hp
theorem p_DoAct {x_s : Int} {x_t : Int} {x_p : List T2} {x_o : List (List T2)} {x_c : List Int} {x_u : Int} {x_m : Int} {x_f : Int} {x_y : Int} {x_d : Int} {y_a : Int} {y_b : Int} {y_c : Int} {nr_ : Nat} {kk_ : V → V → V → V → V → V → V → V → V → V → V → Prop} (hp : (⟨x_s, x_t, x_p, x_o, x_c, x_u, x_m, x_f, x_y, x_d⟩ : Shop).p.length ≤ 1048576 ∧ fitLL (⟨x_s, x_t, x_p, x_o, x_c, x_u, x_m, x_f, x_y, x_d⟩ : Shop).o ∧ (⟨x_s, x_t, x_p, x_o, x_c, x_u, x_m, x_f, x_y, x_d⟩ : Shop).c.length ≤ 1048576) : P11 (.call F_DoAct 0 nr_) [.int .i64 x_s, .int .i64 x_t, vL I2 v2 x_p, vL IL2 vLL2 x_o, vL I1 v1 x_c, .int .i64 x_u, .int .i64 x_m, .int .i64 x_f, .int .i64 x_y, .int .i64 x_d, .int .i64 y_a, .int .i64 y_b, .int .i64 y_c] kk_ ↔ kk_ (.int .i64 (actW (⟨x_s, x_t, x_p, x_o, x_c, x_u, x_m, x_f, x_y, x_d⟩ : Shop) (⟨y_a, y_b, y_c⟩ : T3)).s) (.int .i64 (actW (⟨x_s, x_t, x_p, x_o, x_c, x_u, x_m, x_f, x_y, x_d⟩ : Shop) (⟨y_a, y_b, y_c⟩ : T3)).t) (vL I2 v2 (actW (⟨x_s, x_t, x_p, x_o, x_c, x_u, x_m, x_f, x_y, x_d⟩ : Shop) (⟨y_a, y_b, y_c⟩ : T3)).p) (vL IL2 vLL2 (actW (⟨x_s, x_t, x_p, x_o, x_c, x_u, x_m, x_f, x_y, x_d⟩ : Shop) (⟨y_a, y_b, y_c⟩ : T3)).o) (vL I1 v1 (actW (⟨x_s, x_t, x_p, x_o, x_c, x_u, x_m, x_f, x_y, x_d⟩ : Shop) (⟨y_a, y_b, y_c⟩ : T3)).c) (.int .i64 (actW (⟨x_s, x_t, x_p, x_o, x_c, x_u, x_m, x_f, x_y, x_d⟩ : Shop) (⟨y_a, y_b, y_c⟩ : T3)).u) (.int .i64 (actW (⟨x_s, x_t, x_p, x_o, x_c, x_u, x_m, x_f, x_y, x_d⟩ : Shop) (⟨y_a, y_b, y_c⟩ : T3)).m) (.int .i64 (actW (⟨x_s, x_t, x_p, x_o, x_c, x_u, x_m, x_f, x_y, x_d⟩ : Shop) (⟨y_a, y_b, y_c⟩ : T3)).f) (.int .i64 (actW (⟨x_s, x_t, x_p, x_o, x_c, x_u, x_m, x_f, x_y, x_d⟩ : Shop) (⟨y_a, y_b, y_c⟩ : T3)).y) (.int .i64 (actW (⟨x_s, x_t, x_p, x_o, x_c, x_u, x_m, x_f, x_y, x_d⟩ : Shop) (⟨y_a, y_b, y_c⟩ : T3)).d) (.int .i64 (actN (⟨x_s, x_t, x_p, x_o, x_c, x_u, x_m, x_f, x_y, x_d⟩ : Shop) (⟨y_a, y_b, y_c⟩ : T3))) :=
  P11_callF (by unfold F_DoAct; exact mkF_eq F_DoAct_inj ((⟨x_s, x_t, x_p, x_o, x_c, x_u, x_m, x_f, x_y, x_d⟩ : Shop), (⟨y_a, y_b, y_c⟩ : T3)) hp)

end Go.Mw

namespace Go.Mw
noncomputable section
def spec_PutPin_L : L := .seq (.rg []) (.seq (.rg [zc F_l38Copy 10 [0, 1, 2, 3, 4, 5, 6, 7, 8, 9]]) (.seq (.rg [zc F_SetPin 5 [0, 1, 2, 3, 10, 11]]) (.seq (.rg []) (.seq (.rg [zk .sub 8 1]) (.seq (.seq (.rg [zc F_WorkshopOk 1 [0, 1, 2, 3, 4, 5, 6, 7, 8, 9], zn 28, ⟨[(.v 29, false)], .un .not, [.v 26], 1⟩, ⟨[], .pick, [.v 29, .k (.bool true), .v 30], 1⟩, ⟨[(.v 31, false)], .call F_WorkshopOk 0 1, [.v 22, .v 23, .v 24, .v 25, .v 16, .v 17, .v 18, .v 19, .v 27, .v 21], 1⟩, ⟨[(.v 31, false)], .un .not, [.v 32], 1⟩, ⟨[], .pick, [.v 31, .k (.bool true), .v 33], 1⟩]) (.ite (.v 34) (.seq (.rg [zc F_l38Copy 10 [0, 1, 2, 3, 4, 5, 6, 7, 8, 9]]) (.ret [.v 35, .v 36, .v 37, .v 38, .v 39, .v 40, .v 41, .v 42, .v 43, .v 44, .k (.bool false)])) (.skip))) (.seq (.rg []) (.ret [.v 22, .v 23, .v 24, .v 25, .v 16, .v 17, .v 18, .v 19, .v 27, .v 21, .k (.bool true)])))))))
theorem spec_PutPin_L_sh (Q : QT) (x0 x1 x2 x3 x4 x5 x6 x7 x8 x9 x10 x11 : V) : shL spec_PutPin_L Q [x0, x1, x2, x3, x4, x5, x6, x7, x8, x9, x10, x11] = (
  P10 (.call F_l38Copy 0 10) [x0, x1, x2, x3, x4, x5, x6, x7, x8, x9] fun _ _ _ _ v4 v5 v6 v7 _ v9 =>
  P5 (.call F_SetPin 0 5) [x0, x1, x2, x3, x10, x11] fun v10 v11 v12 v13 v14 =>
  P1 (.bin .sub) [x8, .int .i64 1] fun v15 =>
  P1 (.call F_WorkshopOk 0 1) [x0, x1, x2, x3, x4, x5, x6, x7, x8, x9] fun v16 =>
  P1 (.un .not) [v16] fun v17 =>
  ifB v17 (
    P10 (.call F_l38Copy 0 10) [x0, x1, x2, x3, x4, x5, x6, x7, x8, x9] fun v18 v19 v20 v21 v22 v23 v24 v25 v26 v27 =>
    Q .ret [v18, v19, v20, v21, v22, v23, v24, v25, v26, v27, .bool false]) (
    P1 (.un .not) [v14] fun v28 =>
    ifB v28 (
      P10 (.call F_l38Copy 0 10) [x0, x1, x2, x3, x4, x5, x6, x7, x8, x9] fun v29 v30 v31 v32 v33 v34 v35 v36 v37 v38 =>
      Q .ret [v29, v30, v31, v32, v33, v34, v35, v36, v37, v38, .bool false]) (
      P1 (.call F_WorkshopOk 0 1) [v10, v11, v12, v13, v4, v5, v6, v7, v15, v9] fun v39 =>
      P1 (.un .not) [v39] fun v40 =>
      ifB v40 (
        P10 (.call F_l38Copy 0 10) [x0, x1, x2, x3, x4, x5, x6, x7, x8, x9] fun v41 v42 v43 v44 v45 v46 v47 v48 v49 v50 =>
        Q .ret [v41, v42, v43, v44, v45, v46, v47, v48, v49, v50, .bool false]) (
        Q .ret [v10, v11, v12, v13, v4, v5, v6, v7, v15, v9, .bool true])))) := by kernel_rfl
def spec_PutPin_S : Sig := ⟨[.val true [.sc, .sc, .sl [.sc, .sc], .sl [.sl [.sc, .sc]], .sl [.sc], .sc, .sc, .sc, .sc, .sc], .val false [.sc], .val false [.sc]], [(true, [.sc, .sc, .sl [.sc, .sc], .sl [.sl [.sc, .sc]], .sl [.sc], .sc, .sc, .sc, .sc, .sc]), (false, [.sc])], F_PutPin⟩
def spec_PutPin_hs : List NF := []

def impl_PutPin_L : L := .seq (.rg []) (.seq (.rg [zc F_SetPin 5 [0, 1, 2, 3, 10, 11]]) (.seq (.rg [⟨[], .call F_withBench 0 11, [.v 0, .v 1, .v 2, .v 3, .v 4, .v 5, .v 6, .v 7, .v 8, .v 9, .v 12, .v 13, .v 14, .v 15, .k (.int .i64 1), .v 16], 11⟩]) (.ret [.v 17, .v 18, .v 19, .v 20, .v 21, .v 22, .v 23, .v 24, .v 25, .v 26, .v 27])))
theorem impl_PutPin_L_sh (Q : QT) (x0 x1 x2 x3 x4 x5 x6 x7 x8 x9 x10 x11 : V) : shL impl_PutPin_L Q [x0, x1, x2, x3, x4, x5, x6, x7, x8, x9, x10, x11] = (
  P5 (.call F_SetPin 0 5) [x0, x1, x2, x3, x10, x11] fun v0 v1 v2 v3 v4 =>
  P11 (.call F_withBench 0 11) [x0, x1, x2, x3, x4, x5, x6, x7, x8, x9, v0, v1, v2, v3, .int .i64 1, v4] fun v5 v6 v7 v8 v9 v10 v11 v12 v13 v14 v15 =>
  Q .ret [v5, v6, v7, v8, v9, v10, v11, v12, v13, v14, v15]) := by kernel_rfl
def impl_PutPin_S : Sig := ⟨[.val true [.sc, .sc, .sl [.sc, .sc], .sl [.sl [.sc, .sc]], .sl [.sc], .sc, .sc, .sc, .sc, .sc], .val false [.sc], .val false [.sc]], [(true, [.sc, .sc, .sl [.sc, .sc], .sl [.sl [.sc, .sc]], .sl [.sc], .sc, .sc, .sc, .sc, .sc]), (false, [.sc])], F_PutPin⟩
def impl_PutPin_hs : List NF := []

end
end Go.Mw

namespace Go.Mw
theorem setPin_no {b : Bench} {p : T2} (h : canSet b p = false) : setPin b p = b := by
  unfold canSet at h; unfold setPin stepTo; rw [h]; simp
theorem setPin_fit {x : Shop} {p : T2} (hb : x.p.length ≤ 1048576 ∧ fitLL x.o) : (setPin x.bench p).p.length ≤ 1048576 ∧ fitLL (setPin x.bench p).o := by
  cases h2 : canSet x.bench p with
  | false => rw [setPin_no h2]; exact hb
  | true =>
    have : stepOk x.bench (addTo x.bench.cyl p) = true := by simp [canSet] at h2; exact h2.2
    have hs : benchOk x.bench = true := by simp [stepOk] at this; exact this.1
    have := setPin_small (p := p) (bSmall_of_ok hs)
    exact ⟨this.1, this.2.1⟩
theorem spec_PutPin_ok : ∀ ds outs, F_PutPin ds = some outs → shL spec_PutPin_L (qRet outs) ds := F_PutPin_elim fun x t a hp => by
  have hb : x.p.length ≤ 1048576 ∧ fitLL x.o := ⟨hp.1, hp.2.1⟩
  have hf := setPin_fit (p := ⟨t, a⟩) hb
  have hf3 : (setPin x.bench ⟨t, a⟩).p.length ≤ 1048576 ∧ fitLL (setPin x.bench ⟨t, a⟩).o ∧ x.c.length ≤ 1048576 := ⟨hf.1, hf.2, hp.2.2⟩
  have e0 : (⟨x.s, x.t, x.p, x.o⟩ : Bench) = x.bench := rfl
  have e1 : (addOk x.bench.cyl ⟨t, a⟩ && stepOk x.bench (addTo x.bench.cyl ⟨t, a⟩)) = canSet x.bench ⟨t, a⟩ := rfl
  rw [spec_PutPin_L_sh, p_l38Copy (x_p := x.p) (x_o := x.o) (x_c := x.c) hp]
  simp only [p_l38Copy (x_p := x.p) (x_o := x.o) (x_c := x.c) hp, p_SetPin (x_p := x.p) (x_o := x.o) hb, p_WorkshopOk (x_p := x.p) (x_o := x.o) (x_c := x.c) hp, e0, e1]
  generalize setPin x.bench ⟨t, a⟩ = B at *
  generalize canSet x.bench ⟨t, a⟩ = ok at *
  cases h : shopOk x with
  | false => simp [h, withBench, benchFits]
  | true =>
    cases ok with
    | false => simp [h, withBench, benchFits]
    | true =>
      have hy := within_iff.1 ((shopOk_iff x).1 h).2.2.2.2.1
      have hw : IntKind.i64.wrap (x.y - 1) = x.y - 1 := wrap_id (by omega) (by omega)
      have e : (⟨B.s, B.t, B.p, B.o, x.c, x.u, x.m, x.f, x.y - 1, x.d⟩ : Shop) = withB x B 1 := rfl
      simp only [P1_sub, hw, p_WorkshopOk (x_p := B.p) (x_o := B.o) (x_c := x.c) hf3, e]
      cases h3 : shopOk (withB x B 1) <;> simp [h, h3, withBench, benchFits]
      simp [withB]
theorem impl_PutPin_ok : ∀ ds outs, F_PutPin ds = some outs → shL impl_PutPin_L (qRet outs) ds := F_PutPin_elim fun x t a hp => by
  have hb : x.p.length ≤ 1048576 ∧ fitLL x.o := ⟨hp.1, hp.2.1⟩
  have hf := setPin_fit (p := ⟨t, a⟩) hb
  have e0 : (⟨x.s, x.t, x.p, x.o⟩ : Bench) = x.bench := rfl
  have e1 : (addOk x.bench.cyl ⟨t, a⟩ && stepOk x.bench (addTo x.bench.cyl ⟨t, a⟩)) = canSet x.bench ⟨t, a⟩ := rfl
  rw [impl_PutPin_L_sh, p_SetPin (x_p := x.p) (x_o := x.o) hb]
  simp only [e0, e1]
  generalize setPin x.bench ⟨t, a⟩ = B at *
  rw [p_withBench (x_p := x.p) (x_o := x.o) (x_c := x.c) (y_p := B.p) (y_o := B.o) ⟨hp.1, hp.2.1, hp.2.2, hf.1, hf.2, by omega, by omega⟩]
  simp
end Go.Mw

namespace Go.Mw
def runTo (w : Shop) (l : List T3) : Nat → Shop × List Int
  | 0 => (w, [])
  | k + 1 => match l[k]? with
    | some a => (actW (runTo w l k).1 a, (runTo w l k).2 ++ [actN (runTo w l k).1 a])
    | none => runTo w l k
def actsOk (w : Shop) (l : List T3) : Bool := shopOk w && decide (l.length ≤ 40)
def runW (w : Shop) (l : List T3) : Shop := if actsOk w l then (runTo w l l.length).1 else w
def runN' (w : Shop) (l : List T3) : List Int := if actsOk w l then (runTo w l l.length).2 else []
def E_RunActs : Shop × List T3 → List V := fun (x, l) => [.int .i64 x.s, .int .i64 x.t, vL I2 v2 x.p, vL IL2 vLL2 x.o, vL I1 v1 x.c, .int .i64 x.u, .int .i64 x.m, .int .i64 x.f, .int .i64 x.y, .int .i64 x.d, vL I3 v3 l]
noncomputable def F_RunActs : List V → Option (List V) := mkF E_RunActs (fun (x, l) => x.p.length ≤ 1048576 ∧ fitLL x.o ∧ x.c.length ≤ 1048576 ∧ l.length ≤ 1048576) (fun (x, l) => [.int .i64 (runW x l).s, .int .i64 (runW x l).t, vL I2 v2 (runW x l).p, vL IL2 vLL2 (runW x l).o, vL I1 v1 (runW x l).c, .int .i64 (runW x l).u, .int .i64 (runW x l).m, .int .i64 (runW x l).f, .int .i64 (runW x l).y, .int .i64 (runW x l).d, vL I1 v1 (runN' x l)])
theorem F_RunActs_inj : ∀ x y, E_RunActs x = E_RunActs y → x = y := by
  rintro ⟨⟨xs, xt, xp, xo, xc, xu, xm, xf, xy, xd⟩, l⟩ ⟨⟨xs', xt', xp', xo', xc', xu', xm', xf', xy', xd'⟩, l'⟩ h
  simpa [E_RunActs, and_assoc] using h
theorem F_RunActs_elim {P : List V → List V → Prop} (h : ∀ (x : Shop) (l : List T3), (x.p.length ≤ 1048576 ∧ fitLL x.o ∧ x.c.length ≤ 1048576 ∧ l.length ≤ 1048576) → P [.int .i64 x.s, .int .i64 x.t, vL I2 v2 x.p, vL IL2 vLL2 x.o, vL I1 v1 x.c, .int .i64 x.u, .int .i64 x.m, .int .i64 x.f, .int .i64 x.y, .int .i64 x.d, vL I3 v3 l] [.int .i64 (runW x l).s, .int .i64 (runW x l).t, vL I2 v2 (runW x l).p, vL IL2 vLL2 (runW x l).o, vL I1 v1 (runW x l).c, .int .i64 (runW x l).u, .int .i64 (runW x l).m, .int .i64 (runW x l).f, .int .i64 (runW x l).y, .int .i64 (runW x l).d, vL I1 v1 (runN' x l)]) : ∀ ds outs, F_RunActs ds = some outs → P ds outs := by
  intro ds outs hh
  obtain ⟨⟨x, l⟩, rfl, hp, rfl⟩ := mkF_inv hh
  exact h x l hp
theorem p_RunActs {x_s : Int} {x_t : Int} {x_p : List T2} {x_o : List (List T2)} {x_c : List Int} {x_u : Int} {x_m : Int} {x_f : Int} {x_y : Int} {x_d : Int} {l : List T3} {nr_ : Nat} {kk_ : V → V → V → V → V → V → V → V → V → V → V → Prop} (hp : (⟨x_s, x_t, x_p, x_o, x_c, x_u, x_m, x_f, x_y, x_d⟩ : Shop).p.length ≤ 1048576 ∧ fitLL (⟨x_s, x_t, x_p, x_o, x_c, x_u, x_m, x_f, x_y, x_d⟩ : Shop).o ∧ (⟨x_s, x_t, x_p, x_o, x_c, x_u, x_m, x_f, x_y, x_d⟩ : Shop).c.length ≤ 1048576 ∧ l.length ≤ 1048576) : P11 (.call F_RunActs 0 nr_) [.int .i64 x_s, .int .i64 x_t, vL I2 v2 x_p, vL IL2 vLL2 x_o, vL I1 v1 x_c, .int .i64 x_u, .int .i64 x_m, .int .i64 x_f, .int .i64 x_y, .int .i64 x_d, vL I3 v3 l] kk_ ↔ kk_ (.int .i64 (runW (⟨x_s, x_t, x_p, x_o, x_c, x_u, x_m, x_f, x_y, x_d⟩ : Shop) l).s) (.int .i64 (runW (⟨x_s, x_t, x_p, x_o, x_c, x_u, x_m, x_f, x_y, x_d⟩ : Shop) l).t) (vL I2 v2 (runW (⟨x_s, x_t, x_p, x_o, x_c, x_u, x_m, x_f, x_y, x_d⟩ : Shop) l).p) (vL IL2 vLL2 (runW (⟨x_s, x_t, x_p, x_o, x_c, x_u, x_m, x_f, x_y, x_d⟩ : Shop) l).o) (vL I1 v1 (runW (⟨x_s, x_t, x_p, x_o, x_c, x_u, x_m, x_f, x_y, x_d⟩ : Shop) l).c) (.int .i64 (runW (⟨x_s, x_t, x_p, x_o, x_c, x_u, x_m, x_f, x_y, x_d⟩ : Shop) l).u) (.int .i64 (runW (⟨x_s, x_t, x_p, x_o, x_c, x_u, x_m, x_f, x_y, x_d⟩ : Shop) l).m) (.int .i64 (runW (⟨x_s, x_t, x_p, x_o, x_c, x_u, x_m, x_f, x_y, x_d⟩ : Shop) l).f) (.int .i64 (runW (⟨x_s, x_t, x_p, x_o, x_c, x_u, x_m, x_f, x_y, x_d⟩ : Shop) l).y) (.int .i64 (runW (⟨x_s, x_t, x_p, x_o, x_c, x_u, x_m, x_f, x_y, x_d⟩ : Shop) l).d) (vL I1 v1 (runN' (⟨x_s, x_t, x_p, x_o, x_c, x_u, x_m, x_f, x_y, x_d⟩ : Shop) l)) :=
  P11_callF (by unfold F_RunActs; exact mkF_eq F_RunActs_inj ((⟨x_s, x_t, x_p, x_o, x_c, x_u, x_m, x_f, x_y, x_d⟩ : Shop), l) hp)

end Go.Mw

namespace Go.Mw
noncomputable section
def spec_ClosestPins_b1 : L := .seq (.seq (.seq (.rg [zb .lss 2 1]) (.ite (.v 6) (.skip) (.seq (zt [0, 1, 3, 4, 5]) (.exit 2)))) (.seq (.block 3 (.seq (.seq (.rg [zj 5 1, zj 5 2, zb .eql 7 9]) (.ite (.v 11) (.seq (.rg [zj 5 1, zj 5 2, zc F_GapAround 1 [13, 15, 3], ⟨[], .mn, [.v 0, .v 16], 1⟩]) (zt [17, 1, 2, 3, 4, 5])) (.seq (.skip) (zt [0, 1, 2, 3, 4, 5])))) (zt [0, 1, 2, 3, 4, 5]))) (.rg [zk .add 2 1]))) (zt [0, 1, 6, 3, 4, 5])
theorem spec_ClosestPins_b1_sh (Q : QT) (x0 x1 x2 x3 x4 x5 : V) : shL spec_ClosestPins_b1 Q [x0, x1, x2, x3, x4, x5] = (
  P1 (.bin .lss) [x2, x1] fun v0 =>
  ifB v0 (
    P2 (.idx [.sc, .sc]) [x5, x1] fun v1 _ =>
    P2 (.idx [.sc, .sc]) [x5, x2] fun v3 _ =>
    P1 (.bin .eql) [v1, v3] fun v5 =>
    ifB v5 (
      P2 (.idx [.sc, .sc]) [x5, x1] fun _ v7 =>
      P2 (.idx [.sc, .sc]) [x5, x2] fun _ v9 =>
      P1 (.call F_GapAround 0 1) [v7, v9, x3] fun v10 =>
      P1 (.mn) [x0, v10] fun v11 =>
      P1 (.bin .add) [x2, .int .i64 1] fun v12 =>
      Q .normal [v11, x1, v12, x3, x4, x5]) (
      P1 (.bin .add) [x2, .int .i64 1] fun v13 =>
      Q .normal [x0, x1, v13, x3, x4, x5])) (
    Q (.exit 2) [x0, x1, x3, x4, x5])) := by kernel_rfl

def spec_ClosestPins_r2 : L := zt [0, 1, 2, 3, 4]
theorem spec_ClosestPins_r2_sh (Q : QT) (x0 x1 x2 x3 x4 : V) : shL spec_ClosestPins_r2 Q [x0, x1, x2, x3, x4] = (
  Q .normal [x0, x1, x2, x3, x4]) := by kernel_rfl

def spec_ClosestPins_r3 : L := .rg [zk .add 1 1]
theorem spec_ClosestPins_r3_sh (Q : QT) (x0 x1 x2 x3 x4 : V) : shL spec_ClosestPins_r3 Q [x0, x1, x2, x3, x4] = (
  P1 (.bin .add) [x1, .int .i64 1] fun v0 =>
  Q .normal [x0, x1, x2, x3, x4, v0]) := by kernel_rfl

def spec_ClosestPins_r4 : L := zt [0, 5, 2, 3, 4]
theorem spec_ClosestPins_r4_sh (Q : QT) (x0 x1 x2 x3 x4 x5 : V) : shL spec_ClosestPins_r4 Q [x0, x1, x2, x3, x4, x5] = (
  Q .normal [x0, x5, x2, x3, x4]) := by kernel_rfl

def spec_ClosestPins_b0 : L := .seq (.seq (.seq (.rg [zl 4, zb .lss 1 5]) (.ite (.v 6) (.skip) (.seq (zt [0]) (.exit 0)))) (.seq (.block 1 (.seq (.seq (.rg []) (.block 2 (.seq (.tup [.v 0, .v 1, .k (.int .i64 0), .v 2, .v 3, .v 4]) (.loop (spec_ClosestPins_b1))))) (spec_ClosestPins_r2))) (spec_ClosestPins_r3))) (spec_ClosestPins_r4)
theorem spec_ClosestPins_b0_sh (Q : QT) (x0 x1 x2 x3 x4 : V) : shL spec_ClosestPins_b0 Q [x0, x1, x2, x3, x4] = (
  P1 (.len) [x4] fun v0 =>
  P1 (.bin .lss) [x1, v0] fun v1 =>
  ifB v1 (
    shL (.loop spec_ClosestPins_b1) (qB 2 (qS (shL spec_ClosestPins_r2 (qB 1 (qS (shL spec_ClosestPins_r3 (qS (shL spec_ClosestPins_r4 Q) Q)) (qS (shL spec_ClosestPins_r4 Q) Q)))) (qB 1 (qS (shL spec_ClosestPins_r3 (qS (shL spec_ClosestPins_r4 Q) Q)) (qS (shL spec_ClosestPins_r4 Q) Q))))) [x0, x1, .int .i64 0, x2, x3, x4]) (
    Q (.exit 0) [x0])) := by kernel_rfl

def spec_ClosestPins_r5 : L := .seq (.rg []) (.ret [.v 0])
theorem spec_ClosestPins_r5_sh (Q : QT) (x0 : V) : shL spec_ClosestPins_r5 Q [x0] = (
  Q .ret [x0]) := by kernel_rfl

def spec_ClosestPins_L : L := .seq (.rg []) (.seq (.seq (.rg [zc F_CylinderOk 1 [0, 1, 2], zn 3]) (.ite (.v 4) (.seq (.rg []) (.ret [.k (.int .i64 (-1))])) (.skip))) (.seq (.rg []) (.seq (.seq (.rg []) (.block 0 (.seq (.tup [.v 0, .k (.int .i64 0), .v 0, .v 1, .v 2]) (.loop (spec_ClosestPins_b0))))) (spec_ClosestPins_r5))))
theorem spec_ClosestPins_L_sh (Q : QT) (x0 x1 x2 : V) : shL spec_ClosestPins_L Q [x0, x1, x2] = (
  P1 (.call F_CylinderOk 0 1) [x0, x1, x2] fun v0 =>
  P1 (.un .not) [v0] fun v1 =>
  ifB v1 (
    Q .ret [.int .i64 (-1)]) (
    shL (.loop spec_ClosestPins_b0) (qB 0 (qS (shL spec_ClosestPins_r5 Q) Q)) [x0, .int .i64 0, x0, x1, x2])) := by kernel_rfl
def spec_ClosestPins_S : Sig := ⟨[.val true [.sc, .sc, .sl [.sc, .sc]]], [(false, [.sc])], F_ClosestPins⟩
def spec_ClosestPins_hs : List NF := [⟨[(3, zs)], [], [], 64⟩, ⟨[(1, .ptr 64 0), (3, zs), (4, zs)], [], [(64, [.sc, .sc, .ro [.sc, .sc]])], 65⟩, ⟨[(1, .ptr 64 0), (3, zs), (4, zs)], [], [(64, [.sc, .sc, .ro [.sc, .sc]])], 65⟩, ⟨[(1, .ptr 64 0), (3, zs), (4, zs)], [], [(64, [.sc, .sc, .ro [.sc, .sc]])], 65⟩, ⟨[(1, .ptr 64 0), (3, zs), (4, zs), (5, zs)], [], [(64, [.sc, .sc, .ro [.sc, .sc]])], 65⟩, ⟨[(1, .ptr 64 0), (3, zs), (4, zs), (5, zs)], [], [(64, [.sc, .sc, .ro [.sc, .sc]])], 65⟩, ⟨[(1, .ptr 64 0), (3, zs), (4, zs), (5, zs)], [], [(64, [.sc, .sc, .ro [.sc, .sc]])], 65⟩]

def spec_l39Bool_L : L := .seq (.rg []) (.seq (.seq (.rg []) (.ite (.v 0) (.seq (.rg []) (.ret [.k (.int .i64 1)])) (.skip))) (.seq (.rg []) (.ret [.k (.int .i64 0)])))
theorem spec_l39Bool_L_sh (Q : QT) (x0 : V) : shL spec_l39Bool_L Q [x0] = (
  ifB x0 (
    Q .ret [.int .i64 1]) (
    Q .ret [.int .i64 0])) := by kernel_rfl
def spec_l39Bool_S : Sig := ⟨[.val false [.sc]], [(false, [.sc])], F_l39Bool⟩
def spec_l39Bool_hs : List NF := []

def spec_DoAct_r0 : L := .seq (.rg []) (.seq (.seq (.rg []) (.block 0 (.seq (.seq (.rg [zk .eql 10 1]) (.ite (.v 28) (.seq (.rg [zc F_PutPin 11 [0, 1, 2, 3, 4, 5, 6, 7, 8, 9, 11, 12]]) (.tup [.v 39, .v 31, .v 32, .v 33, .k (.int .i64 0), .k (.int .i64 0), .k (.int .i64 0), .k (.int .i64 0), .k (.int .i64 0), .k (.int .i64 0), .k (.int .i64 0), .v 29, .v 30, .v 34, .v 35, .v 36, .v 37, .v 38])) (.seq (.seq (.rg [zk .eql 10 2]) (.ite (.v 29) (.seq (.rg [zc F_RemovePin 11 [0, 1, 2, 3, 4, 5, 6, 7, 8, 9, 11]]) (.tup [.v 40, .v 32, .v 33, .v 34, .k (.int .i64 0), .k (.int .i64 0), .k (.int .i64 0), .k (.int .i64 0), .k (.int .i64 0), .k (.int .i64 0), .k (.int .i64 0), .v 30, .v 31, .v 35, .v 36, .v 37, .v 38, .v 39])) (.seq (.seq (.rg [zk .eql 10 5]) (.ite (.v 30) (.seq (.rg [zc F_PlayOnce 11 [0, 1, 2, 3, 4, 5, 6, 7, 8, 9]]) (.tup [.v 41, .v 33, .v 34, .v 35, .k (.int .i64 0), .k (.int .i64 0), .k (.int .i64 0), .k (.int .i64 0), .k (.int .i64 0), .k (.int .i64 0), .k (.int .i64 0), .v 31, .v 32, .v 36, .v 37, .v 38, .v 39, .v 40])) (.seq (.seq (.rg [zk .eql 10 3]) (.ite (.v 31) (.seq (.rg [zc F_TakeBack 5 [0, 1, 2, 3]]) (.tup [.v 36, .v 34, .v 35, .v 17, .k (.int .i64 0), .k (.int .i64 0), .k (.int .i64 0), .k (.int .i64 0), .k (.int .i64 0), .k (.int .i64 0), .k (.int .i64 0), .v 32, .v 33, .v 18, .v 19, .v 20, .v 21, .v 22])) (.seq (.seq (.rg [zk .eql 10 4]) (.ite (.v 32) (.seq (.rg [zc F_Crank 11 [0, 1, 2, 3, 4, 5, 6, 7, 8, 9, 11]]) (.seq (.rg []) (.ret [.v 33, .v 34, .v 35, .v 36, .v 37, .v 38, .v 39, .v 40, .v 41, .v 42, .v 43]))) (.seq (.rg [zk .eql 10 6]) (.ite (.v 33) (.seq (.rg [zc F_ClosestPins 1 [0, 1, 2]]) (.ret [.v 13, .v 14, .v 15, .v 16, .v 17, .v 18, .v 19, .v 20, .v 21, .v 22, .v 34])) (.skip))))) (.tup [.k (.bool false), .v 15, .v 16, .v 17, .k (.int .i64 0), .k (.int .i64 0), .k (.int .i64 0), .k (.int .i64 0), .k (.int .i64 0), .k (.int .i64 0), .k (.int .i64 0), .v 13, .v 14, .v 18, .v 19, .v 20, .v 21, .v 22])))) (zt [0, 1, 2, 3, 4, 5, 6, 7, 8, 9, 10, 11, 12, 13, 14, 15, 16, 17])))) (zt [0, 1, 2, 3, 4, 5, 6, 7, 8, 9, 10, 11, 12, 13, 14, 15, 16, 17])))) (zt [0, 1, 2, 3, 4, 5, 6, 7, 8, 9, 10, 11, 12, 13, 14, 15, 16, 17])))) (zt [0, 1, 2, 3, 4, 5, 6, 7, 8, 9, 10, 11, 12, 13, 14, 15, 16, 17])))) (.seq (.rg [zc F_l39Bool 1 [0]]) (.ret [.v 11, .v 12, .v 1, .v 2, .v 3, .v 13, .v 14, .v 15, .v 16, .v 17, .v 18])))
theorem spec_DoAct_r0_sh (Q : QT) (x0 x1 x2 x3 x4 x5 x6 x7 x8 x9 x10 x11 x12 x13 x14 x15 x16 x17 x18 x19 x20 x21 x22 x23 x24 x25 x26 x27 : V) : shL spec_DoAct_r0 Q [x0, x1, x2, x3, x4, x5, x6, x7, x8, x9, x10, x11, x12, x13, x14, x15, x16, x17, x18, x19, x20, x21, x22, x23, x24, x25, x26, x27] = (
  P1 (.bin .eql) [x10, .int .i64 1] fun v0 =>
  ifB v0 (
    P11 (.call F_PutPin 0 11) [x0, x1, x2, x3, x4, x5, x6, x7, x8, x9, x11, x12] fun v1 v2 v3 v4 v5 v6 v7 v8 v9 v10 v11 =>
    P1 (.call F_l39Bool 0 1) [v11] fun v12 =>
    Q .ret [v1, v2, v3, v4, v5, v6, v7, v8, v9, v10, v12]) (
    P1 (.bin .eql) [x10, .int .i64 2] fun v13 =>
    ifB v13 (
      P11 (.call F_RemovePin 0 11) [x0, x1, x2, x3, x4, x5, x6, x7, x8, x9, x11] fun v14 v15 v16 v17 v18 v19 v20 v21 v22 v23 v24 =>
      P1 (.call F_l39Bool 0 1) [v24] fun v25 =>
      Q .ret [v14, v15, v16, v17, v18, v19, v20, v21, v22, v23, v25]) (
      P1 (.bin .eql) [x10, .int .i64 5] fun v26 =>
      ifB v26 (
        P11 (.call F_PlayOnce 0 11) [x0, x1, x2, x3, x4, x5, x6, x7, x8, x9] fun v27 v28 v29 v30 v31 v32 v33 v34 v35 v36 v37 =>
        P1 (.call F_l39Bool 0 1) [v37] fun v38 =>
        Q .ret [v27, v28, v29, v30, v31, v32, v33, v34, v35, v36, v38]) (
        P1 (.bin .eql) [x10, .int .i64 3] fun v39 =>
        ifB v39 (
          P5 (.call F_TakeBack 0 5) [x0, x1, x2, x3] fun v40 v41 v42 v43 v44 =>
          P1 (.call F_l39Bool 0 1) [v44] fun v45 =>
          Q .ret [v40, v41, v42, v43, x17, x18, x19, x20, x21, x22, v45]) (
          P1 (.bin .eql) [x10, .int .i64 4] fun v46 =>
          ifB v46 (
            P11 (.call F_Crank 0 11) [x0, x1, x2, x3, x4, x5, x6, x7, x8, x9, x11] fun v47 v48 v49 v50 v51 v52 v53 v54 v55 v56 v57 =>
            Q .ret [v47, v48, v49, v50, v51, v52, v53, v54, v55, v56, v57]) (
            P1 (.bin .eql) [x10, .int .i64 6] fun v58 =>
            ifB v58 (
              P1 (.call F_ClosestPins 0 1) [x0, x1, x2] fun v59 =>
              Q .ret [x13, x14, x15, x16, x17, x18, x19, x20, x21, x22, v59]) (
              P1 (.call F_l39Bool 0 1) [.bool false] fun v60 =>
              Q .ret [x13, x14, x15, x16, x17, x18, x19, x20, x21, x22, v60]))))))) := by kernel_rfl

def spec_DoAct_L : L := .seq (.rg []) (.seq (.rg [zc F_l38Copy 10 [0, 1, 2, 3, 4, 5, 6, 7, 8, 9]]) (.seq (.seq (.rg [zc F_WorkshopOk 1 [0, 1, 2, 3, 4, 5, 6, 7, 8, 9], zn 23, ⟨[(.v 24, false)], .call F_ActOk 0 1, [.v 10, .v 11, .v 12], 1⟩, ⟨[(.v 24, false)], .un .not, [.v 25], 1⟩, ⟨[], .pick, [.v 24, .k (.bool true), .v 26], 1⟩]) (.ite (.v 27) (.seq (.rg []) (.ret [.v 13, .v 14, .v 15, .v 16, .v 17, .v 18, .v 19, .v 20, .v 21, .v 22, .k (.int .i64 (-1))])) (.skip))) (spec_DoAct_r0)))
theorem spec_DoAct_L_sh (Q : QT) (x0 x1 x2 x3 x4 x5 x6 x7 x8 x9 x10 x11 x12 : V) : shL spec_DoAct_L Q [x0, x1, x2, x3, x4, x5, x6, x7, x8, x9, x10, x11, x12] = (
  P10 (.call F_l38Copy 0 10) [x0, x1, x2, x3, x4, x5, x6, x7, x8, x9] fun v0 v1 v2 v3 v4 v5 v6 v7 v8 v9 =>
  P1 (.call F_WorkshopOk 0 1) [x0, x1, x2, x3, x4, x5, x6, x7, x8, x9] fun v10 =>
  P1 (.un .not) [v10] fun v11 =>
  ifB v11 (
    Q .ret [v0, v1, v2, v3, v4, v5, v6, v7, v8, v9, .int .i64 (-1)]) (
    P1 (.call F_ActOk 0 1) [x10, x11, x12] fun v12 =>
    P1 (.un .not) [v12] fun v13 =>
    ifB v13 (
      Q .ret [v0, v1, v2, v3, v4, v5, v6, v7, v8, v9, .int .i64 (-1)]) (
      shL spec_DoAct_r0 Q [x0, x1, x2, x3, x4, x5, x6, x7, x8, x9, x10, x11, x12, v0, v1, v2, v3, v4, v5, v6, v7, v8, v9, v10, .bool false, v12, v13, .bool false]))) := by kernel_rfl
def spec_DoAct_S : Sig := ⟨[.val true [.sc, .sc, .sl [.sc, .sc], .sl [.sl [.sc, .sc]], .sl [.sc], .sc, .sc, .sc, .sc, .sc], .val true [.sc, .sc, .sc]], [(true, [.sc, .sc, .sl [.sc, .sc], .sl [.sl [.sc, .sc]], .sl [.sc], .sc, .sc, .sc, .sc, .sc]), (false, [.sc])], F_DoAct⟩
def spec_DoAct_hs : List NF := [⟨[(4, .ptr 64 0), (6, .ptr 65 0), (7, zs)], [(66, true, [.sc, .sc]), (67, true, [.sl [.sc, .sc]]), (68, true, [.sc])], [(64, [.sc, .sc, .nil, .nil, .nil, .sc, .sc, .sc, .sc, .sc]), (65, [.sc, .sc, .own 66, .own 67, .own 68, .sc, .sc, .sc, .sc, .sc])], 69⟩, ⟨[(4, .ptr 64 0), (6, .ptr 65 0), (7, zs)], [(66, true, [.sc, .sc]), (67, true, [.sl [.sc, .sc]]), (68, true, [.sc])], [(64, [.sc, .sc, .nil, .nil, .nil, .sc, .sc, .sc, .sc, .sc]), (65, [.sc, .sc, .own 66, .own 67, .own 68, .sc, .sc, .sc, .sc, .sc])], 69⟩, ⟨[(4, .ptr 64 0), (6, .ptr 65 0), (7, zs)], [(66, true, [.sc, .sc]), (67, true, [.sl [.sc, .sc]]), (68, true, [.sc])], [(64, [.sc, .sc, .nil, .nil, .nil, .sc, .sc, .sc, .sc, .sc]), (65, [.sc, .sc, .own 66, .own 67, .own 68, .sc, .sc, .sc, .sc, .sc])], 69⟩, ⟨[(4, .ptr 64 0), (6, .ptr 65 0), (7, zs)], [(66, true, [.sc, .sc]), (67, true, [.sl [.sc, .sc]]), (68, true, [.sc])], [(64, [.sc, .sc, .nil, .nil, .nil, .sc, .sc, .sc, .sc, .sc]), (65, [.sc, .sc, .own 66, .own 67, .own 68, .sc, .sc, .sc, .sc, .sc])], 69⟩, ⟨[(4, .ptr 64 0), (6, .ptr 65 0), (7, zs)], [(66, true, [.sc, .sc]), (67, true, [.sl [.sc, .sc]]), (68, true, [.sc])], [(64, [.sc, .sc, .nil, .nil, .nil, .sc, .sc, .sc, .sc, .sc]), (65, [.sc, .sc, .own 66, .own 67, .own 68, .sc, .sc, .sc, .sc, .sc])], 69⟩]

def impl_numberOf_L : L := .seq (.rg []) (.seq (.seq (.rg []) (.ite (.v 0) (.seq (.rg []) (.ret [.k (.int .i64 1)])) (.skip))) (.seq (.rg []) (.ret [.k (.int .i64 0)])))
theorem impl_numberOf_L_sh (Q : QT) (x0 : V) : shL impl_numberOf_L Q [x0] = (
  ifB x0 (
    Q .ret [.int .i64 1]) (
    Q .ret [.int .i64 0])) := by kernel_rfl
def impl_numberOf_S : Sig := ⟨[.val false [.sc]], [(false, [.sc])], F_numberOf⟩
def impl_numberOf_hs : List NF := []

def impl_ClosestPins_b1 : L := .seq (.seq (.rg [zb .lss 6 5]) (.seq (.ite (.v 12) (.skip) (.seq (zt [0, 1, 2, 3, 7, 8, 9]) (.exit 2))) (.seq (.block 3 (.seq (.seq (.rg [zj 4 6]) (.seq (.rg [zb .eql 10 13]) (.ite (.v 15) (.seq (.rg [zc F_GapAround 1 [11, 14, 7], ⟨[], .mn, [.v 0, .v 16], 1⟩]) (zt [17, 1, 2, 3, 4, 5, 6, 7, 8, 9, 10, 11])) (.seq (.skip) (zt [0, 1, 2, 3, 4, 5, 6, 7, 8, 9, 10, 11]))))) (zt [0, 1, 2, 3, 4, 5, 6, 7, 8, 9, 10, 11]))) (.rg [zk .add 6 1])))) (zt [0, 1, 2, 3, 4, 5, 12, 7, 8, 9, 10, 11])
theorem impl_ClosestPins_b1_sh (Q : QT) (x0 x1 x2 x3 x4 x5 x6 x7 x8 x9 x10 x11 : V) : shL impl_ClosestPins_b1 Q [x0, x1, x2, x3, x4, x5, x6, x7, x8, x9, x10, x11] = (
  P1 (.bin .lss) [x6, x5] fun v0 =>
  ifB v0 (
    P2 (.idx [.sc, .sc]) [x4, x6] fun v1 v2 =>
    P1 (.bin .eql) [x10, v1] fun v3 =>
    ifB v3 (
      P1 (.call F_GapAround 0 1) [x11, v2, x7] fun v4 =>
      P1 (.mn) [x0, v4] fun v5 =>
      P1 (.bin .add) [x6, .int .i64 1] fun v6 =>
      Q .normal [v5, x1, x2, x3, x4, x5, v6, x7, x8, x9, x10, x11]) (
      P1 (.bin .add) [x6, .int .i64 1] fun v7 =>
      Q .normal [x0, x1, x2, x3, x4, x5, v7, x7, x8, x9, x10, x11])) (
    Q (.exit 2) [x0, x1, x2, x3, x7, x8, x9])) := by kernel_rfl

def impl_ClosestPins_r2 : L := zt [0, 1, 2, 3, 4, 5, 6]
theorem impl_ClosestPins_r2_sh (Q : QT) (x0 x1 x2 x3 x4 x5 x6 : V) : shL impl_ClosestPins_r2 Q [x0, x1, x2, x3, x4, x5, x6] = (
  Q .normal [x0, x1, x2, x3, x4, x5, x6]) := by kernel_rfl

def impl_ClosestPins_r3 : L := .rg [zk .add 3 1]
theorem impl_ClosestPins_r3_sh (Q : QT) (x0 x1 x2 x3 x4 x5 x6 : V) : shL impl_ClosestPins_r3 Q [x0, x1, x2, x3, x4, x5, x6] = (
  P1 (.bin .add) [x3, .int .i64 1] fun v0 =>
  Q .normal [x0, x1, x2, x3, x4, x5, x6, v0]) := by kernel_rfl

def impl_ClosestPins_r4 : L := zt [0, 1, 2, 7, 4, 5, 6]
theorem impl_ClosestPins_r4_sh (Q : QT) (x0 x1 x2 x3 x4 x5 x6 x7 : V) : shL impl_ClosestPins_r4 Q [x0, x1, x2, x3, x4, x5, x6, x7] = (
  Q .normal [x0, x1, x2, x7, x4, x5, x6]) := by kernel_rfl

def impl_ClosestPins_b0 : L := .seq (.seq (.rg [zb .lss 3 2]) (.seq (.ite (.v 7) (.skip) (.seq (zt [0]) (.exit 0))) (.seq (.block 1 (.seq (.seq (.rg [zj 1 3]) (.seq (.rg [⟨[], .lsub [.sc, .sc], [.v 6, .k (.int .i64 0), .v 3], 1⟩, zl 10]) (.block 2 (.seq (.tup [.v 0, .v 1, .v 2, .v 3, .v 10, .v 11, .k (.int .i64 0), .v 4, .v 5, .v 6, .v 8, .v 9]) (.loop (impl_ClosestPins_b1)))))) (impl_ClosestPins_r2))) (impl_ClosestPins_r3)))) (impl_ClosestPins_r4)
theorem impl_ClosestPins_b0_sh (Q : QT) (x0 x1 x2 x3 x4 x5 x6 : V) : shL impl_ClosestPins_b0 Q [x0, x1, x2, x3, x4, x5, x6] = (
  P1 (.bin .lss) [x3, x2] fun v0 =>
  ifB v0 (
    P2 (.idx [.sc, .sc]) [x1, x3] fun v1 v2 =>
    P1 (.lsub [.sc, .sc]) [x6, .int .i64 0, x3] fun v3 =>
    P1 (.len) [v3] fun v4 =>
    shL (.loop impl_ClosestPins_b1) (qB 2 (qS (shL impl_ClosestPins_r2 (qB 1 (qS (shL impl_ClosestPins_r3 (qS (shL impl_ClosestPins_r4 Q) Q)) (qS (shL impl_ClosestPins_r4 Q) Q)))) (qB 1 (qS (shL impl_ClosestPins_r3 (qS (shL impl_ClosestPins_r4 Q) Q)) (qS (shL impl_ClosestPins_r4 Q) Q))))) [x0, x1, x2, x3, v3, v4, .int .i64 0, x4, x5, x6, v1, v2]) (
    Q (.exit 0) [x0])) := by kernel_rfl

def impl_ClosestPins_r5 : L := .seq (.rg []) (.ret [.v 0])
theorem impl_ClosestPins_r5_sh (Q : QT) (x0 : V) : shL impl_ClosestPins_r5 Q [x0] = (
  Q .ret [x0]) := by kernel_rfl

def impl_ClosestPins_L : L := .seq (.rg []) (.seq (.seq (.rg [zc F_CylinderOk 1 [0, 1, 2], zn 3]) (.ite (.v 4) (.seq (.rg []) (.ret [.k (.int .i64 (-1))])) (.skip))) (.seq (.rg []) (.seq (.seq (.rg [zl 2]) (.block 0 (.seq (.tup [.v 0, .v 2, .v 5, .k (.int .i64 0), .v 0, .v 1, .v 2]) (.loop (impl_ClosestPins_b0))))) (impl_ClosestPins_r5))))
theorem impl_ClosestPins_L_sh (Q : QT) (x0 x1 x2 : V) : shL impl_ClosestPins_L Q [x0, x1, x2] = (
  P1 (.call F_CylinderOk 0 1) [x0, x1, x2] fun v0 =>
  P1 (.un .not) [v0] fun v1 =>
  ifB v1 (
    Q .ret [.int .i64 (-1)]) (
    P1 (.len) [x2] fun v2 =>
    shL (.loop impl_ClosestPins_b0) (qB 0 (qS (shL impl_ClosestPins_r5 Q) Q)) [x0, x2, v2, .int .i64 0, x0, x1, x2])) := by kernel_rfl
def impl_ClosestPins_S : Sig := ⟨[.val true [.sc, .sc, .sl [.sc, .sc]]], [(false, [.sc])], F_ClosestPins⟩
def impl_ClosestPins_hs : List NF := [⟨[(3, zs)], [], [], 64⟩, ⟨[(1, .ptr 64 0), (3, zs), (14, zq), (15, zs), (16, zs)], [], [(64, [.sc, .sc, .ro [.sc, .sc]])], 65⟩, ⟨[(1, .ptr 64 0), (3, zs), (14, zq), (15, zs), (16, zs)], [], [(64, [.sc, .sc, .ro [.sc, .sc]])], 65⟩, ⟨[(1, .ptr 64 0), (3, zs), (14, zq), (15, zs), (16, zs)], [], [(64, [.sc, .sc, .ro [.sc, .sc]])], 65⟩, ⟨[(1, .ptr 64 0), (3, zs), (5, .ptr 65 0), (14, zq), (15, zs), (16, zs), (24, zq), (25, zs), (26, zs)], [], [(64, [.sc, .sc, .ro [.sc, .sc]]), (65, [.sc, .sc])], 66⟩, ⟨[(1, .ptr 64 0), (3, zs), (5, .ptr 65 0), (14, zq), (15, zs), (16, zs), (24, zq), (25, zs), (26, zs)], [], [(64, [.sc, .sc, .ro [.sc, .sc]]), (65, [.sc, .sc])], 66⟩, ⟨[(1, .ptr 64 0), (3, zs), (5, .ptr 65 0), (14, zq), (15, zs), (16, zs), (24, zq), (25, zs), (26, zs)], [], [(64, [.sc, .sc, .ro [.sc, .sc]]), (65, [.sc, .sc])], 66⟩]

def impl_DoAct_r0 : L := .seq (.seq (.rg []) (.block 0 (.seq (.seq (.rg [zk .eql 10 1]) (.ite (.v 18) (.seq (.rg [zc F_PutPin 11 [0, 1, 2, 3, 4, 5, 6, 7, 8, 9, 11, 12]]) (.seq (.rg [zc F_numberOf 1 [29]]) (.ret [.v 19, .v 20, .v 21, .v 22, .v 23, .v 24, .v 25, .v 26, .v 27, .v 28, .v 30]))) (.seq (.rg [zk .eql 10 2]) (.ite (.v 19) (.seq (.rg [zc F_RemovePin 11 [0, 1, 2, 3, 4, 5, 6, 7, 8, 9, 11]]) (.seq (.rg [zc F_numberOf 1 [30]]) (.ret [.v 20, .v 21, .v 22, .v 23, .v 24, .v 25, .v 26, .v 27, .v 28, .v 29, .v 31]))) (.seq (.rg [zk .eql 10 3]) (.ite (.v 20) (.seq (.rg [zc F_TakeBack 5 [0, 1, 2, 3]]) (.seq (.rg [⟨[], .call F_withBench 0 11, [.v 0, .v 1, .v 2, .v 3, .v 4, .v 5, .v 6, .v 7, .v 8, .v 9, .v 21, .v 22, .v 23, .v 24, .k (.int .i64 0), .v 25], 11⟩]) (.seq (.rg [zc F_numberOf 1 [36]]) (.ret [.v 26, .v 27, .v 28, .v 29, .v 30, .v 31, .v 32, .v 33, .v 34, .v 35, .v 37])))) (.seq (.rg [zk .eql 10 4]) (.ite (.v 21) (.seq (.rg [zc F_Crank 11 [0, 1, 2, 3, 4, 5, 6, 7, 8, 9, 11]]) (.ret [.v 22, .v 23, .v 24, .v 25, .v 26, .v 27, .v 28, .v 29, .v 30, .v 31, .v 32])) (.seq (.rg [zk .eql 10 5]) (.ite (.v 22) (.seq (.rg [zc F_PlayOnce 11 [0, 1, 2, 3, 4, 5, 6, 7, 8, 9]]) (.seq (.rg [zc F_numberOf 1 [33]]) (.ret [.v 23, .v 24, .v 25, .v 26, .v 27, .v 28, .v 29, .v 30, .v 31, .v 32, .v 34]))) (.skip))))))))))) (.tup [.v 0, .v 1, .v 2, .v 3, .v 4, .v 5, .v 6, .v 7, .v 8, .v 9, .k (.int .i64 0), .k (.int .i64 0), .k (.int .i64 0), .k (.int .i64 0), .k (.int .i64 0), .k (.int .i64 0), .k (.int .i64 0)])))) (.seq (.rg [zc F_copyWorkshop 10 [0, 1, 2, 3, 4, 5, 6, 7, 8, 9], zc F_ClosestPins 1 [0, 1, 2]]) (.ret [.v 17, .v 18, .v 19, .v 20, .v 21, .v 22, .v 23, .v 24, .v 25, .v 26, .v 27]))
theorem impl_DoAct_r0_sh (Q : QT) (x0 x1 x2 x3 x4 x5 x6 x7 x8 x9 x10 x11 x12 x13 x14 x15 x16 x17 : V) : shL impl_DoAct_r0 Q [x0, x1, x2, x3, x4, x5, x6, x7, x8, x9, x10, x11, x12, x13, x14, x15, x16, x17] = (
  P1 (.bin .eql) [x10, .int .i64 1] fun v0 =>
  ifB v0 (
    P11 (.call F_PutPin 0 11) [x0, x1, x2, x3, x4, x5, x6, x7, x8, x9, x11, x12] fun v1 v2 v3 v4 v5 v6 v7 v8 v9 v10 v11 =>
    P1 (.call F_numberOf 0 1) [v11] fun v12 =>
    Q .ret [v1, v2, v3, v4, v5, v6, v7, v8, v9, v10, v12]) (
    P1 (.bin .eql) [x10, .int .i64 2] fun v13 =>
    ifB v13 (
      P11 (.call F_RemovePin 0 11) [x0, x1, x2, x3, x4, x5, x6, x7, x8, x9, x11] fun v14 v15 v16 v17 v18 v19 v20 v21 v22 v23 v24 =>
      P1 (.call F_numberOf 0 1) [v24] fun v25 =>
      Q .ret [v14, v15, v16, v17, v18, v19, v20, v21, v22, v23, v25]) (
      P1 (.bin .eql) [x10, .int .i64 3] fun v26 =>
      ifB v26 (
        P5 (.call F_TakeBack 0 5) [x0, x1, x2, x3] fun v27 v28 v29 v30 v31 =>
        P11 (.call F_withBench 0 11) [x0, x1, x2, x3, x4, x5, x6, x7, x8, x9, v27, v28, v29, v30, .int .i64 0, v31] fun v32 v33 v34 v35 v36 v37 v38 v39 v40 v41 v42 =>
        P1 (.call F_numberOf 0 1) [v42] fun v43 =>
        Q .ret [v32, v33, v34, v35, v36, v37, v38, v39, v40, v41, v43]) (
        P1 (.bin .eql) [x10, .int .i64 4] fun v44 =>
        ifB v44 (
          P11 (.call F_Crank 0 11) [x0, x1, x2, x3, x4, x5, x6, x7, x8, x9, x11] fun v45 v46 v47 v48 v49 v50 v51 v52 v53 v54 v55 =>
          Q .ret [v45, v46, v47, v48, v49, v50, v51, v52, v53, v54, v55]) (
          P1 (.bin .eql) [x10, .int .i64 5] fun v56 =>
          ifB v56 (
            P11 (.call F_PlayOnce 0 11) [x0, x1, x2, x3, x4, x5, x6, x7, x8, x9] fun v57 v58 v59 v60 v61 v62 v63 v64 v65 v66 v67 =>
            P1 (.call F_numberOf 0 1) [v67] fun v68 =>
            Q .ret [v57, v58, v59, v60, v61, v62, v63, v64, v65, v66, v68]) (
            P10 (.call F_copyWorkshop 0 10) [x0, x1, x2, x3, x4, x5, x6, x7, x8, x9] fun v69 v70 v71 v72 v73 v74 v75 v76 v77 v78 =>
            P1 (.call F_ClosestPins 0 1) [x0, x1, x2] fun v79 =>
            Q .ret [v69, v70, v71, v72, v73, v74, v75, v76, v77, v78, v79])))))) := by kernel_rfl

def impl_DoAct_L : L := .seq (.rg []) (.seq (.seq (.rg [zc F_WorkshopOk 1 [0, 1, 2, 3, 4, 5, 6, 7, 8, 9], zn 13, ⟨[(.v 14, false)], .call F_ActOk 0 1, [.v 10, .v 11, .v 12], 1⟩, ⟨[(.v 14, false)], .un .not, [.v 15], 1⟩, ⟨[], .pick, [.v 14, .k (.bool true), .v 16], 1⟩]) (.ite (.v 17) (.seq (.rg [zc F_copyWorkshop 10 [0, 1, 2, 3, 4, 5, 6, 7, 8, 9]]) (.ret [.v 18, .v 19, .v 20, .v 21, .v 22, .v 23, .v 24, .v 25, .v 26, .v 27, .k (.int .i64 (-1))])) (.skip))) (impl_DoAct_r0))
theorem impl_DoAct_L_sh (Q : QT) (x0 x1 x2 x3 x4 x5 x6 x7 x8 x9 x10 x11 x12 : V) : shL impl_DoAct_L Q [x0, x1, x2, x3, x4, x5, x6, x7, x8, x9, x10, x11, x12] = (
  P1 (.call F_WorkshopOk 0 1) [x0, x1, x2, x3, x4, x5, x6, x7, x8, x9] fun v0 =>
  P1 (.un .not) [v0] fun v1 =>
  ifB v1 (
    P10 (.call F_copyWorkshop 0 10) [x0, x1, x2, x3, x4, x5, x6, x7, x8, x9] fun v2 v3 v4 v5 v6 v7 v8 v9 v10 v11 =>
    Q .ret [v2, v3, v4, v5, v6, v7, v8, v9, v10, v11, .int .i64 (-1)]) (
    P1 (.call F_ActOk 0 1) [x10, x11, x12] fun v12 =>
    P1 (.un .not) [v12] fun v13 =>
    ifB v13 (
      P10 (.call F_copyWorkshop 0 10) [x0, x1, x2, x3, x4, x5, x6, x7, x8, x9] fun v14 v15 v16 v17 v18 v19 v20 v21 v22 v23 =>
      Q .ret [v14, v15, v16, v17, v18, v19, v20, v21, v22, v23, .int .i64 (-1)]) (
      shL impl_DoAct_r0 Q [x0, x1, x2, x3, x4, x5, x6, x7, x8, x9, x10, x11, x12, v0, .bool false, v12, v13, .bool false]))) := by kernel_rfl
def impl_DoAct_S : Sig := ⟨[.val true [.sc, .sc, .sl [.sc, .sc], .sl [.sl [.sc, .sc]], .sl [.sc], .sc, .sc, .sc, .sc, .sc], .val true [.sc, .sc, .sc]], [(true, [.sc, .sc, .sl [.sc, .sc], .sl [.sl [.sc, .sc]], .sl [.sc], .sc, .sc, .sc, .sc, .sc]), (false, [.sc])], F_DoAct⟩
def impl_DoAct_hs : List NF := [⟨[(2, .ptr 64 0), (4, .ptr 65 0)], [], [(64, [.sc, .sc, .ro [.sc, .sc], .ro [.sl [.sc, .sc]], .ro [.sc], .sc, .sc, .sc, .sc, .sc]), (65, [.sc, .sc, .nil, .nil, .nil, .sc, .sc, .sc, .sc, .sc])], 66⟩]

def spec_RunActs_b0 : L := .seq (.seq (.seq (.rg [zl 0, zb .lss 1 20]) (.ite (.v 21) (.skip) (.seq (zt [2, 3, 4, 5, 6, 7, 8, 9, 10, 11, 12, 13, 14, 15, 16, 17, 18, 19]) (.exit 0)))) (.seq (.block 1 (.seq (.seq (.rg [⟨[], .idx [.sc, .sc, .sc], [.v 0, .v 1], 3⟩, zc F_DoAct 11 [13, 14, 3, 4, 5, 15, 16, 17, 18, 19, 22, 23, 24]]) (.seq (.rg []) (.rg [⟨[], .lst [.sc] false 1, [.v 35], 1⟩, ⟨[], .app [.sc] 8, [.v 2, .v 36], 1⟩]))) (zt [0, 1, 37, 27, 28, 29, 6, 7, 8, 9, 10, 11, 12, 25, 26, 30, 31, 32, 33, 34]))) (.rg [zk .add 1 1]))) (zt [0, 20, 2, 3, 4, 5, 6, 7, 8, 9, 10, 11, 12, 13, 14, 15, 16, 17, 18, 19])
theorem spec_RunActs_b0_sh (Q : QT) (x0 x1 x2 x3 x4 x5 x6 x7 x8 x9 x10 x11 x12 x13 x14 x15 x16 x17 x18 x19 : V) : shL spec_RunActs_b0 Q [x0, x1, x2, x3, x4, x5, x6, x7, x8, x9, x10, x11, x12, x13, x14, x15, x16, x17, x18, x19] = (
  P1 (.len) [x0] fun v0 =>
  P1 (.bin .lss) [x1, v0] fun v1 =>
  ifB v1 (
    P3 (.idx [.sc, .sc, .sc]) [x0, x1] fun v2 v3 v4 =>
    P11 (.call F_DoAct 0 11) [x13, x14, x3, x4, x5, x15, x16, x17, x18, x19, v2, v3, v4] fun v5 v6 v7 v8 v9 v10 v11 v12 v13 v14 v15 =>
    P1 (.lst [.sc] false 1) [v15] fun v16 =>
    P1 (.app [.sc] 8) [x2, v16] fun v17 =>
    P1 (.bin .add) [x1, .int .i64 1] fun v18 =>
    Q .normal [x0, v18, v17, v7, v8, v9, x6, x7, x8, x9, x10, x11, x12, v5, v6, v10, v11, v12, v13, v14]) (
    Q (.exit 0) [x2, x3, x4, x5, x6, x7, x8, x9, x10, x11, x12, x13, x14, x15, x16, x17, x18, x19])) := by kernel_rfl

def spec_RunActs_r1 : L := .seq (.rg []) (.ret [.v 11, .v 12, .v 1, .v 2, .v 3, .v 13, .v 14, .v 15, .v 16, .v 17, .v 0])
theorem spec_RunActs_r1_sh (Q : QT) (x0 x1 x2 x3 x4 x5 x6 x7 x8 x9 x10 x11 x12 x13 x14 x15 x16 x17 : V) : shL spec_RunActs_r1 Q [x0, x1, x2, x3, x4, x5, x6, x7, x8, x9, x10, x11, x12, x13, x14, x15, x16, x17] = (
  Q .ret [x11, x12, x1, x2, x3, x13, x14, x15, x16, x17, x0]) := by kernel_rfl

def spec_RunActs_L : L := .seq (.rg []) (.seq (.rg [zc F_l38Copy 10 [0, 1, 2, 3, 4, 5, 6, 7, 8, 9]]) (.seq (.rg [⟨[], .lst [.sc] false 0, [], 1⟩]) (.seq (.seq (.rg [zc F_WorkshopOk 1 [0, 1, 2, 3, 4, 5, 6, 7, 8, 9], zn 22, ⟨[(.v 23, false)], .len, [.v 10], 1⟩, ⟨[(.v 23, false)], .bin .gtr, [.v 24, .k (.int .i64 40)], 1⟩, ⟨[], .pick, [.v 23, .k (.bool true), .v 25], 1⟩]) (.ite (.v 26) (.seq (.rg []) (.ret [.v 11, .v 12, .v 13, .v 14, .v 15, .v 16, .v 17, .v 18, .v 19, .v 20, .v 21])) (.skip))) (.seq (.seq (.rg []) (.block 0 (.seq (.tup [.v 10, .k (.int .i64 0), .v 21, .v 13, .v 14, .v 15, .k (.int .i64 0), .k (.int .i64 0), .k (.int .i64 0), .k (.int .i64 0), .k (.int .i64 0), .k (.int .i64 0), .k (.int .i64 0), .v 11, .v 12, .v 16, .v 17, .v 18, .v 19, .v 20]) (.loop (spec_RunActs_b0))))) (spec_RunActs_r1)))))
theorem spec_RunActs_L_sh (Q : QT) (x0 x1 x2 x3 x4 x5 x6 x7 x8 x9 x10 : V) : shL spec_RunActs_L Q [x0, x1, x2, x3, x4, x5, x6, x7, x8, x9, x10] = (
  P10 (.call F_l38Copy 0 10) [x0, x1, x2, x3, x4, x5, x6, x7, x8, x9] fun v0 v1 v2 v3 v4 v5 v6 v7 v8 v9 =>
  P1 (.lst [.sc] false 0) [] fun v10 =>
  P1 (.call F_WorkshopOk 0 1) [x0, x1, x2, x3, x4, x5, x6, x7, x8, x9] fun v11 =>
  P1 (.un .not) [v11] fun v12 =>
  ifB v12 (
    Q .ret [v0, v1, v2, v3, v4, v5, v6, v7, v8, v9, v10]) (
    P1 (.len) [x10] fun v13 =>
    P1 (.bin .gtr) [v13, .int .i64 40] fun v14 =>
    ifB v14 (
      Q .ret [v0, v1, v2, v3, v4, v5, v6, v7, v8, v9, v10]) (
      shL (.loop spec_RunActs_b0) (qB 0 (qS (shL spec_RunActs_r1 Q) Q)) [x10, .int .i64 0, v10, v2, v3, v4, .int .i64 0, .int .i64 0, .int .i64 0, .int .i64 0, .int .i64 0, .int .i64 0, .int .i64 0, v0, v1, v5, v6, v7, v8, v9]))) := by kernel_rfl
def spec_RunActs_S : Sig := ⟨[.val true [.sc, .sc, .sl [.sc, .sc], .sl [.sl [.sc, .sc]], .sl [.sc], .sc, .sc, .sc, .sc, .sc], .val false [.sl [.sc, .sc, .sc]]], [(true, [.sc, .sc, .sl [.sc, .sc], .sl [.sl [.sc, .sc]], .sl [.sc], .sc, .sc, .sc, .sc, .sc]), (false, [.sl [.sc]])], F_RunActs⟩
def spec_RunActs_hs : List NF := [⟨[(4, .ptr 64 0), (6, .ptr 65 0), (7, zo 66)], [(66, true, [.sc]), (67, true, [.sc, .sc]), (68, true, [.sl [.sc, .sc]]), (69, true, [.sc])], [(64, [.sc, .sc, .nil, .nil, .nil, .sc, .sc, .sc, .sc, .sc]), (65, [.sc, .sc, .own 67, .own 68, .own 69, .sc, .sc, .sc, .sc, .sc])], 70⟩, ⟨[(1, .sc false [.ro [.sc, .sc, .sc]]), (4, .ptr 64 0), (6, .ptr 65 0), (7, zo 66), (8, zs)], [(66, true, [.sc]), (67, true, [.sc, .sc]), (68, true, [.sl [.sc, .sc]]), (69, true, [.sc])], [(64, [.sc, .sc, .nil, .nil, .nil, .sc, .sc, .sc, .sc, .sc]), (65, [.sc, .sc, .own 67, .own 68, .own 69, .sc, .sc, .sc, .sc, .sc])], 70⟩, ⟨[(1, .sc false [.ro [.sc, .sc, .sc]]), (4, .ptr 64 0), (6, .ptr 65 0), (7, zo 66), (8, zs)], [(66, true, [.sc]), (67, true, [.sc, .sc]), (68, true, [.sl [.sc, .sc]]), (69, true, [.sc])], [(64, [.sc, .sc, .nil, .nil, .nil, .sc, .sc, .sc, .sc, .sc]), (65, [.sc, .sc, .own 67, .own 68, .own 69, .sc, .sc, .sc, .sc, .sc])], 70⟩]

def impl_RunActs_b0 : L := .seq (.seq (.rg [zb .lss 2 1]) (.seq (.ite (.v 21) (.skip) (.seq (zt [3, 4, 5, 6, 7, 8, 9, 10, 11, 12, 13, 14, 15, 16, 17, 18, 19, 20]) (.exit 0))) (.seq (.block 1 (.seq (.seq (.rg [⟨[], .idx [.sc, .sc, .sc], [.v 0, .v 2], 3⟩]) (.seq (.rg [zc F_DoAct 11 [14, 15, 4, 5, 6, 16, 17, 18, 19, 20, 22, 23, 24]]) (.seq (.rg []) (.rg [⟨[], .lst [.sc] false 1, [.v 35], 1⟩, ⟨[], .app [.sc] 8, [.v 3, .v 36], 1⟩])))) (zt [0, 1, 2, 37, 27, 28, 29, 7, 8, 9, 10, 11, 12, 13, 25, 26, 30, 31, 32, 33, 34]))) (.rg [zk .add 2 1])))) (zt [0, 1, 21, 3, 4, 5, 6, 7, 8, 9, 10, 11, 12, 13, 14, 15, 16, 17, 18, 19, 20])
theorem impl_RunActs_b0_sh (Q : QT) (x0 x1 x2 x3 x4 x5 x6 x7 x8 x9 x10 x11 x12 x13 x14 x15 x16 x17 x18 x19 x20 : V) : shL impl_RunActs_b0 Q [x0, x1, x2, x3, x4, x5, x6, x7, x8, x9, x10, x11, x12, x13, x14, x15, x16, x17, x18, x19, x20] = (
  P1 (.bin .lss) [x2, x1] fun v0 =>
  ifB v0 (
    P3 (.idx [.sc, .sc, .sc]) [x0, x2] fun v1 v2 v3 =>
    P11 (.call F_DoAct 0 11) [x14, x15, x4, x5, x6, x16, x17, x18, x19, x20, v1, v2, v3] fun v4 v5 v6 v7 v8 v9 v10 v11 v12 v13 v14 =>
    P1 (.lst [.sc] false 1) [v14] fun v15 =>
    P1 (.app [.sc] 8) [x3, v15] fun v16 =>
    P1 (.bin .add) [x2, .int .i64 1] fun v17 =>
    Q .normal [x0, x1, v17, v16, v6, v7, v8, x7, x8, x9, x10, x11, x12, x13, v4, v5, v9, v10, v11, v12, v13]) (
    Q (.exit 0) [x3, x4, x5, x6, x7, x8, x9, x10, x11, x12, x13, x14, x15, x16, x17, x18, x19, x20])) := by kernel_rfl

def impl_RunActs_r1 : L := .seq (.rg []) (.ret [.v 11, .v 12, .v 1, .v 2, .v 3, .v 13, .v 14, .v 15, .v 16, .v 17, .v 0])
theorem impl_RunActs_r1_sh (Q : QT) (x0 x1 x2 x3 x4 x5 x6 x7 x8 x9 x10 x11 x12 x13 x14 x15 x16 x17 : V) : shL impl_RunActs_r1 Q [x0, x1, x2, x3, x4, x5, x6, x7, x8, x9, x10, x11, x12, x13, x14, x15, x16, x17] = (
  Q .ret [x11, x12, x1, x2, x3, x13, x14, x15, x16, x17, x0]) := by kernel_rfl

def impl_RunActs_L : L := .seq (.rg []) (.seq (.rg [zc F_copyWorkshop 10 [0, 1, 2, 3, 4, 5, 6, 7, 8, 9]]) (.seq (.seq (.rg [zc F_WorkshopOk 1 [0, 1, 2, 3, 4, 5, 6, 7, 8, 9], zn 21, ⟨[(.v 22, false)], .len, [.v 10], 1⟩, ⟨[(.v 22, false)], .bin .gtr, [.v 23, .k (.int .i64 40)], 1⟩, ⟨[], .pick, [.v 22, .k (.bool true), .v 24], 1⟩]) (.ite (.v 25) (.seq (.rg []) (.ret [.v 11, .v 12, .v 13, .v 14, .v 15, .v 16, .v 17, .v 18, .v 19, .v 20, .k (.list [.sc] [])])) (.skip))) (.seq (.rg [⟨[], .lst [.sc] false 0, [], 1⟩]) (.seq (.seq (.rg [zl 10]) (.block 0 (.seq (.tup [.v 10, .v 27, .k (.int .i64 0), .v 26, .v 13, .v 14, .v 15, .k (.int .i64 0), .k (.int .i64 0), .k (.int .i64 0), .k (.int .i64 0), .k (.int .i64 0), .k (.int .i64 0), .k (.int .i64 0), .v 11, .v 12, .v 16, .v 17, .v 18, .v 19, .v 20]) (.loop (impl_RunActs_b0))))) (impl_RunActs_r1)))))
theorem impl_RunActs_L_sh (Q : QT) (x0 x1 x2 x3 x4 x5 x6 x7 x8 x9 x10 : V) : shL impl_RunActs_L Q [x0, x1, x2, x3, x4, x5, x6, x7, x8, x9, x10] = (
  P10 (.call F_copyWorkshop 0 10) [x0, x1, x2, x3, x4, x5, x6, x7, x8, x9] fun v0 v1 v2 v3 v4 v5 v6 v7 v8 v9 =>
  P1 (.call F_WorkshopOk 0 1) [x0, x1, x2, x3, x4, x5, x6, x7, x8, x9] fun v10 =>
  P1 (.un .not) [v10] fun v11 =>
  ifB v11 (
    Q .ret [v0, v1, v2, v3, v4, v5, v6, v7, v8, v9, .list [.sc] []]) (
    P1 (.len) [x10] fun v12 =>
    P1 (.bin .gtr) [v12, .int .i64 40] fun v13 =>
    ifB v13 (
      Q .ret [v0, v1, v2, v3, v4, v5, v6, v7, v8, v9, .list [.sc] []]) (
      P1 (.lst [.sc] false 0) [] fun v14 =>
      P1 (.len) [x10] fun v15 =>
      shL (.loop impl_RunActs_b0) (qB 0 (qS (shL impl_RunActs_r1 Q) Q)) [x10, v15, .int .i64 0, v14, v2, v3, v4, .int .i64 0, .int .i64 0, .int .i64 0, .int .i64 0, .int .i64 0, .int .i64 0, .int .i64 0, v0, v1, v5, v6, v7, v8, v9]))) := by kernel_rfl
def impl_RunActs_S : Sig := ⟨[.val true [.sc, .sc, .sl [.sc, .sc], .sl [.sl [.sc, .sc]], .sl [.sc], .sc, .sc, .sc, .sc, .sc], .val false [.sl [.sc, .sc, .sc]]], [(true, [.sc, .sc, .sl [.sc, .sc], .sl [.sl [.sc, .sc]], .sl [.sc], .sc, .sc, .sc, .sc, .sc]), (false, [.sl [.sc]])], F_RunActs⟩
def impl_RunActs_hs : List NF := [⟨[(4, .ptr 64 0), (6, .ptr 65 0), (7, zo 66)], [(66, true, [.sc]), (67, true, [.sc, .sc]), (68, true, [.sl [.sc, .sc]]), (69, true, [.sc])], [(64, [.sc, .sc, .nil, .nil, .nil, .sc, .sc, .sc, .sc, .sc]), (65, [.sc, .sc, .own 67, .own 68, .own 69, .sc, .sc, .sc, .sc, .sc])], 70⟩, ⟨[(4, .ptr 64 0), (6, .ptr 65 0), (7, zo 66), (24, .sc false [.ro [.sc, .sc, .sc]]), (25, zs), (26, zs)], [(66, true, [.sc]), (67, true, [.sc, .sc]), (68, true, [.sl [.sc, .sc]]), (69, true, [.sc])], [(64, [.sc, .sc, .nil, .nil, .nil, .sc, .sc, .sc, .sc, .sc]), (65, [.sc, .sc, .own 67, .own 68, .own 69, .sc, .sc, .sc, .sc, .sc])], 70⟩, ⟨[(4, .ptr 64 0), (6, .ptr 65 0), (7, zo 66), (24, .sc false [.ro [.sc, .sc, .sc]]), (25, zs), (26, zs)], [(66, true, [.sc]), (67, true, [.sc, .sc]), (68, true, [.sl [.sc, .sc]]), (69, true, [.sc])], [(64, [.sc, .sc, .nil, .nil, .nil, .sc, .sc, .sc, .sc, .sc]), (65, [.sc, .sc, .own 67, .own 68, .own 69, .sc, .sc, .sc, .sc, .sc])], 70⟩]

end
end Go.Mw

namespace Go.Mw
end Go.Mw

namespace Go.Mw
theorem cmRow_succ {c : Cyl} {i k : Nat} {b : Int} (hi : i < c.p.length) (hk : k < c.p.length) : cmRow c i (k + 1) b = if c.p[i].a = c.p[k].a then min (cmRow c i k b) (gap c.p[i].b c.p[k].b c.s) else cmRow c i k b := by
  simp [cmRow, List.getElem?_eq_getElem hi, List.getElem?_eq_getElem hk]
theorem spec_ClosestPins_ok : ∀ ds outs, F_ClosestPins ds = some outs → shL spec_ClosestPins_L (qRet outs) ds := F_ClosestPins_elim fun x hp => by
  rw [spec_ClosestPins_L_sh]
  simp only [p_CylinderOk (x_p := x.p) hp, Cyl.eta]
  cases h : cylOk x with
  | false => simp [h, closest]
  | true =>
    have hb := cylOk_bounds h
    simp
    refine loop_upto x.p.length (fun i => [.int .i64 (cmTo x i), .int .i64 i, .int .i64 x.s, .int .i64 x.t, vL I2 v2 x.p]) (by intro i j _ _ h; simp at h; omega) (fun _ => True) (by simp [cmTo]) trivial ?_
    intro i hi _
    rw [spec_ClosestPins_b0_sh]
    simp only [P1_len, P1_lss, ifB_bool, decide_eq_true_eq, decide_eq_false_iff_not]
    refine ⟨fun h1 => ?_, fun h1 => ?_⟩
    · have hi2 : i < x.p.length := by omega
      refine loop_upto i (fun k => [.int .i64 (cmRow x i k (cmTo x i)), .int .i64 i, .int .i64 k, .int .i64 x.s, .int .i64 x.t, vL I2 v2 x.p]) (by intro i j _ _ h; simp at h; omega) (fun _ => True) (by simp [cmRow]) trivial ?_
      intro k hk _
      rw [spec_ClosestPins_b1_sh]
      simp only [P1_lss, ifB_bool, decide_eq_true_eq, decide_eq_false_iff_not]
      refine ⟨fun h2 => ?_, fun h2 => ?_⟩
      · have hk2 : k < x.p.length := by omega
        have hk3 : k < i := by omega
        have w1 : IntKind.i64.wrap ((k : Int) + 1) = (k : Int) + 1 := wrap_id (by omega) (by omega)
        by_cases e : x.p[i].a = x.p[k].a <;> simp [hi2, hk2, hk3, e, w1, cmRow_succ]
      · obtain rfl : k = i := by omega
        have w1 : IntKind.i64.wrap ((k : Int) + 1) = (k : Int) + 1 := wrap_id (by omega) (by omega)
        simp [spec_ClosestPins_r2_sh, spec_ClosestPins_r3_sh, spec_ClosestPins_r4_sh, w1, hi2, cmTo]
    · obtain rfl : i = x.p.length := by omega
      simp [spec_ClosestPins_r5_sh, closest, h]
theorem impl_ClosestPins_ok : ∀ ds outs, F_ClosestPins ds = some outs → shL impl_ClosestPins_L (qRet outs) ds := F_ClosestPins_elim fun x hp => by
  rw [impl_ClosestPins_L_sh]
  simp only [p_CylinderOk (x_p := x.p) hp, Cyl.eta]
  cases h : cylOk x with
  | false => simp [h, closest]
  | true =>
    have hb := cylOk_bounds h
    simp
    refine loop_upto x.p.length (fun i => [.int .i64 (cmTo x i), vL I2 v2 x.p, .int .i64 x.p.length, .int .i64 i, .int .i64 x.s, .int .i64 x.t, vL I2 v2 x.p]) (by intro i j _ _ h; simp at h; omega) (fun _ => True) (by simp [cmTo]) trivial ?_
    intro i hi _
    rw [impl_ClosestPins_b0_sh]
    simp only [P1_lss, ifB_bool, decide_eq_true_eq, decide_eq_false_iff_not]
    refine ⟨fun h1 => ?_, fun h1 => ?_⟩
    · have hi2 : i < x.p.length := by omega
      have e2 : (i : Int).toNat = i := by omega
      have hlen : (x.p.take i).length = i := by rw [List.length_take]; omega
      simp only [P2_idxI, e2, List.getElem?_eq_getElem hi2, Option.some.injEq, exists_eq_left', P1_lsub2_2, Int.toNat_zero, List.drop_zero, P1_len, hlen]
      refine ⟨by omega, ⟨by omega, by omega, by omega⟩, ?_⟩
      refine loop_upto i (fun k => [.int .i64 (cmRow x i k (cmTo x i)), vL I2 v2 x.p, .int .i64 x.p.length, .int .i64 i, vL I2 v2 (x.p.take i), .int .i64 i, .int .i64 k, .int .i64 x.s, .int .i64 x.t, vL I2 v2 x.p, .int .i64 x.p[i].a, .int .i64 x.p[i].b]) (by intro i j _ _ h; simp at h; omega) (fun _ => True) (by simp [cmRow]) trivial ?_
      intro k hk _
      rw [impl_ClosestPins_b1_sh]
      simp only [P1_lss, ifB_bool, decide_eq_true_eq, decide_eq_false_iff_not]
      refine ⟨fun h2 => ?_, fun h2 => ?_⟩
      · have hk2 : k < x.p.length := by omega
        have hk3 : k < i := by omega
        have w1 : IntKind.i64.wrap ((k : Int) + 1) = (k : Int) + 1 := wrap_id (by omega) (by omega)
        by_cases e : x.p[i].a = x.p[k].a <;> simp [hi2, hk2, hk3, e, w1, cmRow_succ]
      · obtain rfl : k = i := by omega
        have w1 : IntKind.i64.wrap ((k : Int) + 1) = (k : Int) + 1 := wrap_id (by omega) (by omega)
        simp [impl_ClosestPins_r2_sh, impl_ClosestPins_r3_sh, impl_ClosestPins_r4_sh, w1, hi2, cmTo]
    · obtain rfl : i = x.p.length := by omega
      simp [impl_ClosestPins_r5_sh, closest, h]
theorem impl_numberOf_ok : ∀ ds outs, F_numberOf ds = some outs → shL impl_numberOf_L (qRet outs) ds := F_numberOf_elim fun n => by
  rw [impl_numberOf_L_sh]; cases n <;> simp [num]
theorem spec_l39Bool_ok : ∀ ds outs, F_l39Bool ds = some outs → shL spec_l39Bool_L (qRet outs) ds := F_numberOf_elim fun n => by
  rw [spec_l39Bool_L_sh]; cases n <;> simp [num]
theorem back_ok {x : Shop} (h : shopOk x = true) (ht : takeOk x.bench = true) : shopOk (withB x (takeBack x.bench) 0) = true := by
  have hs := (shopOk_iff x).1 h
  have hb := (benchOk_iff _).1 hs.1
  have ho : x.o ≠ [] := by simp [takeOk] at ht; exact ht.2
  have hl : 0 < x.o.length := List.length_pos_iff.2 ho
  have hlast : x.o.length - 1 < x.o.length := by omega
  have e : takeBack x.bench = ⟨x.s, x.t, x.o[x.o.length - 1], x.o.take (x.o.length - 1)⟩ := by
    simp only [takeBack, ht, if_true]
    simp [Shop.bench, List.getElem?_eq_getElem hlast]
  have e2 : withB x (takeBack x.bench) 0 = ⟨x.s, x.t, x.o[x.o.length - 1], x.o.take (x.o.length - 1), x.c, x.u, x.m, x.f, x.y - 0, x.d⟩ := by unfold withB; rw [e]
  rw [e2, shopOk_iff]
  refine ⟨?_, hs.2.1, hs.2.2.1, hs.2.2.2.1, by simpa using hs.2.2.2.2.1, hs.2.2.2.2.2⟩
  rw [benchOk_iff]
  have h30 := hb.2.1
  simp only [Shop.bench] at h30 ⊢
  exact ⟨hb.2.2 _ (List.getElem_mem hlast), by rw [List.length_take]; omega, fun p hp => hb.2.2 p (List.mem_of_mem_take hp)⟩
theorem backOk_eq {x : Shop} (h : shopOk x = true) : backOk x = takeOk x.bench := by
  unfold backOk benchFits
  cases ht : takeOk x.bench with
  | false => simp
  | true => simp [h, back_ok h ht]
theorem backW_eq {x : Shop} (h : shopOk x = true) : backW x = withB x (takeBack x.bench) 0 := by
  unfold backW withBench benchFits
  cases ht : takeOk x.bench with
  | false =>
    have e : takeBack x.bench = x.bench := by simp [takeBack, ht]
    simp only [Bool.false_and, Bool.false_eq_true, if_false]
    unfold withB
    rw [e]
    simp [Shop.bench]
  | true => simp [h, back_ok h ht]
theorem act_kinds {y : T3} (h : actOk y = true) : y.a = 1 ∨ y.a = 2 ∨ y.a = 3 ∨ y.a = 4 ∨ y.a = 5 ∨ y.a = 6 := by
  unfold actOk at h
  by_cases h1 : y.a = 1 <;> by_cases h2 : y.a = 2 <;> by_cases h3 : y.a = 3 <;> by_cases h4 : y.a = 4 <;> by_cases h5 : y.a = 5 <;> by_cases h6 : y.a = 6 <;> simp_all
theorem spec_DoAct_ok : ∀ ds outs, F_DoAct ds = some outs → shL spec_DoAct_L (qRet outs) ds := F_DoAct_elim fun x y hp => by
  have hb : x.p.length ≤ 1048576 ∧ fitLL x.o := ⟨hp.1, hp.2.1⟩
  have e0 : (⟨x.s, x.t, x.p, x.o⟩ : Bench) = x.bench := rfl
  have e1 : (⟨x.s, x.t, x.p⟩ : Cyl) = x.bench.cyl := rfl
  have e2 : (⟨y.a, y.b, y.c⟩ : T3) = y := rfl
  rw [spec_DoAct_L_sh, p_l38Copy (x_p := x.p) (x_o := x.o) (x_c := x.c) hp]
  simp only [p_WorkshopOk (x_p := x.p) (x_o := x.o) (x_c := x.c) hp]
  cases h : shopOk x with
  | false => simp [h, actW, actN, canAct]
  | true =>
    cases h2 : actOk y with
    | false => simp [h, h2, actW, actN, canAct]
    | true =>
      have hk := act_kinds h2
      have hc : canAct x y = true := by simp [canAct, h, h2]
      have hbo := backOk_eq h
      have hbw := backW_eq h
      simp only [h, P1_not, ifB_bool, p_ActOk, e2, h2, spec_DoAct_r0_sh]
      simp only [p_PutPin (x_p := x.p) (x_o := x.o) (x_c := x.c) hp, p_RemovePin (x_p := x.p) (x_o := x.o) (x_c := x.c) hp, p_PlayOnce (x_p := x.p) (x_o := x.o) (x_c := x.c) hp, p_TakeBack (x_p := x.p) (x_o := x.o) hb, p_Crank (x_p := x.p) (x_o := x.o) (x_c := x.c) hp, p_ClosestPins (x_p := x.p) hp.1, e0, e1]
      rcases hk with e | e | e | e | e | e
      · simp [e, actW, actN, hc, putW, putOk]
      · simp [e, actW, actN, hc, removeW, removeOk]
      · simp [e, actW, actN, hc, hbo, hbw, withB]
      · simp [e, actW, actN, hc, h]
      · simp [e, actW, actN, hc]
      · simp [e, actW, actN, hc]
theorem impl_DoAct_ok : ∀ ds outs, F_DoAct ds = some outs → shL impl_DoAct_L (qRet outs) ds := F_DoAct_elim fun x y hp => by
  have hb : x.p.length ≤ 1048576 ∧ fitLL x.o := ⟨hp.1, hp.2.1⟩
  have e0 : (⟨x.s, x.t, x.p, x.o⟩ : Bench) = x.bench := rfl
  have e1 : (⟨x.s, x.t, x.p⟩ : Cyl) = x.bench.cyl := rfl
  have e2 : (⟨y.a, y.b, y.c⟩ : T3) = y := rfl
  rw [impl_DoAct_L_sh]
  simp only [p_WorkshopOk (x_p := x.p) (x_o := x.o) (x_c := x.c) hp, p_copyWorkshop (x_p := x.p) (x_o := x.o) (x_c := x.c) hp]
  cases h : shopOk x with
  | false => simp [h, actW, actN, canAct]
  | true =>
    cases h2 : actOk y with
    | false => simp [h, h2, actW, actN, canAct]
    | true =>
      have hk := act_kinds h2
      have hc : canAct x y = true := by simp [canAct, h, h2]
      have hs : bSmall (takeBack x.bench) := by
        cases ht : takeOk x.bench with
        | false => have e : takeBack x.bench = x.bench := by simp [takeBack, ht]
                   rw [e]; exact bSmall_of_ok ((shopOk_iff x).1 h).1
        | true =>
          have := sSmall_of_ok (back_ok h ht)
          exact ⟨this.1.1, this.1.2.1, this.2⟩
      simp only [h, P1_not, ifB_bool, p_ActOk, e2, h2, impl_DoAct_r0_sh]
      simp only [p_PutPin (x_p := x.p) (x_o := x.o) (x_c := x.c) hp, p_RemovePin (x_p := x.p) (x_o := x.o) (x_c := x.c) hp, p_PlayOnce (x_p := x.p) (x_o := x.o) (x_c := x.c) hp, p_TakeBack (x_p := x.p) (x_o := x.o) hb, p_Crank (x_p := x.p) (x_o := x.o) (x_c := x.c) hp, p_ClosestPins (x_p := x.p) hp.1, p_copyWorkshop (x_p := x.p) (x_o := x.o) (x_c := x.c) hp, e0, e1]
      rcases hk with e | e | e | e | e | e
      · simp [e, actW, actN, hc, putW, putOk]
      · simp [e, actW, actN, hc, removeW, removeOk]
      · have eW : backW x = withBench x (takeBack x.bench) 0 (takeOk x.bench) := rfl
        have eO : backOk x = benchFits x (takeBack x.bench) 0 (takeOk x.bench) := rfl
        simp only [actW, actN, hc, e, eW, eO]
        generalize takeBack x.bench = B at *
        have hq := fun (nr_ : Nat) (n : Bool) kk_ => p_withBench (x_s := x.s) (x_t := x.t) (x_p := x.p) (x_o := x.o) (x_c := x.c) (x_u := x.u) (x_m := x.m) (x_f := x.f) (x_y := x.y) (x_d := x.d) (y_s := B.s) (y_t := B.t) (y_p := B.p) (y_o := B.o) (k := 0) (n := n) (nr_ := nr_) (kk_ := kk_) ⟨hp.1, hp.2.1, hp.2.2, hs.1, hs.2.1, by omega, by omega⟩
        simp [hq]
      · simp [e, actW, actN, hc, h]
      · simp [e, actW, actN, hc]
      · simp [e, actW, actN, hc]
end Go.Mw

namespace Go.Mw
theorem actW_small {x : Shop} {y : T3} (h : sSmall x) : sSmall (actW x y) := by
  unfold actW
  split
  · split
    · exact withBench_small h
    · split
      · exact withBench_small h
      · split
        · exact withBench_small h
        · split
          · exact crank_small h
          · split
            · exact playOnce_small h
            · exact h
  · exact h
theorem run_small {x : Shop} {l : List T3} (h : sSmall x) : ∀ k, sSmall (runTo x l k).1
  | 0 => h
  | k + 1 => by
    have ih := run_small (l := l) h k
    unfold runTo
    split
    · exact actW_small ih
    · exact ih
theorem run_len {x : Shop} {l : List T3} : ∀ k, (runTo x l k).2.length ≤ k
  | 0 => by simp [runTo]
  | k + 1 => by
    have ih := run_len (x := x) (l := l) k
    unfold runTo
    split
    · simp; omega
    · omega
theorem run_succ {x : Shop} {l : List T3} {k : Nat} (h : k < l.length) : runTo x l (k + 1) = (actW (runTo x l k).1 l[k], (runTo x l k).2 ++ [actN (runTo x l k).1 l[k]]) := by
  simp [runTo, List.getElem?_eq_getElem h]
theorem spec_RunActs_ok : ∀ ds outs, F_RunActs ds = some outs → shL spec_RunActs_L (qRet outs) ds := F_RunActs_elim fun x l hp => by
  have hf : x.p.length ≤ 1048576 ∧ fitLL x.o ∧ x.c.length ≤ 1048576 := ⟨hp.1, hp.2.1, hp.2.2.1⟩
  rw [spec_RunActs_L_sh, p_l38Copy (x_p := x.p) (x_o := x.o) (x_c := x.c) hf]
  simp only [p_WorkshopOk (x_p := x.p) (x_o := x.o) (x_c := x.c) hf]
  cases h : shopOk x with
  | false => simp [h, runW, runN', actsOk]
  | true =>
    by_cases hl : l.length ≤ 40
    · have hc : actsOk x l = true := by simp [actsOk, h, hl]
      have hl2 : ¬ 40 < (l.length : Int) := by omega
      simp only [h, P1_lst0, P1_not, P1_len, P1_gtr, ifB_bool, decide_eq_true_eq, decide_eq_false_iff_not]
      refine ⟨fun h => absurd h (by simp), fun _ => ⟨fun h => absurd h hl2, fun _ => ?_⟩⟩
      refine loop_upto l.length (fun k => [vL I3 v3 l, .int .i64 k, vL I1 v1 (runTo x l k).2, vL I2 v2 (runTo x l k).1.p, vL IL2 vLL2 (runTo x l k).1.o, vL I1 v1 (runTo x l k).1.c, .int .i64 0, .int .i64 0, .int .i64 0, .int .i64 0, .int .i64 0, .int .i64 0, .int .i64 0, .int .i64 (runTo x l k).1.s, .int .i64 (runTo x l k).1.t, .int .i64 (runTo x l k).1.u, .int .i64 (runTo x l k).1.m, .int .i64 (runTo x l k).1.f, .int .i64 (runTo x l k).1.y, .int .i64 (runTo x l k).1.d]) (by intro i j _ _ h; simp at h; omega) (fun _ => True) (by simp [runTo]) trivial ?_
      intro k hk _
      have hs := (run_small (l := l) (sSmall_of_ok h) k).1
      have hn := run_len (x := x) (l := l) k
      have hsucc := fun hk2 : k < l.length => run_succ (x := x) hk2
      generalize hW : runTo x l k = W at *
      rw [spec_RunActs_b0_sh]
      simp only [P1_len, P1_lss, ifB_bool, decide_eq_true_eq, decide_eq_false_iff_not]
      refine ⟨fun h1 => ?_, fun h1 => ?_⟩
      · have hk2 : k < l.length := by omega
        have e2 : (k : Int).toNat = k := by omega
        have w1 : IntKind.i64.wrap ((k : Int) + 1) = (k : Int) + 1 := wrap_id (by omega) (by omega)
        have e3 : (⟨l[k].a, l[k].b, l[k].c⟩ : T3) = l[k] := rfl
        simp only [P3_idxI, e2, List.getElem?_eq_getElem hk2, Option.some.injEq, exists_eq_left', p_DoAct (x_p := W.1.p) (x_o := W.1.o) (x_c := W.1.c) hs, e3]
        simp [hk2, w1, hsucc hk2]
        omega
      · obtain rfl : k = l.length := by omega
        subst hW
        simp [spec_RunActs_r1_sh, runW, runN', hc]
    · have hc : actsOk x l = false := by simp [actsOk, h]; omega
      have hl2 : 40 < (l.length : Int) := by omega
      simp [h, hl2, runW, runN', hc]
theorem impl_RunActs_ok : ∀ ds outs, F_RunActs ds = some outs → shL impl_RunActs_L (qRet outs) ds := F_RunActs_elim fun x l hp => by
  have hf : x.p.length ≤ 1048576 ∧ fitLL x.o ∧ x.c.length ≤ 1048576 := ⟨hp.1, hp.2.1, hp.2.2.1⟩
  rw [impl_RunActs_L_sh, p_copyWorkshop (x_p := x.p) (x_o := x.o) (x_c := x.c) hf]
  simp only [p_WorkshopOk (x_p := x.p) (x_o := x.o) (x_c := x.c) hf]
  cases h : shopOk x with
  | false => simp [h, runW, runN', actsOk]
  | true =>
    by_cases hl : l.length ≤ 40
    · have hc : actsOk x l = true := by simp [actsOk, h, hl]
      have hl2 : ¬ 40 < (l.length : Int) := by omega
      simp only [h, P1_lst0, P1_not, P1_len, P1_gtr, ifB_bool, decide_eq_true_eq, decide_eq_false_iff_not]
      refine ⟨fun h => absurd h (by simp), fun _ => ⟨fun h => absurd h hl2, fun _ => ?_⟩⟩
      refine loop_upto l.length (fun k => [vL I3 v3 l, .int .i64 l.length, .int .i64 k, vL I1 v1 (runTo x l k).2, vL I2 v2 (runTo x l k).1.p, vL IL2 vLL2 (runTo x l k).1.o, vL I1 v1 (runTo x l k).1.c, .int .i64 0, .int .i64 0, .int .i64 0, .int .i64 0, .int .i64 0, .int .i64 0, .int .i64 0, .int .i64 (runTo x l k).1.s, .int .i64 (runTo x l k).1.t, .int .i64 (runTo x l k).1.u, .int .i64 (runTo x l k).1.m, .int .i64 (runTo x l k).1.f, .int .i64 (runTo x l k).1.y, .int .i64 (runTo x l k).1.d]) (by intro i j _ _ h; simp at h; omega) (fun _ => True) (by simp [runTo]) trivial ?_
      intro k hk _
      have hs := (run_small (l := l) (sSmall_of_ok h) k).1
      have hn := run_len (x := x) (l := l) k
      have hsucc := fun hk2 : k < l.length => run_succ (x := x) hk2
      generalize hW : runTo x l k = W at *
      rw [impl_RunActs_b0_sh]
      simp only [P1_lss, ifB_bool, decide_eq_true_eq, decide_eq_false_iff_not]
      refine ⟨fun h1 => ?_, fun h1 => ?_⟩
      · have hk2 : k < l.length := by omega
        have e2 : (k : Int).toNat = k := by omega
        have w1 : IntKind.i64.wrap ((k : Int) + 1) = (k : Int) + 1 := wrap_id (by omega) (by omega)
        have e3 : (⟨l[k].a, l[k].b, l[k].c⟩ : T3) = l[k] := rfl
        simp only [P3_idxI, e2, List.getElem?_eq_getElem hk2, Option.some.injEq, exists_eq_left', p_DoAct (x_p := W.1.p) (x_o := W.1.o) (x_c := W.1.c) hs, e3]
        simp [hk2, w1, hsucc hk2]
        omega
      · obtain rfl : k = l.length := by omega
        subst hW
        simp [impl_RunActs_r1_sh, runW, runN', hc]
    · have hc : actsOk x l = false := by simp [actsOk, h]; omega
      have hl2 : 40 < (l.length : Int) := by omega
      simp [h, hl2, runW, runN', hc]
end Go.Mw

namespace Go.Mw
theorem runN_len {x : Shop} {l : List T3} : (runN' x l).length ≤ 40 := by
  unfold runN'
  split
  · rename_i h
    simp only [actsOk, Bool.and_eq_true, decide_eq_true_eq] at h
    have := run_len (x := x) (l := l) l.length
    omega
  · simp
end Go.Mw

namespace Go.Mw
end Go.Mw

namespace Go.Mw
def sample : Shop := openShop 16 [12, 12, 16, 19] 40
end Go.Mw

namespace Go.Mw
noncomputable section
end
end Go.Mw

namespace Go.Mw
def Chg (b : Bench) : Prop := ∀ q, b.o.head? = some q → missing b.p q + missing q b.p ≤ b.o.length
structure BenchInv (b : Bench) (s t : Int) (k : Nat) : Prop where
  ok : benchOk b = true
  st : b.s = s ∧ b.t = t
  len : b.p.length ≤ 9 + k
  old : b.o.length ≤ k
  chg : Chg b
end Go.Mw

namespace Go.Mw
@[simp] theorem P1_lstI4 {a b c d : Int} {k : V → Prop} : P1 (.lst [.sc] false 4) [.int .i64 a, .int .i64 b, .int .i64 c, .int .i64 d] k ↔ k (vL I1 v1 [a, b, c, d]) := P1_of (by simp [Prim.run, aksOk, akOk, chunk, V.pack, vL, v1]) k
end Go.Mw

namespace Go.Mw
theorem sample_ok : shopOk sample = true := by decide
end Go.Mw

namespace Go.Mw
theorem withBench_ok {x : Shop} {b : Bench} {k : Int} {ok : Bool} (h : shopOk x = true) : shopOk (withBench x b k ok) = true := by
  unfold withBench
  cases h2 : benchFits x b k ok with
  | false => simpa using h
  | true => simp [benchFits] at h2; simpa using h2.2.2
theorem windTo_ok {x : T3} {n : Int} (h : springOk x = true) : springOk (windTo x n) = true := by
  unfold windTo
  split
  · rename_i h2
    simp only [windOk, springOk, Bool.and_eq_true, within_iff'] at h h2 ⊢
    omega
  · exact h
theorem crank_ok {x : Shop} {n : Int} (h : shopOk x = true) : shopOk (crank x n) = true := by
  unfold crank
  rw [if_pos h]
  have h1 := (shopOk_iff x).1 h
  exact (shopOk_iff _).2 ⟨h1.1, h1.2.1, windTo_ok h1.2.2.1, h1.2.2.2⟩
theorem playOnce_ok {x : Shop} (h : shopOk x = true) : shopOk (playOnce x) = true := by
  unfold playOnce
  split
  · rename_i h2
    simp only [canPlay, Bool.and_eq_true] at h2
    exact h2.2.2.2
  · exact h
theorem actW_ok {x : Shop} {y : T3} (h : shopOk x = true) : shopOk (actW x y) = true := by
  unfold actW
  split
  · split
    · exact withBench_ok h
    · split
      · exact withBench_ok h
      · split
        · exact withBench_ok h
        · split
          · exact crank_ok h
          · split
            · exact playOnce_ok h
            · exact h
  · exact h
theorem run_ok {x : Shop} {l : List T3} (h : shopOk x = true) : ∀ k, shopOk (runTo x l k).1 = true
  | 0 => h
  | k + 1 => by
    have ih := run_ok (l := l) h k
    unfold runTo
    split
    · exact actW_ok ih
    · exact ih
end Go.Mw

namespace Go.Mw
structure ActDoes (w w' : Shop) (a : T3) (n : Int) : Prop where
  y : w'.y = if n = 1 ∧ a.a = 1 then w.y - 1 else w.y
  d : w'.d = if n = 1 ∧ a.a = 5 then w.d + w.p.length else w.d
  u : w'.u = if n = 1 ∧ a.a = 5 then w.u - 1 else if a.a = 4 then w.u + n else w.u
  c : a.a = 6 → n = closest w'.bench.cyl
  p : n = 1 ∧ a.a = 5 → tooClose w.bench.cyl 2 = []
end Go.Mw

namespace Go.Mw
theorem Shop.eta (x : Shop) : (⟨x.s, x.t, x.p, x.o, x.c, x.u, x.m, x.f, x.y, x.d⟩ : Shop) = x := rfl
end Go.Mw

namespace Go.Mw
end Go.Mw

namespace Go.Mw
end Go.Mw

namespace Go.Mw
noncomputable section
end
end Go.Mw

namespace Go.Mw
theorem runW_ok {x : Shop} {l : List T3} (h : shopOk x = true) : shopOk (runW x l) = true := by
  unfold runW
  split
  · exact run_ok h _
  · exact h
end Go.Mw

namespace Go.Mw
def E_strconv_Itoa (n : Int) : List V := [.int .i64 n]
noncomputable def F_strconv_Itoa : List V → Option (List V) := mkF E_strconv_Itoa (fun n => -9223372036854775808 ≤ n ∧ n ≤ 9223372036854775807) (fun n => [.str (Go.Lib.itoa n)])
theorem F_strconv_Itoa_inj : ∀ x y, E_strconv_Itoa x = E_strconv_Itoa y → x = y := by
  rintro n n' h
  simpa [E_strconv_Itoa] using h
theorem p_strconv_Itoa {n : Int} {nr_ : Nat} {kk_ : V → Prop} (hp : -9223372036854775808 ≤ n ∧ n ≤ 9223372036854775807) : P1 (.call F_strconv_Itoa 0 nr_) [.int .i64 n] kk_ ↔ kk_ (.str (Go.Lib.itoa n)) :=
  P1_callF (by unfold F_strconv_Itoa; exact mkF_eq F_strconv_Itoa_inj (n) hp)

def atoiV (s : List UInt8) : Int := match Go.Lib.atoiAll s with
  | .ok v => v
  | .range => Go.Lib.atoiSat s
  | _ => 0
def atoiE (s : List UInt8) : Bool := match Go.Lib.atoiAll s with
  | .ok _ => false
  | _ => true
def E_strconv_Atoi (s : List UInt8) : List V := [.str s]
noncomputable def F_strconv_Atoi : List V → Option (List V) := mkF E_strconv_Atoi (fun s => s.length ≤ 281474976710656) (fun s => [.int .i64 (atoiV s), .err (atoiE s)])
theorem F_strconv_Atoi_inj : ∀ x y, E_strconv_Atoi x = E_strconv_Atoi y → x = y := by
  rintro s s' h
  simpa [E_strconv_Atoi] using h
theorem p_strconv_Atoi {s : List UInt8} {nr_ : Nat} {kk_ : V → V → Prop} (hp : s.length ≤ 281474976710656) : P2 (.call F_strconv_Atoi 0 nr_) [.str s] kk_ ↔ kk_ (.int .i64 (atoiV s)) (.err (atoiE s)) :=
  P2_callF (by unfold F_strconv_Atoi; exact mkF_eq F_strconv_Atoi_inj (s) hp)

def E_strings_Repeat : List UInt8 × Int → List V := fun (s, n) => [.str s, .int .i64 n]
noncomputable def F_strings_Repeat : List V → Option (List V) := mkF E_strings_Repeat (fun (s, n) => 0 ≤ n ∧ n ≤ 9223372036854775807 ∧ s.length * n.toNat ≤ 140737488355328) (fun (s, n) => [.str (Go.Lib.repeatL s n.toNat)])
theorem F_strings_Repeat_inj : ∀ x y, E_strings_Repeat x = E_strings_Repeat y → x = y := by
  rintro ⟨s, n⟩ ⟨s', n'⟩ h
  simpa [E_strings_Repeat] using h
theorem p_strings_Repeat {s : List UInt8} {n : Int} {nr_ : Nat} {kk_ : V → Prop} (hp : 0 ≤ n ∧ n ≤ 9223372036854775807 ∧ s.length * n.toNat ≤ 140737488355328) : P1 (.call F_strings_Repeat 0 nr_) [.str s, .int .i64 n] kk_ ↔ kk_ (.str (Go.Lib.repeatL s n.toNat)) :=
  P1_callF (by unfold F_strings_Repeat; exact mkF_eq F_strings_Repeat_inj (s, n) hp)

def E_strings_Split : List UInt8 × List UInt8 → List V := fun (s, t) => [.str s, .str t]
noncomputable def F_strings_Split : List V → Option (List V) := mkF E_strings_Split (fun (s, t) => s.length < 4294967281 ∧ 1 ≤ t.length) (fun (s, t) => [vL I1 vS (Go.Lib.split s t)])
theorem F_strings_Split_inj : ∀ x y, E_strings_Split x = E_strings_Split y → x = y := by
  rintro ⟨s, t⟩ ⟨s', t'⟩ h
  simpa [E_strings_Split] using h
theorem p_strings_Split {s : List UInt8} {t : List UInt8} {nr_ : Nat} {kk_ : V → Prop} (hp : s.length < 4294967281 ∧ 1 ≤ t.length) : P1 (.call F_strings_Split 0 nr_) [.str s, .str t] kk_ ↔ kk_ (vL I1 vS (Go.Lib.split s t)) :=
  P1_callF (by unfold F_strings_Split; exact mkF_eq F_strings_Split_inj (s, t) hp)


def E_FormatInt (n : Int) : List V := [.int .i64 n]
noncomputable def F_FormatInt : List V → Option (List V) := mkF E_FormatInt (fun n => -9223372036854775808 ≤ n ∧ n ≤ 9223372036854775807) (fun n => [.str (Go.Lib.itoa n)])
theorem F_FormatInt_inj : ∀ x y, E_FormatInt x = E_FormatInt y → x = y := by
  rintro n n' h
  simpa [E_FormatInt] using h
theorem F_FormatInt_elim {P : List V → List V → Prop} (h : ∀ (n : Int), (-9223372036854775808 ≤ n ∧ n ≤ 9223372036854775807) → P [.int .i64 n] [.str (Go.Lib.itoa n)]) : ∀ ds outs, F_FormatInt ds = some outs → P ds outs := by
  intro ds outs hh
  obtain ⟨n, rfl, hp, rfl⟩ := mkF_inv hh
  exact h n hp
theorem p_FormatInt {n : Int} {nr_ : Nat} {kk_ : V → Prop} (hp : -9223372036854775808 ≤ n ∧ n ≤ 9223372036854775807) : P1 (.call F_FormatInt 0 nr_) [.int .i64 n] kk_ ↔ kk_ (.str (Go.Lib.itoa n)) :=
  P1_callF (by unfold F_FormatInt; exact mkF_eq F_FormatInt_inj (n) hp)

def E_l01Figure (n : Int) : List V := [.int .i64 n]
noncomputable def F_l01Figure : List V → Option (List V) := mkF E_l01Figure (fun n => 0 ≤ n ∧ n ≤ 9) (fun n => [.int .u8 ((UInt8.ofNat (48 + n.toNat))).toNat])
theorem F_l01Figure_inj : ∀ x y, E_l01Figure x = E_l01Figure y → x = y := by
  rintro n n' h
  simpa [E_l01Figure] using h
theorem F_l01Figure_elim {P : List V → List V → Prop} (h : ∀ (n : Int), (0 ≤ n ∧ n ≤ 9) → P [.int .i64 n] [.int .u8 ((UInt8.ofNat (48 + n.toNat))).toNat]) : ∀ ds outs, F_l01Figure ds = some outs → P ds outs := by
  intro ds outs hh
  obtain ⟨n, rfl, hp, rfl⟩ := mkF_inv hh
  exact h n hp
theorem p_l01Figure {n : Int} {nr_ : Nat} {kk_ : V → Prop} (hp : 0 ≤ n ∧ n ≤ 9) : P1 (.call F_l01Figure 0 nr_) [.int .i64 n] kk_ ↔ kk_ (.int .u8 ((UInt8.ofNat (48 + n.toNat))).toNat) :=
  P1_callF (by unfold F_l01Figure; exact mkF_eq F_l01Figure_inj (n) hp)

def isDig (b : UInt8) : Bool := decide (48 ≤ b.toNat) && decide (b.toNat ≤ 57)
def uval (s : List UInt8) : Nat := s.foldl (fun n b => 10 * n + (b.toNat - 48)) 0
def uOk (s : List UInt8) : Bool := decide (s.length ≤ 10) && (s.all isDig && (decide (uval s ≤ 1000000000) && decide (Go.Lib.itoa (uval s) = s)))
def uNum (s : List UInt8) : Int := if uOk s then uval s else 0
def E_ParseUint (s : List UInt8) : List V := [.str s]
noncomputable def F_ParseUint : List V → Option (List V) := mkF E_ParseUint (fun s => s.length ≤ 1048576) (fun s => [.int .i64 (uNum s), .bool (uOk s)])
theorem F_ParseUint_inj : ∀ x y, E_ParseUint x = E_ParseUint y → x = y := by
  rintro s s' h
  simpa [E_ParseUint] using h
theorem F_ParseUint_elim {P : List V → List V → Prop} (h : ∀ (s : List UInt8), (s.length ≤ 1048576) → P [.str s] [.int .i64 (uNum s), .bool (uOk s)]) : ∀ ds outs, F_ParseUint ds = some outs → P ds outs := by
  intro ds outs hh
  obtain ⟨s, rfl, hp, rfl⟩ := mkF_inv hh
  exact h s hp
theorem p_ParseUint {s : List UInt8} {nr_ : Nat} {kk_ : V → V → Prop} (hp : s.length ≤ 1048576) : P2 (.call F_ParseUint 0 nr_) [.str s] kk_ ↔ kk_ (.int .i64 (uNum s)) (.bool (uOk s)) :=
  P2_callF (by unfold F_ParseUint; exact mkF_eq F_ParseUint_inj (s) hp)


def fieldsTo (s : List UInt8) : Nat → List (List UInt8) × Nat
  | 0 => ([], 0)
  | i + 1 => match s[i]? with
    | some b => if b = 32 then (if (fieldsTo s i).2 < i then (fieldsTo s i).1 ++ [(s.take i).drop (fieldsTo s i).2] else (fieldsTo s i).1, i + 1) else fieldsTo s i
    | none => (if (fieldsTo s i).2 < i then (fieldsTo s i).1 ++ [(s.take i).drop (fieldsTo s i).2] else (fieldsTo s i).1, i + 1)
def plainB (b : UInt8) : Bool := decide (32 ≤ b.toNat) && decide (b.toNat ≤ 126)
def fieldsOk (s : List UInt8) : Bool := decide (s.length ≤ 600) && (s.all plainB && decide ((fieldsTo s (s.length + 1)).1.length ≤ 24))
def fieldsOf (s : List UInt8) : List (List UInt8) := if fieldsOk s then (fieldsTo s (s.length + 1)).1 else []
def E_SplitFields (s : List UInt8) : List V := [.str s]
noncomputable def F_SplitFields : List V → Option (List V) := mkF E_SplitFields (fun s => s.length ≤ 1048576) (fun s => [vL I1 vS (fieldsOf s), .bool (fieldsOk s)])
theorem F_SplitFields_inj : ∀ x y, E_SplitFields x = E_SplitFields y → x = y := by
  rintro s s' h
  simpa [E_SplitFields] using h
theorem F_SplitFields_elim {P : List V → List V → Prop} (h : ∀ (s : List UInt8), (s.length ≤ 1048576) → P [.str s] [vL I1 vS (fieldsOf s), .bool (fieldsOk s)]) : ∀ ds outs, F_SplitFields ds = some outs → P ds outs := by
  intro ds outs hh
  obtain ⟨s, rfl, hp, rfl⟩ := mkF_inv hh
  exact h s hp
theorem p_SplitFields {s : List UInt8} {nr_ : Nat} {kk_ : V → V → Prop} (hp : s.length ≤ 1048576) : P2 (.call F_SplitFields 0 nr_) [.str s] kk_ ↔ kk_ (vL I1 vS (fieldsOf s)) (.bool (fieldsOk s)) :=
  P2_callF (by unfold F_SplitFields; exact mkF_eq F_SplitFields_inj (s) hp)


def actWord (k : Int) : List UInt8 := if k = 1 then [112, 105, 110] else if k = 2 then [112, 117, 108, 108] else if k = 3 then [98, 97, 99, 107] else if k = 4 then [119, 105, 110, 100] else if k = 5 then [112, 108, 97, 121] else [99, 108, 111, 115, 101]
def E_actWord (n : Int) : List V := [.int .i64 n]
noncomputable def F_actWord : List V → Option (List V) := mkF E_actWord (fun _ => True) (fun n => [.str (actWord n)])
theorem F_actWord_inj : ∀ x y, E_actWord x = E_actWord y → x = y := by
  rintro n n' h
  simpa [E_actWord] using h
theorem F_actWord_elim {P : List V → List V → Prop} (h : ∀ (n : Int), P [.int .i64 n] [.str (actWord n)]) : ∀ ds outs, F_actWord ds = some outs → P ds outs := by
  intro ds outs hh
  obtain ⟨n, rfl, -, rfl⟩ := mkF_inv hh
  exact h n
@[simp] theorem p_actWord {n : Int} {nr_ : Nat} {kk_ : V → Prop} : P1 (.call F_actWord 0 nr_) [.int .i64 n] kk_ ↔ kk_ (.str (actWord n)) :=
  P1_callF (by unfold F_actWord; exact mkF_eq F_actWord_inj (n) trivial)

def actNums (k : Int) : Nat := if k = 1 then 2 else if k = 2 ∨ k = 4 then 1 else 0
def E_actNumbers (n : Int) : List V := [.int .i64 n]
noncomputable def F_actNumbers : List V → Option (List V) := mkF E_actNumbers (fun _ => True) (fun n => [.int .i64 (actNums n)])
theorem F_actNumbers_inj : ∀ x y, E_actNumbers x = E_actNumbers y → x = y := by
  rintro n n' h
  simpa [E_actNumbers] using h
theorem F_actNumbers_elim {P : List V → List V → Prop} (h : ∀ (n : Int), P [.int .i64 n] [.int .i64 (actNums n)]) : ∀ ds outs, F_actNumbers ds = some outs → P ds outs := by
  intro ds outs hh
  obtain ⟨n, rfl, -, rfl⟩ := mkF_inv hh
  exact h n
@[simp] theorem p_actNumbers {n : Int} {nr_ : Nat} {kk_ : V → Prop} : P1 (.call F_actNumbers 0 nr_) [.int .i64 n] kk_ ↔ kk_ (.int .i64 (actNums n)) :=
  P1_callF (by unfold F_actNumbers; exact mkF_eq F_actNumbers_inj (n) trivial)

def fmtAct (a : T3) : List UInt8 := if actOk a then actWord a.a ++ (if actNums a.a = 2 then 32 :: (Go.Lib.itoa a.b ++ 32 :: Go.Lib.itoa a.c) else if actNums a.a = 1 then 32 :: Go.Lib.itoa a.b else []) else []
def E_FormatAct (x : T3) : List V := [.int .i64 x.a, .int .i64 x.b, .int .i64 x.c]
noncomputable def F_FormatAct : List V → Option (List V) := mkF E_FormatAct (fun _ => True) (fun x => [.str (fmtAct x), .bool (actOk x)])
theorem F_FormatAct_inj : ∀ x y, E_FormatAct x = E_FormatAct y → x = y := by
  rintro ⟨xa, xb, xc⟩ ⟨xa', xb', xc'⟩ h
  simpa [E_FormatAct] using h
theorem F_FormatAct_elim {P : List V → List V → Prop} (h : ∀ (x : T3), P [.int .i64 x.a, .int .i64 x.b, .int .i64 x.c] [.str (fmtAct x), .bool (actOk x)]) : ∀ ds outs, F_FormatAct ds = some outs → P ds outs := by
  intro ds outs hh
  obtain ⟨x, rfl, -, rfl⟩ := mkF_inv hh
  exact h x
@[simp] theorem p_FormatAct {x_a : Int} {x_b : Int} {x_c : Int} {nr_ : Nat} {kk_ : V → V → Prop} : P2 (.call F_FormatAct 0 nr_) [.int .i64 x_a, .int .i64 x_b, .int .i64 x_c] kk_ ↔ kk_ (.str (fmtAct (⟨x_a, x_b, x_c⟩ : T3))) (.bool (actOk (⟨x_a, x_b, x_c⟩ : T3))) :=
  P2_callF (by unfold F_FormatAct; exact mkF_eq F_FormatAct_inj ((⟨x_a, x_b, x_c⟩ : T3)) trivial)

end Go.Mw

namespace Go.Mw
open Go.Lib (decDigits)
theorem dec_small {u : Nat} (h : u < 10) : decDigits u = [UInt8.ofNat (48 + u)] := by rw [decDigits, dif_pos h]
theorem dec_big {u : Nat} (h : ¬ u < 10) : decDigits u = decDigits (u / 10) ++ [UInt8.ofNat (48 + u % 10)] := by rw [decDigits, dif_neg h]
def digs (u : Nat) : List UInt8 := if u = 0 then [] else decDigits u
theorem digs_step {u : Nat} (h : u ≠ 0) : digs u = digs (u / 10) ++ [UInt8.ofNat (48 + u % 10)] := by
  unfold digs
  rw [if_neg h]
  by_cases h2 : u < 10
  · rw [if_pos (by omega), dec_small h2, show u % 10 = u by omega]; rfl
  · rw [if_neg (by omega), dec_big h2]
theorem dig_nat {d : Nat} (h : d < 10) : (UInt8.ofNat (48 + d)).toNat = 48 + d := by
  simp; omega
theorem isDig_ofNat {d : Nat} (h : d < 10) : isDig (UInt8.ofNat (48 + d)) = true := by
  simp only [isDig, dig_nat h, Bool.and_eq_true, decide_eq_true_eq]; omega
theorem all_one {d : Nat} (h : d < 10) : ([UInt8.ofNat (48 + d)] : List UInt8).all isDig = true := by
  rw [List.all_cons, List.all_nil, Bool.and_true]; exact isDig_ofNat h
theorem dec_digs : ∀ (n u : Nat), u ≤ n → (decDigits u).all isDig = true ∧ decDigits u ≠ []
  | 0, u, h => by
    obtain rfl : u = 0 := by omega
    rw [dec_small (by omega)]
    exact ⟨all_one (by omega), by simp⟩
  | n + 1, u, h => by
    by_cases h2 : u < 10
    · rw [dec_small h2]; exact ⟨all_one h2, by simp⟩
    · rw [dec_big h2]
      have ih := dec_digs n (u / 10) (by omega)
      exact ⟨by rw [List.all_append, ih.1, all_one (by omega)]; rfl, by simp⟩
theorem dec_dig (u : Nat) : (decDigits u).all isDig = true := (dec_digs u u (Nat.le_refl _)).1
theorem dec_ne (u : Nat) : decDigits u ≠ [] := (dec_digs u u (Nat.le_refl _)).2
theorem uval_snoc (s : List UInt8) (b : UInt8) : uval (s ++ [b]) = 10 * uval s + (b.toNat - 48) := by simp [uval, List.foldl_append]
theorem uval_dec : ∀ (n u : Nat), u ≤ n → uval (decDigits u) = u
  | 0, u, h => by
    obtain rfl : u = 0 := by omega
    rw [dec_small (by omega)]
    simp [uval]
  | n + 1, u, h => by
    by_cases h2 : u < 10
    · rw [dec_small h2]
      show 10 * 0 + ((UInt8.ofNat (48 + u)).toNat - 48) = u
      rw [dig_nat h2]; omega
    · rw [dec_big h2, uval_snoc, uval_dec n (u / 10) (by omega), dig_nat (show u % 10 < 10 by omega)]; omega
theorem uval_decDigits (u : Nat) : uval (decDigits u) = u := uval_dec u u (Nat.le_refl _)
theorem dec_len : ∀ (k u : Nat), u < 10 ^ (k + 1) → (decDigits u).length ≤ k + 1
  | 0, u, h => by rw [dec_small (by simpa using h)]; simp
  | k + 1, u, h => by
    by_cases h2 : u < 10
    · rw [dec_small h2]; simp
    · rw [dec_big h2, List.length_append]
      have h3 : u < 10 * 10 ^ (k + 1) := by rw [Nat.mul_comm, ← Nat.pow_succ]; exact h
      have := dec_len k (u / 10) (by omega)
      simp only [List.length_singleton]; omega
theorem uval_lt : ∀ {s : List UInt8}, s.all isDig = true → uval s < 10 ^ s.length := by
  intro s
  suffices H : ∀ (r : List UInt8), r.reverse.all isDig = true → uval r.reverse < 10 ^ r.length from by
    intro h
    have := H s.reverse (by simpa using h)
    simpa using this
  intro r
  induction r with
  | nil => intro _; simp [uval]
  | cons b r ih =>
    intro h
    rw [List.reverse_cons] at h ⊢
    simp only [List.all_append, List.all_cons, List.all_nil, Bool.and_true, Bool.and_eq_true, isDig, decide_eq_true_eq] at h
    have h1 := ih (by simpa [isDig] using h.1)
    rw [uval_snoc, List.length_cons, Nat.pow_succ]
    omega
theorem itoa_pos (u : Nat) : Go.Lib.itoa (u : Int) = decDigits u := Go.Lib.itoa_nonneg u

theorem parse_digits : ∀ {s : List UInt8} {acc : Nat}, s.all isDig = true → (acc + 1) * 10 ^ s.length ≤ 18446744073709551616 → Go.Lib.parseUint10 acc s = .ok (acc * 10 ^ s.length + uval s)
  | [], acc, _, _ => by simp [Go.Lib.parseUint10, uval]
  | b :: r, acc, h, hb => by
    simp only [List.all_cons, Bool.and_eq_true] at h
    have hd := h.1
    simp only [isDig, Bool.and_eq_true, decide_eq_true_eq] at hd
    have h10 : 1 ≤ 10 ^ r.length := Nat.pos_of_ne_zero (by simp)
    rw [List.length_cons, Nat.pow_succ] at hb
    have hb2 : (acc + 1) * 10 * 10 ^ r.length ≤ 18446744073709551616 := by
      rw [Nat.mul_assoc, Nat.mul_comm 10]; exact hb
    have hb3 : (acc * 10 + (b.toNat - 48) + 1) * 10 ^ r.length ≤ 18446744073709551616 :=
      Nat.le_trans (Nat.mul_le_mul_right _ (by omega)) hb2
    have hb4 : acc * 10 + (b.toNat - 48) + 1 ≤ 18446744073709551616 := Nat.le_trans (Nat.le_mul_of_pos_right _ h10) hb3
    have hb5 : (acc + 1) * 10 ≤ 18446744073709551616 := Nat.le_trans (Nat.le_mul_of_pos_right _ h10) hb2
    unfold Go.Lib.parseUint10
    rw [if_pos hd, if_neg (by omega), if_neg (by omega), parse_digits h.2 hb3]
    congr 1
    have e : uval (b :: r) = (b.toNat - 48) * 10 ^ r.length + uval r := by
      have key : ∀ (q : List UInt8) (a : Nat), q.foldl (fun n b => 10 * n + (b.toNat - 48)) a = a * 10 ^ q.length + uval q := by
        intro q
        induction q with
        | nil => intro a; simp [uval]
        | cons c q ih =>
          intro a
          rw [List.foldl_cons, ih, List.length_cons, Nat.pow_succ]
          have : uval (c :: q) = q.foldl (fun n b => 10 * n + (b.toNat - 48)) (10 * 0 + (c.toNat - 48)) := rfl
          rw [this, ih, Nat.add_mul, Nat.add_mul, Nat.add_assoc]
          congr 1
          · rw [Nat.mul_comm 10 a, Nat.mul_assoc, Nat.mul_comm 10]
          · simp
      have : uval (b :: r) = r.foldl (fun n b => 10 * n + (b.toNat - 48)) (10 * 0 + (b.toNat - 48)) := rfl
      rw [this, key]; simp
    rw [e, List.length_cons, Nat.pow_succ, Nat.add_mul, Nat.add_assoc]
    congr 1
    rw [Nat.mul_assoc, Nat.mul_comm 10]
theorem atoi_digits {s : List UInt8} (h : s.all isDig = true) (h0 : s ≠ []) (hl : s.length ≤ 18) : Go.Lib.atoiAll s = .ok (uval s : Int) := by
  match s, h0 with
  | c :: r, _ =>
    have hd := h
    simp only [List.all_cons, Bool.and_eq_true, isDig, decide_eq_true_eq] at hd
    have e2 : ¬ c.toNat = 45 := by omega
    have hlt := uval_lt h
    have hp : (10 : Nat) ^ (c :: r).length ≤ 10 ^ 18 := Nat.pow_le_pow_right (by omega) hl
    have hq := parse_digits (acc := 0) h (by rw [Nat.zero_add, Nat.one_mul]; exact Nat.le_trans hp (by decide))
    have hm : Go.Lib.parseMag (c :: r) = .ok (uval (c :: r)) := by
      unfold Go.Lib.parseMag
      rw [if_neg (by simp), hq]; simp
    have hb : uval (c :: r) < 1000000000000000000 := Nat.lt_of_lt_of_le hlt hp
    have e3 : ¬ (c.toNat = 43 ∨ False) := by rintro (h | h)
                                             · omega
                                             · exact h
    simp only [Go.Lib.atoiAll, e2, not_false_eq_true, true_and, false_and, if_false]
    rw [if_neg e3, hm]
    show (if 9223372036854775808 ≤ uval (c :: r) then Go.Lib.NumEnd.range else Go.Lib.NumEnd.ok (uval (c :: r) : Int)) = _
    rw [if_neg (Nat.not_le.mpr (Nat.lt_trans hb (by decide)))]
theorem atoi_back {s : List UInt8} : (atoiE s = false ∧ (0 ≤ atoiV s ∧ (atoiV s ≤ 1000000000 ∧ Go.Lib.itoa (atoiV s) = s))) ↔ uOk s = true := by
  constructor
  · rintro ⟨-, h1, h2, h3⟩
    obtain ⟨u, hu⟩ : ∃ u : Nat, atoiV s = u := ⟨(atoiV s).toNat, by omega⟩
    rw [hu, itoa_pos] at h3
    rw [hu] at h2
    have hv : uval s = u := by rw [← h3]; exact uval_decDigits u
    simp only [uOk, Bool.and_eq_true, decide_eq_true_eq]
    refine ⟨?_, ?_, by omega, by rw [hv, itoa_pos]; exact h3⟩
    · rw [← h3]; exact dec_len 9 u (by omega)
    · rw [← h3]; exact dec_dig u
  · intro h
    simp only [uOk, Bool.and_eq_true, decide_eq_true_eq] at h
    obtain ⟨h1, h2, h3, h4⟩ := h
    have h0 : s ≠ [] := by rw [← h4, itoa_pos]; exact dec_ne _
    have ha := atoi_digits h2 h0 (by omega)
    have hv : atoiV s = uval s := by simp [atoiV, ha]
    refine ⟨by simp [atoiE, ha], by omega, by omega, by rw [hv]; exact h4⟩
theorem atoi_num {s : List UInt8} (h : uOk s = true) : atoiV s = uval s := by
  simp only [uOk, Bool.and_eq_true, decide_eq_true_eq] at h
  obtain ⟨h1, h2, h3, h4⟩ := h
  have h0 : s ≠ [] := by rw [← h4, itoa_pos]; exact dec_ne _
  simp [atoiV, atoi_digits h2 h0 (by omega)]
theorem uOk_small {s : List UInt8} (h : uOk s = true) : uNum s = uval s ∧ 0 ≤ uNum s ∧ uNum s ≤ 1000000000 := by
  have h2 := h
  simp only [uOk, Bool.and_eq_true, decide_eq_true_eq] at h2
  unfold uNum
  rw [if_pos h]
  omega
end Go.Mw

namespace Go.Mw
noncomputable section
def spec_l01Figure_L : L := .seq (.rg []) (.seq (.seq (.rg [zk .lss 0 10]) (.ite (.v 1) (.seq (.rg [⟨[], .bin .add, [.k (.int .i64 48), .v 0], 1⟩, ⟨[], .conv .u8, [.v 2], 1⟩]) (.ret [.v 3])) (.skip))) (.seq (.rg [⟨[], .bin .add, [.k (.int .i64 97), .v 0], 1⟩, zk .sub 2 10, ⟨[], .conv .u8, [.v 3], 1⟩]) (.ret [.v 4])))
theorem spec_l01Figure_L_sh (Q : QT) (x0 : V) : shL spec_l01Figure_L Q [x0] = (
  P1 (.bin .lss) [x0, .int .i64 10] fun v0 =>
  ifB v0 (
    P1 (.bin .add) [.int .i64 48, x0] fun v1 =>
    P1 (.conv .u8) [v1] fun v2 =>
    Q .ret [v2]) (
    P1 (.bin .add) [.int .i64 97, x0] fun v3 =>
    P1 (.bin .sub) [v3, .int .i64 10] fun v4 =>
    P1 (.conv .u8) [v4] fun v5 =>
    Q .ret [v5])) := by kernel_rfl
def spec_l01Figure_S : Sig := ⟨[.val false [.sc]], [(false, [.sc])], F_l01Figure⟩
def spec_l01Figure_hs : List NF := []

def spec_FormatInt_b0 : L := .seq (.seq (.seq (.rg [zk .neq 0 0]) (.ite (.v 3) (.skip) (.seq (zt [1, 2]) (.exit 0)))) (.block 1 (.seq (.seq (.rg [zk .rem 0 10]) (.seq (.seq (.rg [zk .lss 4 0]) (.ite (.v 5) (.seq (.rg [⟨[], .un .neg, [.v 4], 1⟩]) (zt [0, 1, 2, 6])) (.seq (.skip) (zt [0, 1, 2, 4])))) (.seq (.rg [zc F_l01Figure 1 [3], ⟨[], .lst [.sc] false 1, [.v 4], 1⟩, ⟨[], .b2s, [.v 5], 1⟩, zb .add 6 2]) (.rg [zk .quo 0 10])))) (zt [8, 1, 7])))) (zt [0, 1, 2])
theorem spec_FormatInt_b0_sh (Q : QT) (x0 x1 x2 : V) : shL spec_FormatInt_b0 Q [x0, x1, x2] = (
  P1 (.bin .neq) [x0, .int .i64 0] fun v0 =>
  ifB v0 (
    P1 (.bin .rem) [x0, .int .i64 10] fun v1 =>
    P1 (.bin .lss) [v1, .int .i64 0] fun v2 =>
    ifB v2 (
      P1 (.un .neg) [v1] fun v3 =>
      P1 (.call F_l01Figure 0 1) [v3] fun v4 =>
      P1 (.lst [.sc] false 1) [v4] fun v5 =>
      P1 (.b2s) [v5] fun v6 =>
      P1 (.bin .add) [v6, x2] fun v7 =>
      P1 (.bin .quo) [x0, .int .i64 10] fun v8 =>
      Q .normal [v8, x1, v7]) (
      P1 (.call F_l01Figure 0 1) [v1] fun v9 =>
      P1 (.lst [.sc] false 1) [v9] fun v10 =>
      P1 (.b2s) [v10] fun v11 =>
      P1 (.bin .add) [v11, x2] fun v12 =>
      P1 (.bin .quo) [x0, .int .i64 10] fun v13 =>
      Q .normal [v13, x1, v12])) (
    Q (.exit 0) [x1, x2])) := by kernel_rfl

def spec_FormatInt_r1 : L := .seq (.seq (.rg []) (.ite (.v 0) (.seq (.rg [⟨[], .bin .add, [.k (.str [45]), .v 1], 1⟩]) (.ret [.v 2])) (.skip))) (.seq (.rg []) (.ret [.v 1]))
theorem spec_FormatInt_r1_sh (Q : QT) (x0 x1 : V) : shL spec_FormatInt_r1 Q [x0, x1] = (
  ifB x0 (
    P1 (.bin .add) [.str [45], x1] fun v0 =>
    Q .ret [v0]) (
    Q .ret [x1])) := by kernel_rfl

def spec_FormatInt_L : L := .seq (.rg []) (.seq (.seq (.rg [zk .eql 0 0]) (.ite (.v 1) (.seq (.rg []) (.ret [.k (.str [48])])) (.skip))) (.seq (.rg [zk .lss 0 0]) (.seq (.rg []) (.seq (.block 0 (.seq (.tup [.v 0, .v 2, .k (.str [])]) (.loop (spec_FormatInt_b0)))) (spec_FormatInt_r1)))))
theorem spec_FormatInt_L_sh (Q : QT) (x0 : V) : shL spec_FormatInt_L Q [x0] = (
  P1 (.bin .eql) [x0, .int .i64 0] fun v0 =>
  ifB v0 (
    Q .ret [.str [48]]) (
    P1 (.bin .lss) [x0, .int .i64 0] fun v1 =>
    shL (.loop spec_FormatInt_b0) (qB 0 (qS (shL spec_FormatInt_r1 Q) Q)) [x0, v1, .str []])) := by kernel_rfl
def spec_FormatInt_S : Sig := ⟨[.val false [.sc]], [(false, [.sc])], F_FormatInt⟩
def spec_FormatInt_hs : List NF := [⟨[(3, zs), (4, zs)], [], [], 64⟩, ⟨[(0, zs), (3, zs), (4, zs)], [], [], 64⟩, ⟨[(0, zs), (3, zs), (4, zs)], [], [], 64⟩, ⟨[(0, zs), (3, zs), (4, zs), (5, zs)], [], [], 64⟩]

def spec_FormatAct_b0 : L := .seq (.seq (.seq (.rg [zb .lss 2 1]) (.ite (.v 4) (.skip) (.seq (zt [0]) (.exit 0)))) (.seq (.block 1 (.seq (.rg [⟨[], .bin .add, [.v 0, .k (.str [32])], 1⟩, zi 3 2, zc F_FormatInt 1 [6], zb .add 5 7]) (zt [8, 1, 2, 3]))) (.rg [zk .add 2 1]))) (zt [0, 1, 4, 3])
theorem spec_FormatAct_b0_sh (Q : QT) (x0 x1 x2 x3 : V) : shL spec_FormatAct_b0 Q [x0, x1, x2, x3] = (
  P1 (.bin .lss) [x2, x1] fun v0 =>
  ifB v0 (
    P1 (.bin .add) [x0, .str [32]] fun v1 =>
    P1 (.idx [.sc]) [x3, x2] fun v2 =>
    P1 (.call F_FormatInt 0 1) [v2] fun v3 =>
    P1 (.bin .add) [v1, v3] fun v4 =>
    P1 (.bin .add) [x2, .int .i64 1] fun v5 =>
    Q .normal [v4, x1, v5, x3]) (
    Q (.exit 0) [x0])) := by kernel_rfl

def spec_FormatAct_r1 : L := .seq (.rg []) (.ret [.v 0, .k (.bool true)])
theorem spec_FormatAct_r1_sh (Q : QT) (x0 : V) : shL spec_FormatAct_r1 Q [x0] = (
  Q .ret [x0, .bool true]) := by kernel_rfl

def spec_FormatAct_L : L := .seq (.rg []) (.seq (.seq (.rg [zc F_ActOk 1 [0, 1, 2], zn 3]) (.ite (.v 4) (.seq (.rg []) (.ret [.k (.str []), .k (.bool false)])) (.skip))) (.seq (.rg [⟨[], .lst [.sc] false 7, [.k (.str []), .k (.str [112, 105, 110]), .k (.str [112, 117, 108, 108]), .k (.str [98, 97, 99, 107]), .k (.str [119, 105, 110, 100]), .k (.str [112, 108, 97, 121]), .k (.str [99, 108, 111, 115, 101])], 1⟩, zi 5 0]) (.seq (.rg [⟨[], .lst [.sc] false 7, [.k (.int .i64 0), .k (.int .i64 2), .k (.int .i64 1), .k (.int .i64 0), .k (.int .i64 1), .k (.int .i64 0), .k (.int .i64 0)], 1⟩, zi 7 0]) (.seq (.rg [⟨[], .lst [.sc] false 2, [.v 1, .v 2], 1⟩]) (.seq (.seq (.rg []) (.block 0 (.seq (.tup [.v 6, .v 8, .k (.int .i64 0), .v 9]) (.loop (spec_FormatAct_b0))))) (spec_FormatAct_r1))))))
theorem spec_FormatAct_L_sh (Q : QT) (x0 x1 x2 : V) : shL spec_FormatAct_L Q [x0, x1, x2] = (
  P1 (.call F_ActOk 0 1) [x0, x1, x2] fun v0 =>
  P1 (.un .not) [v0] fun v1 =>
  ifB v1 (
    Q .ret [.str [], .bool false]) (
    P1 (.lst [.sc] false 7) [.str [], .str [112, 105, 110], .str [112, 117, 108, 108], .str [98, 97, 99, 107], .str [119, 105, 110, 100], .str [112, 108, 97, 121], .str [99, 108, 111, 115, 101]] fun v2 =>
    P1 (.idx [.sc]) [v2, x0] fun v3 =>
    P1 (.lst [.sc] false 7) [.int .i64 0, .int .i64 2, .int .i64 1, .int .i64 0, .int .i64 1, .int .i64 0, .int .i64 0] fun v4 =>
    P1 (.idx [.sc]) [v4, x0] fun v5 =>
    P1 (.lst [.sc] false 2) [x1, x2] fun v6 =>
    shL (.loop spec_FormatAct_b0) (qB 0 (qS (shL spec_FormatAct_r1 Q) Q)) [v3, v5, .int .i64 0, v6])) := by kernel_rfl
def spec_FormatAct_S : Sig := ⟨[.val true [.sc, .sc, .sc]], [(false, [.sc]), (false, [.sc])], F_FormatAct⟩
def spec_FormatAct_hs : List NF := [⟨[(4, zs)], [], [], 64⟩, ⟨[(4, zs), (5, zs), (6, zo 64), (7, zs)], [(64, true, [.sc])], [], 65⟩, ⟨[(4, zs), (5, zs), (6, zo 64), (7, zs)], [(64, true, [.sc])], [], 65⟩]

def impl_actWord_L : L := .seq (.rg []) (.seq (.seq (.rg []) (.block 0 (.seq (.seq (.rg [zk .eql 0 1]) (.ite (.v 1) (.seq (.rg []) (.ret [.k (.str [112, 105, 110])])) (.seq (.rg [zk .eql 0 2]) (.ite (.v 2) (.seq (.rg []) (.ret [.k (.str [112, 117, 108, 108])])) (.seq (.rg [zk .eql 0 3]) (.ite (.v 3) (.seq (.rg []) (.ret [.k (.str [98, 97, 99, 107])])) (.seq (.rg [zk .eql 0 4]) (.ite (.v 4) (.seq (.rg []) (.ret [.k (.str [119, 105, 110, 100])])) (.seq (.rg [zk .eql 0 5]) (.ite (.v 5) (.seq (.rg []) (.ret [.k (.str [112, 108, 97, 121])])) (.skip))))))))))) (.tup [])))) (.seq (.rg []) (.ret [.k (.str [99, 108, 111, 115, 101])])))
theorem impl_actWord_L_sh (Q : QT) (x0 : V) : shL impl_actWord_L Q [x0] = (
  P1 (.bin .eql) [x0, .int .i64 1] fun v0 =>
  ifB v0 (
    Q .ret [.str [112, 105, 110]]) (
    P1 (.bin .eql) [x0, .int .i64 2] fun v1 =>
    ifB v1 (
      Q .ret [.str [112, 117, 108, 108]]) (
      P1 (.bin .eql) [x0, .int .i64 3] fun v2 =>
      ifB v2 (
        Q .ret [.str [98, 97, 99, 107]]) (
        P1 (.bin .eql) [x0, .int .i64 4] fun v3 =>
        ifB v3 (
          Q .ret [.str [119, 105, 110, 100]]) (
          P1 (.bin .eql) [x0, .int .i64 5] fun v4 =>
          ifB v4 (
            Q .ret [.str [112, 108, 97, 121]]) (
            Q .ret [.str [99, 108, 111, 115, 101]])))))) := by kernel_rfl
def impl_actWord_S : Sig := ⟨[.val false [.sc]], [(false, [.sc])], F_actWord⟩
def impl_actWord_hs : List NF := [⟨[], [], [], 64⟩]

def impl_FormatInt_L : L := .seq (.rg []) (.seq (.rg [zc F_strconv_Itoa 1 [0]]) (.ret [.v 1]))
theorem impl_FormatInt_L_sh (Q : QT) (x0 : V) : shL impl_FormatInt_L Q [x0] = (
  P1 (.call F_strconv_Itoa 0 1) [x0] fun v0 =>
  Q .ret [v0]) := by kernel_rfl
def impl_FormatInt_S : Sig := ⟨[.val false [.sc]], [(false, [.sc])], F_FormatInt⟩
def impl_FormatInt_hs : List NF := []

def impl_actNumbers_L : L := .seq (.rg []) (.seq (.seq (.rg []) (.block 0 (.seq (.seq (.rg [zk .eql 0 1]) (.ite (.v 1) (.seq (.rg []) (.ret [.k (.int .i64 2)])) (.seq (.seq (.rg [zk .eql 0 2]) (.ite (.v 2) (.seq (.skip) (zt [2])) (.seq (.rg [zk .eql 0 4]) (zt [3])))) (.ite (.v 0) (.seq (.rg []) (.ret [.k (.int .i64 1)])) (.skip))))) (.tup [])))) (.seq (.rg []) (.ret [.k (.int .i64 0)])))
theorem impl_actNumbers_L_sh (Q : QT) (x0 : V) : shL impl_actNumbers_L Q [x0] = (
  P1 (.bin .eql) [x0, .int .i64 1] fun v0 =>
  ifB v0 (
    Q .ret [.int .i64 2]) (
    P1 (.bin .eql) [x0, .int .i64 2] fun v1 =>
    ifB v1 (
      Q .ret [.int .i64 1]) (
      P1 (.bin .eql) [x0, .int .i64 4] fun v2 =>
      ifB v2 (
        Q .ret [.int .i64 1]) (
        Q .ret [.int .i64 0])))) := by kernel_rfl
def impl_actNumbers_S : Sig := ⟨[.val false [.sc]], [(false, [.sc])], F_actNumbers⟩
def impl_actNumbers_hs : List NF := [⟨[], [], [], 64⟩, ⟨[(6, zs)], [], [], 64⟩]

end
end Go.Mw

namespace Go.Mw
open Go.Lib (decDigits itoa)
section
variable {k : V → Prop}
@[simp] theorem P1_addS {x y : List UInt8} : P1 (.bin .add) [.str x, .str y] k ↔ x.length + y.length ≤ 1073741824 ∧ k (.str (x ++ y)) := P1_opt (by simp [Prim.run, binV, binS]) k
@[simp] theorem P1_neqS {x y : List UInt8} : P1 (.bin .neq) [.str x, .str y] k ↔ k (.bool (!(x == y))) := P1_of (by simp [Prim.run, binV, binS]) k
@[simp] theorem P1_eqlS {x y : List UInt8} : P1 (.bin .eql) [.str x, .str y] k ↔ k (.bool (x == y)) := P1_of (by simp [Prim.run, binV, binS]) k
@[simp] theorem P1_lstY1 {b : UInt8} : P1 (.lst [.sc] false 1) [.int .u8 b.toNat] k ↔ k (vL I1 vY [b]) := P1_of (by simp [Prim.run, aksOk, akOk, chunk, V.pack, vL, vY]) k
@[simp] theorem P1_lstS3 {a b c : List UInt8} : P1 (.lst [.sc] false 3) [.str a, .str b, .str c] k ↔ k (vL I1 vS [a, b, c]) := P1_of (by simp [Prim.run, aksOk, akOk, chunk, V.pack, vL, vS]) k
@[simp] theorem P1_lstS7 {a b c d e f g : List UInt8} : P1 (.lst [.sc] false 7) [.str a, .str b, .str c, .str d, .str e, .str f, .str g] k ↔ k (vL I1 vS [a, b, c, d, e, f, g]) := P1_of (by simp [Prim.run, aksOk, akOk, chunk, V.pack, vL, vS]) k
@[simp] theorem P1_lstI7 {a b c d e f g : Int} : P1 (.lst [.sc] false 7) [.int .i64 a, .int .i64 b, .int .i64 c, .int .i64 d, .int .i64 e, .int .i64 f, .int .i64 g] k ↔ k (vL I1 v1 [a, b, c, d, e, f, g]) := P1_of (by simp [Prim.run, aksOk, akOk, chunk, V.pack, vL, v1]) k
theorem bytesV_map : ∀ l : List UInt8, bytesV (l.map vY) = some l
  | [] => rfl
  | b :: r => by
    have ih := bytesV_map r
    simp only [List.map_cons, vY, bytesV, Option.map_eq_some_iff]
    exact ⟨r, ih, by simp⟩
@[simp] theorem P1_b2s {l : List UInt8} : P1 .b2s [vL I1 vY l] k ↔ k (.str l) := P1_of (by simp [Prim.run, vL, bytesV_map]) k
end
theorem wrap_u8 {x : Int} (h0 : 0 ≤ x) (h1 : x < 256) : IntKind.u8.wrap x = x := by
  simp [IntKind.wrap, IntKind.bits, IntKind.signed]; omega

theorem spec_l01Figure_ok : ∀ ds outs, F_l01Figure ds = some outs → shL spec_l01Figure_L (qRet outs) ds := F_l01Figure_elim fun n hp => by
  rw [spec_l01Figure_L_sh]
  have w1 : IntKind.i64.wrap (48 + n) = 48 + n := wrap_id (by omega) (by omega)
  have w2 : IntKind.u8.wrap (48 + n) = ((48 + n.toNat : Nat) : Int) := by rw [wrap_u8 (by omega) (by omega)]; omega
  have e : ((UInt8.ofNat (48 + n.toNat)).toNat : Int) = ((48 + n.toNat : Nat) : Int) := by rw [dig_nat (by omega)]
  simp only [P1_lss, ifB_bool, P1_add, P1_conv, w1, w2, e, decide_eq_true_eq, decide_eq_false_iff_not]
  exact ⟨fun _ => by simp, fun h => absurd hp.2 (by omega)⟩
theorem digs_len (u : Nat) (h : u < 10 ^ 20) : (digs u).length ≤ 20 := by
  unfold digs
  split
  · simp
  · exact dec_len 19 u h
theorem spec_FormatInt_ok : ∀ ds outs, F_FormatInt ds = some outs → shL spec_FormatInt_L (qRet outs) ds := F_FormatInt_elim fun n hp => by
  rw [spec_FormatInt_L_sh]
  simp only [P1_eql, ifB_bool, P1_lss, beq_iff_eq, beq_eq_false_iff_ne]
  refine ⟨fun h => by subst h; simp [itoa, dec_small (show 0 < 10 by omega)], fun hn => ?_⟩
  have hL := digs_len n.natAbs (by omega)
  refine loop_st (σ := Int × List UInt8) (fun s => [.int .i64 s.1, .bool (decide (n < 0)), .str s.2]) (fun a b h => by simpa [Prod.ext_iff] using h)
    (fun s => (-9223372036854775808 ≤ s.1 ∧ s.1 ≤ 9223372036854775807) ∧ digs s.1.natAbs ++ s.2 = digs n.natAbs) (fun s => s.1.natAbs) (n, []) rfl ⟨hp, by simp⟩ ?_
  rintro ⟨m, s⟩ ⟨hm, hs⟩
  simp only at hm hs ⊢
  have hsl : s.length ≤ 20 := by have := congrArg List.length hs; rw [List.length_append] at this; omega
  rw [spec_FormatInt_b0_sh]
  simp only [P1_neq, ifB_bool, bne_iff_ne, ne_eq]
  refine ⟨fun h => ?_, fun h => ?_⟩
  · have hd1 : (m.tmod 10).natAbs = m.natAbs % 10 := Int.natAbs_tmod m 10
    have hq1 : (m.tdiv 10).natAbs = m.natAbs / 10 := Int.natAbs_tdiv m 10
    have hu : m.natAbs ≠ 0 := by omega
    have hstep := digs_step hu
    have wq : IntKind.i64.wrap (m.tdiv 10) = m.tdiv 10 := wrap_id (by omega) (by omega)
    have hinv : digs (m.tdiv 10).natAbs ++ (UInt8.ofNat (48 + m.natAbs % 10) :: s) = digs n.natAbs := by
      rw [hq1, ← hs, hstep, List.append_assoc]; rfl
    have hlt : (m.tdiv 10).natAbs < m.natAbs := by rw [hq1]; omega
    simp only [P1_rem, P1_lss, ifB_bool, decide_eq_true_eq, decide_eq_false_iff_not, P1_neg]
    refine ⟨by decide, fun hneg => ?_, fun hneg => ?_⟩
    · have w1 : IntKind.i64.wrap (0 - m.tmod 10) = ((m.natAbs % 10 : Nat) : Int) := by rw [wrap_id (by omega) (by omega)]; omega
      rw [w1, p_l01Figure (by omega)]
      simp only [P1_lstY1, P1_b2s, P1_addS, P1_quo, wq, Int.toNat_natCast, qS_normal, List.length_singleton]
      refine ⟨by omega, by decide, (m.tdiv 10, UInt8.ofNat (48 + m.natAbs % 10) :: s), rfl, ⟨by omega, hinv⟩, hlt⟩
    · have w1 : m.tmod 10 = ((m.natAbs % 10 : Nat) : Int) := by omega
      rw [w1, p_l01Figure (by omega)]
      simp only [P1_lstY1, P1_b2s, P1_addS, P1_quo, wq, Int.toNat_natCast, qS_normal, List.length_singleton]
      refine ⟨by omega, by decide, (m.tdiv 10, UInt8.ofNat (48 + m.natAbs % 10) :: s), rfl, ⟨by omega, hinv⟩, hlt⟩
  · have h0 : m = 0 := by simpa using h
    subst h0
    have hs' : s = decDigits n.natAbs := by
      rw [← List.nil_append s]
      have : digs n.natAbs = decDigits n.natAbs := by unfold digs; rw [if_neg (by omega)]
      rw [← this, ← hs]; rfl
    simp only [qS_exit, qB_exit, if_true, qS_normal, spec_FormatInt_r1_sh, ifB_bool, decide_eq_true_eq, decide_eq_false_iff_not, P1_addS]
    refine ⟨fun hneg => ⟨by simp only [List.length_singleton]; omega, ?_⟩, fun hneg => ?_⟩
    · simp [itoa, hneg, hs']
    · have : n.toNat = n.natAbs := by omega
      simp [itoa, hneg, hs', this]
theorem impl_FormatInt_ok : ∀ ds outs, F_FormatInt ds = some outs → shL impl_FormatInt_L (qRet outs) ds := F_FormatInt_elim fun n hp => by
  rw [impl_FormatInt_L_sh, p_strconv_Itoa hp]
  simp
theorem impl_actWord_ok : ∀ ds outs, F_actWord ds = some outs → shL impl_actWord_L (qRet outs) ds := F_actWord_elim fun n => by
  rw [impl_actWord_L_sh]
  simp only [P1_eql, ifB_bool, beq_iff_eq, beq_eq_false_iff_ne, qRet_ret, actWord]
  refine ⟨fun h => by simp [h], fun h1 => ⟨fun h => by simp [h], fun h2 => ⟨fun h => by simp [h], fun h3 => ⟨fun h => by simp [h], fun h4 => ⟨fun h => by simp [h], fun h5 => ?_⟩⟩⟩⟩⟩
  rw [if_neg h1, if_neg h2, if_neg h3, if_neg h4, if_neg h5]
theorem impl_actNumbers_ok : ∀ ds outs, F_actNumbers ds = some outs → shL impl_actNumbers_L (qRet outs) ds := F_actNumbers_elim fun n => by
  rw [impl_actNumbers_L_sh]
  simp only [P1_eql, ifB_bool, beq_iff_eq, beq_eq_false_iff_ne, qRet_ret, actNums]
  refine ⟨fun h => by simp [h], fun h1 => ⟨fun h => by simp [h], fun h2 => ⟨fun h => by simp [h], fun h3 => ?_⟩⟩⟩
  simp [h1, h2, h3]

theorem actOk_kind {a : T3} (h : actOk a = true) : 1 ≤ a.a ∧ a.a ≤ 6 ∧ (0 ≤ a.b ∧ a.b ≤ 100) ∧ 0 ≤ a.c ∧ a.c ≤ 100 := by
  unfold actOk within at h
  split at h
  · simp at h; omega
  · split at h
    · simp at h; omega
    · split at h
      · simp at h; omega
      · split at h
        · simp at h; omega
        · cases h
theorem itoa_len {n : Int} (h0 : 0 ≤ n) (h1 : n ≤ 100) : (itoa n).length ≤ 21 := Go.Lib.itoa_length_le n (by omega) (by omega)
theorem actWord_len (n : Int) : (actWord n).length ≤ 5 := by
  unfold actWord
  split
  · simp
  · split
    · simp
    · split
      · simp
      · split
        · simp
        · split <;> simp
theorem actNums_le (n : Int) : actNums n ≤ 2 := by
  unfold actNums
  split
  · omega
  · split <;> omega
def fmtTo (a : T3) (k : Nat) : List UInt8 := actWord a.a ++ (if k = 0 then [] else if k = 1 then 32 :: itoa a.b else 32 :: (itoa a.b ++ 32 :: itoa a.c))
theorem fmt_to {a : T3} (h : actOk a = true) : fmtAct a = fmtTo a (actNums a.a) := by
  unfold fmtAct fmtTo
  rw [if_pos h]
  congr 1
  unfold actNums
  split
  · rfl
  · split <;> rfl
theorem spec_FormatAct_ok : ∀ ds outs, F_FormatAct ds = some outs → shL spec_FormatAct_L (qRet outs) ds := F_FormatAct_elim fun a => by
  rw [spec_FormatAct_L_sh]
  simp only [p_ActOk, P1_not, ifB_bool, Bool.not_eq_true', Bool.not_eq_false', qRet_ret]
  refine ⟨fun h => by simp [fmtAct, h], fun h => ?_⟩
  have h : actOk a = true := h
  obtain ⟨k1, k6, ⟨b0, b1⟩, c0, c1⟩ := actOk_kind h
  have w1 : ([[], [112, 105, 110], [112, 117, 108, 108], [98, 97, 99, 107], [119, 105, 110, 100], [112, 108, 97, 121], [99, 108, 111, 115, 101]] : List (List UInt8))[a.a.toNat]? = some (actWord a.a) := by
    obtain e | e | e | e | e | e : a.a = 1 ∨ a.a = 2 ∨ a.a = 3 ∨ a.a = 4 ∨ a.a = 5 ∨ a.a = 6 := by omega
    all_goals rw [e]; rfl
  have w2 : ([0, 2, 1, 0, 1, 0, 0] : List Int)[a.a.toNat]? = some (actNums a.a : Int) := by
    obtain e | e | e | e | e | e : a.a = 1 ∨ a.a = 2 ∨ a.a = 3 ∨ a.a = 4 ∨ a.a = 5 ∨ a.a = 6 := by omega
    all_goals rw [e]; rfl
  have hl2 := actNums_le a.a
  have lw := actWord_len a.a
  have lb := itoa_len b0 b1
  have lc := itoa_len c0 c1
  simp only [P1_lstS7, P1_idxS, w1, w2, P1_lstI7, P1_idxI, P1_lstI2, Option.some.injEq, exists_eq_left']
  refine ⟨by omega, by omega, ?_⟩
  refine loop_upto (actNums a.a) (fun k => [.str (fmtTo a k), .int .i64 (actNums a.a), .int .i64 k, vL I1 v1 [a.b, a.c]]) (fun i j _ _ e => by simp at e; omega) (fun _ => True) (by simp [fmtTo]) trivial ?_
  intro k hk _
  rw [spec_FormatAct_b0_sh]
  simp only [P1_lss, ifB_bool, decide_eq_true_eq, decide_eq_false_iff_not]
  refine ⟨fun h2 => ?_, fun h2 => ?_⟩
  · have hk2 : k < actNums a.a := by omega
    obtain rfl | rfl : k = 0 ∨ k = 1 := by omega
    · simp only [P1_addS, P1_idxI]
      refine ⟨by simp [fmtTo]; omega, by simp, a.b, rfl, ?_⟩
      rw [p_FormatInt (by omega)]
      simp only [P1_addS, P1_add, qS_normal]
      exact ⟨by simp [fmtTo]; omega, hk2, by simp [fmtTo, wrap_id], trivial⟩
    · simp only [P1_addS, P1_idxI]
      refine ⟨by simp [fmtTo]; omega, by simp, a.c, rfl, ?_⟩
      rw [p_FormatInt (by omega)]
      simp only [P1_addS, P1_add, qS_normal]
      exact ⟨by simp [fmtTo]; omega, hk2, by simp [fmtTo, wrap_id], trivial⟩
  · have e : k = actNums a.a := by omega
    subst e
    simp [spec_FormatAct_r1_sh, fmt_to h, h]
end Go.Mw

namespace Go.Mw
open Go.Lib (decDigits itoa)
@[simp] theorem P1_apps {l y : List UInt8} {b : Nat} {k : V → Prop} : P1 (.apps b) [vL I1 vY l, .str y] k ↔ ((l.length + y.length) * b ≤ 140737488355328 ∧ l.length + y.length ≤ 140737488355328) ∧ k (vL I1 vY (l ++ y)) :=
  P1_opt (by simp [Prim.run, vL, I1, show AK.eqs [.sc] [.sc] = true from rfl]; rfl) k
@[simp] theorem P1_apps0 {y : List UInt8} {b : Nat} {k : V → Prop} : P1 (.apps b) [.list [.sc] [], .str y] k ↔ ((([] : List UInt8).length + y.length) * b ≤ 140737488355328 ∧ ([] : List UInt8).length + y.length ≤ 140737488355328) ∧ k (vL I1 vY ([] ++ y)) := P1_apps (l := [])
end Go.Mw

namespace Go.Mw
def gridTo (p : List T2) (y : Int) (n : Nat) : Nat → List UInt8
  | 0 => List.replicate n 46
  | k + 1 => match p[k]? with
    | some q => if q.a = y then (gridTo p y n k).set q.b.toNat 120 else gridTo p y n k
    | none => gridTo p y n k
def gridRow (c : Cyl) (y : Nat) : List UInt8 := gridTo c.p y c.s.toNat c.p.length
def gridUp (c : Cyl) (k : Nat) : List (List UInt8) := (List.range k).map (gridRow c)
def gridText (c : Cyl) : List (List UInt8) := if cylOk c then gridUp c c.t.toNat else []
def E_GridText (x : Cyl) : List V := [.int .i64 x.s, .int .i64 x.t, vL I2 v2 x.p]
noncomputable def F_GridText : List V → Option (List V) := mkF E_GridText (fun x => x.p.length ≤ 1048576) (fun x => [vL I1 vS (gridText x)])
theorem F_GridText_inj : ∀ x y, E_GridText x = E_GridText y → x = y := by
  rintro ⟨xs, xt, xp⟩ ⟨xs', xt', xp'⟩ h
  simpa [E_GridText] using h
theorem F_GridText_elim {P : List V → List V → Prop} (h : ∀ (x : Cyl), (x.p.length ≤ 1048576) → P [.int .i64 x.s, .int .i64 x.t, vL I2 v2 x.p] [vL I1 vS (gridText x)]) : ∀ ds outs, F_GridText ds = some outs → P ds outs := by
  intro ds outs hh
  obtain ⟨x, rfl, hp, rfl⟩ := mkF_inv hh
  exact h x hp
theorem p_GridText {x_s : Int} {x_t : Int} {x_p : List T2} {nr_ : Nat} {kk_ : V → Prop} (hp : (⟨x_s, x_t, x_p⟩ : Cyl).p.length ≤ 1048576) : P1 (.call F_GridText 0 nr_) [.int .i64 x_s, .int .i64 x_t, vL I2 v2 x_p] kk_ ↔ kk_ (vL I1 vS (gridText (⟨x_s, x_t, x_p⟩ : Cyl))) :=
  P1_callF (by unfold F_GridText; exact mkF_eq F_GridText_inj ((⟨x_s, x_t, x_p⟩ : Cyl)) hp)

def sumTurns (w : Shop) : List UInt8 := [116, 117, 114, 110, 115, 32] ++ Go.Lib.itoa w.u
def sumMoney (w : Shop) : List UInt8 := [109, 111, 110, 101, 121, 32] ++ Go.Lib.itoa w.y
def sumPlayed (w : Shop) : List UInt8 := [112, 108, 97, 121, 101, 100, 32] ++ Go.Lib.itoa w.d
def fmtShop (w : Shop) : List (List UInt8) := if shopOk w then gridText ⟨w.s, w.t, w.p⟩ ++ [sumTurns w, sumMoney w, sumPlayed w] else []
def E_FormatWorkshop (x : Shop) : List V := [.int .i64 x.s, .int .i64 x.t, vL I2 v2 x.p, vL IL2 vLL2 x.o, vL I1 v1 x.c, .int .i64 x.u, .int .i64 x.m, .int .i64 x.f, .int .i64 x.y, .int .i64 x.d]
noncomputable def F_FormatWorkshop : List V → Option (List V) := mkF E_FormatWorkshop (fun x => x.p.length ≤ 1048576 ∧ fitLL x.o ∧ x.c.length ≤ 1048576) (fun x => [vL I1 vS (fmtShop x)])
theorem F_FormatWorkshop_inj : ∀ x y, E_FormatWorkshop x = E_FormatWorkshop y → x = y := by
  rintro ⟨xs, xt, xp, xo, xc, xu, xm, xf, xy, xd⟩ ⟨xs', xt', xp', xo', xc', xu', xm', xf', xy', xd'⟩ h
  simpa [E_FormatWorkshop] using h
theorem F_FormatWorkshop_elim {P : List V → List V → Prop} (h : ∀ (x : Shop), (x.p.length ≤ 1048576 ∧ fitLL x.o ∧ x.c.length ≤ 1048576) → P [.int .i64 x.s, .int .i64 x.t, vL I2 v2 x.p, vL IL2 vLL2 x.o, vL I1 v1 x.c, .int .i64 x.u, .int .i64 x.m, .int .i64 x.f, .int .i64 x.y, .int .i64 x.d] [vL I1 vS (fmtShop x)]) : ∀ ds outs, F_FormatWorkshop ds = some outs → P ds outs := by
  intro ds outs hh
  obtain ⟨x, rfl, hp, rfl⟩ := mkF_inv hh
  exact h x hp
theorem p_FormatWorkshop {x_s : Int} {x_t : Int} {x_p : List T2} {x_o : List (List T2)} {x_c : List Int} {x_u : Int} {x_m : Int} {x_f : Int} {x_y : Int} {x_d : Int} {nr_ : Nat} {kk_ : V → Prop} (hp : (⟨x_s, x_t, x_p, x_o, x_c, x_u, x_m, x_f, x_y, x_d⟩ : Shop).p.length ≤ 1048576 ∧ fitLL (⟨x_s, x_t, x_p, x_o, x_c, x_u, x_m, x_f, x_y, x_d⟩ : Shop).o ∧ (⟨x_s, x_t, x_p, x_o, x_c, x_u, x_m, x_f, x_y, x_d⟩ : Shop).c.length ≤ 1048576) : P1 (.call F_FormatWorkshop 0 nr_) [.int .i64 x_s, .int .i64 x_t, vL I2 v2 x_p, vL IL2 vLL2 x_o, vL I1 v1 x_c, .int .i64 x_u, .int .i64 x_m, .int .i64 x_f, .int .i64 x_y, .int .i64 x_d] kk_ ↔ kk_ (vL I1 vS (fmtShop (⟨x_s, x_t, x_p, x_o, x_c, x_u, x_m, x_f, x_y, x_d⟩ : Shop))) :=
  P1_callF (by unfold F_FormatWorkshop; exact mkF_eq F_FormatWorkshop_inj ((⟨x_s, x_t, x_p, x_o, x_c, x_u, x_m, x_f, x_y, x_d⟩ : Shop)) hp)


def E_eqStringS : List (List UInt8) × List (List UInt8) → List V := fun (a, b) => [vL I1 vS a, vL I1 vS b]
noncomputable def F_eqStringS : List V → Option (List V) := mkF E_eqStringS (fun (a, b) => a.length ≤ 1048576 ∧ b.length ≤ 1048576) (fun (a, b) => [.bool (decide (a = b))])
theorem F_eqStringS_inj : ∀ x y, E_eqStringS x = E_eqStringS y → x = y := by
  rintro ⟨a, b⟩ ⟨a', b'⟩ h
  simpa [E_eqStringS] using h
theorem F_eqStringS_elim {P : List V → List V → Prop} (h : ∀ (a : List (List UInt8)) (b : List (List UInt8)), (a.length ≤ 1048576 ∧ b.length ≤ 1048576) → P [vL I1 vS a, vL I1 vS b] [.bool (decide (a = b))]) : ∀ ds outs, F_eqStringS ds = some outs → P ds outs := by
  intro ds outs hh
  obtain ⟨⟨a, b⟩, rfl, hp, rfl⟩ := mkF_inv hh
  exact h a b hp
theorem p_eqStringS {a : List (List UInt8)} {b : List (List UInt8)} {nr_ : Nat} {kk_ : V → Prop} (hp : a.length ≤ 1048576 ∧ b.length ≤ 1048576) : P1 (.call F_eqStringS 0 nr_) [vL I1 vS a, vL I1 vS b] kk_ ↔ kk_ (.bool (decide (a = b))) :=
  P1_callF (by unfold F_eqStringS; exact mkF_eq F_eqStringS_inj (a, b) hp)

def markT (n : Int) : List UInt8 := if n ≤ 0 then [109, 48] else 109 :: Go.Lib.decDigits n.toNat
def E_markText (n : Int) : List V := [.int .i64 n]
noncomputable def F_markText : List V → Option (List V) := mkF E_markText (fun n => n ≤ 9223372036854775807) (fun n => [.str (markT n)])
theorem F_markText_inj : ∀ x y, E_markText x = E_markText y → x = y := by
  rintro n n' h
  simpa [E_markText] using h
theorem F_markText_elim {P : List V → List V → Prop} (h : ∀ (n : Int), (n ≤ 9223372036854775807) → P [.int .i64 n] [.str (markT n)]) : ∀ ds outs, F_markText ds = some outs → P ds outs := by
  intro ds outs hh
  obtain ⟨n, rfl, hp, rfl⟩ := mkF_inv hh
  exact h n hp
theorem p_markText {n : Int} {nr_ : Nat} {kk_ : V → Prop} (hp : n ≤ 9223372036854775807) : P1 (.call F_markText 0 nr_) [.int .i64 n] kk_ ↔ kk_ (.str (markT n)) :=
  P1_callF (by unfold F_markText; exact mkF_eq F_markText_inj (n) hp)

def markLS (n : Nat) (k : Int) : List (List UInt8) := (List.range n).map fun i : Nat => markT (k + (i : Int))
def E_markStringS : List (List UInt8) × Int → List V := fun (l, k) => [vL I1 vS l, .int .i64 k]
noncomputable def F_markStringS : List V → Option (List V) := mkF E_markStringS (fun (l, k) => l.length ≤ 4194304 ∧ 0 ≤ k ∧ k ≤ 1099511627776) (fun (l, k) => [.int .i64 (k + 1 * l.length), vL I1 vS (markLS l.length k)])
theorem F_markStringS_inj : ∀ x y, E_markStringS x = E_markStringS y → x = y := by
  rintro ⟨l, k⟩ ⟨l', k'⟩ h
  simpa [E_markStringS] using h
theorem F_markStringS_elim {P : List V → List V → Prop} (h : ∀ (l : List (List UInt8)) (k : Int), (l.length ≤ 4194304 ∧ 0 ≤ k ∧ k ≤ 1099511627776) → P [vL I1 vS l, .int .i64 k] [.int .i64 (k + 1 * l.length), vL I1 vS (markLS l.length k)]) : ∀ ds outs, F_markStringS ds = some outs → P ds outs := by
  intro ds outs hh
  obtain ⟨⟨l, k⟩, rfl, hp, rfl⟩ := mkF_inv hh
  exact h l k hp
theorem p_markStringS {l : List (List UInt8)} {k : Int} {kk_ : V → V → Prop} (hp : l.length ≤ 4194304 ∧ 0 ≤ k ∧ k ≤ 1099511627776) : P2 (.call F_markStringS 1 1) [vL I1 vS l, .int .i64 k, vL I1 vS l] kk_ ↔ kk_ (.int .i64 (k + 1 * l.length)) (vL I1 vS (markLS l.length k)) :=
  P2_of (callIo_run (as := [vL I1 vS l, .int .i64 k]) (rs := [vL I1 vS l]) (n := 1) (nr := 1) rfl (by simp) (by unfold F_markStringS; exact mkF_eq F_markStringS_inj (l, k) hp) (by simp [ksAll, vL, AK.eqs_refl]) rfl)

def E_heldStringS : List (List UInt8) × Int → List V := fun (l, k) => [vL I1 vS l, .int .i64 k]
noncomputable def F_heldStringS : List V → Option (List V) := mkF E_heldStringS (fun (l, k) => l.length ≤ 4194304 ∧ 0 ≤ k ∧ k ≤ 1099511627776) (fun (l, k) => [.int .i64 (if l = markLS l.length k then k + 1 * l.length else -1)])
theorem F_heldStringS_inj : ∀ x y, E_heldStringS x = E_heldStringS y → x = y := by
  rintro ⟨l, k⟩ ⟨l', k'⟩ h
  simpa [E_heldStringS] using h
theorem F_heldStringS_elim {P : List V → List V → Prop} (h : ∀ (l : List (List UInt8)) (k : Int), (l.length ≤ 4194304 ∧ 0 ≤ k ∧ k ≤ 1099511627776) → P [vL I1 vS l, .int .i64 k] [.int .i64 (if l = markLS l.length k then k + 1 * l.length else -1)]) : ∀ ds outs, F_heldStringS ds = some outs → P ds outs := by
  intro ds outs hh
  obtain ⟨⟨l, k⟩, rfl, hp, rfl⟩ := mkF_inv hh
  exact h l k hp
theorem p_heldStringS {l : List (List UInt8)} {k : Int} {nr_ : Nat} {kk_ : V → Prop} (hp : l.length ≤ 4194304 ∧ 0 ≤ k ∧ k ≤ 1099511627776) : P1 (.call F_heldStringS 0 nr_) [vL I1 vS l, .int .i64 k] kk_ ↔ kk_ (.int .i64 (if l = markLS l.length k then k + 1 * l.length else -1)) :=
  P1_callF (by unfold F_heldStringS; exact mkF_eq F_heldStringS_inj (l, k) hp)


end Go.Mw

namespace Go.Mw
noncomputable section
def spec_GridText_b1 : L := .seq (.seq (.seq (.rg [zb .lss 1 4]) (.ite (.v 7) (.skip) (.seq (zt [0, 2, 3, 4, 5, 6]) (.exit 2)))) (.seq (.block 3 (.seq (.rg [⟨[], .lst [.sc] false 1, [.k (.int .u8 46)], 1⟩, ⟨[], .app [.sc] 1, [.v 3, .v 8], 1⟩]) (zt [0, 1, 2, 9, 4, 5, 6]))) (.rg [zk .add 1 1]))) (zt [0, 7, 2, 3, 4, 5, 6])
theorem spec_GridText_b1_sh (Q : QT) (x0 x1 x2 x3 x4 x5 x6 : V) : shL spec_GridText_b1 Q [x0, x1, x2, x3, x4, x5, x6] = (
  P1 (.bin .lss) [x1, x4] fun v0 =>
  ifB v0 (
    P1 (.lst [.sc] false 1) [.int .u8 46] fun v1 =>
    P1 (.app [.sc] 1) [x3, v1] fun v2 =>
    P1 (.bin .add) [x1, .int .i64 1] fun v3 =>
    Q .normal [x0, v3, x2, v2, x4, x5, x6]) (
    Q (.exit 2) [x0, x2, x3, x4, x5, x6])) := by kernel_rfl

def spec_GridText_b3 : L := .seq (.seq (.seq (.rg [zl 6, zb .lss 1 7]) (.ite (.v 8) (.skip) (.seq (zt [0, 2, 3, 4, 5, 6]) (.exit 4)))) (.seq (.block 5 (.seq (.seq (.rg [zj 6 1, zb .eql 9 0]) (.ite (.v 11) (.seq (.rg [zj 6 1, zi 3 13, ⟨[], .set [.sc] 0, [.v 3, .v 13, .k (.int .u8 120)], 1⟩]) (zt [0, 1, 2, 15, 4, 5, 6])) (.seq (.skip) (zt [0, 1, 2, 3, 4, 5, 6])))) (zt [0, 1, 2, 3, 4, 5, 6]))) (.rg [zk .add 1 1]))) (zt [0, 7, 2, 3, 4, 5, 6])
theorem spec_GridText_b3_sh (Q : QT) (x0 x1 x2 x3 x4 x5 x6 : V) : shL spec_GridText_b3 Q [x0, x1, x2, x3, x4, x5, x6] = (
  P1 (.len) [x6] fun v0 =>
  P1 (.bin .lss) [x1, v0] fun v1 =>
  ifB v1 (
    P2 (.idx [.sc, .sc]) [x6, x1] fun v2 _ =>
    P1 (.bin .eql) [v2, x0] fun v4 =>
    ifB v4 (
      P2 (.idx [.sc, .sc]) [x6, x1] fun _ v6 =>
      P1 (.idx [.sc]) [x3, v6] fun _ =>
      P1 (.set [.sc] 0) [x3, v6, .int .u8 120] fun v8 =>
      P1 (.bin .add) [x1, .int .i64 1] fun v9 =>
      Q .normal [x0, v9, x2, v8, x4, x5, x6]) (
      P1 (.bin .add) [x1, .int .i64 1] fun v10 =>
      Q .normal [x0, v10, x2, x3, x4, x5, x6])) (
    Q (.exit 4) [x0, x2, x3, x4, x5, x6])) := by kernel_rfl

def spec_GridText_r4 : L := .rg [⟨[], .b2s, [.v 2], 1⟩, ⟨[], .lst [.sc] false 1, [.v 6], 1⟩, ⟨[], .app [.sc] 16, [.v 1, .v 7], 1⟩]
theorem spec_GridText_r4_sh (Q : QT) (x0 x1 x2 x3 x4 x5 : V) : shL spec_GridText_r4 Q [x0, x1, x2, x3, x4, x5] = (
  P1 (.b2s) [x2] fun v0 =>
  P1 (.lst [.sc] false 1) [v0] fun v1 =>
  P1 (.app [.sc] 16) [x1, v1] fun v2 =>
  Q .normal [x0, x1, x2, x3, x4, x5, v0, v1, v2]) := by kernel_rfl

def spec_GridText_r2 : L := .seq (.seq (.rg []) (.block 4 (.seq (.tup [.v 0, .k (.int .i64 0), .v 1, .v 2, .v 3, .v 4, .v 5]) (.loop (spec_GridText_b3))))) (spec_GridText_r4)
theorem spec_GridText_r2_sh (Q : QT) (x0 x1 x2 x3 x4 x5 : V) : shL spec_GridText_r2 Q [x0, x1, x2, x3, x4, x5] = (
  shL (.loop spec_GridText_b3) (qB 4 (qS (shL spec_GridText_r4 Q) Q)) [x0, .int .i64 0, x1, x2, x3, x4, x5]) := by kernel_rfl

def spec_GridText_r5 : L := zt [0, 8, 3, 4, 5]
theorem spec_GridText_r5_sh (Q : QT) (x0 x1 x2 x3 x4 x5 x6 x7 x8 : V) : shL spec_GridText_r5 Q [x0, x1, x2, x3, x4, x5, x6, x7, x8] = (
  Q .normal [x0, x8, x3, x4, x5]) := by kernel_rfl

def spec_GridText_r6 : L := .rg [zk .add 0 1]
theorem spec_GridText_r6_sh (Q : QT) (x0 x1 x2 x3 x4 : V) : shL spec_GridText_r6 Q [x0, x1, x2, x3, x4] = (
  P1 (.bin .add) [x0, .int .i64 1] fun v0 =>
  Q .normal [x0, x1, x2, x3, x4, v0]) := by kernel_rfl

def spec_GridText_r7 : L := zt [5, 1, 2, 3, 4]
theorem spec_GridText_r7_sh (Q : QT) (x0 x1 x2 x3 x4 x5 : V) : shL spec_GridText_r7 Q [x0, x1, x2, x3, x4, x5] = (
  Q .normal [x5, x1, x2, x3, x4]) := by kernel_rfl

def spec_GridText_b0 : L := .seq (.seq (.seq (.rg [zb .lss 0 3, ⟨[(.v 5, true)], .call F_CylinderOk 0 1, [.v 2, .v 3, .v 4], 1⟩, ⟨[], .pick, [.v 5, .v 6, .k (.bool false)], 1⟩]) (.ite (.v 7) (.skip) (.seq (zt [1]) (.exit 0)))) (.seq (.block 1 (.seq (.seq (.rg [⟨[], .lst [.sc] false 0, [], 1⟩]) (.seq (.seq (.rg []) (.block 2 (.seq (.tup [.v 0, .k (.int .i64 0), .v 1, .v 8, .v 2, .v 3, .v 4]) (.loop (spec_GridText_b1))))) (spec_GridText_r2))) (spec_GridText_r5))) (spec_GridText_r6))) (spec_GridText_r7)
theorem spec_GridText_b0_sh (Q : QT) (x0 x1 x2 x3 x4 : V) : shL spec_GridText_b0 Q [x0, x1, x2, x3, x4] = (
  P1 (.bin .lss) [x0, x3] fun v0 =>
  ifB v0 (
    P1 (.call F_CylinderOk 0 1) [x2, x3, x4] fun v1 =>
    ifB v1 (
      P1 (.lst [.sc] false 0) [] fun v2 =>
      shL (.loop spec_GridText_b1) (qB 2 (qS (shL spec_GridText_r2 (qS (shL spec_GridText_r5 (qB 1 (qS (shL spec_GridText_r6 (qS (shL spec_GridText_r7 Q) Q)) (qS (shL spec_GridText_r7 Q) Q)))) (qB 1 (qS (shL spec_GridText_r6 (qS (shL spec_GridText_r7 Q) Q)) (qS (shL spec_GridText_r7 Q) Q))))) (qS (shL spec_GridText_r5 (qB 1 (qS (shL spec_GridText_r6 (qS (shL spec_GridText_r7 Q) Q)) (qS (shL spec_GridText_r7 Q) Q)))) (qB 1 (qS (shL spec_GridText_r6 (qS (shL spec_GridText_r7 Q) Q)) (qS (shL spec_GridText_r7 Q) Q)))))) [x0, .int .i64 0, x1, v2, x2, x3, x4]) (
      Q (.exit 0) [x1])) (
    Q (.exit 0) [x1])) := by kernel_rfl

def spec_GridText_r8 : L := .seq (.rg []) (.ret [.v 0])
theorem spec_GridText_r8_sh (Q : QT) (x0 : V) : shL spec_GridText_r8 Q [x0] = (
  Q .ret [x0]) := by kernel_rfl

def spec_GridText_L : L := .seq (.rg []) (.seq (.rg [⟨[], .lst [.sc] false 0, [], 1⟩]) (.seq (.seq (.rg []) (.block 0 (.seq (.tup [.k (.int .i64 0), .v 3, .v 0, .v 1, .v 2]) (.loop (spec_GridText_b0))))) (spec_GridText_r8)))
theorem spec_GridText_L_sh (Q : QT) (x0 x1 x2 : V) : shL spec_GridText_L Q [x0, x1, x2] = (
  P1 (.lst [.sc] false 0) [] fun v0 =>
  shL (.loop spec_GridText_b0) (qB 0 (qS (shL spec_GridText_r8 Q) Q)) [.int .i64 0, v0, x0, x1, x2]) := by kernel_rfl
def spec_GridText_S : Sig := ⟨[.val true [.sc, .sc, .sl [.sc, .sc]]], [(false, [.sl [.sc]])], F_GridText⟩
def spec_GridText_hs : List NF := [⟨[(3, zo 64)], [(64, true, [.sc])], [], 65⟩, ⟨[(1, .ptr 64 0), (3, zo 65), (4, zs)], [(65, true, [.sc])], [(64, [.sc, .sc, .ro [.sc, .sc]])], 66⟩, ⟨[(1, .ptr 64 0), (3, zo 65), (4, zs)], [(65, true, [.sc])], [(64, [.sc, .sc, .ro [.sc, .sc]])], 66⟩, ⟨[(1, .ptr 64 0), (3, zo 65), (4, zs), (5, zo 66)], [(65, true, [.sc]), (66, true, [.sc])], [(64, [.sc, .sc, .ro [.sc, .sc]])], 67⟩, ⟨[(1, .ptr 64 0), (3, zo 65), (4, zs), (5, zo 66), (6, zs)], [(65, true, [.sc]), (66, true, [.sc])], [(64, [.sc, .sc, .ro [.sc, .sc]])], 67⟩, ⟨[(1, .ptr 64 0), (3, zo 65), (4, zs), (5, zo 66), (6, zs)], [(65, true, [.sc]), (66, true, [.sc])], [(64, [.sc, .sc, .ro [.sc, .sc]])], 67⟩, ⟨[(1, .ptr 64 0), (3, zo 65), (4, zs), (5, zo 66)], [(65, true, [.sc]), (66, true, [.sc])], [(64, [.sc, .sc, .ro [.sc, .sc]])], 67⟩, ⟨[(1, .ptr 64 0), (3, zo 65), (4, zs), (5, zo 66), (7, zs)], [(65, true, [.sc]), (66, true, [.sc])], [(64, [.sc, .sc, .ro [.sc, .sc]])], 67⟩, ⟨[(1, .ptr 64 0), (3, zo 65), (4, zs), (5, zo 66), (7, zs)], [(65, true, [.sc]), (66, true, [.sc])], [(64, [.sc, .sc, .ro [.sc, .sc]])], 67⟩, ⟨[(1, .ptr 64 0), (3, zo 65), (4, zs), (5, zo 66), (7, zs)], [(65, true, [.sc]), (66, true, [.sc])], [(64, [.sc, .sc, .ro [.sc, .sc]])], 67⟩]

def spec_FormatWorkshop_L : L := .seq (.rg []) (.seq (.seq (.rg [zc F_WorkshopOk 1 [0, 1, 2, 3, 4, 5, 6, 7, 8, 9], zn 10]) (.ite (.v 11) (.seq (.rg [⟨[], .lst [.sc] false 0, [], 1⟩]) (.ret [.v 12])) (.skip))) (.seq (.rg [zc F_GridText 1 [0, 1, 2], zc F_FormatInt 1 [5], ⟨[], .bin .add, [.k (.str [116, 117, 114, 110, 115, 32]), .v 13], 1⟩, zc F_FormatInt 1 [8], ⟨[], .bin .add, [.k (.str [109, 111, 110, 101, 121, 32]), .v 15], 1⟩, zc F_FormatInt 1 [9], ⟨[], .bin .add, [.k (.str [112, 108, 97, 121, 101, 100, 32]), .v 17], 1⟩, ⟨[], .lst [.sc] false 3, [.v 14, .v 16, .v 18], 1⟩, ⟨[], .app [.sc] 16, [.v 12, .v 19], 1⟩]) (.ret [.v 20])))
theorem spec_FormatWorkshop_L_sh (Q : QT) (x0 x1 x2 x3 x4 x5 x6 x7 x8 x9 : V) : shL spec_FormatWorkshop_L Q [x0, x1, x2, x3, x4, x5, x6, x7, x8, x9] = (
  P1 (.call F_WorkshopOk 0 1) [x0, x1, x2, x3, x4, x5, x6, x7, x8, x9] fun v0 =>
  P1 (.un .not) [v0] fun v1 =>
  ifB v1 (
    P1 (.lst [.sc] false 0) [] fun v2 =>
    Q .ret [v2]) (
    P1 (.call F_GridText 0 1) [x0, x1, x2] fun v3 =>
    P1 (.call F_FormatInt 0 1) [x5] fun v4 =>
    P1 (.bin .add) [.str [116, 117, 114, 110, 115, 32], v4] fun v5 =>
    P1 (.call F_FormatInt 0 1) [x8] fun v6 =>
    P1 (.bin .add) [.str [109, 111, 110, 101, 121, 32], v6] fun v7 =>
    P1 (.call F_FormatInt 0 1) [x9] fun v8 =>
    P1 (.bin .add) [.str [112, 108, 97, 121, 101, 100, 32], v8] fun v9 =>
    P1 (.lst [.sc] false 3) [v5, v7, v9] fun v10 =>
    P1 (.app [.sc] 16) [v3, v10] fun v11 =>
    Q .ret [v11])) := by kernel_rfl
def spec_FormatWorkshop_S : Sig := ⟨[.val true [.sc, .sc, .sl [.sc, .sc], .sl [.sl [.sc, .sc]], .sl [.sc], .sc, .sc, .sc, .sc, .sc]], [(false, [.sl [.sc]])], F_FormatWorkshop⟩
def spec_FormatWorkshop_hs : List NF := []

def impl_GridText_b1 : L := .seq (.seq (.rg [zb .lss 3 2]) (.seq (.ite (.v 9) (.skip) (.seq (zt [0, 4, 5, 6, 7, 8]) (.exit 2))) (.seq (.block 3 (.seq (.seq (.rg [zj 1 3]) (.seq (.rg [zb .eql 10 0]) (.ite (.v 12) (.seq (.rg [zi 5 11, ⟨[], .set [.sc] 0, [.v 5, .v 11, .k (.int .u8 120)], 1⟩]) (zt [0, 1, 2, 3, 4, 14, 6, 7, 8])) (.seq (.skip) (zt [0, 1, 2, 3, 4, 5, 6, 7, 8]))))) (zt [0, 1, 2, 3, 4, 5, 6, 7, 8]))) (.rg [zk .add 3 1])))) (zt [0, 1, 2, 9, 4, 5, 6, 7, 8])
theorem impl_GridText_b1_sh (Q : QT) (x0 x1 x2 x3 x4 x5 x6 x7 x8 : V) : shL impl_GridText_b1 Q [x0, x1, x2, x3, x4, x5, x6, x7, x8] = (
  P1 (.bin .lss) [x3, x2] fun v0 =>
  ifB v0 (
    P2 (.idx [.sc, .sc]) [x1, x3] fun v1 v2 =>
    P1 (.bin .eql) [v1, x0] fun v3 =>
    ifB v3 (
      P1 (.idx [.sc]) [x5, v2] fun _ =>
      P1 (.set [.sc] 0) [x5, v2, .int .u8 120] fun v5 =>
      P1 (.bin .add) [x3, .int .i64 1] fun v6 =>
      Q .normal [x0, x1, x2, v6, x4, v5, x6, x7, x8]) (
      P1 (.bin .add) [x3, .int .i64 1] fun v7 =>
      Q .normal [x0, x1, x2, v7, x4, x5, x6, x7, x8])) (
    Q (.exit 2) [x0, x4, x5, x6, x7, x8])) := by kernel_rfl

def impl_GridText_r2 : L := .rg [⟨[], .b2s, [.v 2], 1⟩, ⟨[], .lst [.sc] false 1, [.v 6], 1⟩, ⟨[], .app [.sc] 16, [.v 1, .v 7], 1⟩]
theorem impl_GridText_r2_sh (Q : QT) (x0 x1 x2 x3 x4 x5 : V) : shL impl_GridText_r2 Q [x0, x1, x2, x3, x4, x5] = (
  P1 (.b2s) [x2] fun v0 =>
  P1 (.lst [.sc] false 1) [v0] fun v1 =>
  P1 (.app [.sc] 16) [x1, v1] fun v2 =>
  Q .normal [x0, x1, x2, x3, x4, x5, v0, v1, v2]) := by kernel_rfl

def impl_GridText_r3 : L := zt [0, 8, 3, 4, 5]
theorem impl_GridText_r3_sh (Q : QT) (x0 x1 x2 x3 x4 x5 x6 x7 x8 : V) : shL impl_GridText_r3 Q [x0, x1, x2, x3, x4, x5, x6, x7, x8] = (
  Q .normal [x0, x8, x3, x4, x5]) := by kernel_rfl

def impl_GridText_r4 : L := .rg [zk .add 0 1]
theorem impl_GridText_r4_sh (Q : QT) (x0 x1 x2 x3 x4 : V) : shL impl_GridText_r4 Q [x0, x1, x2, x3, x4] = (
  P1 (.bin .add) [x0, .int .i64 1] fun v0 =>
  Q .normal [x0, x1, x2, x3, x4, v0]) := by kernel_rfl

def impl_GridText_r5 : L := zt [5, 1, 2, 3, 4]
theorem impl_GridText_r5_sh (Q : QT) (x0 x1 x2 x3 x4 x5 : V) : shL impl_GridText_r5 Q [x0, x1, x2, x3, x4, x5] = (
  Q .normal [x5, x1, x2, x3, x4]) := by kernel_rfl

def impl_GridText_b0 : L := .seq (.seq (.seq (.rg [zb .lss 0 3]) (.ite (.v 5) (.skip) (.seq (zt [1]) (.exit 0)))) (.seq (.block 1 (.seq (.seq (.rg [⟨[], .call F_strings_Repeat 0 1, [.k (.str [46]), .v 2], 1⟩, ⟨[], .s2b 1, [.v 6], 1⟩]) (.seq (.seq (.rg [zl 4]) (.block 2 (.seq (.tup [.v 0, .v 4, .v 8, .k (.int .i64 0), .v 1, .v 7, .v 2, .v 3, .v 4]) (.loop (impl_GridText_b1))))) (impl_GridText_r2))) (impl_GridText_r3))) (impl_GridText_r4))) (impl_GridText_r5)
theorem impl_GridText_b0_sh (Q : QT) (x0 x1 x2 x3 x4 : V) : shL impl_GridText_b0 Q [x0, x1, x2, x3, x4] = (
  P1 (.bin .lss) [x0, x3] fun v0 =>
  ifB v0 (
    P1 (.call F_strings_Repeat 0 1) [.str [46], x2] fun v1 =>
    P1 (.s2b 1) [v1] fun v2 =>
    P1 (.len) [x4] fun v3 =>
    shL (.loop impl_GridText_b1) (qB 2 (qS (shL impl_GridText_r2 (qS (shL impl_GridText_r3 (qB 1 (qS (shL impl_GridText_r4 (qS (shL impl_GridText_r5 Q) Q)) (qS (shL impl_GridText_r5 Q) Q)))) (qB 1 (qS (shL impl_GridText_r4 (qS (shL impl_GridText_r5 Q) Q)) (qS (shL impl_GridText_r5 Q) Q))))) (qS (shL impl_GridText_r3 (qB 1 (qS (shL impl_GridText_r4 (qS (shL impl_GridText_r5 Q) Q)) (qS (shL impl_GridText_r5 Q) Q)))) (qB 1 (qS (shL impl_GridText_r4 (qS (shL impl_GridText_r5 Q) Q)) (qS (shL impl_GridText_r5 Q) Q)))))) [x0, x4, v3, .int .i64 0, x1, v2, x2, x3, x4]) (
    Q (.exit 0) [x1])) := by kernel_rfl

def impl_GridText_r6 : L := .seq (.rg []) (.ret [.v 0])
theorem impl_GridText_r6_sh (Q : QT) (x0 : V) : shL impl_GridText_r6 Q [x0] = (
  Q .ret [x0]) := by kernel_rfl

def impl_GridText_L : L := .seq (.rg []) (.seq (.seq (.rg [zc F_CylinderOk 1 [0, 1, 2], zn 3]) (.ite (.v 4) (.seq (.rg []) (.ret [.k (.list [.sc] [])])) (.skip))) (.seq (.rg [⟨[], .lst [.sc] false 0, [], 1⟩]) (.seq (.seq (.rg []) (.block 0 (.seq (.tup [.k (.int .i64 0), .v 5, .v 0, .v 1, .v 2]) (.loop (impl_GridText_b0))))) (impl_GridText_r6))))
theorem impl_GridText_L_sh (Q : QT) (x0 x1 x2 : V) : shL impl_GridText_L Q [x0, x1, x2] = (
  P1 (.call F_CylinderOk 0 1) [x0, x1, x2] fun v0 =>
  P1 (.un .not) [v0] fun v1 =>
  ifB v1 (
    Q .ret [.list [.sc] []]) (
    P1 (.lst [.sc] false 0) [] fun v2 =>
    shL (.loop impl_GridText_b0) (qB 0 (qS (shL impl_GridText_r6 Q) Q)) [.int .i64 0, v2, x0, x1, x2])) := by kernel_rfl
def impl_GridText_S : Sig := ⟨[.val true [.sc, .sc, .sl [.sc, .sc]]], [(false, [.sl [.sc]])], F_GridText⟩
def impl_GridText_hs : List NF := [⟨[(3, zo 64)], [(64, true, [.sc])], [], 65⟩, ⟨[(1, .ptr 64 0), (3, zo 65), (4, zs)], [(65, true, [.sc])], [(64, [.sc, .sc, .ro [.sc, .sc]])], 66⟩, ⟨[(1, .ptr 64 0), (3, zo 65), (4, zs)], [(65, true, [.sc])], [(64, [.sc, .sc, .ro [.sc, .sc]])], 66⟩, ⟨[(1, .ptr 64 0), (3, zo 65), (4, zs), (5, zo 66)], [(65, true, [.sc]), (66, true, [.sc])], [(64, [.sc, .sc, .ro [.sc, .sc]])], 67⟩, ⟨[(1, .ptr 64 0), (3, zo 65), (4, zs), (5, zo 66), (23, zq), (24, zs), (25, zs)], [(65, true, [.sc]), (66, true, [.sc])], [(64, [.sc, .sc, .ro [.sc, .sc]])], 67⟩, ⟨[(1, .ptr 64 0), (3, zo 65), (4, zs), (5, zo 66), (23, zq), (24, zs), (25, zs)], [(65, true, [.sc]), (66, true, [.sc])], [(64, [.sc, .sc, .ro [.sc, .sc]])], 67⟩, ⟨[(1, .ptr 64 0), (3, zo 65), (4, zs), (5, zo 66), (23, zq), (24, zs), (25, zs)], [(65, true, [.sc]), (66, true, [.sc])], [(64, [.sc, .sc, .ro [.sc, .sc]])], 67⟩]

def impl_FormatWorkshop_L : L := .seq (.rg []) (.seq (.seq (.rg [zc F_WorkshopOk 1 [0, 1, 2, 3, 4, 5, 6, 7, 8, 9], zn 10]) (.ite (.v 11) (.seq (.rg []) (.ret [.k (.list [.sc] [])])) (.skip))) (.seq (.rg [zc F_GridText 1 [0, 1, 2]]) (.seq (.rg [zc F_FormatInt 1 [5], ⟨[], .bin .add, [.k (.str [116, 117, 114, 110, 115, 32]), .v 13], 1⟩, zc F_FormatInt 1 [8], ⟨[], .bin .add, [.k (.str [109, 111, 110, 101, 121, 32]), .v 15], 1⟩, ⟨[], .lst [.sc] false 2, [.v 14, .v 16], 1⟩, ⟨[], .app [.sc] 16, [.v 12, .v 17], 1⟩]) (.seq (.rg [zc F_FormatInt 1 [9], ⟨[], .bin .add, [.k (.str [112, 108, 97, 121, 101, 100, 32]), .v 19], 1⟩, ⟨[], .lst [.sc] false 1, [.v 20], 1⟩, ⟨[], .app [.sc] 16, [.v 18, .v 21], 1⟩]) (.ret [.v 22])))))
theorem impl_FormatWorkshop_L_sh (Q : QT) (x0 x1 x2 x3 x4 x5 x6 x7 x8 x9 : V) : shL impl_FormatWorkshop_L Q [x0, x1, x2, x3, x4, x5, x6, x7, x8, x9] = (
  P1 (.call F_WorkshopOk 0 1) [x0, x1, x2, x3, x4, x5, x6, x7, x8, x9] fun v0 =>
  P1 (.un .not) [v0] fun v1 =>
  ifB v1 (
    Q .ret [.list [.sc] []]) (
    P1 (.call F_GridText 0 1) [x0, x1, x2] fun v2 =>
    P1 (.call F_FormatInt 0 1) [x5] fun v3 =>
    P1 (.bin .add) [.str [116, 117, 114, 110, 115, 32], v3] fun v4 =>
    P1 (.call F_FormatInt 0 1) [x8] fun v5 =>
    P1 (.bin .add) [.str [109, 111, 110, 101, 121, 32], v5] fun v6 =>
    P1 (.lst [.sc] false 2) [v4, v6] fun v7 =>
    P1 (.app [.sc] 16) [v2, v7] fun v8 =>
    P1 (.call F_FormatInt 0 1) [x9] fun v9 =>
    P1 (.bin .add) [.str [112, 108, 97, 121, 101, 100, 32], v9] fun v10 =>
    P1 (.lst [.sc] false 1) [v10] fun v11 =>
    P1 (.app [.sc] 16) [v8, v11] fun v12 =>
    Q .ret [v12])) := by kernel_rfl
def impl_FormatWorkshop_S : Sig := ⟨[.val true [.sc, .sc, .sl [.sc, .sc], .sl [.sl [.sc, .sc]], .sl [.sc], .sc, .sc, .sc, .sc, .sc]], [(false, [.sl [.sc]])], F_FormatWorkshop⟩
def impl_FormatWorkshop_hs : List NF := []

def laws_eqStringS_b0 : L := .seq (.seq (.seq (.rg [zl 0, zb .lss 2 3]) (.ite (.v 4) (.skip) (.seq (.tup []) (.exit 0)))) (.seq (.block 1 (.seq (.seq (.rg [zi 0 2, zi 1 2, zb .neq 5 6]) (.ite (.v 7) (.seq (.rg []) (.ret [.k (.bool false)])) (.skip))) (zt [0, 1, 2]))) (.rg [zk .add 2 1]))) (zt [0, 1, 3])
theorem laws_eqStringS_b0_sh (Q : QT) (x0 x1 x2 : V) : shL laws_eqStringS_b0 Q [x0, x1, x2] = (
  P1 (.len) [x0] fun v0 =>
  P1 (.bin .lss) [x2, v0] fun v1 =>
  ifB v1 (
    P1 (.idx [.sc]) [x0, x2] fun v2 =>
    P1 (.idx [.sc]) [x1, x2] fun v3 =>
    P1 (.bin .neq) [v2, v3] fun v4 =>
    ifB v4 (
      Q .ret [.bool false]) (
      P1 (.bin .add) [x2, .int .i64 1] fun v5 =>
      Q .normal [x0, x1, v5])) (
    Q (.exit 0) [])) := by kernel_rfl

def laws_eqStringS_r1 : L := .seq (.rg []) (.ret [.k (.bool true)])
theorem laws_eqStringS_r1_sh (Q : QT) : shL laws_eqStringS_r1 Q [] = (
  Q .ret [.bool true]) := by kernel_rfl

def laws_eqStringS_L : L := .seq (.rg []) (.seq (.seq (.rg [zl 0, zl 1, zb .neq 2 3]) (.ite (.v 4) (.seq (.rg []) (.ret [.k (.bool false)])) (.skip))) (.seq (.seq (.rg []) (.block 0 (.seq (.tup [.v 0, .v 1, .k (.int .i64 0)]) (.loop (laws_eqStringS_b0))))) (laws_eqStringS_r1)))
theorem laws_eqStringS_L_sh (Q : QT) (x0 x1 : V) : shL laws_eqStringS_L Q [x0, x1] = (
  P1 (.len) [x0] fun v0 =>
  P1 (.len) [x1] fun v1 =>
  P1 (.bin .neq) [v0, v1] fun v2 =>
  ifB v2 (
    Q .ret [.bool false]) (
    shL (.loop laws_eqStringS_b0) (qB 0 (qS (shL laws_eqStringS_r1 Q) Q)) [x0, x1, .int .i64 0])) := by kernel_rfl
def laws_eqStringS_S : Sig := ⟨[.val false [.sl [.sc]], .val false [.sl [.sc]]], [(false, [.sc])], F_eqStringS⟩
def laws_eqStringS_hs : List NF := [⟨[], [], [], 64⟩, ⟨[(0, zr), (1, zr), (5, zs)], [], [], 64⟩, ⟨[(0, zr), (1, zr), (5, zs)], [], [], 64⟩]

def laws_markText_b0 : L := .seq (.seq (.seq (.rg [zk .gtr 0 0]) (.ite (.v 2) (.skip) (.seq (zt [1]) (.exit 0)))) (.block 1 (.seq (.seq (.rg [zk .rem 0 10, ⟨[], .bin .add, [.k (.int .i64 48), .v 3], 1⟩, ⟨[], .conv .u8, [.v 4], 1⟩, ⟨[], .lst [.sc] false 1, [.v 5], 1⟩, ⟨[], .b2s, [.v 6], 1⟩, zb .add 7 1]) (.rg [zk .quo 0 10])) (zt [9, 8])))) (zt [0, 1])
theorem laws_markText_b0_sh (Q : QT) (x0 x1 : V) : shL laws_markText_b0 Q [x0, x1] = (
  P1 (.bin .gtr) [x0, .int .i64 0] fun v0 =>
  ifB v0 (
    P1 (.bin .rem) [x0, .int .i64 10] fun v1 =>
    P1 (.bin .add) [.int .i64 48, v1] fun v2 =>
    P1 (.conv .u8) [v2] fun v3 =>
    P1 (.lst [.sc] false 1) [v3] fun v4 =>
    P1 (.b2s) [v4] fun v5 =>
    P1 (.bin .add) [v5, x1] fun v6 =>
    P1 (.bin .quo) [x0, .int .i64 10] fun v7 =>
    Q .normal [v7, v6]) (
    Q (.exit 0) [x1])) := by kernel_rfl

def laws_markText_r1 : L := .seq (.rg [⟨[], .bin .add, [.k (.str [109]), .v 0], 1⟩]) (.ret [.v 1])
theorem laws_markText_r1_sh (Q : QT) (x0 : V) : shL laws_markText_r1 Q [x0] = (
  P1 (.bin .add) [.str [109], x0] fun v0 =>
  Q .ret [v0]) := by kernel_rfl

def laws_markText_L : L := .seq (.rg []) (.seq (.seq (.rg [zk .leq 0 0]) (.ite (.v 1) (.seq (.rg []) (.ret [.k (.str [109, 48])])) (.skip))) (.seq (.rg []) (.seq (.block 0 (.seq (.tup [.v 0, .k (.str [])]) (.loop (laws_markText_b0)))) (laws_markText_r1))))
theorem laws_markText_L_sh (Q : QT) (x0 : V) : shL laws_markText_L Q [x0] = (
  P1 (.bin .leq) [x0, .int .i64 0] fun v0 =>
  ifB v0 (
    Q .ret [.str [109, 48]]) (
    shL (.loop laws_markText_b0) (qB 0 (qS (shL laws_markText_r1 Q) Q)) [x0, .str []])) := by kernel_rfl
def laws_markText_S : Sig := ⟨[.val false [.sc]], [(false, [.sc])], F_markText⟩
def laws_markText_hs : List NF := [⟨[(3, zs)], [], [], 64⟩, ⟨[(0, zs), (3, zs)], [], [], 64⟩, ⟨[(0, zs), (3, zs)], [], [], 64⟩]

def laws_markStringS_b0 : L := .seq (.seq (.seq (.rg [zl 2, zb .lss 1 3]) (.ite (.v 4) (.skip) (.seq (zt [0, 2]) (.exit 0)))) (.seq (.block 1 (.seq (.seq (.rg [zc F_markText 1 [0], zi 2 1, ⟨[], .set [.sc] 0, [.v 2, .v 1, .v 5], 1⟩]) (.rg [zk .add 0 1])) (zt [8, 1, 7]))) (.rg [zk .add 1 1]))) (zt [0, 3, 2])
theorem laws_markStringS_b0_sh (Q : QT) (x0 x1 x2 : V) : shL laws_markStringS_b0 Q [x0, x1, x2] = (
  P1 (.len) [x2] fun v0 =>
  P1 (.bin .lss) [x1, v0] fun v1 =>
  ifB v1 (
    P1 (.call F_markText 0 1) [x0] fun v2 =>
    P1 (.idx [.sc]) [x2, x1] fun _ =>
    P1 (.set [.sc] 0) [x2, x1, v2] fun v4 =>
    P1 (.bin .add) [x0, .int .i64 1] fun v5 =>
    P1 (.bin .add) [x1, .int .i64 1] fun v6 =>
    Q .normal [v5, v6, v4]) (
    Q (.exit 0) [x0, x2])) := by kernel_rfl

def laws_markStringS_r1 : L := .seq (.rg []) (.ret [.v 0, .v 1])
theorem laws_markStringS_r1_sh (Q : QT) (x0 x1 : V) : shL laws_markStringS_r1 Q [x0, x1] = (
  Q .ret [x0, x1]) := by kernel_rfl

def laws_markStringS_L : L := .seq (.rg []) (.seq (.seq (.rg []) (.block 0 (.seq (.tup [.v 1, .k (.int .i64 0), .v 0]) (.loop (laws_markStringS_b0))))) (laws_markStringS_r1))
theorem laws_markStringS_L_sh (Q : QT) (x0 x1 : V) : shL laws_markStringS_L Q [x0, x1] = (
  shL (.loop laws_markStringS_b0) (qB 0 (qS (shL laws_markStringS_r1 Q) Q)) [x1, .int .i64 0, x0]) := by kernel_rfl
def laws_markStringS_S : Sig := ⟨[.io false [.sl [.sc]], .val false [.sc]], [(false, [.sc])], F_markStringS⟩
def laws_markStringS_hs : List NF := [⟨[(1, zs)], [(0, false, [.sc])], [], 64⟩, ⟨[(0, zo 0), (1, zs), (5, zs)], [(0, false, [.sc])], [], 64⟩, ⟨[(0, zo 0), (1, zs), (5, zs)], [(0, false, [.sc])], [], 64⟩]

def laws_heldStringS_b0 : L := .seq (.seq (.seq (.rg [zl 0, zb .lss 2 3]) (.ite (.v 4) (.skip) (.seq (zt [1]) (.exit 0)))) (.seq (.block 1 (.seq (.seq (.seq (.rg [zi 0 2, zc F_markText 1 [1], zb .neq 5 6]) (.ite (.v 7) (.seq (.rg []) (.ret [.k (.int .i64 (-1))])) (.skip))) (.rg [zk .add 1 1])) (zt [0, 8, 2]))) (.rg [zk .add 2 1]))) (zt [0, 1, 3])
theorem laws_heldStringS_b0_sh (Q : QT) (x0 x1 x2 : V) : shL laws_heldStringS_b0 Q [x0, x1, x2] = (
  P1 (.len) [x0] fun v0 =>
  P1 (.bin .lss) [x2, v0] fun v1 =>
  ifB v1 (
    P1 (.idx [.sc]) [x0, x2] fun v2 =>
    P1 (.call F_markText 0 1) [x1] fun v3 =>
    P1 (.bin .neq) [v2, v3] fun v4 =>
    ifB v4 (
      Q .ret [.int .i64 (-1)]) (
      P1 (.bin .add) [x1, .int .i64 1] fun v5 =>
      P1 (.bin .add) [x2, .int .i64 1] fun v6 =>
      Q .normal [x0, v5, v6])) (
    Q (.exit 0) [x1])) := by kernel_rfl

def laws_heldStringS_r1 : L := .seq (.rg []) (.ret [.v 0])
theorem laws_heldStringS_r1_sh (Q : QT) (x0 : V) : shL laws_heldStringS_r1 Q [x0] = (
  Q .ret [x0]) := by kernel_rfl

def laws_heldStringS_L : L := .seq (.rg []) (.seq (.seq (.rg []) (.block 0 (.seq (.tup [.v 0, .v 1, .k (.int .i64 0)]) (.loop (laws_heldStringS_b0))))) (laws_heldStringS_r1))
theorem laws_heldStringS_L_sh (Q : QT) (x0 x1 : V) : shL laws_heldStringS_L Q [x0, x1] = (
  shL (.loop laws_heldStringS_b0) (qB 0 (qS (shL laws_heldStringS_r1 Q) Q)) [x0, x1, .int .i64 0]) := by kernel_rfl
def laws_heldStringS_S : Sig := ⟨[.val false [.sl [.sc]], .val false [.sc]], [(false, [.sc])], F_heldStringS⟩
def laws_heldStringS_hs : List NF := [⟨[(1, zs)], [], [], 64⟩, ⟨[(0, zr), (1, zs), (5, zs)], [], [], 64⟩, ⟨[(0, zr), (1, zs), (5, zs)], [], [], 64⟩]

end
end Go.Mw

namespace Go.Mw
open Go.Lib (decDigits itoa)
section
variable {k : V → Prop} {κ : IntKind} {i : Int}
@[simp] theorem P1_lstDot : P1 (.lst [.sc] false 1) [.int .u8 46] k ↔ k (vL I1 vY [46]) := P1_lstY1 (b := 46)
@[simp] theorem P1_setX {l : List UInt8} : P1 (.set [.sc] 0) [vL I1 vY l, .int κ i, .int .u8 120] k ↔ 0 ≤ i ∧ ∃ x, l[i.toNat]? = some x ∧ k (vL I1 vY (l.set i.toNat 120)) :=
  P1_set (news := [.int .u8 120]) (by simp [aksOk, akOk]) (fun _ => 120) (fun x => rfl)
@[simp] theorem P1_lstS1 {a : List UInt8} : P1 (.lst [.sc] false 1) [.str a] k ↔ k (vL I1 vS [a]) := P1_of (by simp [Prim.run, aksOk, akOk, chunk, V.pack, vL, vS]) k
@[simp] theorem P1_lstS2 {a b : List UInt8} : P1 (.lst [.sc] false 2) [.str a, .str b] k ↔ k (vL I1 vS [a, b]) := P1_of (by simp [Prim.run, aksOk, akOk, chunk, V.pack, vL, vS]) k
@[simp] theorem P1_s2b {y : List UInt8} {b : Nat} : P1 (.s2b b) [.str y] k ↔ (y.length * b ≤ 140737488355328 ∧ y.length ≤ 140737488355328) ∧ k (vL I1 vY y) := P1_opt (by simp [Prim.run]; rfl) k
end
theorem gridTo_len (p : List T2) (y : Int) (n : Nat) : ∀ k, (gridTo p y n k).length = n
  | 0 => by simp [gridTo]
  | k + 1 => by
    have ih := gridTo_len p y n k
    unfold gridTo
    split
    · split
      · rw [List.length_set]; exact ih
      · exact ih
    · exact ih
theorem gridTo_yes {p : List T2} {y : Int} {n k : Nat} (h : k < p.length) (e : p[k].a = y) : gridTo p y n (k + 1) = (gridTo p y n k).set p[k].b.toNat 120 := by
  rw [gridTo, List.getElem?_eq_getElem h]
  simp only [if_pos e]
theorem gridTo_no {p : List T2} {y : Int} {n k : Nat} (h : k < p.length) (e : ¬ p[k].a = y) : gridTo p y n (k + 1) = gridTo p y n k := by
  rw [gridTo, List.getElem?_eq_getElem h]
  simp only [if_neg e]
theorem gridUp_succ (c : Cyl) (k : Nat) : gridUp c (k + 1) = gridUp c k ++ [gridRow c k] := by
  simp [gridUp, List.range_succ]
theorem gridUp_len (c : Cyl) (k : Nat) : (gridUp c k).length = k := by simp [gridUp]
theorem cyl_bounds {c : Cyl} (h : cylOk c = true) : (4 ≤ c.s ∧ c.s ≤ 96) ∧ (1 ≤ c.t ∧ c.t ≤ 100) ∧ c.p.length ≤ 100 ∧ ∀ q ∈ c.p, 0 ≤ q.b ∧ q.b < c.s := by
  simp only [cylOk, within, Bool.and_eq_true, decide_eq_true_eq, List.all_eq_true] at h
  refine ⟨by omega, by omega, by omega, fun q hq => ?_⟩
  have := h.2.1 q hq
  simp only [pinIn, within, Bool.and_eq_true, decide_eq_true_eq] at this
  omega

theorem spec_GridText_ok : ∀ ds outs, F_GridText ds = some outs → shL spec_GridText_L (qRet outs) ds := F_GridText_elim fun c hp => by
  rw [spec_GridText_L_sh]
  simp only [P1_lst0]
  by_cases hc : cylOk c = true
  · obtain ⟨⟨s0, s1⟩, ⟨t0, t1⟩, hp1, hin⟩ := cyl_bounds hc
    have et : ((c.t.toNat : Nat) : Int) = c.t := by omega
    have es : ((c.s.toNat : Nat) : Int) = c.s := by omega
    refine loop_upto c.t.toNat (fun k => [.int .i64 k, vL I1 vS (gridUp c k), .int .i64 c.s, .int .i64 c.t, vL I2 v2 c.p]) (fun i j _ _ e => by simp at e; omega) (fun _ => True) (by simp [gridUp]) trivial ?_
    intro y hy _
    rw [spec_GridText_b0_sh]
    simp only [P1_lss, ifB_bool, decide_eq_true_eq, decide_eq_false_iff_not]
    refine ⟨fun h => ?_, fun h => ?_⟩
    · rw [p_CylinderOk hp]
      simp only [ifB_bool]
      refine ⟨fun _ => ?_, fun h9 => by rw [show cylOk ⟨c.s, c.t, c.p⟩ = cylOk c from rfl, hc] at h9; cases h9⟩
      simp only [P1_lst0]
      refine loop_upto c.s.toNat (fun k => [.int .i64 y, .int .i64 k, vL I1 vS (gridUp c y), vL I1 vY (List.replicate k 46), .int .i64 c.s, .int .i64 c.t, vL I2 v2 c.p]) (fun i j _ _ e => by simp at e; omega) (fun _ => True) (by simp) trivial ?_
      intro k hk _
      rw [spec_GridText_b1_sh]
      simp only [P1_lss, ifB_bool, decide_eq_true_eq, decide_eq_false_iff_not]
      refine ⟨fun h2 => ?_, fun h2 => ?_⟩
      · simp only [P1_lstDot, P1_appY_, P1_add, List.length_replicate, List.length_singleton, qS_normal]
        exact ⟨⟨by omega, by omega⟩, by omega, by rw [wrap_id (by omega) (by omega), List.replicate_succ']; rfl, trivial⟩
      · have ek : k = c.s.toNat := by omega
        subst ek
        simp only [qS_exit, qB_exit, if_true, qS_normal, spec_GridText_r2_sh]
        refine loop_upto c.p.length (fun k => [.int .i64 y, .int .i64 k, vL I1 vS (gridUp c y), vL I1 vY (gridTo c.p y c.s.toNat k), .int .i64 c.s, .int .i64 c.t, vL I2 v2 c.p]) (fun i j _ _ e => by simp at e; omega) (fun _ => True) (by simp [gridTo]) trivial ?_
        intro k hk _
        rw [spec_GridText_b3_sh]
        simp only [P1_len, P1_lss, ifB_bool, decide_eq_true_eq, decide_eq_false_iff_not]
        refine ⟨fun h3 => ?_, fun h3 => ?_⟩
        · have h4 : k < c.p.length := by omega
          have hb := hin c.p[k] (List.getElem_mem h4)
          have hl : c.p[k].b.toNat < (gridTo c.p y c.s.toNat k).length := by rw [gridTo_len]; omega
          simp only [P2_idxI, Int.toNat_natCast, List.getElem?_eq_getElem h4, Option.some.injEq, exists_eq_left', P1_eql, ifB_bool, beq_iff_eq, beq_eq_false_iff_ne, ne_eq]
          refine ⟨by omega, fun e => ?_, fun e => ?_⟩
          · simp only [P1_idxY, P1_setX, List.getElem?_eq_getElem hl, Option.some.injEq, exists_eq_left', P1_add, qS_normal]
            exact ⟨by omega, hb.1, hb.1, h4, by rw [gridTo_yes h4 e, wrap_id (by omega) (by omega)]; rfl, trivial⟩
          · simp only [P1_add, qS_normal]
            exact ⟨h4, by rw [gridTo_no h4 e, wrap_id (by omega) (by omega)]; rfl, trivial⟩
        · have e4 : k = c.p.length := by omega
          subst e4
          have hl := gridUp_len c y
          simp only [qS_exit, qB_exit, if_true, qS_normal, spec_GridText_r4_sh, P1_b2s, P1_lstS1, P1_appS_, hl, List.length_singleton, spec_GridText_r5_sh, qB_normal, spec_GridText_r6_sh, spec_GridText_r7_sh, P1_add]
          exact ⟨⟨by omega, by omega⟩, by omega, by rw [gridUp_succ, wrap_id (by omega) (by omega)]; rfl, trivial⟩
    · have ey : y = c.t.toNat := by omega
      subst ey
      simp only [qS_exit, qB_exit, if_true, qS_normal, spec_GridText_r8_sh, qRet_ret]
      simp [gridText, hc]
  · have hc : cylOk c = false := by simpa using hc
    refine loop_upto 0 (fun _ => [.int .i64 0, .list [.sc] [], .int .i64 c.s, .int .i64 c.t, vL I2 v2 c.p]) (fun i j _ _ _ => by omega) (fun _ => True) rfl trivial ?_
    intro k _ _
    rw [spec_GridText_b0_sh]
    simp only [P1_lss, ifB_bool, p_CylinderOk hp]
    have hc' : cylOk ⟨c.s, c.t, c.p⟩ = false := hc
    simp [hc', spec_GridText_r8_sh, gridText]
theorem impl_GridText_ok : ∀ ds outs, F_GridText ds = some outs → shL impl_GridText_L (qRet outs) ds := F_GridText_elim fun c hp => by
  rw [impl_GridText_L_sh, p_CylinderOk hp]
  have e0 : cylOk ⟨c.s, c.t, c.p⟩ = cylOk c := rfl
  simp only [P1_not, ifB_bool, Bool.not_eq_true', Bool.not_eq_false', qRet_ret, e0]
  refine ⟨fun hc => by simp [gridText, hc], fun hc => ?_⟩
  obtain ⟨⟨s0, s1⟩, ⟨t0, t1⟩, hp1, hin⟩ := cyl_bounds hc
  have et : ((c.t.toNat : Nat) : Int) = c.t := by omega
  have es : ((c.s.toNat : Nat) : Int) = c.s := by omega
  have hr : Go.Lib.repeatL [46] c.s.toNat = List.replicate c.s.toNat 46 := by
    generalize c.s.toNat = n
    induction n with
    | zero => rfl
    | succ n ih => simp [Go.Lib.repeatL, List.replicate_succ] at ih ⊢ <;> exact ih
  simp only [P1_lst0]
  refine loop_upto c.t.toNat (fun k => [.int .i64 k, vL I1 vS (gridUp c k), .int .i64 c.s, .int .i64 c.t, vL I2 v2 c.p]) (fun i j _ _ e => by simp at e; omega) (fun _ => True) (by simp [gridUp]) trivial ?_
  intro y hy _
  rw [impl_GridText_b0_sh]
  simp only [P1_lss, ifB_bool, decide_eq_true_eq, decide_eq_false_iff_not]
  refine ⟨fun h => ?_, fun h => ?_⟩
  · rw [p_strings_Repeat ⟨by omega, by omega, by simp; omega⟩, hr]
    simp only [P1_s2b, P1_len, List.length_replicate]
    refine ⟨⟨by omega, by omega⟩, ?_⟩
    refine loop_upto c.p.length (fun k => [.int .i64 y, vL I2 v2 c.p, .int .i64 c.p.length, .int .i64 k, vL I1 vS (gridUp c y), vL I1 vY (gridTo c.p y c.s.toNat k), .int .i64 c.s, .int .i64 c.t, vL I2 v2 c.p]) (fun i j _ _ e => by simp at e; omega) (fun _ => True) (by simp [gridTo]) trivial ?_
    intro k hk _
    rw [impl_GridText_b1_sh]
    simp only [P1_lss, ifB_bool, decide_eq_true_eq, decide_eq_false_iff_not]
    refine ⟨fun h3 => ?_, fun h3 => ?_⟩
    · have h4 : k < c.p.length := by omega
      have hb := hin c.p[k] (List.getElem_mem h4)
      have hl : c.p[k].b.toNat < (gridTo c.p y c.s.toNat k).length := by rw [gridTo_len]; omega
      simp only [P2_idxI, Int.toNat_natCast, List.getElem?_eq_getElem h4, Option.some.injEq, exists_eq_left', P1_eql, ifB_bool, beq_iff_eq, beq_eq_false_iff_ne, ne_eq]
      refine ⟨by omega, fun e => ?_, fun e => ?_⟩
      · simp only [P1_idxY, P1_setX, List.getElem?_eq_getElem hl, Option.some.injEq, exists_eq_left', P1_add, qS_normal]
        exact ⟨hb.1, hb.1, h4, by rw [gridTo_yes h4 e, wrap_id (by omega) (by omega)]; rfl, trivial⟩
      · simp only [P1_add, qS_normal]
        exact ⟨h4, by rw [gridTo_no h4 e, wrap_id (by omega) (by omega)]; rfl, trivial⟩
    · have e4 : k = c.p.length := by omega
      subst e4
      have hl := gridUp_len c y
      simp only [qS_exit, qB_exit, if_true, qS_normal, impl_GridText_r2_sh, P1_b2s, P1_lstS1, P1_appS_, hl, List.length_singleton, impl_GridText_r3_sh, qB_normal, impl_GridText_r4_sh, impl_GridText_r5_sh, P1_add]
      exact ⟨⟨by omega, by omega⟩, by omega, by rw [gridUp_succ, wrap_id (by omega) (by omega)]; rfl, trivial⟩
  · have ey : y = c.t.toNat := by omega
    subst ey
    simp only [qS_exit, qB_exit, if_true, qS_normal, impl_GridText_r6_sh, qRet_ret]
    simp [gridText, hc]
end Go.Mw

namespace Go.Mw
open Go.Lib (decDigits itoa)
theorem shop_bounds {w : Shop} (h : shopOk w = true) : cylOk ⟨w.s, w.t, w.p⟩ = true ∧ (0 ≤ w.u ∧ w.u ≤ 50) ∧ (0 ≤ w.y ∧ w.y ≤ 1000000) ∧ (0 ≤ w.d ∧ w.d ≤ 1000000) := by
  simp only [shopOk, springOk, within, Bool.and_eq_true, decide_eq_true_eq] at h
  refine ⟨?_, by omega, by omega, by omega⟩
  have h1 := h.1
  simp only [benchOk, Bool.and_eq_true] at h1
  exact h1.1
theorem gridText_len (c : Cyl) : (gridText c).length ≤ 100 := by
  unfold gridText
  split
  · rename_i h
    have := (cyl_bounds h).2.1
    rw [gridUp_len]; omega
  · simp
theorem itoa_len2 {n : Int} (h0 : 0 ≤ n) (h1 : n ≤ 1000000) : (itoa n).length ≤ 21 := Go.Lib.itoa_length_le n (by omega) (by omega)
theorem fmtShop_len (w : Shop) : (fmtShop w).length ≤ 103 := by
  unfold fmtShop
  split
  · have := gridText_len ⟨w.s, w.t, w.p⟩
    simp only [List.length_append, List.length_cons, List.length_nil]; omega
  · simp
theorem spec_FormatWorkshop_ok : ∀ ds outs, F_FormatWorkshop ds = some outs → shL spec_FormatWorkshop_L (qRet outs) ds := F_FormatWorkshop_elim fun w hp => by
  rw [spec_FormatWorkshop_L_sh, p_WorkshopOk (x_p := w.p) (x_o := w.o) (x_c := w.c) hp]
  have e0 : shopOk ⟨w.s, w.t, w.p, w.o, w.c, w.u, w.m, w.f, w.y, w.d⟩ = shopOk w := rfl
  simp only [P1_not, ifB_bool, Bool.not_eq_true', Bool.not_eq_false', e0]
  refine ⟨fun h => by simp [fmtShop, h], fun h => ?_⟩
  obtain ⟨-, hu, hy, hd⟩ := shop_bounds h
  have lu := itoa_len2 hu.1 (by omega)
  have ly := itoa_len2 hy.1 hy.2
  have ld := itoa_len2 hd.1 hd.2
  have lg := gridText_len ⟨w.s, w.t, w.p⟩
  rw [p_GridText (x_p := w.p) hp.1, p_FormatInt (by omega)]
  simp only [P1_addS, List.length_cons, List.length_nil]
  refine ⟨by omega, ?_⟩
  rw [p_FormatInt (by omega)]
  simp only [P1_addS, List.length_cons, List.length_nil]
  refine ⟨by omega, ?_⟩
  rw [p_FormatInt (by omega)]
  simp only [P1_addS, List.length_cons, List.length_nil, P1_lstS3, P1_appS_]
  refine ⟨by omega, ⟨by omega, by omega⟩, ?_⟩
  simp [fmtShop, h, sumTurns, sumMoney, sumPlayed]
theorem impl_FormatWorkshop_ok : ∀ ds outs, F_FormatWorkshop ds = some outs → shL impl_FormatWorkshop_L (qRet outs) ds := F_FormatWorkshop_elim fun w hp => by
  rw [impl_FormatWorkshop_L_sh, p_WorkshopOk (x_p := w.p) (x_o := w.o) (x_c := w.c) hp]
  have e0 : shopOk ⟨w.s, w.t, w.p, w.o, w.c, w.u, w.m, w.f, w.y, w.d⟩ = shopOk w := rfl
  simp only [P1_not, ifB_bool, Bool.not_eq_true', Bool.not_eq_false', e0]
  refine ⟨fun h => by simp [fmtShop, h], fun h => ?_⟩
  obtain ⟨-, hu, hy, hd⟩ := shop_bounds h
  have lu := itoa_len2 hu.1 (by omega)
  have ly := itoa_len2 hy.1 hy.2
  have ld := itoa_len2 hd.1 hd.2
  have lg := gridText_len ⟨w.s, w.t, w.p⟩
  rw [p_GridText (x_p := w.p) hp.1, p_FormatInt (by omega)]
  simp only [P1_addS, List.length_cons, List.length_nil]
  refine ⟨by omega, ?_⟩
  rw [p_FormatInt (by omega)]
  simp only [P1_addS, List.length_cons, List.length_nil, P1_lstS2, P1_appS_]
  refine ⟨by omega, ⟨by omega, by omega⟩, ?_⟩
  rw [p_FormatInt (by omega)]
  simp only [P1_addS, List.length_cons, List.length_nil, P1_lstS1, P1_appS_, List.length_append]
  refine ⟨by omega, ⟨by omega, by omega⟩, ?_⟩
  simp [fmtShop, h, sumTurns, sumMoney, sumPlayed]

theorem laws_eqStringS_ok : ∀ ds outs, F_eqStringS ds = some outs → shL laws_eqStringS_L (qRet outs) ds := F_eqStringS_elim fun l m hp => by
  rw [laws_eqStringS_L_sh]
  simp
  refine ⟨fun h => ?_, fun hl => ?_⟩
  · rintro rfl; omega
  refine loop_upto l.length (fun k => [vL I1 vS l, vL I1 vS m, .int .i64 k]) (by intro i j _ _ h; simp at h; omega) (fun k => l.take k = m.take k) (by simp) (by simp) ?_
  intro k hk hP
  rw [laws_eqStringS_b0_sh]
  simp
  refine ⟨fun h => ?_, fun h => ?_⟩
  · have h2 : k < m.length := by omega
    simp (disch := omega) [h, wrap_id]
    refine ⟨fun hne he => ?_, fun h3 => ?_⟩
    · subst he; exact hne rfl
    · rw [take_succ_get h, take_succ_get h2, hP, h3]
  · obtain rfl : k = l.length := by omega
    rw [List.take_length, List.take_of_length_le (by omega)] at hP
    simp [laws_eqStringS_r1_sh, hP]
theorem laws_markText_ok : ∀ ds outs, F_markText ds = some outs → shL laws_markText_L (qRet outs) ds := F_markText_elim fun n hp => by
  rw [laws_markText_L_sh]
  simp only [P1_leq, ifB_bool, decide_eq_true_eq, decide_eq_false_iff_not, qRet_ret]
  refine ⟨fun h => by simp [markT, h], fun hn => ?_⟩
  have hL := digs_len n.toNat (by omega)
  refine loop_st (σ := Nat × List UInt8) (fun s => [.int .i64 s.1, .str s.2]) (fun a b h => by
      obtain ⟨h1, h2⟩ : (a.1 : Int) = b.1 ∧ a.2 = b.2 := by simpa using h
      exact Prod.ext (by omega) h2)
    (fun s => s.1 ≤ 9223372036854775807 ∧ digs s.1 ++ s.2 = digs n.toNat) (fun s => s.1) (n.toNat, []) (by simp; omega) ⟨by omega, by simp⟩ ?_
  rintro ⟨m, s⟩ ⟨hm, hs⟩
  simp only at hm hs ⊢
  have hsl : s.length ≤ 20 := by have := congrArg List.length hs; rw [List.length_append] at this; omega
  rw [laws_markText_b0_sh]
  simp only [P1_gtr, ifB_bool, decide_eq_true_eq, decide_eq_false_iff_not]
  refine ⟨fun h => ?_, fun h => ?_⟩
  · have hu : m ≠ 0 := by omega
    have hstep := digs_step hu
    have hinv : digs (m / 10) ++ (UInt8.ofNat (48 + m % 10) :: s) = digs n.toNat := by
      rw [← hs, hstep, List.append_assoc]; rfl
    have e1 : (m : Int).tmod 10 = ((m % 10 : Nat) : Int) := Int.tmod_eq_emod_of_nonneg (by omega)
    have e2 : (m : Int).tdiv 10 = ((m / 10 : Nat) : Int) := Int.tdiv_eq_ediv_of_nonneg (by omega)
    have w1 : IntKind.i64.wrap (48 + ((m % 10 : Nat) : Int)) = ((48 + m % 10 : Nat) : Int) := by rw [wrap_id (by omega) (by omega)]; omega
    have w2 : IntKind.u8.wrap ((48 + m % 10 : Nat) : Int) = ((UInt8.ofNat (48 + m % 10)).toNat : Int) := by rw [wrap_u8 (by omega) (by omega), dig_nat (by omega)]
    have w3 : IntKind.i64.wrap ((m / 10 : Nat) : Int) = ((m / 10 : Nat) : Int) := wrap_id (by omega) (by omega)
    simp only [P1_rem, e1, P1_add, w1, P1_conv, w2, P1_lstY1, P1_b2s, P1_addS, P1_quo, e2, w3, List.length_singleton, qS_normal]
    exact ⟨by decide, by omega, by decide, (m / 10, UInt8.ofNat (48 + m % 10) :: s), rfl, ⟨by omega, hinv⟩, by simp only; omega⟩
  · obtain rfl : m = 0 := by omega
    have hs' : s = decDigits n.toNat := by
      rw [← List.nil_append s]
      have : digs n.toNat = decDigits n.toNat := by unfold digs; rw [if_neg (by omega)]
      rw [← this, ← hs]; rfl
    simp only [qS_exit, qB_exit, if_true, qS_normal, laws_markText_r1_sh, P1_addS, List.length_singleton, qRet_ret]
    refine ⟨by omega, ?_⟩
    simp [markT, hn, hs']
@[simp] theorem markLS_len {n : Nat} {k : Int} : (markLS n k).length = n := by simp [markLS]
theorem laws_markStringS_ok : ∀ ds outs, F_markStringS ds = some outs → shL laws_markStringS_L (qRet outs) ds := F_markStringS_elim fun l k hp => by
  rw [laws_markStringS_L_sh]
  refine loop_upto l.length (fun i => [.int .i64 (k + 1 * i), .int .i64 i, vL I1 vS ((markLS l.length k).take i ++ l.drop i)]) (by intro i j _ _ h; simp at h; omega) (fun _ => True) (by simp) trivial ?_
  intro i hi _
  have hml : (markLS l.length k).length = l.length := markLS_len
  rw [laws_markStringS_b0_sh]
  simp
  have e0 : ((min i l.length : Nat) : Int) + ((l.length - i : Nat) : Int) = l.length := by omega
  simp only [e0]
  refine ⟨fun h => ?_, fun h => ?_⟩
  · replace h : i < l.length := by omega
    rw [p_markText (by omega), mark_get hml h]
    have hs := mark_set hml h
    have hg : (markLS l.length k)[i]'(by omega) = markT (k + (i : Int)) := by simp [markLS]
    rw [hg] at hs
    simp (disch := omega) [h, wrap_id, hs]
    exact ⟨⟨_, List.getElem?_eq_getElem (by simp; omega)⟩, by omega⟩
  · obtain rfl : i = l.length := by omega
    have e1 : List.take l.length (markLS l.length k) = markLS l.length k := List.take_of_length_le (by simp)
    simp [laws_markStringS_r1_sh, e1]
theorem laws_heldStringS_ok : ∀ ds outs, F_heldStringS ds = some outs → shL laws_heldStringS_L (qRet outs) ds := F_heldStringS_elim fun l k hp => by
  rw [laws_heldStringS_L_sh]
  refine loop_upto l.length (fun i => [vL I1 vS l, .int .i64 (k + 1 * i), .int .i64 i]) (by intro i j _ _ h; simp at h; omega) (fun i => ∀ j (hj : j < l.length), j < i → l[j] = (markLS l.length k)[j]'(by simp; omega)) (by simp) (by simp) ?_
  intro i hi hP
  rw [laws_heldStringS_b0_sh]
  simp
  refine ⟨fun h => ?_, fun h => ?_⟩
  · have hg : (markLS l.length k)[i]'(by simp; omega) = markT (k + (i : Int)) := by simp [markLS]
    have hno : l[i] ≠ (markLS l.length k)[i]'(by simp; omega) → l ≠ markLS l.length k := by
      intro hne he
      exact hne (by simp only [← he])
    have hstep : l[i] = (markLS l.length k)[i]'(by simp; omega) → ∀ j (hj : j < l.length), j < i + 1 → l[j] = (markLS l.length k)[j]'(by simp; omega) := by
      intro he j hj hji
      by_cases hjj : j = i
      · subst hjj; exact he
      · exact hP j hj (by omega)
    rw [hg] at hno hstep
    have hT := fun (nr_ : Nat) kk_ => p_markText (n := k + (i : Int)) (nr_ := nr_) (kk_ := kk_) (by omega)
    simp (disch := omega) only [hT, h, List.getElem?_eq_getElem, Option.some.injEq, exists_eq_left', wrap_id, true_and, P1_neqS, ifB_bool]
    simp
    grind
  · obtain rfl : i = l.length := by omega
    have he : l = markLS l.length k := List.ext_getElem (by simp) fun j h1 h2 => hP j h1 h1
    simp [laws_heldStringS_r1_sh]
    intro h; exact absurd he h
end Go.Mw

namespace Go.Mw
end Go.Mw

namespace Go.Mw
end Go.Mw

namespace Go.Mw
open Go.Lib (itoa)
def l40N (s : List UInt8) : Int := if 1 < s.length ∧ s[0]? = some 45 then -(uNum (s.drop 1)) else uNum s
def E_l40Number (s : List UInt8) : List V := [.str s]
noncomputable def F_l40Number : List V → Option (List V) := mkF E_l40Number (fun s => s.length ≤ 1048576) (fun s => [.int .i64 (l40N s)])
theorem F_l40Number_inj : ∀ x y, E_l40Number x = E_l40Number y → x = y := by
  rintro s s' h
  simpa [E_l40Number] using h
theorem F_l40Number_elim {P : List V → List V → Prop} (h : ∀ (s : List UInt8), (s.length ≤ 1048576) → P [.str s] [.int .i64 (l40N s)]) : ∀ ds outs, F_l40Number ds = some outs → P ds outs := by
  intro ds outs hh
  obtain ⟨s, rfl, hp, rfl⟩ := mkF_inv hh
  exact h s hp
theorem p_l40Number {s : List UInt8} {nr_ : Nat} {kk_ : V → Prop} (hp : s.length ≤ 1048576) : P1 (.call F_l40Number 0 nr_) [.str s] kk_ ↔ kk_ (.int .i64 (l40N s)) :=
  P1_callF (by unfold F_l40Number; exact mkF_eq F_l40Number_inj (s) hp)

def toks (a : T3) : List (List UInt8) := actWord a.a :: (if actNums a.a = 2 then [itoa a.b, itoa a.c] else if actNums a.a = 1 then [itoa a.b] else [])
def fits (f : List (List UInt8)) : Prop := ∃ a, actOk a = true ∧ toks a = f
noncomputable def parseV (f : List (List UInt8)) : T3 := @dite _ (fits f) (Classical.propDecidable _) (fun h => h.choose) (fun _ => ⟨0, 0, 0⟩)
noncomputable def parseB (f : List (List UInt8)) : Bool := @decide (fits f) (Classical.propDecidable _)
def E_ParseAct (s : List UInt8) : List V := [.str s]
noncomputable def F_ParseAct : List V → Option (List V) := mkF E_ParseAct (fun s => s.length ≤ 1048576) (fun s => [.int .i64 (parseV (fieldsOf s)).a, .int .i64 (parseV (fieldsOf s)).b, .int .i64 (parseV (fieldsOf s)).c, .bool (parseB (fieldsOf s))])
theorem F_ParseAct_inj : ∀ x y, E_ParseAct x = E_ParseAct y → x = y := by
  rintro s s' h
  simpa [E_ParseAct] using h
theorem F_ParseAct_elim {P : List V → List V → Prop} (h : ∀ (s : List UInt8), (s.length ≤ 1048576) → P [.str s] [.int .i64 (parseV (fieldsOf s)).a, .int .i64 (parseV (fieldsOf s)).b, .int .i64 (parseV (fieldsOf s)).c, .bool (parseB (fieldsOf s))]) : ∀ ds outs, F_ParseAct ds = some outs → P ds outs := by
  intro ds outs hh
  obtain ⟨s, rfl, hp, rfl⟩ := mkF_inv hh
  exact h s hp
theorem p_ParseAct {s : List UInt8} {nr_ : Nat} {kk_ : V → V → V → V → Prop} (hp : s.length ≤ 1048576) : P4 (.call F_ParseAct 0 nr_) [.str s] kk_ ↔ kk_ (.int .i64 (parseV (fieldsOf s)).a) (.int .i64 (parseV (fieldsOf s)).b) (.int .i64 (parseV (fieldsOf s)).c) (.bool (parseB (fieldsOf s))) :=
  P4_callF (by unfold F_ParseAct; exact mkF_eq F_ParseAct_inj (s) hp)

end Go.Mw

