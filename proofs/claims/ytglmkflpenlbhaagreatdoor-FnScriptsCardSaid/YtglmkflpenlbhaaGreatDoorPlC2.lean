/- What functions of the program compute, as small pure programs, shown against plain Lean functions: no condition. -/
import Derived.KernelRfl
import Derived.Lib.ItoaMem
import Derived.Lib.ItoaLen
import Derived.Lib.AtoiAll
import Derived.Lib.Join
import Derived.Lib.Repeat
import Derived.Lib.Split
import Derived.Test.YtglmkflpenlbhaaGreatDoorPlC1
namespace Go.Mw
theorem land_range (a : Int) (m : Nat) (hm : m < 4611686018427387904) : 0 ≤ land a m ∧ land a m ≤ m := by
  have h : (BitVec.ofInt IntKind.i64.bits a &&& BitVec.ofInt IntKind.i64.bits (m : Int)).toNat ≤ m := by
    rw [BitVec.toNat_and]
    refine Nat.le_trans Nat.and_le_right ?_
    simp [IntKind.bits]
    omega
  unfold land
  rw [wrap_id (by omega) (by omega)]
  omega
theorem land255 (a : Int) : 0 ≤ land a 255 ∧ land a 255 ≤ 255 := land_range a 255 (by omega)
theorem hByte_range (h : Int) : 0 ≤ hByte h ∧ hByte h ≤ 255 := land255 _
theorem cByte_range (x : Cur) : 0 ≤ cByte x ∧ cByte x ≤ 255 := by
  unfold cByte
  split
  · exact land255 _
  · exact hByte_range _
@[simp] theorem cStep_b (x : Cur) : (cStep x).b = x.b := rfl
theorem cStep_i {x : Cur} (h : 0 ≤ x.i) : 0 ≤ (cStep x).i := by unfold cStep; dsimp only; split <;> omega
@[simp] theorem cAfter_b (x : Cur) (n : Int) : (cAfter x n).b = x.b := by unfold cAfter; split <;> (try split) <;> simp
theorem cAfter_i {x : Cur} {n : Int} (h : 0 ≤ x.i) : 0 ≤ (cAfter x n).i := by
  unfold cAfter
  split
  · exact h
  · split
    · exact cStep_i h
    · exact cStep_i (cStep_i (cStep_i (cStep_i h)))
theorem tmod_range {a n : Int} (ha : 0 ≤ a) (hn : 0 < n) : 0 ≤ a.tmod n ∧ a.tmod n < n := ⟨Int.tmod_nonneg _ ha, Int.tmod_lt_of_pos _ hn⟩
theorem cBelow_range (x : Cur) {n : Int} (hn : 0 < n) : 0 ≤ cBelow x n ∧ cBelow x n < n := by
  unfold cBelow
  rw [if_neg (by omega)]
  have h1 := cByte_range x
  have h2 := cByte_range (cStep x)
  have h3 := cByte_range (cStep (cStep x))
  have h4 := cByte_range (cStep (cStep (cStep x)))
  split
  · exact tmod_range (by omega) hn
  · exact tmod_range (by omega) hn

theorem laws_big_ok : ∀ ds outs, F_big ds = some outs → shL laws_big_L (qRet outs) ds := F_big_elim fun l hp => by
  rw [laws_big_L_sh]; simp; omega
theorem spec_l01New_ok : ∀ ds outs, F_l01New ds = some outs → shL spec_l01New_L (qRet outs) ds := F_l01New_elim fun l hp => by
  rw [spec_l01New_L_sh]
  have hw : IntKind.i64.wrap (33091 + (l.length : Int)) = 33091 + l.length := wrap_id (by omega) (by omega)
  simp only [P1_len, P1_add, hw]
  refine loop_upto (min l.length 4000) (fun k => [vL I1 vY l, .int .i64 (seedTo l k), .int .i64 k]) (by intro i j _ _ h; simp at h; omega) (fun _ => True) (by simp [seedTo]) trivial ?_
  intro k hk _
  rw [spec_l01New_b0_sh]
  simp
  refine ⟨fun h => ⟨fun h2 => ?_, fun h2 => ?_⟩, fun h => ?_⟩
  · have hw2 : IntKind.i64.wrap ((k : Int) + 1) = k + 1 := wrap_id (by omega) (by omega)
    have hw3 : IntKind.i64.wrap (l[k].toNat : Int) = l[k].toNat := by have := l[k].toNat_lt; exact wrap_id (by omega) (by omega)
    simp [h, hw2, hw3, seedTo]
    omega
  · obtain rfl : k = min l.length 4000 := by omega
    simp [spec_l01New_r1_sh, seedOf]
  · obtain rfl : k = min l.length 4000 := by omega
    simp [spec_l01New_r1_sh, seedOf]
theorem spec_l01Byte_ok : ∀ ds outs, F_l01Byte ds = some outs → shL spec_l01Byte_L (qRet outs) ds := F_l01Byte_elim fun x hp => by
  rw [spec_l01Byte_L_sh]
  have e33 : min (33 : Int).toNat IntKind.i64.bits = 33 := by decide
  have e45 : min (45 : Int).toNat IntKind.i64.bits = 45 := by decide
  simp only [P1_mul, P1_add, P1_shr (show (0 : Int) ≤ 33 by omega), P1_shr (show (0 : Int) ≤ 45 by omega), e33, e45, P1_xor, P1_and, P1_len, P1_lss, ifB_bool, decide_eq_true_eq, decide_eq_false_iff_not]
  have eh : IntKind.i64.wrap (IntKind.i64.wrap (x.h * 6364136223846793005) + 1442695040888963407) = hNext x.h := rfl
  have eb : land (lxor ((hNext x.h).fdiv (2 ^ 33)) ((hNext x.h).fdiv (2 ^ 45))) 255 = hByte (hNext x.h) := rfl
  simp only [eh, eb]
  refine ⟨fun h => ?_, fun h => ?_⟩
  · have hi : x.i.toNat < x.b.length := by omega
    have hw2 : IntKind.i64.wrap (x.i + 1) = x.i + 1 := wrap_id (by omega) (by omega)
    have hw3 : IntKind.i64.wrap (x.b[x.i.toNat].toNat : Int) = x.b[x.i.toNat].toNat := by have := x.b[x.i.toNat].toNat_lt; exact wrap_id (by omega) (by omega)
    simp [hp.1, hi, h, hw2, hw3, cByte, cStep]
  · have hi : x.b[x.i.toNat]? = none := by rw [List.getElem?_eq_none_iff]; omega
    simp [hi, h, cByte, cStep]
theorem q_byte {b : List UInt8} (c : Cur) {n : Nat} {k : V → V → V → Prop} (hb : c.b = b) (h : 0 ≤ c.i) (hl : b.length ≤ 1048576) : P3 (.call F_l01Byte 0 n) [vL I1 vY b, .int .i64 c.i, .int .i64 c.h] k ↔ k (.int .i64 (cByte c)) (.int .i64 (cStep c).i) (.int .i64 (cStep c).h) := by
  subst hb; exact p_l01Byte ⟨h, hl⟩
theorem spec_l01Below_ok : ∀ ds outs, F_l01Below ds = some outs → shL spec_l01Below_L (qRet outs) ds := F_l01Below_elim fun x n hp => by
  rw [spec_l01Below_L_sh]
  have hb := hp.2
  have i0 := hp.1
  have i1 := cStep_i i0
  have i2 := cStep_i i1
  have i3 := cStep_i i2
  have h1 := cByte_range x
  have h2 := cByte_range (cStep x)
  have h3 := cByte_range (cStep (cStep x))
  have h4 := cByte_range (cStep (cStep (cStep x)))
  by_cases hn : n ≤ 0
  · simp [hn, cBelow, cAfter]
  · by_cases hn2 : n ≤ 256
    · simp [hn, hn2, cBelow, cAfter, q_byte x, i0, hb]; omega
    · have w1 : IntKind.i64.wrap (cByte x * 16777216) = cByte x * 16777216 := wrap_id (by omega) (by omega)
      have w2 : IntKind.i64.wrap (cByte (cStep x) * 65536) = cByte (cStep x) * 65536 := wrap_id (by omega) (by omega)
      have w3 : IntKind.i64.wrap (cByte x * 16777216 + cByte (cStep x) * 65536) = cByte x * 16777216 + cByte (cStep x) * 65536 := wrap_id (by omega) (by omega)
      have w4 : IntKind.i64.wrap (cByte (cStep (cStep x)) * 256) = cByte (cStep (cStep x)) * 256 := wrap_id (by omega) (by omega)
      have w5 : IntKind.i64.wrap (cByte x * 16777216 + cByte (cStep x) * 65536 + cByte (cStep (cStep x)) * 256) = cByte x * 16777216 + cByte (cStep x) * 65536 + cByte (cStep (cStep x)) * 256 := wrap_id (by omega) (by omega)
      have w6 : IntKind.i64.wrap (cByte x * 16777216 + cByte (cStep x) * 65536 + cByte (cStep (cStep x)) * 256 + cByte (cStep (cStep (cStep x)))) = cByte x * 16777216 + cByte (cStep x) * 65536 + cByte (cStep (cStep x)) * 256 + cByte (cStep (cStep (cStep x))) := wrap_id (by omega) (by omega)
      simp only [P1_leq, ifB_bool, decide_eq_true_eq, decide_eq_false_iff_not]
      refine ⟨fun h => absurd h hn, fun _ => ⟨fun h => absurd h hn2, fun _ => ?_⟩⟩
      rw [q_byte (b := x.b) x rfl i0 hb, q_byte (b := x.b) (cStep x) rfl i1 hb, q_byte (b := x.b) (cStep (cStep x)) rfl i2 hb, q_byte (b := x.b) (cStep (cStep (cStep x))) rfl i3 hb]
      simp [hn, hn2, cBelow, cAfter, w1, w2, w3, w4, w5, w6]; omega
theorem q_below {b : List UInt8} (c : Cur) {n : Int} {m : Nat} {k : V → V → V → Prop} (hb : c.b = b) (h : 0 ≤ c.i) (hl : b.length ≤ 1048576) : P3 (.call F_l01Below 0 m) [vL I1 vY b, .int .i64 c.i, .int .i64 c.h, .int .i64 n] k ↔ k (.int .i64 (cBelow c n)) (.int .i64 (cAfter c n).i) (.int .i64 (cAfter c n).h) := by
  subst hb; exact p_l01Below ⟨h, hl⟩

theorem put_at : ∀ (l : List T2) (y : T2) (i : Nat), (∀ j (h : j < l.length), j < i → pinLess l[j] y = true) → i ≤ l.length → (∀ (h : i < l.length), pinLess l[i] y = false) →
    putPin l y = (if l[i]? = some y then l else l.take i ++ [y] ++ l.drop i) ∧ putNew l y = !decide (l[i]? = some y)
  | [], y, i, _, hi, _ => by
    obtain rfl : i = 0 := by simpa using hi
    simp [putPin, putNew]
  | a :: r, y, 0, _, _, h => by
    have h := h (by simp)
    simp only [List.getElem_cons_zero] at h
    by_cases e : a = y
    · subst e; simp [putPin, putNew, h]
    · simp [putPin, putNew, h, e]
  | a :: r, y, i + 1, h1, h2, h3 => by
    have ha := h1 0 (by simp) (by omega)
    simp only [List.getElem_cons_zero] at ha
    have ih := put_at r y i (fun j hj hji => by have := h1 (j + 1) (by simp; omega) (by omega); simpa using this) (by simpa using h2) (fun h => by have := h3 (by simp; omega); simpa using this)
    simp only [putPin, putNew, ha, if_true, List.getElem?_cons_succ, ih.1, ih.2, List.take_succ_cons, List.drop_succ_cons]
    refine ⟨?_, trivial⟩
    split <;> simp
theorem spec_l06Put_ok : ∀ ds outs, F_l06Put ds = some outs → shL spec_l06Put_L (qRet outs) ds := F_l06Put_elim fun l y hp => by
  rw [spec_l06Put_L_sh]
  refine loop_upto l.length (fun k => [vL I2 v2 l, .int .i64 k, .int .i64 y.a, .int .i64 y.b]) (by intro i j _ _ h; simp at h; omega) (fun k => ∀ j (h : j < l.length), j < k → pinLess l[j] y = true) (by simp) (by simp) ?_
  intro k hk hP
  have fin : (∀ (h : k < l.length), pinLess l[k] y = false) → shL spec_l06Put_r1 (qRet [vL I2 v2 (putPin l y), .bool (putNew l y)]) [vL I2 v2 l, .int .i64 k, .int .i64 y.a, .int .i64 y.b] := by
    intro h
    obtain ⟨e1, e2⟩ := put_at l y k hP hk h
    rw [spec_l06Put_r1_sh, e1, e2]
    by_cases hl : k < l.length
    · by_cases hy : l[k] = y
      · have h5 : l[k].a = y.a ∧ l[k].b = y.b := by rw [hy]; exact ⟨rfl, rfl⟩
        simp [hl, hy]; omega
      · have h5 : ¬ (l[k].a = y.a ∧ l[k].b = y.b) := fun h => hy (by cases hh : l[k]; rw [hh] at h; cases y; simp_all)
        simp [hl, hy]; omega
    · have h6 : k = l.length := by omega
      subst h6
      simp; omega
  rw [spec_l06Put_b0_sh]
  simp
  refine ⟨fun h => ?_, fun h => fin (fun h2 => absurd h2 (by omega))⟩
  simp only [List.getElem?_eq_getElem h, Option.some.injEq, exists_eq_left']
  cases hl : pinLess l[k] y with
  | false =>
    simp
    exact fin (fun _ => hl)
  | true =>
    have hw : IntKind.i64.wrap ((k : Int) + 1) = k + 1 := wrap_id (by omega) (by omega)
    simp [hw, h]
    intro j hj hjk
    by_cases e : j = k
    · subst e; exact hl
    · exact hP j hj (by omega)
theorem putPin_len (l : List T2) (y : T2) : (putPin l y).length ≤ l.length + 1 := by
  induction l with
  | nil => simp [putPin]
  | cons a r ih => unfold putPin; split <;> (try split) <;> simp <;> omega
end Go.Mw

namespace Go.Mw
theorem within_iff' {a b c : Int} : within a b c = true ↔ b ≤ a ∧ a ≤ c := by simp [within]
@[simp] theorem P1_lstI3 {a b c : Int} {k : V → Prop} : P1 (.lst [.sc] false 3) [.int .i64 a, .int .i64 b, .int .i64 c] k ↔ k (vL I1 v1 [a, b, c]) := P1_of (by simp [Prim.run, aksOk, akOk, chunk, V.pack, vL, v1]) k

theorem pinLess_or {a b : T2} (h : pinLess a b = false) (hne : a ≠ b) : pinLess b a = true := by
  cases a; cases b
  simp only [pinLess, decide_eq_false_iff_not, decide_eq_true_eq, ne_eq, T2.mk.injEq] at *
  omega
theorem rising_cons {a : T2} {r : List T2} : rising (a :: r) = true ↔ (∀ h, r.head? = some h → pinLess a h = true) ∧ rising r = true := by
  cases r <;> simp [rising]
theorem putPin_head {l : List T2} {y h : T2} (hh : (putPin l y).head? = some h) : h = y ∨ l.head? = some h := by
  cases l with
  | nil => simp [putPin] at hh; exact .inl hh.symm
  | cons a r =>
    unfold putPin at hh
    split at hh
    · simp at hh; exact .inr (by simp [hh])
    · split at hh
      · simp at hh; exact .inr (by simp [hh])
      · simp at hh; exact .inl hh.symm
theorem putPin_rising {l : List T2} {y : T2} (h : rising l = true) : rising (putPin l y) = true := by
  induction l with
  | nil => simp [putPin, rising]
  | cons a r ih =>
    have hr := rising_cons.1 h
    unfold putPin
    by_cases h1 : pinLess a y = true
    · rw [if_pos h1, rising_cons]
      refine ⟨fun b hb => ?_, ih hr.2⟩
      rcases putPin_head hb with rfl | hb
      · exact h1
      · exact hr.1 b hb
    · rw [if_neg h1]
      by_cases h2 : a = y
      · rw [if_pos h2]; exact h
      · rw [if_neg h2, rising_cons]
        refine ⟨fun b hb => ?_, h⟩
        simp only [List.head?_cons, Option.some.injEq] at hb
        subst hb
        exact pinLess_or (by simpa using h1) h2
theorem putPin_mem {l : List T2} {y p : T2} (h : p ∈ putPin l y) : p = y ∨ p ∈ l := by
  induction l with
  | nil => simpa [putPin] using h
  | cons a r ih =>
    unfold putPin at h
    split at h
    · rcases List.mem_cons.1 h with rfl | h
      · simp
      · rcases ih h with h | h
        · exact .inl h
        · exact .inr (by simp [h])
    · split at h
      · exact .inr h
      · rcases List.mem_cons.1 h with h | h
        · exact .inl h
        · exact .inr h

theorem cyl_inv (s t : Int) (x : Cur) (hs : 0 < s) (ht : 0 < t) (hi : 0 ≤ x.i) (k : Nat) :
    (cylTo s t x k).2.b = x.b ∧ 0 ≤ (cylTo s t x k).2.i ∧ (cylTo s t x k).1.length ≤ k ∧ rising (cylTo s t x k).1 = true ∧ ∀ p ∈ (cylTo s t x k).1, pinIn s t p = true := by
  induction k with
  | zero => exact ⟨rfl, hi, by simp [cylTo], by simp [cylTo, rising], by simp [cylTo]⟩
  | succ k ih =>
    obtain ⟨h1, h2, h3, h4, h5⟩ := ih
    refine ⟨by simp [cylTo, h1], cAfter_i (cAfter_i h2), ?_, putPin_rising h4, fun p hp => ?_⟩
    · exact Nat.le_trans (putPin_len _ _) (by omega)
    · rcases putPin_mem hp with rfl | hp
      · have g1 := cBelow_range (cylTo s t x k).2 ht
        have g2 := cBelow_range (cAfter (cylTo s t x k).2 t) hs
        simp only [pinIn, Bool.and_eq_true, within_iff']
        omega
      · exact h5 p hp
theorem cylX_i {x : Cur} (hi : 0 ≤ x.i) : 0 ≤ (cylX x).i := cAfter_i (cAfter_i (cAfter_i hi))
@[simp] theorem cylX_b (x : Cur) : (cylX x).b = x.b := by simp [cylX]
theorem cyl_r (x : Cur) : (4 ≤ cylS x ∧ cylS x ≤ 24) ∧ (1 ≤ cylT x ∧ cylT x ≤ 8) ∧ (0 ≤ cylN x ∧ cylN x ≤ 9) := by
  have h1 := cBelow_range x (show (0 : Int) < 21 by omega)
  have h2 := cBelow_range (cAfter x 21) (show (0 : Int) < 8 by omega)
  have h3 := cBelow_range (cAfter (cAfter x 21) 8) (show (0 : Int) < 10 by omega)
  simp only [cylS, cylT, cylN]; omega
theorem cylOf_ok {x : Cur} (hi : 0 ≤ x.i) : cylOk (cylOf x) = true ∧ (cylOf x).p.length ≤ 9 := by
  obtain ⟨r1, r2, r3⟩ := cyl_r x
  obtain ⟨-, -, h3, h4, h5⟩ := cyl_inv (cylS x) (cylT x) (cylX x) (by omega) (by omega) (cylX_i hi) (cylN x).toNat
  refine ⟨?_, by simp only [cylOf]; omega⟩
  simp only [cylOk, cylOf, Bool.and_eq_true, within_iff', List.all_eq_true]
  have h6 : (cylTo (cylS x) (cylT x) (cylX x) (cylN x).toNat).1.length ≤ 100 := by omega
  exact ⟨⟨⟨by omega, by omega⟩, decide_eq_true h6⟩, h5, h4⟩
theorem spec_l06Cylinder_ok : ∀ ds outs, F_l06Cylinder ds = some outs → shL spec_l06Cylinder_L (qRet outs) ds := F_l06Cylinder_elim fun x hp => by
  obtain ⟨i0, hb⟩ := hp
  have i1 : 0 ≤ (cAfter x 21).i := cAfter_i i0
  have i2 : 0 ≤ (cAfter (cAfter x 21) 8).i := cAfter_i i1
  obtain ⟨r1, r2, r3⟩ := cyl_r x
  have w1 : IntKind.i64.wrap (4 + cBelow x 21) = cylS x := by have : 4 + cBelow x 21 = cylS x := rfl; rw [this]; exact wrap_id (by omega) (by omega)
  have w2 : IntKind.i64.wrap (1 + cBelow (cAfter x 21) 8) = cylT x := by have : 1 + cBelow (cAfter x 21) 8 = cylT x := rfl; rw [this]; exact wrap_id (by omega) (by omega)
  rw [spec_l06Cylinder_L_sh, q_below (b := x.b) x rfl i0 hb]
  simp only [P1_add, w1]
  rw [q_below (b := x.b) (cAfter x 21) (by simp) i1 hb]
  simp only [P1_add, w2]
  rw [q_below (b := x.b) (cAfter (cAfter x 21) 8) (by simp) i2 hb]
  refine loop_upto (cylN x).toNat (fun k => [.int .i64 (cylN x - k), vL I2 v2 (cylTo (cylS x) (cylT x) (cylX x) k).1, vL I1 vY x.b, .int .i64 (cylTo (cylS x) (cylT x) (cylX x) k).2.i, .int .i64 (cylTo (cylS x) (cylT x) (cylX x) k).2.h, .int .i64 0, .int .i64 0, .int .i64 (cylS x), .int .i64 (cylT x)]) (by intro i j _ _ h; simp at h; omega) (fun _ => True) (by simp [cylTo, cylN, cylX]) trivial ?_
  intro k hk _
  obtain ⟨g1, g2, g3, -, -⟩ := cyl_inv (cylS x) (cylT x) (cylX x) (by omega) (by omega) (cylX_i i0) k
  rw [cylX_b] at g1
  rw [spec_l06Cylinder_b0_sh]
  simp only [P1_gtr, ifB_bool, decide_eq_true_eq, decide_eq_false_iff_not]
  refine ⟨fun h => ?_, fun h => ?_⟩
  · rw [q_below (b := x.b) _ g1 g2 hb, q_below (b := x.b) (cAfter _ _) (by simp [g1]) (cAfter_i g2) hb]
    have hw : IntKind.i64.wrap (cylN x - (k : Int) - 1) = cylN x - ((k + 1 : Nat) : Int) := by rw [wrap_id (by omega) (by omega)]; omega
    have hl : (cylTo (cylS x) (cylT x) (cylX x) k).1.length ≤ 1048576 := by omega
    rw [p_l06Put (l := (cylTo (cylS x) (cylT x) (cylX x) k).1) hl]
    simp only [P1_sub, hw]
    exact ⟨by omega, rfl, trivial⟩
  · have e : k = (cylN x).toNat := by omega
    subst e
    simp [spec_l06Cylinder_r1_sh, cylOf, cylEnd]
theorem cylEnd_b {x : Cur} (hi : 0 ≤ x.i) : (cylEnd x).b = x.b ∧ 0 ≤ (cylEnd x).i := by
  obtain ⟨r1, r2, r3⟩ := cyl_r x
  obtain ⟨g1, g2, -⟩ := cyl_inv (cylS x) (cylT x) (cylX x) (by omega) (by omega) (cylX_i hi) (cylN x).toNat
  exact ⟨by rw [cylX_b] at g1; exact g1, g2⟩
theorem spec_l01PickInt_ok : ∀ ds outs, F_l01PickInt ds = some outs → shL spec_l01PickInt_L (qRet outs) ds := F_l01PickInt_elim fun x l hp => by
  obtain ⟨i0, hb, h1, h2⟩ := hp
  rw [spec_l01PickInt_L_sh]
  simp only [P1_len]
  rw [q_below (b := x.b) x rfl i0 hb]
  have hr := cBelow_range x (show (0 : Int) < l.length by omega)
  have h3 : (cBelow x l.length).toNat < l.length := by omega
  simp [h3, hr.1]
theorem q_pick {b : List UInt8} (c : Cur) {l : List Int} {m : Nat} {k : V → V → V → Prop} (hb : c.b = b) (h : 0 ≤ c.i) (hl : b.length ≤ 1048576) (h1 : 1 ≤ l.length) (h2 : l.length ≤ 1048576) : P3 (.call F_l01PickInt 0 m) [vL I1 vY b, .int .i64 c.i, .int .i64 c.h, vL I1 v1 l] k ↔ k (.int .i64 (l[(cBelow c l.length).toNat]?.getD 0)) (.int .i64 (cAfter c l.length).i) (.int .i64 (cAfter c l.length).h) := by
  subst hb; exact p_l01PickInt ⟨h, hl, h1, h2⟩
end Go.Mw

namespace Go.Mw
@[simp] theorem P1_neaX {a c e g : Int} {b f : Bool} {k : V → Prop} : P1 (.eqa true [.i, .b, .i]) [.int .i64 a, .bool b, .int .i64 c, .int .i64 e, .bool f, .int .i64 g] k ↔ k (.bool (!decide (a = e ∧ b = f ∧ c = g))) := P1_of (by simp only [Prim.run, eqVs, eqV1, List.length_cons, List.length_nil, List.take, List.drop, if_true]; cases b <;> cases f <;> simp <;> grind) k
theorem pinsAt_le (c : Cyl) (a : Int) : (pinsAt c a).length ≤ c.p.length := by
  unfold pinsAt
  split
  · simpa using List.length_filter_le _ _
  · simp
theorem it_p (c : Cyl) (x : Stt) : ∀ k, (itS c x k).p = x.p + (itL c x k).length ∧ (itL c x k).length ≤ k * c.p.length
  | 0 => by simp [itS, itL]
  | k + 1 => by
    obtain ⟨h1, h2⟩ := it_p c x k
    have h3 := pinsAt_le c (itS c x k).a
    simp only [itS, itL, nextStt, List.length_append, h1, Nat.add_mul]
    omega
structure Small (c : Cyl) (x : Stt) : Prop where
  ok : sttOk c x = true
  len : c.p.length ≤ 9
  p : x.p ≤ 77
theorem Small.it {c : Cyl} {x : Stt} (h : Small c x) (hn : x.n = true) {k : Nat} (hk : k ≤ runN c x) : sttOk c (itS c x k) = true := by
  have h0 := (sttOk_iff c x).1 h.ok
  have hb := cylOk_bounds h0.1
  have h1 := it_p c x k
  have h77 := h.p
  have h2 : k * c.p.length ≤ 96 * 9 := Nat.mul_le_mul (by simp only [runN] at hk; omega) h.len
  rw [sttOk_iff]
  refine ⟨h0.1, ?_, by omega⟩
  by_cases e : k < runN c x
  · have := (itS_on h.ok hn k e).1
    simp only [runN] at e
    omega
  · obtain rfl : k = runN c x := by omega
    have := (itS_off h.ok hn).1
    omega
theorem Small.can {c : Cyl} {x : Stt} (h : Small c x) (hn : x.n = true) {k : Nat} (hk : k < runN c x) : canStep c (itS c x k) = true := by
  rw [canStep_iff]
  exact ⟨h.it hn (by omega), (itS_on h.ok hn k hk).2, h.it hn (k := k + 1) hk⟩
def runM (c : Cyl) (x : Stt) : Nat := if x.n then runN c x else 0
theorem Small.steps {c : Cyl} {x : Stt} (h : Small c x) : stepsLeft c x = runM c x := by
  have h0 := (sttOk_iff c x).1 h.ok
  unfold stepsLeft runM
  rw [if_pos h.ok]
  cases x.n
  · simp
  · simp only [if_true, runN]; omega
theorem Small.run {c : Cyl} {x : Stt} (h : Small c x) : runBox c x = (itS c x (runM c x), itL c x (runM c x)) := by
  unfold runBox runM
  cases hn : x.n with
  | false =>
    have : runOk c x = false := by simp [runOk, hn]
    simp [this, itS, itL]
  | true =>
    have : runOk c x = true := by
      simp only [runOk, h.ok, hn, Bool.true_and, List.all_eq_true, List.mem_range]
      intro k hk; exact h.can hn hk
    simp [this]
end Go.Mw

namespace Go.Mw
end Go.Mw

namespace Go.Mw
end Go.Mw

namespace Go.Mw
noncomputable section
end
end Go.Mw

namespace Go.Mw
end Go.Mw

namespace Go.Mw
structure Word (w : List Int) : Prop where
  lo : 2 ≤ w.length
  hi : w.length ≤ 21
  dig : ∀ x ∈ w, 0 ≤ x ∧ x ≤ 9
theorem Word.are {w : List Int} (h : Word w) : areDigits w 2 21 = true := by
  rw [areDigits_iff]
  have h1 := h.lo; have h2 := h.hi
  exact ⟨within_iff'.2 (by omega), fun x hx => within_iff'.2 (h.dig x hx)⟩
theorem Word.set {w : List Int} (h : Word w) {k : Nat} {e : Int} (he : 0 ≤ e ∧ e ≤ 9) : Word (w.set k e) := by
  refine ⟨by simpa using h.lo, by simpa using h.hi, fun x hx => ?_⟩
  rcases List.mem_or_eq_of_mem_set hx with hx | rfl
  · exact h.dig x hx
  · exact he
end Go.Mw

namespace Go.Mw
end Go.Mw

namespace Go.Mw
def cmpPins (x y : T2) : Int := if pinLess x y then -1 else if x = y then 0 else 1
def sortPins (l : List T2) : List T2 := l.mergeSort fun x y => !pinLess y x
def E_slices_SortFunc_Limpl_Pin_impl_Pin (l : List T2) : List V := [vL I2 v2 l]
noncomputable def F_slices_SortFunc_Limpl_Pin_impl_Pin : List V → Option (List V) := mkF E_slices_SortFunc_Limpl_Pin_impl_Pin (fun l => l.length ≤ 1048576) (fun l => [vL I2 v2 (sortPins l)])
theorem F_slices_SortFunc_Limpl_Pin_impl_Pin_inj : ∀ x y, E_slices_SortFunc_Limpl_Pin_impl_Pin x = E_slices_SortFunc_Limpl_Pin_impl_Pin y → x = y := by
  rintro l l' h
  simpa [E_slices_SortFunc_Limpl_Pin_impl_Pin] using h
theorem p_slices_SortFunc_Limpl_Pin_impl_Pin {l : List T2} {kk_ : V → Prop} (hp : l.length ≤ 1048576) : P1 (.call F_slices_SortFunc_Limpl_Pin_impl_Pin 1 0) [vL I2 v2 l, vL I2 v2 l] kk_ ↔ kk_ (vL I2 v2 (sortPins l)) :=
  P1_of (callIo_run (as := [vL I2 v2 l]) (rs := [vL I2 v2 l]) (n := 1) (nr := 0) rfl (by simp) (by unfold F_slices_SortFunc_Limpl_Pin_impl_Pin; exact mkF_eq F_slices_SortFunc_Limpl_Pin_impl_Pin_inj (l) hp) (by simp [ksAll, vL, AK.eqs_refl]) rfl) kk_

def E_sortedPins (l : List T2) : List V := [vL I2 v2 l]
noncomputable def F_sortedPins : List V → Option (List V) := mkF E_sortedPins (fun l => l.length ≤ 1048576) (fun l => [vL I2 v2 (sortPins l)])
theorem F_sortedPins_inj : ∀ x y, E_sortedPins x = E_sortedPins y → x = y := by
  rintro l l' h
  simpa [E_sortedPins] using h
theorem F_sortedPins_elim {P : List V → List V → Prop} (h : ∀ (l : List T2), (l.length ≤ 1048576) → P [vL I2 v2 l] [vL I2 v2 (sortPins l)]) : ∀ ds outs, F_sortedPins ds = some outs → P ds outs := by
  intro ds outs hh
  obtain ⟨l, rfl, hp, rfl⟩ := mkF_inv hh
  exact h l hp
theorem p_sortedPins {l : List T2} {nr_ : Nat} {kk_ : V → Prop} (hp : l.length ≤ 1048576) : P1 (.call F_sortedPins 0 nr_) [vL I2 v2 l] kk_ ↔ kk_ (vL I2 v2 (sortPins l)) :=
  P1_callF (by unfold F_sortedPins; exact mkF_eq F_sortedPins_inj (l) hp)

def addOk (c : Cyl) (p : T2) : Bool := cylOk c && (!decide (p ∈ c.p) && cylOk ⟨c.s, c.t, putPin c.p p⟩)
def addTo (c : Cyl) (p : T2) : Cyl := if addOk c p then ⟨c.s, c.t, putPin c.p p⟩ else c
def E_AddPin : Cyl × T2 → List V := fun (x, y) => [.int .i64 x.s, .int .i64 x.t, vL I2 v2 x.p, .int .i64 y.a, .int .i64 y.b]
noncomputable def F_AddPin : List V → Option (List V) := mkF E_AddPin (fun (x, _) => x.p.length ≤ 1048576) (fun (x, y) => [.int .i64 (addTo x y).s, .int .i64 (addTo x y).t, vL I2 v2 (addTo x y).p, .bool (addOk x y)])
theorem F_AddPin_inj : ∀ x y, E_AddPin x = E_AddPin y → x = y := by
  rintro ⟨⟨xs, xt, xp⟩, ⟨ya, yb⟩⟩ ⟨⟨xs', xt', xp'⟩, ⟨ya', yb'⟩⟩ h
  simpa [E_AddPin, and_assoc] using h
theorem F_AddPin_elim {P : List V → List V → Prop} (h : ∀ (x : Cyl) (y : T2), (x.p.length ≤ 1048576) → P [.int .i64 x.s, .int .i64 x.t, vL I2 v2 x.p, .int .i64 y.a, .int .i64 y.b] [.int .i64 (addTo x y).s, .int .i64 (addTo x y).t, vL I2 v2 (addTo x y).p, .bool (addOk x y)]) : ∀ ds outs, F_AddPin ds = some outs → P ds outs := by
  intro ds outs hh
  obtain ⟨⟨x, y⟩, rfl, hp, rfl⟩ := mkF_inv hh
  exact h x y hp
theorem p_AddPin {x_s : Int} {x_t : Int} {x_p : List T2} {y_a : Int} {y_b : Int} {nr_ : Nat} {kk_ : V → V → V → V → Prop} (hp : (⟨x_s, x_t, x_p⟩ : Cyl).p.length ≤ 1048576) : P4 (.call F_AddPin 0 nr_) [.int .i64 x_s, .int .i64 x_t, vL I2 v2 x_p, .int .i64 y_a, .int .i64 y_b] kk_ ↔ kk_ (.int .i64 (addTo (⟨x_s, x_t, x_p⟩ : Cyl) (⟨y_a, y_b⟩ : T2)).s) (.int .i64 (addTo (⟨x_s, x_t, x_p⟩ : Cyl) (⟨y_a, y_b⟩ : T2)).t) (vL I2 v2 (addTo (⟨x_s, x_t, x_p⟩ : Cyl) (⟨y_a, y_b⟩ : T2)).p) (.bool (addOk (⟨x_s, x_t, x_p⟩ : Cyl) (⟨y_a, y_b⟩ : T2))) :=
  P4_callF (by unfold F_AddPin; exact mkF_eq F_AddPin_inj ((⟨x_s, x_t, x_p⟩ : Cyl), (⟨y_a, y_b⟩ : T2)) hp)

def setPin (b : Bench) (p : T2) : Bench := stepTo b (addTo b.cyl p) (addOk b.cyl p)
def E_SetPin : Bench × T2 → List V := fun (x, y) => [.int .i64 x.s, .int .i64 x.t, vL I2 v2 x.p, vL IL2 vLL2 x.o, .int .i64 y.a, .int .i64 y.b]
noncomputable def F_SetPin : List V → Option (List V) := mkF E_SetPin (fun (x, _) => x.p.length ≤ 1048576 ∧ fitLL x.o) (fun (x, y) => [.int .i64 (setPin x y).s, .int .i64 (setPin x y).t, vL I2 v2 (setPin x y).p, vL IL2 vLL2 (setPin x y).o, .bool (addOk x.cyl y && stepOk x (addTo x.cyl y))])
theorem F_SetPin_inj : ∀ x y, E_SetPin x = E_SetPin y → x = y := by
  rintro ⟨⟨xs, xt, xp, xo⟩, ⟨ya, yb⟩⟩ ⟨⟨xs', xt', xp', xo'⟩, ⟨ya', yb'⟩⟩ h
  simpa [E_SetPin, and_assoc] using h
theorem F_SetPin_elim {P : List V → List V → Prop} (h : ∀ (x : Bench) (y : T2), (x.p.length ≤ 1048576 ∧ fitLL x.o) → P [.int .i64 x.s, .int .i64 x.t, vL I2 v2 x.p, vL IL2 vLL2 x.o, .int .i64 y.a, .int .i64 y.b] [.int .i64 (setPin x y).s, .int .i64 (setPin x y).t, vL I2 v2 (setPin x y).p, vL IL2 vLL2 (setPin x y).o, .bool (addOk x.cyl y && stepOk x (addTo x.cyl y))]) : ∀ ds outs, F_SetPin ds = some outs → P ds outs := by
  intro ds outs hh
  obtain ⟨⟨x, y⟩, rfl, hp, rfl⟩ := mkF_inv hh
  exact h x y hp
theorem p_SetPin {x_s : Int} {x_t : Int} {x_p : List T2} {x_o : List (List T2)} {y_a : Int} {y_b : Int} {nr_ : Nat} {kk_ : V → V → V → V → V → Prop} (hp : (⟨x_s, x_t, x_p, x_o⟩ : Bench).p.length ≤ 1048576 ∧ fitLL (⟨x_s, x_t, x_p, x_o⟩ : Bench).o) : P5 (.call F_SetPin 0 nr_) [.int .i64 x_s, .int .i64 x_t, vL I2 v2 x_p, vL IL2 vLL2 x_o, .int .i64 y_a, .int .i64 y_b] kk_ ↔ kk_ (.int .i64 (setPin (⟨x_s, x_t, x_p, x_o⟩ : Bench) (⟨y_a, y_b⟩ : T2)).s) (.int .i64 (setPin (⟨x_s, x_t, x_p, x_o⟩ : Bench) (⟨y_a, y_b⟩ : T2)).t) (vL I2 v2 (setPin (⟨x_s, x_t, x_p, x_o⟩ : Bench) (⟨y_a, y_b⟩ : T2)).p) (vL IL2 vLL2 (setPin (⟨x_s, x_t, x_p, x_o⟩ : Bench) (⟨y_a, y_b⟩ : T2)).o) (.bool (addOk (⟨x_s, x_t, x_p, x_o⟩ : Bench).cyl (⟨y_a, y_b⟩ : T2) && stepOk (⟨x_s, x_t, x_p, x_o⟩ : Bench) (addTo (⟨x_s, x_t, x_p, x_o⟩ : Bench).cyl (⟨y_a, y_b⟩ : T2)))) :=
  P5_callF (by unfold F_SetPin; exact mkF_eq F_SetPin_inj ((⟨x_s, x_t, x_p, x_o⟩ : Bench), (⟨y_a, y_b⟩ : T2)) hp)

end Go.Mw

namespace Go.Mw
noncomputable section
def spec_AddPin_L : L := .seq (.rg []) (.seq (.rg [zc F_l06Copy 3 [0, 1, 2]]) (.seq (.seq (.rg [zc F_CylinderOk 1 [0, 1, 2], zn 8]) (.ite (.v 9) (.seq (.rg []) (.ret [.v 5, .v 6, .v 7, .k (.bool false)])) (.skip))) (.seq (.rg [zc F_l06Put 2 [2, 3, 4]]) (.seq (.rg []) (.seq (.seq (.rg [zn 11, ⟨[(.v 12, false)], .call F_CylinderOk 0 1, [.v 5, .v 6, .v 10], 1⟩, ⟨[(.v 12, false)], .un .not, [.v 13], 1⟩, ⟨[], .pick, [.v 12, .k (.bool true), .v 14], 1⟩]) (.ite (.v 15) (.seq (.rg [zc F_l06Copy 3 [0, 1, 2]]) (.ret [.v 16, .v 17, .v 18, .k (.bool false)])) (.skip))) (.seq (.rg []) (.ret [.v 5, .v 6, .v 10, .k (.bool true)])))))))
theorem spec_AddPin_L_sh (Q : QT) (x0 x1 x2 x3 x4 : V) : shL spec_AddPin_L Q [x0, x1, x2, x3, x4] = (
  P3 (.call F_l06Copy 0 3) [x0, x1, x2] fun v0 v1 v2 =>
  P1 (.call F_CylinderOk 0 1) [x0, x1, x2] fun v3 =>
  P1 (.un .not) [v3] fun v4 =>
  ifB v4 (
    Q .ret [v0, v1, v2, .bool false]) (
    P2 (.call F_l06Put 0 2) [x2, x3, x4] fun v5 v6 =>
    P1 (.un .not) [v6] fun v7 =>
    ifB v7 (
      P3 (.call F_l06Copy 0 3) [x0, x1, x2] fun v8 v9 v10 =>
      Q .ret [v8, v9, v10, .bool false]) (
      P1 (.call F_CylinderOk 0 1) [v0, v1, v5] fun v11 =>
      P1 (.un .not) [v11] fun v12 =>
      ifB v12 (
        P3 (.call F_l06Copy 0 3) [x0, x1, x2] fun v13 v14 v15 =>
        Q .ret [v13, v14, v15, .bool false]) (
        Q .ret [v0, v1, v5, .bool true])))) := by kernel_rfl
def spec_AddPin_S : Sig := ⟨[.val true [.sc, .sc, .sl [.sc, .sc]], .val true [.sc, .sc]], [(true, [.sc, .sc, .sl [.sc, .sc]]), (false, [.sc])], F_AddPin⟩
def spec_AddPin_hs : List NF := []

def spec_SetPin_L : L := .seq (.rg []) (.seq (.rg [zc F_AddPin 4 [0, 1, 2, 4, 5]]) (.seq (.seq (.rg [zn 9]) (.ite (.v 10) (.seq (.rg [zc F_l37Copy 4 [0, 1, 2, 3]]) (.ret [.v 11, .v 12, .v 13, .v 14, .k (.bool false)])) (.skip))) (.seq (.rg [zc F_l37Step 5 [0, 1, 2, 3, 6, 7, 8]]) (.seq (.rg []) (.ret [.v 11, .v 12, .v 13, .v 14, .v 15])))))
theorem spec_SetPin_L_sh (Q : QT) (x0 x1 x2 x3 x4 x5 : V) : shL spec_SetPin_L Q [x0, x1, x2, x3, x4, x5] = (
  P4 (.call F_AddPin 0 4) [x0, x1, x2, x4, x5] fun v0 v1 v2 v3 =>
  P1 (.un .not) [v3] fun v4 =>
  ifB v4 (
    P4 (.call F_l37Copy 0 4) [x0, x1, x2, x3] fun v5 v6 v7 v8 =>
    Q .ret [v5, v6, v7, v8, .bool false]) (
    P5 (.call F_l37Step 0 5) [x0, x1, x2, x3, v0, v1, v2] fun v9 v10 v11 v12 v13 =>
    Q .ret [v9, v10, v11, v12, v13])) := by kernel_rfl
def spec_SetPin_S : Sig := ⟨[.val true [.sc, .sc, .sl [.sc, .sc], .sl [.sl [.sc, .sc]]], .val true [.sc, .sc]], [(true, [.sc, .sc, .sl [.sc, .sc], .sl [.sl [.sc, .sc]]]), (false, [.sc])], F_SetPin⟩
def spec_SetPin_hs : List NF := []

def impl_sortedPins_L : L := .seq (.rg []) (.seq (.rg [zc F_copyPins 1 [0]]) (.seq (.rg [⟨[], .call F_slices_SortFunc_Limpl_Pin_impl_Pin 1 0, [.v 1, .v 1], 1⟩]) (.seq (.rg []) (.ret [.v 2]))))
theorem impl_sortedPins_L_sh (Q : QT) (x0 : V) : shL impl_sortedPins_L Q [x0] = (
  P1 (.call F_copyPins 0 1) [x0] fun v0 =>
  P1 (.call F_slices_SortFunc_Limpl_Pin_impl_Pin 1 0) [v0, v0] fun v1 =>
  Q .ret [v1]) := by kernel_rfl
def impl_sortedPins_S : Sig := ⟨[.val false [.sl [.sc, .sc]]], [(false, [.sl [.sc, .sc]])], F_sortedPins⟩
def impl_sortedPins_hs : List NF := []

def impl_AddPin_L : L := .seq (.rg []) (.seq (.seq (.rg [zc F_CylinderOk 1 [0, 1, 2], zn 5, ⟨[(.v 6, false)], .call F_hasPin 0 1, [.v 2, .v 3, .v 4], 1⟩, ⟨[], .pick, [.v 6, .k (.bool true), .v 7], 1⟩]) (.ite (.v 8) (.seq (.rg [zc F_copyCylinder 3 [0, 1, 2]]) (.ret [.v 9, .v 10, .v 11, .k (.bool false)])) (.skip))) (.seq (.rg [zc F_copyCylinder 3 [0, 1, 2]]) (.seq (.rg [⟨[], .lst [.sc, .sc] true 1, [.v 3, .v 4], 1⟩, ⟨[], .app [.sc, .sc] 16, [.v 11, .v 12], 1⟩, zc F_sortedPins 1 [13]]) (.seq (.seq (.rg [zc F_CylinderOk 1 [9, 10, 14], zn 15]) (.ite (.v 16) (.seq (.rg [zc F_copyCylinder 3 [0, 1, 2]]) (.ret [.v 17, .v 18, .v 19, .k (.bool false)])) (.skip))) (.seq (.rg []) (.ret [.v 9, .v 10, .v 14, .k (.bool true)]))))))
theorem impl_AddPin_L_sh (Q : QT) (x0 x1 x2 x3 x4 : V) : shL impl_AddPin_L Q [x0, x1, x2, x3, x4] = (
  P1 (.call F_CylinderOk 0 1) [x0, x1, x2] fun v0 =>
  P1 (.un .not) [v0] fun v1 =>
  ifB v1 (
    P3 (.call F_copyCylinder 0 3) [x0, x1, x2] fun v2 v3 v4 =>
    Q .ret [v2, v3, v4, .bool false]) (
    P1 (.call F_hasPin 0 1) [x2, x3, x4] fun v5 =>
    ifB v5 (
      P3 (.call F_copyCylinder 0 3) [x0, x1, x2] fun v6 v7 v8 =>
      Q .ret [v6, v7, v8, .bool false]) (
      P3 (.call F_copyCylinder 0 3) [x0, x1, x2] fun v9 v10 v11 =>
      P1 (.lst [.sc, .sc] true 1) [x3, x4] fun v12 =>
      P1 (.app [.sc, .sc] 16) [v11, v12] fun v13 =>
      P1 (.call F_sortedPins 0 1) [v13] fun v14 =>
      P1 (.call F_CylinderOk 0 1) [v9, v10, v14] fun v15 =>
      P1 (.un .not) [v15] fun v16 =>
      ifB v16 (
        P3 (.call F_copyCylinder 0 3) [x0, x1, x2] fun v17 v18 v19 =>
        Q .ret [v17, v18, v19, .bool false]) (
        Q .ret [v9, v10, v14, .bool true])))) := by kernel_rfl
def impl_AddPin_S : Sig := ⟨[.val true [.sc, .sc, .sl [.sc, .sc]], .val true [.sc, .sc]], [(true, [.sc, .sc, .sl [.sc, .sc]]), (false, [.sc])], F_AddPin⟩
def impl_AddPin_hs : List NF := []

def impl_SetPin_L : L := .seq (.rg []) (.seq (.rg [zc F_AddPin 4 [0, 1, 2, 4, 5]]) (.seq (.rg [zc F_replaced 5 [0, 1, 2, 3, 6, 7, 8, 9]]) (.ret [.v 10, .v 11, .v 12, .v 13, .v 14])))
theorem impl_SetPin_L_sh (Q : QT) (x0 x1 x2 x3 x4 x5 : V) : shL impl_SetPin_L Q [x0, x1, x2, x3, x4, x5] = (
  P4 (.call F_AddPin 0 4) [x0, x1, x2, x4, x5] fun v0 v1 v2 v3 =>
  P5 (.call F_replaced 0 5) [x0, x1, x2, x3, v0, v1, v2, v3] fun v4 v5 v6 v7 v8 =>
  Q .ret [v4, v5, v6, v7, v8]) := by kernel_rfl
def impl_SetPin_S : Sig := ⟨[.val true [.sc, .sc, .sl [.sc, .sc], .sl [.sl [.sc, .sc]]], .val true [.sc, .sc]], [(true, [.sc, .sc, .sl [.sc, .sc], .sl [.sl [.sc, .sc]]]), (false, [.sc])], F_SetPin⟩
def impl_SetPin_hs : List NF := []

end
end Go.Mw

namespace Go.Mw
def leP (x y : T2) : Bool := !pinLess y x
theorem leP_iff {x y : T2} : leP x y = true ↔ x.b < y.b ∨ x.b = y.b ∧ x.a ≤ y.a := by
  simp only [leP, pinLess, Bool.not_eq_true', decide_eq_false_iff_not]; omega
theorem leP_trans (x y z : T2) (h1 : leP x y = true) (h2 : leP y z = true) : leP x z = true := by
  rw [leP_iff] at *; omega
theorem leP_total (x y : T2) : (leP x y || leP y x) = true := by
  rw [Bool.or_eq_true, leP_iff, leP_iff]; omega
theorem leP_anti {x y : T2} (h1 : leP x y = true) (h2 : leP y x = true) : x = y := by
  cases x; cases y
  rw [leP_iff] at *
  simp only [T2.mk.injEq] at *
  omega
theorem perm_one : ∀ {l m : List T2}, l.Pairwise (fun x y => leP x y = true) → m.Pairwise (fun x y => leP x y = true) → l.Perm m → l = m
  | [], m, _, _, h => by simpa using h.symm.eq_nil
  | a :: r, [], _, _, h => by simpa using h.eq_nil
  | a :: r, b :: s, h1, h2, h => by
    have hab : a = b := by
      have ha : a ∈ b :: s := h.subset (by simp)
      have hb : b ∈ a :: r := h.symm.subset (by simp)
      rcases List.mem_cons.1 ha with e | ha
      · exact e
      · rcases List.mem_cons.1 hb with e | hb
        · exact e.symm
        · exact leP_anti (List.rel_of_pairwise_cons h1 hb) (List.rel_of_pairwise_cons h2 ha)
    subst hab
    rw [perm_one h1.of_cons h2.of_cons (List.Perm.cons_inv h)]
theorem pinLess_trans {a b c : T2} (h1 : pinLess a b = true) (h2 : pinLess b c = true) : pinLess a c = true := by
  simp only [pinLess, decide_eq_true_eq] at *; omega
theorem pinLess_irrefl (a : T2) : pinLess a a = false := by simp [pinLess]
theorem rising_less {a : T2} : ∀ {l : List T2}, rising (a :: l) = true → ∀ b ∈ l, pinLess a b = true
  | [], _, b, hb => by simp at hb
  | c :: r, h, b, hb => by
    have h1 := rising_cons.1 h
    have h2 : pinLess a c = true := h1.1 c rfl
    rcases List.mem_cons.1 hb with rfl | hb
    · exact h2
    · exact pinLess_trans h2 (rising_less h1.2 b hb)
theorem rising_sorted : ∀ {l : List T2}, rising l = true → l.Pairwise (fun x y => leP x y = true)
  | [], _ => .nil
  | a :: r, h => by
    refine .cons (fun b hb => ?_) (rising_sorted (rising_cons.1 h).2)
    have := rising_less h b hb
    rw [leP_iff]; simp only [pinLess, decide_eq_true_eq] at this; omega
theorem putPin_perm : ∀ {l : List T2} {y : T2}, y ∉ l → (putPin l y).Perm (l ++ [y])
  | [], y, _ => by simp [putPin]
  | a :: r, y, h => by
    simp only [List.mem_cons, not_or] at h
    unfold putPin
    split
    · exact .cons _ (putPin_perm h.2)
    · rw [if_neg (fun e => h.1 e.symm)]
      exact (List.perm_append_singleton y (a :: r)).symm
theorem sort_put {l : List T2} {y : T2} (h : rising l = true) (hy : y ∉ l) : sortPins (l ++ [y]) = putPin l y := by
  refine perm_one ?_ (rising_sorted (putPin_rising h)) ((List.mergeSort_perm _ _).trans (putPin_perm hy).symm)
  exact List.pairwise_mergeSort leP_trans leP_total _
theorem putNew_iff : ∀ {l : List T2} {y : T2}, rising l = true → putNew l y = !decide (y ∈ l)
  | [], y, _ => by simp [putNew]
  | a :: r, y, h => by
    have h1 := rising_cons.1 h
    unfold putNew
    by_cases h2 : pinLess a y = true
    · rw [if_pos h2, putNew_iff h1.2]
      have : y ≠ a := by rintro rfl; rw [pinLess_irrefl] at h2; cases h2
      simp [this]
    · rw [if_neg h2]
      by_cases h3 : a = y
      · simp [h3]
      · have h4 : y ∉ r := fun hr => h2 (rising_less h y hr)
        have h5 : ¬ y = a := fun e => h3 e.symm
        simp [h3, h4, h5]
theorem cylOk_rising {c : Cyl} (h : cylOk c = true) : rising c.p = true := by
  simp only [cylOk, Bool.and_eq_true] at h; exact h.2.2

theorem impl_sortedPins_ok : ∀ ds outs, F_sortedPins ds = some outs → shL impl_sortedPins_L (qRet outs) ds := F_sortedPins_elim fun l hp => by
  rw [impl_sortedPins_L_sh, p_copyPins (by omega), p_slices_SortFunc_Limpl_Pin_impl_Pin hp]
  simp
theorem spec_AddPin_ok : ∀ ds outs, F_AddPin ds = some outs → shL spec_AddPin_L (qRet outs) ds := F_AddPin_elim fun x y hp => by
  have hp4 : x.p.length ≤ 4194304 := by omega
  rw [spec_AddPin_L_sh, p_l06Copy (x_p := x.p) hp4]
  simp only [p_CylinderOk (x_p := x.p) hp, Cyl.eta, p_l06Copy (x_p := x.p) hp4]
  cases h : cylOk x with
  | false => simp [h, addTo, addOk]
  | true =>
    have hl := (cylOk_bounds h).2.2
    have h1 := putPin_len x.p y
    rw [P1_not, p_l06Put hp, putNew_iff (cylOk_rising h)]
    simp only [p_CylinderOk (x_p := putPin x.p y) (show _ ≤ 1048576 by show (putPin x.p y).length ≤ _; omega)]
    by_cases h2 : y ∈ x.p
    · simp [h, h2, addTo, addOk]
    · cases h3 : cylOk ⟨x.s, x.t, putPin x.p y⟩ <;> simp [h, h2, h3, addTo, addOk]
theorem impl_AddPin_ok : ∀ ds outs, F_AddPin ds = some outs → shL impl_AddPin_L (qRet outs) ds := F_AddPin_elim fun x y hp => by
  have hp4 : x.p.length ≤ 4194304 := by omega
  rw [impl_AddPin_L_sh]
  simp only [p_CylinderOk (x_p := x.p) hp, Cyl.eta, p_copyCylinder (x_p := x.p) hp4, p_hasPin hp]
  cases h : cylOk x with
  | false => simp [h, addTo, addOk]
  | true =>
    have hl := (cylOk_bounds h).2.2
    have h1 := putPin_len x.p y
    by_cases h2 : y ∈ x.p
    · simp [h, h2, addTo, addOk]
    · have e := sort_put (cylOk_rising h) h2
      have h5 : (x.p ++ [y]).length ≤ 1048576 := by simp; omega
      have h6 : (x.p.length + 1) * 16 ≤ 140737488355328 ∧ x.p.length ≤ 140737488355327 := by omega
      have h7 := fun (nr_ : Nat) (kk_ : V → Prop) => p_sortedPins (nr_ := nr_) (kk_ := kk_) h5
      rw [e] at h7
      simp [h2, h6, h7]
      rw [p_CylinderOk (x_p := putPin x.p y) (show _ ≤ 1048576 by show (putPin x.p y).length ≤ _; omega)]
      cases h3 : cylOk ⟨x.s, x.t, putPin x.p y⟩ <;> simp [h, h2, h3, addTo, addOk]
theorem addTo_len {c : Cyl} {p : T2} (h : c.p.length ≤ 1048576) : (addTo c p).p.length ≤ 1048576 := by
  unfold addTo
  cases h2 : addOk c p with
  | false => simpa using h
  | true =>
    simp only [addOk, Bool.and_eq_true] at h2
    have := (cylOk_bounds h2.2.2).2.2
    simp only [if_true]
    dsimp only at this ⊢
    omega
theorem spec_SetPin_ok : ∀ ds outs, F_SetPin ds = some outs → shL spec_SetPin_L (qRet outs) ds := F_SetPin_elim fun x y hp => by
  rw [spec_SetPin_L_sh, p_AddPin (x_p := x.p) hp.1]
  have e0 : (⟨x.s, x.t, x.p⟩ : Cyl) = x.cyl := rfl
  have e1 : (⟨x.s, x.t, x.p, x.o⟩ : Bench) = x := rfl
  have e2 : (⟨y.a, y.b⟩ : T2) = y := rfl
  have hl := addTo_len (p := y) (show x.cyl.p.length ≤ 1048576 from hp.1)
  simp only [e0, e2]
  cases h : addOk x.cyl y with
  | false =>
    simp only [p_l37Copy (x_p := x.p) (x_o := x.o) hp]
    simp [setPin, stepTo, h]
  | true =>
    unfold setPin
    rw [h]
    generalize addTo x.cyl y = c at *
    simp only [p_l37Step (x_p := x.p) (x_o := x.o) (y_p := c.p) ⟨hp.1, hp.2, hl⟩]
    simp
theorem impl_SetPin_ok : ∀ ds outs, F_SetPin ds = some outs → shL impl_SetPin_L (qRet outs) ds := F_SetPin_elim fun x y hp => by
  rw [impl_SetPin_L_sh, p_AddPin (x_p := x.p) hp.1]
  have e0 : (⟨x.s, x.t, x.p⟩ : Cyl) = x.cyl := rfl
  have e2 : (⟨y.a, y.b⟩ : T2) = y := rfl
  have hl := addTo_len (p := y) (show x.cyl.p.length ≤ 1048576 from hp.1)
  simp only [e0, e2]
  unfold setPin
  generalize addTo x.cyl y = c at *
  rw [p_replaced (x_p := x.p) (x_o := x.o) (y_p := c.p) ⟨hp.1, hp.2, hl⟩]
  simp
theorem setPin_small {b : Bench} {p : T2} (h : bSmall b) : bSmall (setPin b p) := stepTo_small h
end Go.Mw

namespace Go.Mw
def canSet (b : Bench) (p : T2) : Bool := addOk b.cyl p && stepOk b (addTo b.cyl p)
def E_PutPin : Shop × Int × Int → List V := fun (x, t, a) => [.int .i64 x.s, .int .i64 x.t, vL I2 v2 x.p, vL IL2 vLL2 x.o, vL I1 v1 x.c, .int .i64 x.u, .int .i64 x.m, .int .i64 x.f, .int .i64 x.y, .int .i64 x.d, .int .i64 t, .int .i64 a]
noncomputable def F_PutPin : List V → Option (List V) := mkF E_PutPin (fun (x, _, _) => x.p.length ≤ 1048576 ∧ fitLL x.o ∧ x.c.length ≤ 1048576) (fun (x, t, a) => [.int .i64 (withBench x (setPin x.bench ⟨t, a⟩) 1 (canSet x.bench ⟨t, a⟩)).s, .int .i64 (withBench x (setPin x.bench ⟨t, a⟩) 1 (canSet x.bench ⟨t, a⟩)).t, vL I2 v2 (withBench x (setPin x.bench ⟨t, a⟩) 1 (canSet x.bench ⟨t, a⟩)).p, vL IL2 vLL2 (withBench x (setPin x.bench ⟨t, a⟩) 1 (canSet x.bench ⟨t, a⟩)).o, vL I1 v1 (withBench x (setPin x.bench ⟨t, a⟩) 1 (canSet x.bench ⟨t, a⟩)).c, .int .i64 (withBench x (setPin x.bench ⟨t, a⟩) 1 (canSet x.bench ⟨t, a⟩)).u, .int .i64 (withBench x (setPin x.bench ⟨t, a⟩) 1 (canSet x.bench ⟨t, a⟩)).m, .int .i64 (withBench x (setPin x.bench ⟨t, a⟩) 1 (canSet x.bench ⟨t, a⟩)).f, .int .i64 (withBench x (setPin x.bench ⟨t, a⟩) 1 (canSet x.bench ⟨t, a⟩)).y, .int .i64 (withBench x (setPin x.bench ⟨t, a⟩) 1 (canSet x.bench ⟨t, a⟩)).d, .bool (benchFits x (setPin x.bench ⟨t, a⟩) 1 (canSet x.bench ⟨t, a⟩))])
theorem F_PutPin_inj : ∀ x y, E_PutPin x = E_PutPin y → x = y := by
  rintro ⟨⟨xs, xt, xp, xo, xc, xu, xm, xf, xy, xd⟩, t, a⟩ ⟨⟨xs', xt', xp', xo', xc', xu', xm', xf', xy', xd'⟩, t', a'⟩ h
  simpa [E_PutPin, and_assoc] using h
theorem F_PutPin_elim {P : List V → List V → Prop} (h : ∀ (x : Shop) (t : Int) (a : Int), (x.p.length ≤ 1048576 ∧ fitLL x.o ∧ x.c.length ≤ 1048576) → P [.int .i64 x.s, .int .i64 x.t, vL I2 v2 x.p, vL IL2 vLL2 x.o, vL I1 v1 x.c, .int .i64 x.u, .int .i64 x.m, .int .i64 x.f, .int .i64 x.y, .int .i64 x.d, .int .i64 t, .int .i64 a] [.int .i64 (withBench x (setPin x.bench ⟨t, a⟩) 1 (canSet x.bench ⟨t, a⟩)).s, .int .i64 (withBench x (setPin x.bench ⟨t, a⟩) 1 (canSet x.bench ⟨t, a⟩)).t, vL I2 v2 (withBench x (setPin x.bench ⟨t, a⟩) 1 (canSet x.bench ⟨t, a⟩)).p, vL IL2 vLL2 (withBench x (setPin x.bench ⟨t, a⟩) 1 (canSet x.bench ⟨t, a⟩)).o, vL I1 v1 (withBench x (setPin x.bench ⟨t, a⟩) 1 (canSet x.bench ⟨t, a⟩)).c, .int .i64 (withBench x (setPin x.bench ⟨t, a⟩) 1 (canSet x.bench ⟨t, a⟩)).u, .int .i64 (withBench x (setPin x.bench ⟨t, a⟩) 1 (canSet x.bench ⟨t, a⟩)).m, .int .i64 (withBench x (setPin x.bench ⟨t, a⟩) 1 (canSet x.bench ⟨t, a⟩)).f, .int .i64 (withBench x (setPin x.bench ⟨t, a⟩) 1 (canSet x.bench ⟨t, a⟩)).y, .int .i64 (withBench x (setPin x.bench ⟨t, a⟩) 1 (canSet x.bench ⟨t, a⟩)).d, .bool (benchFits x (setPin x.bench ⟨t, a⟩) 1 (canSet x.bench ⟨t, a⟩))]) : ∀ ds outs, F_PutPin ds = some outs → P ds outs := by
  intro ds outs hh
  obtain ⟨⟨x, t, a⟩, rfl, hp, rfl⟩ := mkF_inv hh
  exact h x t a hp
theorem p_PutPin {x_s : Int} {x_t : Int} {x_p : List T2} {x_o : List (List T2)} {x_c : List Int} {x_u : Int} {x_m : Int} {x_f : Int} {x_y : Int} {x_d : Int} {t : Int} {a : Int} {nr_ : Nat} {kk_ : V → V → V → V → V → V → V → V → V → V → V → Prop} (hp : (⟨x_s, x_t, x_p, x_o, x_c, x_u, x_m, x_f, x_y, x_d⟩ : Shop).p.length ≤ 1048576 ∧ fitLL (⟨x_s, x_t, x_p, x_o, x_c, x_u, x_m, x_f, x_y, x_d⟩ : Shop).o ∧ (⟨x_s, x_t, x_p, x_o, x_c, x_u, x_m, x_f, x_y, x_d⟩ : Shop).c.length ≤ 1048576) : P11 (.call F_PutPin 0 nr_) [.int .i64 x_s, .int .i64 x_t, vL I2 v2 x_p, vL IL2 vLL2 x_o, vL I1 v1 x_c, .int .i64 x_u, .int .i64 x_m, .int .i64 x_f, .int .i64 x_y, .int .i64 x_d, .int .i64 t, .int .i64 a] kk_ ↔ kk_ (.int .i64 (withBench (⟨x_s, x_t, x_p, x_o, x_c, x_u, x_m, x_f, x_y, x_d⟩ : Shop) (setPin (⟨x_s, x_t, x_p, x_o, x_c, x_u, x_m, x_f, x_y, x_d⟩ : Shop).bench ⟨t, a⟩) 1 (canSet (⟨x_s, x_t, x_p, x_o, x_c, x_u, x_m, x_f, x_y, x_d⟩ : Shop).bench ⟨t, a⟩)).s) (.int .i64 (withBench (⟨x_s, x_t, x_p, x_o, x_c, x_u, x_m, x_f, x_y, x_d⟩ : Shop) (setPin (⟨x_s, x_t, x_p, x_o, x_c, x_u, x_m, x_f, x_y, x_d⟩ : Shop).bench ⟨t, a⟩) 1 (canSet (⟨x_s, x_t, x_p, x_o, x_c, x_u, x_m, x_f, x_y, x_d⟩ : Shop).bench ⟨t, a⟩)).t) (vL I2 v2 (withBench (⟨x_s, x_t, x_p, x_o, x_c, x_u, x_m, x_f, x_y, x_d⟩ : Shop) (setPin (⟨x_s, x_t, x_p, x_o, x_c, x_u, x_m, x_f, x_y, x_d⟩ : Shop).bench ⟨t, a⟩) 1 (canSet (⟨x_s, x_t, x_p, x_o, x_c, x_u, x_m, x_f, x_y, x_d⟩ : Shop).bench ⟨t, a⟩)).p) (vL IL2 vLL2 (withBench (⟨x_s, x_t, x_p, x_o, x_c, x_u, x_m, x_f, x_y, x_d⟩ : Shop) (setPin (⟨x_s, x_t, x_p, x_o, x_c, x_u, x_m, x_f, x_y, x_d⟩ : Shop).bench ⟨t, a⟩) 1 (canSet (⟨x_s, x_t, x_p, x_o, x_c, x_u, x_m, x_f, x_y, x_d⟩ : Shop).bench ⟨t, a⟩)).o) (vL I1 v1 (withBench (⟨x_s, x_t, x_p, x_o, x_c, x_u, x_m, x_f, x_y, x_d⟩ : Shop) (setPin (⟨x_s, x_t, x_p, x_o, x_c, x_u, x_m, x_f, x_y, x_d⟩ : Shop).bench ⟨t, a⟩) 1 (canSet (⟨x_s, x_t, x_p, x_o, x_c, x_u, x_m, x_f, x_y, x_d⟩ : Shop).bench ⟨t, a⟩)).c) (.int .i64 (withBench (⟨x_s, x_t, x_p, x_o, x_c, x_u, x_m, x_f, x_y, x_d⟩ : Shop) (setPin (⟨x_s, x_t, x_p, x_o, x_c, x_u, x_m, x_f, x_y, x_d⟩ : Shop).bench ⟨t, a⟩) 1 (canSet (⟨x_s, x_t, x_p, x_o, x_c, x_u, x_m, x_f, x_y, x_d⟩ : Shop).bench ⟨t, a⟩)).u) (.int .i64 (withBench (⟨x_s, x_t, x_p, x_o, x_c, x_u, x_m, x_f, x_y, x_d⟩ : Shop) (setPin (⟨x_s, x_t, x_p, x_o, x_c, x_u, x_m, x_f, x_y, x_d⟩ : Shop).bench ⟨t, a⟩) 1 (canSet (⟨x_s, x_t, x_p, x_o, x_c, x_u, x_m, x_f, x_y, x_d⟩ : Shop).bench ⟨t, a⟩)).m) (.int .i64 (withBench (⟨x_s, x_t, x_p, x_o, x_c, x_u, x_m, x_f, x_y, x_d⟩ : Shop) (setPin (⟨x_s, x_t, x_p, x_o, x_c, x_u, x_m, x_f, x_y, x_d⟩ : Shop).bench ⟨t, a⟩) 1 (canSet (⟨x_s, x_t, x_p, x_o, x_c, x_u, x_m, x_f, x_y, x_d⟩ : Shop).bench ⟨t, a⟩)).f) (.int .i64 (withBench (⟨x_s, x_t, x_p, x_o, x_c, x_u, x_m, x_f, x_y, x_d⟩ : Shop) (setPin (⟨x_s, x_t, x_p, x_o, x_c, x_u, x_m, x_f, x_y, x_d⟩ : Shop).bench ⟨t, a⟩) 1 (canSet (⟨x_s, x_t, x_p, x_o, x_c, x_u, x_m, x_f, x_y, x_d⟩ : Shop).bench ⟨t, a⟩)).y) (.int .i64 (withBench (⟨x_s, x_t, x_p, x_o, x_c, x_u, x_m, x_f, x_y, x_d⟩ : Shop) (setPin (⟨x_s, x_t, x_p, x_o, x_c, x_u, x_m, x_f, x_y, x_d⟩ : Shop).bench ⟨t, a⟩) 1 (canSet (⟨x_s, x_t, x_p, x_o, x_c, x_u, x_m, x_f, x_y, x_d⟩ : Shop).bench ⟨t, a⟩)).d) (.bool (benchFits (⟨x_s, x_t, x_p, x_o, x_c, x_u, x_m, x_f, x_y, x_d⟩ : Shop) (setPin (⟨x_s, x_t, x_p, x_o, x_c, x_u, x_m, x_f, x_y, x_d⟩ : Shop).bench ⟨t, a⟩) 1 (canSet (⟨x_s, x_t, x_p, x_o, x_c, x_u, x_m, x_f, x_y, x_d⟩ : Shop).bench ⟨t, a⟩))) :=
  P11_callF (by unfold F_PutPin; exact mkF_eq F_PutPin_inj ((⟨x_s, x_t, x_p, x_o, x_c, x_u, x_m, x_f, x_y, x_d⟩ : Shop), t, a) hp)

def num (b : Bool) : Int := if b then 1 else 0
def E_numberOf (n : Bool) : List V := [.bool n]
noncomputable def F_numberOf : List V → Option (List V) := mkF E_numberOf (fun _ => True) (fun n => [.int .i64 (num n)])
theorem F_numberOf_inj : ∀ x y, E_numberOf x = E_numberOf y → x = y := by
  rintro n n' h
  simpa [E_numberOf] using h
theorem F_numberOf_elim {P : List V → List V → Prop} (h : ∀ (n : Bool), P [.bool n] [.int .i64 (num n)]) : ∀ ds outs, F_numberOf ds = some outs → P ds outs := by
  intro ds outs hh
  obtain ⟨n, rfl, -, rfl⟩ := mkF_inv hh
  exact h n
@[simp] theorem p_numberOf {n : Bool} {nr_ : Nat} {kk_ : V → Prop} : P1 (.call F_numberOf 0 nr_) [.bool n] kk_ ↔ kk_ (.int .i64 (num n)) :=
  P1_callF (by unfold F_numberOf; exact mkF_eq F_numberOf_inj (n) trivial)

def cmRow (c : Cyl) (i : Nat) : Nat → Int → Int
  | 0, b => b
  | k + 1, b => match c.p[i]?, c.p[k]? with
    | some x, some y => if x.a = y.a then min (cmRow c i k b) (gap x.b y.b c.s) else cmRow c i k b
    | _, _ => cmRow c i k b
def cmTo (c : Cyl) : Nat → Int
  | 0 => c.s
  | i + 1 => cmRow c i i (cmTo c i)
def closest (c : Cyl) : Int := if cylOk c then cmTo c c.p.length else -1
def E_ClosestPins (x : Cyl) : List V := [.int .i64 x.s, .int .i64 x.t, vL I2 v2 x.p]
noncomputable def F_ClosestPins : List V → Option (List V) := mkF E_ClosestPins (fun x => x.p.length ≤ 1048576) (fun x => [.int .i64 (closest x)])
theorem F_ClosestPins_inj : ∀ x y, E_ClosestPins x = E_ClosestPins y → x = y := by
  rintro ⟨xs, xt, xp⟩ ⟨xs', xt', xp'⟩ h
  simpa [E_ClosestPins] using h
theorem F_ClosestPins_elim {P : List V → List V → Prop} (h : ∀ (x : Cyl), (x.p.length ≤ 1048576) → P [.int .i64 x.s, .int .i64 x.t, vL I2 v2 x.p] [.int .i64 (closest x)]) : ∀ ds outs, F_ClosestPins ds = some outs → P ds outs := by
  intro ds outs hh
  obtain ⟨x, rfl, hp, rfl⟩ := mkF_inv hh
  exact h x hp
theorem p_ClosestPins {x_s : Int} {x_t : Int} {x_p : List T2} {nr_ : Nat} {kk_ : V → Prop} (hp : (⟨x_s, x_t, x_p⟩ : Cyl).p.length ≤ 1048576) : P1 (.call F_ClosestPins 0 nr_) [.int .i64 x_s, .int .i64 x_t, vL I2 v2 x_p] kk_ ↔ kk_ (.int .i64 (closest (⟨x_s, x_t, x_p⟩ : Cyl))) :=
  P1_callF (by unfold F_ClosestPins; exact mkF_eq F_ClosestPins_inj ((⟨x_s, x_t, x_p⟩ : Cyl)) hp)

def removeW (w : Shop) (k : Int) : Shop := withBench w (takePin w.bench k) 0 (canTake w.bench k)
def removeOk (w : Shop) (k : Int) : Bool := benchFits w (takePin w.bench k) 0 (canTake w.bench k)
def putW (w : Shop) (p : T2) : Shop := withBench w (setPin w.bench p) 1 (canSet w.bench p)
def putOk (w : Shop) (p : T2) : Bool := benchFits w (setPin w.bench p) 1 (canSet w.bench p)
def backW (w : Shop) : Shop := withBench w (takeBack w.bench) 0 (takeOk w.bench)
def backOk (w : Shop) : Bool := benchFits w (takeBack w.bench) 0 (takeOk w.bench)
def canAct (w : Shop) (a : T3) : Bool := shopOk w && actOk a
def actW (w : Shop) (a : T3) : Shop :=
  if canAct w a then (if a.a = 1 then putW w ⟨a.b, a.c⟩ else if a.a = 2 then removeW w a.b else if a.a = 3 then backW w else if a.a = 4 then crank w a.b else if a.a = 5 then playOnce w else w) else w
def actN (w : Shop) (a : T3) : Int :=
  if canAct w a then (if a.a = 1 then num (putOk w ⟨a.b, a.c⟩) else if a.a = 2 then num (removeOk w a.b) else if a.a = 3 then num (backOk w) else if a.a = 4 then (if shopOk w then windBy w.spring a.b else -1) else if a.a = 5 then num (canPlay w) else closest w.bench.cyl) else -1
def E_DoAct : Shop × T3 → List V := fun (x, y) => [.int .i64 x.s, .int .i64 x.t, vL I2 v2 x.p, vL IL2 vLL2 x.o, vL I1 v1 x.c, .int .i64 x.u, .int .i64 x.m, .int .i64 x.f, .int .i64 x.y, .int .i64 x.d, .int .i64 y.a, .int .i64 y.b, .int .i64 y.c]
noncomputable def F_DoAct : List V → Option (List V) := mkF E_DoAct (fun (x, _) => x.p.length ≤ 1048576 ∧ fitLL x.o ∧ x.c.length ≤ 1048576) (fun (x, y) => [.int .i64 (actW x y).s, .int .i64 (actW x y).t, vL I2 v2 (actW x y).p, vL IL2 vLL2 (actW x y).o, vL I1 v1 (actW x y).c, .int .i64 (actW x y).u, .int .i64 (actW x y).m, .int .i64 (actW x y).f, .int .i64 (actW x y).y, .int .i64 (actW x y).d, .int .i64 (actN x y)])
theorem F_DoAct_inj : ∀ x y, E_DoAct x = E_DoAct y → x = y := by
  rintro ⟨⟨xs, xt, xp, xo, xc, xu, xm, xf, xy, xd⟩, ⟨ya, yb, yc⟩⟩ ⟨⟨xs', xt', xp', xo', xc', xu', xm', xf', xy', xd'⟩, ⟨ya', yb', yc'⟩⟩ h
  simpa [E_DoAct, and_assoc] using h
theorem F_DoAct_elim {P : List V → List V → Prop} (h : ∀ (x : Shop) (y : T3), (x.p.length ≤ 1048576 ∧ fitLL x.o ∧ x.c.length ≤ 1048576) → P [.int .i64 x.s, .int .i64 x.t, vL I2 v2 x.p, vL IL2 vLL2 x.o, vL I1 v1 x.c, .int .i64 x.u, .int .i64 x.m, .int .i64 x.f, .int .i64 x.y, .int .i64 x.d, .int .i64 y.a, .int .i64 y.b, .int .i64 y.c] [.int .i64 (actW x y).s, .int .i64 (actW x y).t, vL I2 v2 (actW x y).p, vL IL2 vLL2 (actW x y).o, vL I1 v1 (actW x y).c, .int .i64 (actW x y).u, .int .i64 (actW x y).m, .int .i64 (actW x y).f, .int .i64 (actW x y).y, .int .i64 (actW x y).d, .int .i64 (actN x y)]) : ∀ ds outs, F_DoAct ds = some outs → P ds outs := by
  intro ds outs hh
  obtain ⟨⟨x, y⟩, rfl, hp, rfl⟩ := mkF_inv hh
  exact h x y hp
theorem p_DoAct {x_s : Int} {x_t : Int} {x_p : List T2} {x_o : List (List T2)} {x_c : List Int} {x_u : Int} {x_m : Int} {x_f : Int} {x_y : Int} {x_d : Int} {y_a : Int} {y_b : Int} {y_c : Int} {nr_ : Nat} {kk_ : V → V → V → V → V → V → V → V → V → V → V → Prop} (hp : (⟨x_s, x_t, x_p, x_o, x_c, x_u, x_m, x_f, x_y, x_d⟩ : Shop).p.length ≤ 1048576 ∧ fitLL (⟨x_s, x_t, x_p, x_o, x_c, x_u, x_m, x_f, x_y, x_d⟩ : Shop).o ∧ (⟨x_s, x_t, x_p, x_o, x_c, x_u, x_m, x_f, x_y, x_d⟩ : Shop).c.length ≤ 1048576) : P11 (.call F_DoAct 0 nr_) [.int .i64 x_s, .int .i64 x_t, vL I2 v2 x_p, vL IL2 vLL2 x_o, vL I1 v1 x_c, .int .i64 x_u, .int .i64 x_m, .int .i64 x_f, .int .i64 x_y, .int .i64 x_d, .int .i64 y_a, .int .i64 y_b, .int .i64 y_c] kk_ ↔ kk_ (.int .i64 (actW (⟨x_s, x_t, x_p, x_o, x_c, x_u, x_m, x_f, x_y, x_d⟩ : Shop) (⟨y_a, y_b, y_c⟩ : T3)).s) (.int .i64 (actW (⟨x_s, x_t, x_p, x_o, x_c, x_u, x_m, x_f, x_y, x_d⟩ : Shop) (⟨y_a, y_b, y_c⟩ : T3)).t) (vL I2 v2 (actW (⟨x_s, x_t, x_p, x_o, x_c, x_u, x_m, x_f, x_y, x_d⟩ : Shop) (⟨y_a, y_b, y_c⟩ : T3)).p) (vL IL2 vLL2 (actW (⟨x_s, x_t, x_p, x_o, x_c, x_u, x_m, x_f, x_y, x_d⟩ : Shop) (⟨y_a, y_b, y_c⟩ : T3)).o) (vL I1 v1 (actW (⟨x_s, x_t, x_p, x_o, x_c, x_u, x_m, x_f, x_y, x_d⟩ : Shop) (⟨y_a, y_b, y_c⟩ : T3)).c) (.int .i64 (actW (⟨x_s, x_t, x_p, x_o, x_c, x_u, x_m, x_f, x_y, x_d⟩ : Shop) (⟨y_a, y_b, y_c⟩ : T3)).u) (.int .i64 (actW (⟨x_s, x_t, x_p, x_o, x_c, x_u, x_m, x_f, x_y, x_d⟩ : Shop) (⟨y_a, y_b, y_c⟩ : T3)).m) (.int .i64 (actW (⟨x_s, x_t, x_p, x_o, x_c, x_u, x_m, x_f, x_y, x_d⟩ : Shop) (⟨y_a, y_b, y_c⟩ : T3)).f) (.int .i64 (actW (⟨x_s, x_t, x_p, x_o, x_c, x_u, x_m, x_f, x_y, x_d⟩ : Shop) (⟨y_a, y_b, y_c⟩ : T3)).y) (.int .i64 (actW (⟨x_s, x_t, x_p, x_o, x_c, x_u, x_m, x_f, x_y, x_d⟩ : Shop) (⟨y_a, y_b, y_c⟩ : T3)).d) (.int .i64 (actN (⟨x_s, x_t, x_p, x_o, x_c, x_u, x_m, x_f, x_y, x_d⟩ : Shop) (⟨y_a, y_b, y_c⟩ : T3))) :=
  P11_callF (by unfold F_DoAct; exact mkF_eq F_DoAct_inj ((⟨x_s, x_t, x_p, x_o, x_c, x_u, x_m, x_f, x_y, x_d⟩ : Shop), (⟨y_a, y_b, y_c⟩ : T3)) hp)

end Go.Mw

namespace Go.Mw
noncomputable section
def impl_PutPin_L : L := .seq (.rg []) (.seq (.rg [zc F_SetPin 5 [0, 1, 2, 3, 10, 11]]) (.seq (.rg [⟨[], .call F_withBench 0 11, [.v 0, .v 1, .v 2, .v 3, .v 4, .v 5, .v 6, .v 7, .v 8, .v 9, .v 12, .v 13, .v 14, .v 15, .k (.int .i64 1), .v 16], 11⟩]) (.ret [.v 17, .v 18, .v 19, .v 20, .v 21, .v 22, .v 23, .v 24, .v 25, .v 26, .v 27])))
theorem impl_PutPin_L_sh (Q : QT) (x0 x1 x2 x3 x4 x5 x6 x7 x8 x9 x10 x11 : V) : shL impl_PutPin_L Q [x0, x1, x2, x3, x4, x5, x6, x7, x8, x9, x10, x11] = (
  P5 (.call F_SetPin 0 5) [x0, x1, x2, x3, x10, x11] fun v0 v1 v2 v3 v4 =>
  P11 (.call F_withBench 0 11) [x0, x1, x2, x3, x4, x5, x6, x7, x8, x9, v0, v1, v2, v3, .int .i64 1, v4] fun v5 v6 v7 v8 v9 v10 v11 v12 v13 v14 v15 =>
  Q .ret [v5, v6, v7, v8, v9, v10, v11, v12, v13, v14, v15]) := by kernel_rfl
def impl_PutPin_S : Sig := ⟨[.val true [.sc, .sc, .sl [.sc, .sc], .sl [.sl [.sc, .sc]], .sl [.sc], .sc, .sc, .sc, .sc, .sc], .val false [.sc], .val false [.sc]], [(true, [.sc, .sc, .sl [.sc, .sc], .sl [.sl [.sc, .sc]], .sl [.sc], .sc, .sc, .sc, .sc, .sc]), (false, [.sc])], F_PutPin⟩
def impl_PutPin_hs : List NF := []

end
end Go.Mw

namespace Go.Mw
theorem setPin_no {b : Bench} {p : T2} (h : canSet b p = false) : setPin b p = b := by
  unfold canSet at h; unfold setPin stepTo; rw [h]; simp
theorem setPin_fit {x : Shop} {p : T2} (hb : x.p.length ≤ 1048576 ∧ fitLL x.o) : (setPin x.bench p).p.length ≤ 1048576 ∧ fitLL (setPin x.bench p).o := by
  cases h2 : canSet x.bench p with
  | false => rw [setPin_no h2]; exact hb
  | true =>
    have : stepOk x.bench (addTo x.bench.cyl p) = true := by simp [canSet] at h2; exact h2.2
    have hs : benchOk x.bench = true := by simp [stepOk] at this; exact this.1
    have := setPin_small (p := p) (bSmall_of_ok hs)
    exact ⟨this.1, this.2.1⟩
theorem impl_PutPin_ok : ∀ ds outs, F_PutPin ds = some outs → shL impl_PutPin_L (qRet outs) ds := F_PutPin_elim fun x t a hp => by
  have hb : x.p.length ≤ 1048576 ∧ fitLL x.o := ⟨hp.1, hp.2.1⟩
  have hf := setPin_fit (p := ⟨t, a⟩) hb
  have e0 : (⟨x.s, x.t, x.p, x.o⟩ : Bench) = x.bench := rfl
  have e1 : (addOk x.bench.cyl ⟨t, a⟩ && stepOk x.bench (addTo x.bench.cyl ⟨t, a⟩)) = canSet x.bench ⟨t, a⟩ := rfl
  rw [impl_PutPin_L_sh, p_SetPin (x_p := x.p) (x_o := x.o) hb]
  simp only [e0, e1]
  generalize setPin x.bench ⟨t, a⟩ = B at *
  rw [p_withBench (x_p := x.p) (x_o := x.o) (x_c := x.c) (y_p := B.p) (y_o := B.o) ⟨hp.1, hp.2.1, hp.2.2, hf.1, hf.2, by omega, by omega⟩]
  simp
end Go.Mw

namespace Go.Mw
def runTo (w : Shop) (l : List T3) : Nat → Shop × List Int
  | 0 => (w, [])
  | k + 1 => match l[k]? with
    | some a => (actW (runTo w l k).1 a, (runTo w l k).2 ++ [actN (runTo w l k).1 a])
    | none => runTo w l k
def actsOk (w : Shop) (l : List T3) : Bool := shopOk w && decide (l.length ≤ 40)
def runW (w : Shop) (l : List T3) : Shop := if actsOk w l then (runTo w l l.length).1 else w
def runN' (w : Shop) (l : List T3) : List Int := if actsOk w l then (runTo w l l.length).2 else []
def E_RunActs : Shop × List T3 → List V := fun (x, l) => [.int .i64 x.s, .int .i64 x.t, vL I2 v2 x.p, vL IL2 vLL2 x.o, vL I1 v1 x.c, .int .i64 x.u, .int .i64 x.m, .int .i64 x.f, .int .i64 x.y, .int .i64 x.d, vL I3 v3 l]
noncomputable def F_RunActs : List V → Option (List V) := mkF E_RunActs (fun (x, l) => x.p.length ≤ 1048576 ∧ fitLL x.o ∧ x.c.length ≤ 1048576 ∧ l.length ≤ 1048576) (fun (x, l) => [.int .i64 (runW x l).s, .int .i64 (runW x l).t, vL I2 v2 (runW x l).p, vL IL2 vLL2 (runW x l).o, vL I1 v1 (runW x l).c, .int .i64 (runW x l).u, .int .i64 (runW x l).m, .int .i64 (runW x l).f, .int .i64 (runW x l).y, .int .i64 (runW x l).d, vL I1 v1 (runN' x l)])
theorem F_RunActs_inj : ∀ x y, E_RunActs x = E_RunActs y → x = y := by
  rintro ⟨⟨xs, xt, xp, xo, xc, xu, xm, xf, xy, xd⟩, l⟩ ⟨⟨xs', xt', xp', xo', xc', xu', xm', xf', xy', xd'⟩, l'⟩ h
  simpa [E_RunActs, and_assoc] using h
theorem F_RunActs_elim {P : List V → List V → Prop} (h : ∀ (x : Shop) (l : List T3), (x.p.length ≤ 1048576 ∧ fitLL x.o ∧ x.c.length ≤ 1048576 ∧ l.length ≤ 1048576) → P [.int .i64 x.s, .int .i64 x.t, vL I2 v2 x.p, vL IL2 vLL2 x.o, vL I1 v1 x.c, .int .i64 x.u, .int .i64 x.m, .int .i64 x.f, .int .i64 x.y, .int .i64 x.d, vL I3 v3 l] [.int .i64 (runW x l).s, .int .i64 (runW x l).t, vL I2 v2 (runW x l).p, vL IL2 vLL2 (runW x l).o, vL I1 v1 (runW x l).c, .int .i64 (runW x l).u, .int .i64 (runW x l).m, .int .i64 (runW x l).f, .int .i64 (runW x l).y, .int .i64 (runW x l).d, vL I1 v1 (runN' x l)]) : ∀ ds outs, F_RunActs ds = some outs → P ds outs := by
  intro ds outs hh
  obtain ⟨⟨x, l⟩, rfl, hp, rfl⟩ := mkF_inv hh
  exact h x l hp
theorem p_RunActs {x_s : Int} {x_t : Int} {x_p : List T2} {x_o : List (List T2)} {x_c : List Int} {x_u : Int} {x_m : Int} {x_f : Int} {x_y : Int} {x_d : Int} {l : List T3} {nr_ : Nat} {kk_ : V → V → V → V → V → V → V → V → V → V → V → Prop} (hp : (⟨x_s, x_t, x_p, x_o, x_c, x_u, x_m, x_f, x_y, x_d⟩ : Shop).p.length ≤ 1048576 ∧ fitLL (⟨x_s, x_t, x_p, x_o, x_c, x_u, x_m, x_f, x_y, x_d⟩ : Shop).o ∧ (⟨x_s, x_t, x_p, x_o, x_c, x_u, x_m, x_f, x_y, x_d⟩ : Shop).c.length ≤ 1048576 ∧ l.length ≤ 1048576) : P11 (.call F_RunActs 0 nr_) [.int .i64 x_s, .int .i64 x_t, vL I2 v2 x_p, vL IL2 vLL2 x_o, vL I1 v1 x_c, .int .i64 x_u, .int .i64 x_m, .int .i64 x_f, .int .i64 x_y, .int .i64 x_d, vL I3 v3 l] kk_ ↔ kk_ (.int .i64 (runW (⟨x_s, x_t, x_p, x_o, x_c, x_u, x_m, x_f, x_y, x_d⟩ : Shop) l).s) (.int .i64 (runW (⟨x_s, x_t, x_p, x_o, x_c, x_u, x_m, x_f, x_y, x_d⟩ : Shop) l).t) (vL I2 v2 (runW (⟨x_s, x_t, x_p, x_o, x_c, x_u, x_m, x_f, x_y, x_d⟩ : Shop) l).p) (vL IL2 vLL2 (runW (⟨x_s, x_t, x_p, x_o, x_c, x_u, x_m, x_f, x_y, x_d⟩ : Shop) l).o) (vL I1 v1 (runW (⟨x_s, x_t, x_p, x_o, x_c, x_u, x_m, x_f, x_y, x_d⟩ : Shop) l).c) (.int .i64 (runW (⟨x_s, x_t, x_p, x_o, x_c, x_u, x_m, x_f, x_y, x_d⟩ : Shop) l).u) (.int .i64 (runW (⟨x_s, x_t, x_p, x_o, x_c, x_u, x_m, x_f, x_y, x_d⟩ : Shop) l).m) (.int .i64 (runW (⟨x_s, x_t, x_p, x_o, x_c, x_u, x_m, x_f, x_y, x_d⟩ : Shop) l).f) (.int .i64 (runW (⟨x_s, x_t, x_p, x_o, x_c, x_u, x_m, x_f, x_y, x_d⟩ : Shop) l).y) (.int .i64 (runW (⟨x_s, x_t, x_p, x_o, x_c, x_u, x_m, x_f, x_y, x_d⟩ : Shop) l).d) (vL I1 v1 (runN' (⟨x_s, x_t, x_p, x_o, x_c, x_u, x_m, x_f, x_y, x_d⟩ : Shop) l)) :=
  P11_callF (by unfold F_RunActs; exact mkF_eq F_RunActs_inj ((⟨x_s, x_t, x_p, x_o, x_c, x_u, x_m, x_f, x_y, x_d⟩ : Shop), l) hp)

end Go.Mw

namespace Go.Mw
noncomputable section
def impl_numberOf_L : L := .seq (.rg []) (.seq (.seq (.rg []) (.ite (.v 0) (.seq (.rg []) (.ret [.k (.int .i64 1)])) (.skip))) (.seq (.rg []) (.ret [.k (.int .i64 0)])))
theorem impl_numberOf_L_sh (Q : QT) (x0 : V) : shL impl_numberOf_L Q [x0] = (
  ifB x0 (
    Q .ret [.int .i64 1]) (
    Q .ret [.int .i64 0])) := by kernel_rfl
def impl_numberOf_S : Sig := ⟨[.val false [.sc]], [(false, [.sc])], F_numberOf⟩
def impl_numberOf_hs : List NF := []

def impl_ClosestPins_b1 : L := .seq (.seq (.rg [zb .lss 6 5]) (.seq (.ite (.v 12) (.skip) (.seq (zt [0, 1, 2, 3, 7, 8, 9]) (.exit 2))) (.seq (.block 3 (.seq (.seq (.rg [zj 4 6]) (.seq (.rg [zb .eql 10 13]) (.ite (.v 15) (.seq (.rg [zc F_GapAround 1 [11, 14, 7], ⟨[], .mn, [.v 0, .v 16], 1⟩]) (zt [17, 1, 2, 3, 4, 5, 6, 7, 8, 9, 10, 11])) (.seq (.skip) (zt [0, 1, 2, 3, 4, 5, 6, 7, 8, 9, 10, 11]))))) (zt [0, 1, 2, 3, 4, 5, 6, 7, 8, 9, 10, 11]))) (.rg [zk .add 6 1])))) (zt [0, 1, 2, 3, 4, 5, 12, 7, 8, 9, 10, 11])
theorem impl_ClosestPins_b1_sh (Q : QT) (x0 x1 x2 x3 x4 x5 x6 x7 x8 x9 x10 x11 : V) : shL impl_ClosestPins_b1 Q [x0, x1, x2, x3, x4, x5, x6, x7, x8, x9, x10, x11] = (
  P1 (.bin .lss) [x6, x5] fun v0 =>
  ifB v0 (
    P2 (.idx [.sc, .sc]) [x4, x6] fun v1 v2 =>
    P1 (.bin .eql) [x10, v1] fun v3 =>
    ifB v3 (
      P1 (.call F_GapAround 0 1) [x11, v2, x7] fun v4 =>
      P1 (.mn) [x0, v4] fun v5 =>
      P1 (.bin .add) [x6, .int .i64 1] fun v6 =>
      Q .normal [v5, x1, x2, x3, x4, x5, v6, x7, x8, x9, x10, x11]) (
      P1 (.bin .add) [x6, .int .i64 1] fun v7 =>
      Q .normal [x0, x1, x2, x3, x4, x5, v7, x7, x8, x9, x10, x11])) (
    Q (.exit 2) [x0, x1, x2, x3, x7, x8, x9])) := by kernel_rfl

def impl_ClosestPins_r2 : L := zt [0, 1, 2, 3, 4, 5, 6]
theorem impl_ClosestPins_r2_sh (Q : QT) (x0 x1 x2 x3 x4 x5 x6 : V) : shL impl_ClosestPins_r2 Q [x0, x1, x2, x3, x4, x5, x6] = (
  Q .normal [x0, x1, x2, x3, x4, x5, x6]) := by kernel_rfl

def impl_ClosestPins_r3 : L := .rg [zk .add 3 1]
theorem impl_ClosestPins_r3_sh (Q : QT) (x0 x1 x2 x3 x4 x5 x6 : V) : shL impl_ClosestPins_r3 Q [x0, x1, x2, x3, x4, x5, x6] = (
  P1 (.bin .add) [x3, .int .i64 1] fun v0 =>
  Q .normal [x0, x1, x2, x3, x4, x5, x6, v0]) := by kernel_rfl

def impl_ClosestPins_r4 : L := zt [0, 1, 2, 7, 4, 5, 6]
theorem impl_ClosestPins_r4_sh (Q : QT) (x0 x1 x2 x3 x4 x5 x6 x7 : V) : shL impl_ClosestPins_r4 Q [x0, x1, x2, x3, x4, x5, x6, x7] = (
  Q .normal [x0, x1, x2, x7, x4, x5, x6]) := by kernel_rfl

def impl_ClosestPins_b0 : L := .seq (.seq (.rg [zb .lss 3 2]) (.seq (.ite (.v 7) (.skip) (.seq (zt [0]) (.exit 0))) (.seq (.block 1 (.seq (.seq (.rg [zj 1 3]) (.seq (.rg [⟨[], .lsub [.sc, .sc], [.v 6, .k (.int .i64 0), .v 3], 1⟩, zl 10]) (.block 2 (.seq (.tup [.v 0, .v 1, .v 2, .v 3, .v 10, .v 11, .k (.int .i64 0), .v 4, .v 5, .v 6, .v 8, .v 9]) (.loop (impl_ClosestPins_b1)))))) (impl_ClosestPins_r2))) (impl_ClosestPins_r3)))) (impl_ClosestPins_r4)
theorem impl_ClosestPins_b0_sh (Q : QT) (x0 x1 x2 x3 x4 x5 x6 : V) : shL impl_ClosestPins_b0 Q [x0, x1, x2, x3, x4, x5, x6] = (
  P1 (.bin .lss) [x3, x2] fun v0 =>
  ifB v0 (
    P2 (.idx [.sc, .sc]) [x1, x3] fun v1 v2 =>
    P1 (.lsub [.sc, .sc]) [x6, .int .i64 0, x3] fun v3 =>
    P1 (.len) [v3] fun v4 =>
    shL (.loop impl_ClosestPins_b1) (qB 2 (qS (shL impl_ClosestPins_r2 (qB 1 (qS (shL impl_ClosestPins_r3 (qS (shL impl_ClosestPins_r4 Q) Q)) (qS (shL impl_ClosestPins_r4 Q) Q)))) (qB 1 (qS (shL impl_ClosestPins_r3 (qS (shL impl_ClosestPins_r4 Q) Q)) (qS (shL impl_ClosestPins_r4 Q) Q))))) [x0, x1, x2, x3, v3, v4, .int .i64 0, x4, x5, x6, v1, v2]) (
    Q (.exit 0) [x0])) := by kernel_rfl

def impl_ClosestPins_r5 : L := .seq (.rg []) (.ret [.v 0])
theorem impl_ClosestPins_r5_sh (Q : QT) (x0 : V) : shL impl_ClosestPins_r5 Q [x0] = (
  Q .ret [x0]) := by kernel_rfl

def impl_ClosestPins_L : L := .seq (.rg []) (.seq (.seq (.rg [zc F_CylinderOk 1 [0, 1, 2], zn 3]) (.ite (.v 4) (.seq (.rg []) (.ret [.k (.int .i64 (-1))])) (.skip))) (.seq (.rg []) (.seq (.seq (.rg [zl 2]) (.block 0 (.seq (.tup [.v 0, .v 2, .v 5, .k (.int .i64 0), .v 0, .v 1, .v 2]) (.loop (impl_ClosestPins_b0))))) (impl_ClosestPins_r5))))
theorem impl_ClosestPins_L_sh (Q : QT) (x0 x1 x2 : V) : shL impl_ClosestPins_L Q [x0, x1, x2] = (
  P1 (.call F_CylinderOk 0 1) [x0, x1, x2] fun v0 =>
  P1 (.un .not) [v0] fun v1 =>
  ifB v1 (
    Q .ret [.int .i64 (-1)]) (
    P1 (.len) [x2] fun v2 =>
    shL (.loop impl_ClosestPins_b0) (qB 0 (qS (shL impl_ClosestPins_r5 Q) Q)) [x0, x2, v2, .int .i64 0, x0, x1, x2])) := by kernel_rfl
def impl_ClosestPins_S : Sig := ⟨[.val true [.sc, .sc, .sl [.sc, .sc]]], [(false, [.sc])], F_ClosestPins⟩
def impl_ClosestPins_hs : List NF := [⟨[(3, zs)], [], [], 64⟩, ⟨[(1, .ptr 64 0), (3, zs), (14, zq), (15, zs), (16, zs)], [], [(64, [.sc, .sc, .ro [.sc, .sc]])], 65⟩, ⟨[(1, .ptr 64 0), (3, zs), (14, zq), (15, zs), (16, zs)], [], [(64, [.sc, .sc, .ro [.sc, .sc]])], 65⟩, ⟨[(1, .ptr 64 0), (3, zs), (14, zq), (15, zs), (16, zs)], [], [(64, [.sc, .sc, .ro [.sc, .sc]])], 65⟩, ⟨[(1, .ptr 64 0), (3, zs), (5, .ptr 65 0), (14, zq), (15, zs), (16, zs), (24, zq), (25, zs), (26, zs)], [], [(64, [.sc, .sc, .ro [.sc, .sc]]), (65, [.sc, .sc])], 66⟩, ⟨[(1, .ptr 64 0), (3, zs), (5, .ptr 65 0), (14, zq), (15, zs), (16, zs), (24, zq), (25, zs), (26, zs)], [], [(64, [.sc, .sc, .ro [.sc, .sc]]), (65, [.sc, .sc])], 66⟩, ⟨[(1, .ptr 64 0), (3, zs), (5, .ptr 65 0), (14, zq), (15, zs), (16, zs), (24, zq), (25, zs), (26, zs)], [], [(64, [.sc, .sc, .ro [.sc, .sc]]), (65, [.sc, .sc])], 66⟩]

def impl_DoAct_r0 : L := .seq (.seq (.rg []) (.block 0 (.seq (.seq (.rg [zk .eql 10 1]) (.ite (.v 18) (.seq (.rg [zc F_PutPin 11 [0, 1, 2, 3, 4, 5, 6, 7, 8, 9, 11, 12]]) (.seq (.rg [zc F_numberOf 1 [29]]) (.ret [.v 19, .v 20, .v 21, .v 22, .v 23, .v 24, .v 25, .v 26, .v 27, .v 28, .v 30]))) (.seq (.rg [zk .eql 10 2]) (.ite (.v 19) (.seq (.rg [zc F_RemovePin 11 [0, 1, 2, 3, 4, 5, 6, 7, 8, 9, 11]]) (.seq (.rg [zc F_numberOf 1 [30]]) (.ret [.v 20, .v 21, .v 22, .v 23, .v 24, .v 25, .v 26, .v 27, .v 28, .v 29, .v 31]))) (.seq (.rg [zk .eql 10 3]) (.ite (.v 20) (.seq (.rg [zc F_TakeBack 5 [0, 1, 2, 3]]) (.seq (.rg [⟨[], .call F_withBench 0 11, [.v 0, .v 1, .v 2, .v 3, .v 4, .v 5, .v 6, .v 7, .v 8, .v 9, .v 21, .v 22, .v 23, .v 24, .k (.int .i64 0), .v 25], 11⟩]) (.seq (.rg [zc F_numberOf 1 [36]]) (.ret [.v 26, .v 27, .v 28, .v 29, .v 30, .v 31, .v 32, .v 33, .v 34, .v 35, .v 37])))) (.seq (.rg [zk .eql 10 4]) (.ite (.v 21) (.seq (.rg [zc F_Crank 11 [0, 1, 2, 3, 4, 5, 6, 7, 8, 9, 11]]) (.ret [.v 22, .v 23, .v 24, .v 25, .v 26, .v 27, .v 28, .v 29, .v 30, .v 31, .v 32])) (.seq (.rg [zk .eql 10 5]) (.ite (.v 22) (.seq (.rg [zc F_PlayOnce 11 [0, 1, 2, 3, 4, 5, 6, 7, 8, 9]]) (.seq (.rg [zc F_numberOf 1 [33]]) (.ret [.v 23, .v 24, .v 25, .v 26, .v 27, .v 28, .v 29, .v 30, .v 31, .v 32, .v 34]))) (.skip))))))))))) (.tup [.v 0, .v 1, .v 2, .v 3, .v 4, .v 5, .v 6, .v 7, .v 8, .v 9, .k (.int .i64 0), .k (.int .i64 0), .k (.int .i64 0), .k (.int .i64 0), .k (.int .i64 0), .k (.int .i64 0), .k (.int .i64 0)])))) (.seq (.rg [zc F_copyWorkshop 10 [0, 1, 2, 3, 4, 5, 6, 7, 8, 9], zc F_ClosestPins 1 [0, 1, 2]]) (.ret [.v 17, .v 18, .v 19, .v 20, .v 21, .v 22, .v 23, .v 24, .v 25, .v 26, .v 27]))
theorem impl_DoAct_r0_sh (Q : QT) (x0 x1 x2 x3 x4 x5 x6 x7 x8 x9 x10 x11 x12 x13 x14 x15 x16 x17 : V) : shL impl_DoAct_r0 Q [x0, x1, x2, x3, x4, x5, x6, x7, x8, x9, x10, x11, x12, x13, x14, x15, x16, x17] = (
  P1 (.bin .eql) [x10, .int .i64 1] fun v0 =>
  ifB v0 (
    P11 (.call F_PutPin 0 11) [x0, x1, x2, x3, x4, x5, x6, x7, x8, x9, x11, x12] fun v1 v2 v3 v4 v5 v6 v7 v8 v9 v10 v11 =>
    P1 (.call F_numberOf 0 1) [v11] fun v12 =>
    Q .ret [v1, v2, v3, v4, v5, v6, v7, v8, v9, v10, v12]) (
    P1 (.bin .eql) [x10, .int .i64 2] fun v13 =>
    ifB v13 (
      P11 (.call F_RemovePin 0 11) [x0, x1, x2, x3, x4, x5, x6, x7, x8, x9, x11] fun v14 v15 v16 v17 v18 v19 v20 v21 v22 v23 v24 =>
      P1 (.call F_numberOf 0 1) [v24] fun v25 =>
      Q .ret [v14, v15, v16, v17, v18, v19, v20, v21, v22, v23, v25]) (
      P1 (.bin .eql) [x10, .int .i64 3] fun v26 =>
      ifB v26 (
        P5 (.call F_TakeBack 0 5) [x0, x1, x2, x3] fun v27 v28 v29 v30 v31 =>
        P11 (.call F_withBench 0 11) [x0, x1, x2, x3, x4, x5, x6, x7, x8, x9, v27, v28, v29, v30, .int .i64 0, v31] fun v32 v33 v34 v35 v36 v37 v38 v39 v40 v41 v42 =>
        P1 (.call F_numberOf 0 1) [v42] fun v43 =>
        Q .ret [v32, v33, v34, v35, v36, v37, v38, v39, v40, v41, v43]) (
        P1 (.bin .eql) [x10, .int .i64 4] fun v44 =>
        ifB v44 (
          P11 (.call F_Crank 0 11) [x0, x1, x2, x3, x4, x5, x6, x7, x8, x9, x11] fun v45 v46 v47 v48 v49 v50 v51 v52 v53 v54 v55 =>
          Q .ret [v45, v46, v47, v48, v49, v50, v51, v52, v53, v54, v55]) (
          P1 (.bin .eql) [x10, .int .i64 5] fun v56 =>
          ifB v56 (
            P11 (.call F_PlayOnce 0 11) [x0, x1, x2, x3, x4, x5, x6, x7, x8, x9] fun v57 v58 v59 v60 v61 v62 v63 v64 v65 v66 v67 =>
            P1 (.call F_numberOf 0 1) [v67] fun v68 =>
            Q .ret [v57, v58, v59, v60, v61, v62, v63, v64, v65, v66, v68]) (
            P10 (.call F_copyWorkshop 0 10) [x0, x1, x2, x3, x4, x5, x6, x7, x8, x9] fun v69 v70 v71 v72 v73 v74 v75 v76 v77 v78 =>
            P1 (.call F_ClosestPins 0 1) [x0, x1, x2] fun v79 =>
            Q .ret [v69, v70, v71, v72, v73, v74, v75, v76, v77, v78, v79])))))) := by kernel_rfl

def impl_DoAct_L : L := .seq (.rg []) (.seq (.seq (.rg [zc F_WorkshopOk 1 [0, 1, 2, 3, 4, 5, 6, 7, 8, 9], zn 13, ⟨[(.v 14, false)], .call F_ActOk 0 1, [.v 10, .v 11, .v 12], 1⟩, ⟨[(.v 14, false)], .un .not, [.v 15], 1⟩, ⟨[], .pick, [.v 14, .k (.bool true), .v 16], 1⟩]) (.ite (.v 17) (.seq (.rg [zc F_copyWorkshop 10 [0, 1, 2, 3, 4, 5, 6, 7, 8, 9]]) (.ret [.v 18, .v 19, .v 20, .v 21, .v 22, .v 23, .v 24, .v 25, .v 26, .v 27, .k (.int .i64 (-1))])) (.skip))) (impl_DoAct_r0))
theorem impl_DoAct_L_sh (Q : QT) (x0 x1 x2 x3 x4 x5 x6 x7 x8 x9 x10 x11 x12 : V) : shL impl_DoAct_L Q [x0, x1, x2, x3, x4, x5, x6, x7, x8, x9, x10, x11, x12] = (
  P1 (.call F_WorkshopOk 0 1) [x0, x1, x2, x3, x4, x5, x6, x7, x8, x9] fun v0 =>
  P1 (.un .not) [v0] fun v1 =>
  ifB v1 (
    P10 (.call F_copyWorkshop 0 10) [x0, x1, x2, x3, x4, x5, x6, x7, x8, x9] fun v2 v3 v4 v5 v6 v7 v8 v9 v10 v11 =>
    Q .ret [v2, v3, v4, v5, v6, v7, v8, v9, v10, v11, .int .i64 (-1)]) (
    P1 (.call F_ActOk 0 1) [x10, x11, x12] fun v12 =>
    P1 (.un .not) [v12] fun v13 =>
    ifB v13 (
      P10 (.call F_copyWorkshop 0 10) [x0, x1, x2, x3, x4, x5, x6, x7, x8, x9] fun v14 v15 v16 v17 v18 v19 v20 v21 v22 v23 =>
      Q .ret [v14, v15, v16, v17, v18, v19, v20, v21, v22, v23, .int .i64 (-1)]) (
      shL impl_DoAct_r0 Q [x0, x1, x2, x3, x4, x5, x6, x7, x8, x9, x10, x11, x12, v0, .bool false, v12, v13, .bool false]))) := by kernel_rfl
def impl_DoAct_S : Sig := ⟨[.val true [.sc, .sc, .sl [.sc, .sc], .sl [.sl [.sc, .sc]], .sl [.sc], .sc, .sc, .sc, .sc, .sc], .val true [.sc, .sc, .sc]], [(true, [.sc, .sc, .sl [.sc, .sc], .sl [.sl [.sc, .sc]], .sl [.sc], .sc, .sc, .sc, .sc, .sc]), (false, [.sc])], F_DoAct⟩
def impl_DoAct_hs : List NF := [⟨[(2, .ptr 64 0), (4, .ptr 65 0)], [], [(64, [.sc, .sc, .ro [.sc, .sc], .ro [.sl [.sc, .sc]], .ro [.sc], .sc, .sc, .sc, .sc, .sc]), (65, [.sc, .sc, .nil, .nil, .nil, .sc, .sc, .sc, .sc, .sc])], 66⟩]

def impl_RunActs_b0 : L := .seq (.seq (.rg [zb .lss 2 1]) (.seq (.ite (.v 21) (.skip) (.seq (zt [3, 4, 5, 6, 7, 8, 9, 10, 11, 12, 13, 14, 15, 16, 17, 18, 19, 20]) (.exit 0))) (.seq (.block 1 (.seq (.seq (.rg [⟨[], .idx [.sc, .sc, .sc], [.v 0, .v 2], 3⟩]) (.seq (.rg [zc F_DoAct 11 [14, 15, 4, 5, 6, 16, 17, 18, 19, 20, 22, 23, 24]]) (.seq (.rg []) (.rg [⟨[], .lst [.sc] false 1, [.v 35], 1⟩, ⟨[], .app [.sc] 8, [.v 3, .v 36], 1⟩])))) (zt [0, 1, 2, 37, 27, 28, 29, 7, 8, 9, 10, 11, 12, 13, 25, 26, 30, 31, 32, 33, 34]))) (.rg [zk .add 2 1])))) (zt [0, 1, 21, 3, 4, 5, 6, 7, 8, 9, 10, 11, 12, 13, 14, 15, 16, 17, 18, 19, 20])
theorem impl_RunActs_b0_sh (Q : QT) (x0 x1 x2 x3 x4 x5 x6 x7 x8 x9 x10 x11 x12 x13 x14 x15 x16 x17 x18 x19 x20 : V) : shL impl_RunActs_b0 Q [x0, x1, x2, x3, x4, x5, x6, x7, x8, x9, x10, x11, x12, x13, x14, x15, x16, x17, x18, x19, x20] = (
  P1 (.bin .lss) [x2, x1] fun v0 =>
  ifB v0 (
    P3 (.idx [.sc, .sc, .sc]) [x0, x2] fun v1 v2 v3 =>
    P11 (.call F_DoAct 0 11) [x14, x15, x4, x5, x6, x16, x17, x18, x19, x20, v1, v2, v3] fun v4 v5 v6 v7 v8 v9 v10 v11 v12 v13 v14 =>
    P1 (.lst [.sc] false 1) [v14] fun v15 =>
    P1 (.app [.sc] 8) [x3, v15] fun v16 =>
    P1 (.bin .add) [x2, .int .i64 1] fun v17 =>
    Q .normal [x0, x1, v17, v16, v6, v7, v8, x7, x8, x9, x10, x11, x12, x13, v4, v5, v9, v10, v11, v12, v13]) (
    Q (.exit 0) [x3, x4, x5, x6, x7, x8, x9, x10, x11, x12, x13, x14, x15, x16, x17, x18, x19, x20])) := by kernel_rfl

def impl_RunActs_r1 : L := .seq (.rg []) (.ret [.v 11, .v 12, .v 1, .v 2, .v 3, .v 13, .v 14, .v 15, .v 16, .v 17, .v 0])
theorem impl_RunActs_r1_sh (Q : QT) (x0 x1 x2 x3 x4 x5 x6 x7 x8 x9 x10 x11 x12 x13 x14 x15 x16 x17 : V) : shL impl_RunActs_r1 Q [x0, x1, x2, x3, x4, x5, x6, x7, x8, x9, x10, x11, x12, x13, x14, x15, x16, x17] = (
  Q .ret [x11, x12, x1, x2, x3, x13, x14, x15, x16, x17, x0]) := by kernel_rfl

def impl_RunActs_L : L := .seq (.rg []) (.seq (.rg [zc F_copyWorkshop 10 [0, 1, 2, 3, 4, 5, 6, 7, 8, 9]]) (.seq (.seq (.rg [zc F_WorkshopOk 1 [0, 1, 2, 3, 4, 5, 6, 7, 8, 9], zn 21, ⟨[(.v 22, false)], .len, [.v 10], 1⟩, ⟨[(.v 22, false)], .bin .gtr, [.v 23, .k (.int .i64 40)], 1⟩, ⟨[], .pick, [.v 22, .k (.bool true), .v 24], 1⟩]) (.ite (.v 25) (.seq (.rg []) (.ret [.v 11, .v 12, .v 13, .v 14, .v 15, .v 16, .v 17, .v 18, .v 19, .v 20, .k (.list [.sc] [])])) (.skip))) (.seq (.rg [⟨[], .lst [.sc] false 0, [], 1⟩]) (.seq (.seq (.rg [zl 10]) (.block 0 (.seq (.tup [.v 10, .v 27, .k (.int .i64 0), .v 26, .v 13, .v 14, .v 15, .k (.int .i64 0), .k (.int .i64 0), .k (.int .i64 0), .k (.int .i64 0), .k (.int .i64 0), .k (.int .i64 0), .k (.int .i64 0), .v 11, .v 12, .v 16, .v 17, .v 18, .v 19, .v 20]) (.loop (impl_RunActs_b0))))) (impl_RunActs_r1)))))
theorem impl_RunActs_L_sh (Q : QT) (x0 x1 x2 x3 x4 x5 x6 x7 x8 x9 x10 : V) : shL impl_RunActs_L Q [x0, x1, x2, x3, x4, x5, x6, x7, x8, x9, x10] = (
  P10 (.call F_copyWorkshop 0 10) [x0, x1, x2, x3, x4, x5, x6, x7, x8, x9] fun v0 v1 v2 v3 v4 v5 v6 v7 v8 v9 =>
  P1 (.call F_WorkshopOk 0 1) [x0, x1, x2, x3, x4, x5, x6, x7, x8, x9] fun v10 =>
  P1 (.un .not) [v10] fun v11 =>
  ifB v11 (
    Q .ret [v0, v1, v2, v3, v4, v5, v6, v7, v8, v9, .list [.sc] []]) (
    P1 (.len) [x10] fun v12 =>
    P1 (.bin .gtr) [v12, .int .i64 40] fun v13 =>
    ifB v13 (
      Q .ret [v0, v1, v2, v3, v4, v5, v6, v7, v8, v9, .list [.sc] []]) (
      P1 (.lst [.sc] false 0) [] fun v14 =>
      P1 (.len) [x10] fun v15 =>
      shL (.loop impl_RunActs_b0) (qB 0 (qS (shL impl_RunActs_r1 Q) Q)) [x10, v15, .int .i64 0, v14, v2, v3, v4, .int .i64 0, .int .i64 0, .int .i64 0, .int .i64 0, .int .i64 0, .int .i64 0, .int .i64 0, v0, v1, v5, v6, v7, v8, v9]))) := by kernel_rfl
def impl_RunActs_S : Sig := ⟨[.val true [.sc, .sc, .sl [.sc, .sc], .sl [.sl [.sc, .sc]], .sl [.sc], .sc, .sc, .sc, .sc, .sc], .val false [.sl [.sc, .sc, .sc]]], [(true, [.sc, .sc, .sl [.sc, .sc], .sl [.sl [.sc, .sc]], .sl [.sc], .sc, .sc, .sc, .sc, .sc]), (false, [.sl [.sc]])], F_RunActs⟩
def impl_RunActs_hs : List NF := [⟨[(4, .ptr 64 0), (6, .ptr 65 0), (7, zo 66)], [(66, true, [.sc]), (67, true, [.sc, .sc]), (68, true, [.sl [.sc, .sc]]), (69, true, [.sc])], [(64, [.sc, .sc, .nil, .nil, .nil, .sc, .sc, .sc, .sc, .sc]), (65, [.sc, .sc, .own 67, .own 68, .own 69, .sc, .sc, .sc, .sc, .sc])], 70⟩, ⟨[(4, .ptr 64 0), (6, .ptr 65 0), (7, zo 66), (24, .sc false [.ro [.sc, .sc, .sc]]), (25, zs), (26, zs)], [(66, true, [.sc]), (67, true, [.sc, .sc]), (68, true, [.sl [.sc, .sc]]), (69, true, [.sc])], [(64, [.sc, .sc, .nil, .nil, .nil, .sc, .sc, .sc, .sc, .sc]), (65, [.sc, .sc, .own 67, .own 68, .own 69, .sc, .sc, .sc, .sc, .sc])], 70⟩, ⟨[(4, .ptr 64 0), (6, .ptr 65 0), (7, zo 66), (24, .sc false [.ro [.sc, .sc, .sc]]), (25, zs), (26, zs)], [(66, true, [.sc]), (67, true, [.sc, .sc]), (68, true, [.sl [.sc, .sc]]), (69, true, [.sc])], [(64, [.sc, .sc, .nil, .nil, .nil, .sc, .sc, .sc, .sc, .sc]), (65, [.sc, .sc, .own 67, .own 68, .own 69, .sc, .sc, .sc, .sc, .sc])], 70⟩]

end
end Go.Mw

namespace Go.Mw
end Go.Mw

namespace Go.Mw
theorem cmRow_succ {c : Cyl} {i k : Nat} {b : Int} (hi : i < c.p.length) (hk : k < c.p.length) : cmRow c i (k + 1) b = if c.p[i].a = c.p[k].a then min (cmRow c i k b) (gap c.p[i].b c.p[k].b c.s) else cmRow c i k b := by
  simp [cmRow, List.getElem?_eq_getElem hi, List.getElem?_eq_getElem hk]
theorem impl_ClosestPins_ok : ∀ ds outs, F_ClosestPins ds = some outs → shL impl_ClosestPins_L (qRet outs) ds := F_ClosestPins_elim fun x hp => by
  rw [impl_ClosestPins_L_sh]
  simp only [p_CylinderOk (x_p := x.p) hp, Cyl.eta]
  cases h : cylOk x with
  | false => simp [h, closest]
  | true =>
    have hb := cylOk_bounds h
    simp
    refine loop_upto x.p.length (fun i => [.int .i64 (cmTo x i), vL I2 v2 x.p, .int .i64 x.p.length, .int .i64 i, .int .i64 x.s, .int .i64 x.t, vL I2 v2 x.p]) (by intro i j _ _ h; simp at h; omega) (fun _ => True) (by simp [cmTo]) trivial ?_
    intro i hi _
    rw [impl_ClosestPins_b0_sh]
    simp only [P1_lss, ifB_bool, decide_eq_true_eq, decide_eq_false_iff_not]
    refine ⟨fun h1 => ?_, fun h1 => ?_⟩
    · have hi2 : i < x.p.length := by omega
      have e2 : (i : Int).toNat = i := by omega
      have hlen : (x.p.take i).length = i := by rw [List.length_take]; omega
      simp only [P2_idxI, e2, List.getElem?_eq_getElem hi2, Option.some.injEq, exists_eq_left', P1_lsub2_2, Int.toNat_zero, List.drop_zero, P1_len, hlen]
      refine ⟨by omega, ⟨by omega, by omega, by omega⟩, ?_⟩
      refine loop_upto i (fun k => [.int .i64 (cmRow x i k (cmTo x i)), vL I2 v2 x.p, .int .i64 x.p.length, .int .i64 i, vL I2 v2 (x.p.take i), .int .i64 i, .int .i64 k, .int .i64 x.s, .int .i64 x.t, vL I2 v2 x.p, .int .i64 x.p[i].a, .int .i64 x.p[i].b]) (by intro i j _ _ h; simp at h; omega) (fun _ => True) (by simp [cmRow]) trivial ?_
      intro k hk _
      rw [impl_ClosestPins_b1_sh]
      simp only [P1_lss, ifB_bool, decide_eq_true_eq, decide_eq_false_iff_not]
      refine ⟨fun h2 => ?_, fun h2 => ?_⟩
      · have hk2 : k < x.p.length := by omega
        have hk3 : k < i := by omega
        have w1 : IntKind.i64.wrap ((k : Int) + 1) = (k : Int) + 1 := wrap_id (by omega) (by omega)
        by_cases e : x.p[i].a = x.p[k].a <;> simp [hi2, hk2, hk3, e, w1, cmRow_succ]
      · obtain rfl : k = i := by omega
        have w1 : IntKind.i64.wrap ((k : Int) + 1) = (k : Int) + 1 := wrap_id (by omega) (by omega)
        simp [impl_ClosestPins_r2_sh, impl_ClosestPins_r3_sh, impl_ClosestPins_r4_sh, w1, hi2, cmTo]
    · obtain rfl : i = x.p.length := by omega
      simp [impl_ClosestPins_r5_sh, closest, h]
theorem impl_numberOf_ok : ∀ ds outs, F_numberOf ds = some outs → shL impl_numberOf_L (qRet outs) ds := F_numberOf_elim fun n => by
  rw [impl_numberOf_L_sh]; cases n <;> simp [num]
theorem back_ok {x : Shop} (h : shopOk x = true) (ht : takeOk x.bench = true) : shopOk (withB x (takeBack x.bench) 0) = true := by
  have hs := (shopOk_iff x).1 h
  have hb := (benchOk_iff _).1 hs.1
  have ho : x.o ≠ [] := by simp [takeOk] at ht; exact ht.2
  have hl : 0 < x.o.length := List.length_pos_iff.2 ho
  have hlast : x.o.length - 1 < x.o.length := by omega
  have e : takeBack x.bench = ⟨x.s, x.t, x.o[x.o.length - 1], x.o.take (x.o.length - 1)⟩ := by
    simp only [takeBack, ht, if_true]
    simp [Shop.bench, List.getElem?_eq_getElem hlast]
  have e2 : withB x (takeBack x.bench) 0 = ⟨x.s, x.t, x.o[x.o.length - 1], x.o.take (x.o.length - 1), x.c, x.u, x.m, x.f, x.y - 0, x.d⟩ := by unfold withB; rw [e]
  rw [e2, shopOk_iff]
  refine ⟨?_, hs.2.1, hs.2.2.1, hs.2.2.2.1, by simpa using hs.2.2.2.2.1, hs.2.2.2.2.2⟩
  rw [benchOk_iff]
  have h30 := hb.2.1
  simp only [Shop.bench] at h30 ⊢
  exact ⟨hb.2.2 _ (List.getElem_mem hlast), by rw [List.length_take]; omega, fun p hp => hb.2.2 p (List.mem_of_mem_take hp)⟩
theorem act_kinds {y : T3} (h : actOk y = true) : y.a = 1 ∨ y.a = 2 ∨ y.a = 3 ∨ y.a = 4 ∨ y.a = 5 ∨ y.a = 6 := by
  unfold actOk at h
  by_cases h1 : y.a = 1 <;> by_cases h2 : y.a = 2 <;> by_cases h3 : y.a = 3 <;> by_cases h4 : y.a = 4 <;> by_cases h5 : y.a = 5 <;> by_cases h6 : y.a = 6 <;> simp_all
theorem impl_DoAct_ok : ∀ ds outs, F_DoAct ds = some outs → shL impl_DoAct_L (qRet outs) ds := F_DoAct_elim fun x y hp => by
  have hb : x.p.length ≤ 1048576 ∧ fitLL x.o := ⟨hp.1, hp.2.1⟩
  have e0 : (⟨x.s, x.t, x.p, x.o⟩ : Bench) = x.bench := rfl
  have e1 : (⟨x.s, x.t, x.p⟩ : Cyl) = x.bench.cyl := rfl
  have e2 : (⟨y.a, y.b, y.c⟩ : T3) = y := rfl
  rw [impl_DoAct_L_sh]
  simp only [p_WorkshopOk (x_p := x.p) (x_o := x.o) (x_c := x.c) hp, p_copyWorkshop (x_p := x.p) (x_o := x.o) (x_c := x.c) hp]
  cases h : shopOk x with
  | false => simp [h, actW, actN, canAct]
  | true =>
    cases h2 : actOk y with
    | false => simp [h, h2, actW, actN, canAct]
    | true =>
      have hk := act_kinds h2
      have hc : canAct x y = true := by simp [canAct, h, h2]
      have hs : bSmall (takeBack x.bench) := by
        cases ht : takeOk x.bench with
        | false => have e : takeBack x.bench = x.bench := by simp [takeBack, ht]
                   rw [e]; exact bSmall_of_ok ((shopOk_iff x).1 h).1
        | true =>
          have := sSmall_of_ok (back_ok h ht)
          exact ⟨this.1.1, this.1.2.1, this.2⟩
      simp only [h, P1_not, ifB_bool, p_ActOk, e2, h2, impl_DoAct_r0_sh]
      simp only [p_PutPin (x_p := x.p) (x_o := x.o) (x_c := x.c) hp, p_RemovePin (x_p := x.p) (x_o := x.o) (x_c := x.c) hp, p_PlayOnce (x_p := x.p) (x_o := x.o) (x_c := x.c) hp, p_TakeBack (x_p := x.p) (x_o := x.o) hb, p_Crank (x_p := x.p) (x_o := x.o) (x_c := x.c) hp, p_ClosestPins (x_p := x.p) hp.1, p_copyWorkshop (x_p := x.p) (x_o := x.o) (x_c := x.c) hp, e0, e1]
      rcases hk with e | e | e | e | e | e
      · simp [e, actW, actN, hc, putW, putOk]
      · simp [e, actW, actN, hc, removeW, removeOk]
      · have eW : backW x = withBench x (takeBack x.bench) 0 (takeOk x.bench) := rfl
        have eO : backOk x = benchFits x (takeBack x.bench) 0 (takeOk x.bench) := rfl
        simp only [actW, actN, hc, e, eW, eO]
        generalize takeBack x.bench = B at *
        have hq := fun (nr_ : Nat) (n : Bool) kk_ => p_withBench (x_s := x.s) (x_t := x.t) (x_p := x.p) (x_o := x.o) (x_c := x.c) (x_u := x.u) (x_m := x.m) (x_f := x.f) (x_y := x.y) (x_d := x.d) (y_s := B.s) (y_t := B.t) (y_p := B.p) (y_o := B.o) (k := 0) (n := n) (nr_ := nr_) (kk_ := kk_) ⟨hp.1, hp.2.1, hp.2.2, hs.1, hs.2.1, by omega, by omega⟩
        simp [hq]
      · simp [e, actW, actN, hc, h]
      · simp [e, actW, actN, hc]
      · simp [e, actW, actN, hc]
end Go.Mw

namespace Go.Mw
theorem actW_small {x : Shop} {y : T3} (h : sSmall x) : sSmall (actW x y) := by
  unfold actW
  split
  · split
    · exact withBench_small h
    · split
      · exact withBench_small h
      · split
        · exact withBench_small h
        · split
          · exact crank_small h
          · split
            · exact playOnce_small h
            · exact h
  · exact h
theorem run_small {x : Shop} {l : List T3} (h : sSmall x) : ∀ k, sSmall (runTo x l k).1
  | 0 => h
  | k + 1 => by
    have ih := run_small (l := l) h k
    unfold runTo
    split
    · exact actW_small ih
    · exact ih
theorem run_len {x : Shop} {l : List T3} : ∀ k, (runTo x l k).2.length ≤ k
  | 0 => by simp [runTo]
  | k + 1 => by
    have ih := run_len (x := x) (l := l) k
    unfold runTo
    split
    · simp; omega
    · omega
theorem run_succ {x : Shop} {l : List T3} {k : Nat} (h : k < l.length) : runTo x l (k + 1) = (actW (runTo x l k).1 l[k], (runTo x l k).2 ++ [actN (runTo x l k).1 l[k]]) := by
  simp [runTo, List.getElem?_eq_getElem h]
theorem impl_RunActs_ok : ∀ ds outs, F_RunActs ds = some outs → shL impl_RunActs_L (qRet outs) ds := F_RunActs_elim fun x l hp => by
  have hf : x.p.length ≤ 1048576 ∧ fitLL x.o ∧ x.c.length ≤ 1048576 := ⟨hp.1, hp.2.1, hp.2.2.1⟩
  rw [impl_RunActs_L_sh, p_copyWorkshop (x_p := x.p) (x_o := x.o) (x_c := x.c) hf]
  simp only [p_WorkshopOk (x_p := x.p) (x_o := x.o) (x_c := x.c) hf]
  cases h : shopOk x with
  | false => simp [h, runW, runN', actsOk]
  | true =>
    by_cases hl : l.length ≤ 40
    · have hc : actsOk x l = true := by simp [actsOk, h, hl]
      have hl2 : ¬ 40 < (l.length : Int) := by omega
      simp only [h, P1_lst0, P1_not, P1_len, P1_gtr, ifB_bool, decide_eq_true_eq, decide_eq_false_iff_not]
      refine ⟨fun h => absurd h (by simp), fun _ => ⟨fun h => absurd h hl2, fun _ => ?_⟩⟩
      refine loop_upto l.length (fun k => [vL I3 v3 l, .int .i64 l.length, .int .i64 k, vL I1 v1 (runTo x l k).2, vL I2 v2 (runTo x l k).1.p, vL IL2 vLL2 (runTo x l k).1.o, vL I1 v1 (runTo x l k).1.c, .int .i64 0, .int .i64 0, .int .i64 0, .int .i64 0, .int .i64 0, .int .i64 0, .int .i64 0, .int .i64 (runTo x l k).1.s, .int .i64 (runTo x l k).1.t, .int .i64 (runTo x l k).1.u, .int .i64 (runTo x l k).1.m, .int .i64 (runTo x l k).1.f, .int .i64 (runTo x l k).1.y, .int .i64 (runTo x l k).1.d]) (by intro i j _ _ h; simp at h; omega) (fun _ => True) (by simp [runTo]) trivial ?_
      intro k hk _
      have hs := (run_small (l := l) (sSmall_of_ok h) k).1
      have hn := run_len (x := x) (l := l) k
      have hsucc := fun hk2 : k < l.length => run_succ (x := x) hk2
      generalize hW : runTo x l k = W at *
      rw [impl_RunActs_b0_sh]
      simp only [P1_lss, ifB_bool, decide_eq_true_eq, decide_eq_false_iff_not]
      refine ⟨fun h1 => ?_, fun h1 => ?_⟩
      · have hk2 : k < l.length := by omega
        have e2 : (k : Int).toNat = k := by omega
        have w1 : IntKind.i64.wrap ((k : Int) + 1) = (k : Int) + 1 := wrap_id (by omega) (by omega)
        have e3 : (⟨l[k].a, l[k].b, l[k].c⟩ : T3) = l[k] := rfl
        simp only [P3_idxI, e2, List.getElem?_eq_getElem hk2, Option.some.injEq, exists_eq_left', p_DoAct (x_p := W.1.p) (x_o := W.1.o) (x_c := W.1.c) hs, e3]
        simp [hk2, w1, hsucc hk2]
        omega
      · obtain rfl : k = l.length := by omega
        subst hW
        simp [impl_RunActs_r1_sh, runW, runN', hc]
    · have hc : actsOk x l = false := by simp [actsOk, h]; omega
      have hl2 : 40 < (l.length : Int) := by omega
      simp [h, hl2, runW, runN', hc]
end Go.Mw

namespace Go.Mw
theorem runN_len {x : Shop} {l : List T3} : (runN' x l).length ≤ 40 := by
  unfold runN'
  split
  · rename_i h
    simp only [actsOk, Bool.and_eq_true, decide_eq_true_eq] at h
    have := run_len (x := x) (l := l) l.length
    omega
  · simp
end Go.Mw

namespace Go.Mw
end Go.Mw

namespace Go.Mw
def E_l01Once : Cur × Int → List V := fun (x, n) => [vL I1 vY x.b, .int .i64 x.i, .int .i64 x.h, .int .i64 n]
noncomputable def F_l01Once : List V → Option (List V) := mkF E_l01Once (fun (x, _) => 0 ≤ x.i ∧ x.b.length ≤ 1048576) (fun (x, n) => [.bool (decide (cBelow x n = 0)), .int .i64 ((cAfter x n).i), .int .i64 ((cAfter x n).h)])
theorem F_l01Once_inj : ∀ x y, E_l01Once x = E_l01Once y → x = y := by
  rintro ⟨⟨xb, xi, xh⟩, n⟩ ⟨⟨xb', xi', xh'⟩, n'⟩ h
  simpa [E_l01Once, and_assoc] using h
theorem F_l01Once_elim {P : List V → List V → Prop} (h : ∀ (x : Cur) (n : Int), (0 ≤ x.i ∧ x.b.length ≤ 1048576) → P [vL I1 vY x.b, .int .i64 x.i, .int .i64 x.h, .int .i64 n] [.bool (decide (cBelow x n = 0)), .int .i64 ((cAfter x n).i), .int .i64 ((cAfter x n).h)]) : ∀ ds outs, F_l01Once ds = some outs → P ds outs := by
  intro ds outs hh
  obtain ⟨⟨x, n⟩, rfl, hp, rfl⟩ := mkF_inv hh
  exact h x n hp
theorem p_l01Once {x_b : List UInt8} {x_i : Int} {x_h : Int} {n : Int} {nr_ : Nat} {kk_ : V → V → V → Prop} (hp : 0 ≤ (⟨x_b, x_i, x_h⟩ : Cur).i ∧ (⟨x_b, x_i, x_h⟩ : Cur).b.length ≤ 1048576) : P3 (.call F_l01Once 0 nr_) [vL I1 vY x_b, .int .i64 x_i, .int .i64 x_h, .int .i64 n] kk_ ↔ kk_ (.bool (decide (cBelow (⟨x_b, x_i, x_h⟩ : Cur) n = 0))) (.int .i64 ((cAfter (⟨x_b, x_i, x_h⟩ : Cur) n).i)) (.int .i64 ((cAfter (⟨x_b, x_i, x_h⟩ : Cur) n).h)) :=
  P3_callF (by unfold F_l01Once; exact mkF_eq F_l01Once_inj ((⟨x_b, x_i, x_h⟩ : Cur), n) hp)

def benchStep (b : Bench) (x : Cur) : Bench × Cur :=
  if cBelow x 3 = 0 then (takePin b (cBelow (cAfter x 3) 6), cAfter (cAfter x 3) 6)
  else (setPin b ⟨cBelow (cAfter x 3) b.t, cBelow (cAfter (cAfter x 3) b.t) b.s⟩, cAfter (cAfter (cAfter x 3) b.t) b.s)
def benchTo (x : Cur) : Nat → Bench × Cur
  | 0 => (⟨(cylOf x).s, (cylOf x).t, (cylOf x).p, []⟩, cAfter (cylEnd x) 7)
  | k + 1 => benchStep (benchTo x k).1 (benchTo x k).2
def benchN (x : Cur) : Nat := (cBelow (cylEnd x) 7).toNat
def benchOf (x : Cur) : Bench := (benchTo x (benchN x)).1
def benchEnd (x : Cur) : Cur := (benchTo x (benchN x)).2
def E_l37Bench (x : Cur) : List V := [vL I1 vY x.b, .int .i64 x.i, .int .i64 x.h]
noncomputable def F_l37Bench : List V → Option (List V) := mkF E_l37Bench (fun x => 0 ≤ x.i ∧ x.b.length ≤ 1048576) (fun x => [.int .i64 (benchOf x).s, .int .i64 (benchOf x).t, vL I2 v2 (benchOf x).p, vL IL2 vLL2 (benchOf x).o, .int .i64 ((benchEnd x).i), .int .i64 ((benchEnd x).h)])
theorem F_l37Bench_inj : ∀ x y, E_l37Bench x = E_l37Bench y → x = y := by
  rintro ⟨xb, xi, xh⟩ ⟨xb', xi', xh'⟩ h
  simpa [E_l37Bench] using h
theorem F_l37Bench_elim {P : List V → List V → Prop} (h : ∀ (x : Cur), (0 ≤ x.i ∧ x.b.length ≤ 1048576) → P [vL I1 vY x.b, .int .i64 x.i, .int .i64 x.h] [.int .i64 (benchOf x).s, .int .i64 (benchOf x).t, vL I2 v2 (benchOf x).p, vL IL2 vLL2 (benchOf x).o, .int .i64 ((benchEnd x).i), .int .i64 ((benchEnd x).h)]) : ∀ ds outs, F_l37Bench ds = some outs → P ds outs := by
  intro ds outs hh
  obtain ⟨x, rfl, hp, rfl⟩ := mkF_inv hh
  exact h x hp
theorem p_l37Bench {x_b : List UInt8} {x_i : Int} {x_h : Int} {nr_ : Nat} {kk_ : V → V → V → V → V → V → Prop} (hp : 0 ≤ (⟨x_b, x_i, x_h⟩ : Cur).i ∧ (⟨x_b, x_i, x_h⟩ : Cur).b.length ≤ 1048576) : P6 (.call F_l37Bench 0 nr_) [vL I1 vY x_b, .int .i64 x_i, .int .i64 x_h] kk_ ↔ kk_ (.int .i64 (benchOf (⟨x_b, x_i, x_h⟩ : Cur)).s) (.int .i64 (benchOf (⟨x_b, x_i, x_h⟩ : Cur)).t) (vL I2 v2 (benchOf (⟨x_b, x_i, x_h⟩ : Cur)).p) (vL IL2 vLL2 (benchOf (⟨x_b, x_i, x_h⟩ : Cur)).o) (.int .i64 ((benchEnd (⟨x_b, x_i, x_h⟩ : Cur)).i)) (.int .i64 ((benchEnd (⟨x_b, x_i, x_h⟩ : Cur)).h)) :=
  P6_callF (by unfold F_l37Bench; exact mkF_eq F_l37Bench_inj ((⟨x_b, x_i, x_h⟩ : Cur)) hp)

def springMost (x : Cur) : Int := 1 + cBelow x 20
def springOf (x : Cur) : T3 := ⟨cBelow (cAfter x 20) (springMost x + 1), springMost x, 1 + 3 * cBelow (cAfter (cAfter x 20) (springMost x + 1)) 200⟩
def springEnd (x : Cur) : Cur := cAfter (cAfter (cAfter x 20) (springMost x + 1)) 200
def E_l12Spring (x : Cur) : List V := [vL I1 vY x.b, .int .i64 x.i, .int .i64 x.h]
noncomputable def F_l12Spring : List V → Option (List V) := mkF E_l12Spring (fun x => 0 ≤ x.i ∧ x.b.length ≤ 1048576) (fun x => [.int .i64 (springOf x).a, .int .i64 (springOf x).b, .int .i64 (springOf x).c, .int .i64 ((springEnd x).i), .int .i64 ((springEnd x).h)])
theorem F_l12Spring_inj : ∀ x y, E_l12Spring x = E_l12Spring y → x = y := by
  rintro ⟨xb, xi, xh⟩ ⟨xb', xi', xh'⟩ h
  simpa [E_l12Spring] using h
theorem F_l12Spring_elim {P : List V → List V → Prop} (h : ∀ (x : Cur), (0 ≤ x.i ∧ x.b.length ≤ 1048576) → P [vL I1 vY x.b, .int .i64 x.i, .int .i64 x.h] [.int .i64 (springOf x).a, .int .i64 (springOf x).b, .int .i64 (springOf x).c, .int .i64 ((springEnd x).i), .int .i64 ((springEnd x).h)]) : ∀ ds outs, F_l12Spring ds = some outs → P ds outs := by
  intro ds outs hh
  obtain ⟨x, rfl, hp, rfl⟩ := mkF_inv hh
  exact h x hp
theorem p_l12Spring {x_b : List UInt8} {x_i : Int} {x_h : Int} {nr_ : Nat} {kk_ : V → V → V → V → V → Prop} (hp : 0 ≤ (⟨x_b, x_i, x_h⟩ : Cur).i ∧ (⟨x_b, x_i, x_h⟩ : Cur).b.length ≤ 1048576) : P5 (.call F_l12Spring 0 nr_) [vL I1 vY x_b, .int .i64 x_i, .int .i64 x_h] kk_ ↔ kk_ (.int .i64 (springOf (⟨x_b, x_i, x_h⟩ : Cur)).a) (.int .i64 (springOf (⟨x_b, x_i, x_h⟩ : Cur)).b) (.int .i64 (springOf (⟨x_b, x_i, x_h⟩ : Cur)).c) (.int .i64 ((springEnd (⟨x_b, x_i, x_h⟩ : Cur)).i)) (.int .i64 ((springEnd (⟨x_b, x_i, x_h⟩ : Cur)).h)) :=
  P5_callF (by unfold F_l12Spring; exact mkF_eq F_l12Spring_inj ((⟨x_b, x_i, x_h⟩ : Cur)) hp)

def combTo (x : Cur) : Nat → (List Int × Int) × Cur
  | 0 => (([], 10), x)
  | k + 1 => (((combTo x k).1.1 ++ [(combTo x k).1.2], (combTo x k).1.2 + (([0, 1, 2, 4] : List Int)[(cBelow (combTo x k).2 4).toNat]?).getD 0), cAfter (combTo x k).2 4)
def shopMoney (x : Cur) : Int := (([0, 1, 30, 999] : List Int)[(cBelow (springEnd (benchEnd x)) 4).toNat]?).getD 0
def shopPlayed (x : Cur) : Int := (([0, 12, 999999] : List Int)[(cBelow (cAfter (springEnd (benchEnd x)) 4) 3).toNat]?).getD 0
def shopCur (x : Cur) : Cur := cAfter (cAfter (springEnd (benchEnd x)) 4) 3
def shopOf (x : Cur) : Shop := ⟨(benchOf x).s, (benchOf x).t, (benchOf x).p, (benchOf x).o, (combTo (shopCur x) (benchOf x).t.toNat).1.1,
  (springOf (benchEnd x)).a, (springOf (benchEnd x)).b, (springOf (benchEnd x)).c, shopMoney x, shopPlayed x⟩
def shopEnd (x : Cur) : Cur := (combTo (shopCur x) (benchOf x).t.toNat).2
def E_l38Workshop (x : Cur) : List V := [vL I1 vY x.b, .int .i64 x.i, .int .i64 x.h]
noncomputable def F_l38Workshop : List V → Option (List V) := mkF E_l38Workshop (fun x => 0 ≤ x.i ∧ x.b.length ≤ 1048576) (fun x => [.int .i64 (shopOf x).s, .int .i64 (shopOf x).t, vL I2 v2 (shopOf x).p, vL IL2 vLL2 (shopOf x).o, vL I1 v1 (shopOf x).c, .int .i64 (shopOf x).u, .int .i64 (shopOf x).m, .int .i64 (shopOf x).f, .int .i64 (shopOf x).y, .int .i64 (shopOf x).d, .int .i64 ((shopEnd x).i), .int .i64 ((shopEnd x).h)])
theorem F_l38Workshop_inj : ∀ x y, E_l38Workshop x = E_l38Workshop y → x = y := by
  rintro ⟨xb, xi, xh⟩ ⟨xb', xi', xh'⟩ h
  simpa [E_l38Workshop] using h
theorem F_l38Workshop_elim {P : List V → List V → Prop} (h : ∀ (x : Cur), (0 ≤ x.i ∧ x.b.length ≤ 1048576) → P [vL I1 vY x.b, .int .i64 x.i, .int .i64 x.h] [.int .i64 (shopOf x).s, .int .i64 (shopOf x).t, vL I2 v2 (shopOf x).p, vL IL2 vLL2 (shopOf x).o, vL I1 v1 (shopOf x).c, .int .i64 (shopOf x).u, .int .i64 (shopOf x).m, .int .i64 (shopOf x).f, .int .i64 (shopOf x).y, .int .i64 (shopOf x).d, .int .i64 ((shopEnd x).i), .int .i64 ((shopEnd x).h)]) : ∀ ds outs, F_l38Workshop ds = some outs → P ds outs := by
  intro ds outs hh
  obtain ⟨x, rfl, hp, rfl⟩ := mkF_inv hh
  exact h x hp
theorem p_l38Workshop {x_b : List UInt8} {x_i : Int} {x_h : Int} {nr_ : Nat} {kk_ : V → V → V → V → V → V → V → V → V → V → V → V → Prop} (hp : 0 ≤ (⟨x_b, x_i, x_h⟩ : Cur).i ∧ (⟨x_b, x_i, x_h⟩ : Cur).b.length ≤ 1048576) : P12 (.call F_l38Workshop 0 nr_) [vL I1 vY x_b, .int .i64 x_i, .int .i64 x_h] kk_ ↔ kk_ (.int .i64 (shopOf (⟨x_b, x_i, x_h⟩ : Cur)).s) (.int .i64 (shopOf (⟨x_b, x_i, x_h⟩ : Cur)).t) (vL I2 v2 (shopOf (⟨x_b, x_i, x_h⟩ : Cur)).p) (vL IL2 vLL2 (shopOf (⟨x_b, x_i, x_h⟩ : Cur)).o) (vL I1 v1 (shopOf (⟨x_b, x_i, x_h⟩ : Cur)).c) (.int .i64 (shopOf (⟨x_b, x_i, x_h⟩ : Cur)).u) (.int .i64 (shopOf (⟨x_b, x_i, x_h⟩ : Cur)).m) (.int .i64 (shopOf (⟨x_b, x_i, x_h⟩ : Cur)).f) (.int .i64 (shopOf (⟨x_b, x_i, x_h⟩ : Cur)).y) (.int .i64 (shopOf (⟨x_b, x_i, x_h⟩ : Cur)).d) (.int .i64 ((shopEnd (⟨x_b, x_i, x_h⟩ : Cur)).i)) (.int .i64 ((shopEnd (⟨x_b, x_i, x_h⟩ : Cur)).h)) :=
  P12_callF (by unfold F_l38Workshop; exact mkF_eq F_l38Workshop_inj ((⟨x_b, x_i, x_h⟩ : Cur)) hp)

def actDraw (x : Cur) : T3 × Cur :=
  if cBelow x 9 ≤ 2 then (⟨1, cBelow (cAfter x 9) 4, cBelow (cAfter (cAfter x 9) 4) 16⟩, cAfter (cAfter (cAfter x 9) 4) 16)
  else if cBelow x 9 = 3 then (⟨2, cBelow (cAfter x 9) 5, 0⟩, cAfter (cAfter x 9) 5)
  else if cBelow x 9 = 4 then (⟨3, 0, 0⟩, cAfter x 9)
  else if cBelow x 9 = 5 then (⟨4, cBelow (cAfter x 9) 8, 0⟩, cAfter (cAfter x 9) 8)
  else if cBelow x 9 ≤ 7 then (⟨5, 0, 0⟩, cAfter x 9)
  else (⟨6, 0, 0⟩, cAfter x 9)
def E_l39Act (x : Cur) : List V := [vL I1 vY x.b, .int .i64 x.i, .int .i64 x.h]
noncomputable def F_l39Act : List V → Option (List V) := mkF E_l39Act (fun x => 0 ≤ x.i ∧ x.b.length ≤ 1048576) (fun x => [.int .i64 ((actDraw x).1).a, .int .i64 ((actDraw x).1).b, .int .i64 ((actDraw x).1).c, .int .i64 ((actDraw x).2.i), .int .i64 ((actDraw x).2.h)])
theorem F_l39Act_inj : ∀ x y, E_l39Act x = E_l39Act y → x = y := by
  rintro ⟨xb, xi, xh⟩ ⟨xb', xi', xh'⟩ h
  simpa [E_l39Act] using h
theorem F_l39Act_elim {P : List V → List V → Prop} (h : ∀ (x : Cur), (0 ≤ x.i ∧ x.b.length ≤ 1048576) → P [vL I1 vY x.b, .int .i64 x.i, .int .i64 x.h] [.int .i64 ((actDraw x).1).a, .int .i64 ((actDraw x).1).b, .int .i64 ((actDraw x).1).c, .int .i64 ((actDraw x).2.i), .int .i64 ((actDraw x).2.h)]) : ∀ ds outs, F_l39Act ds = some outs → P ds outs := by
  intro ds outs hh
  obtain ⟨x, rfl, hp, rfl⟩ := mkF_inv hh
  exact h x hp
theorem p_l39Act {x_b : List UInt8} {x_i : Int} {x_h : Int} {nr_ : Nat} {kk_ : V → V → V → V → V → Prop} (hp : 0 ≤ (⟨x_b, x_i, x_h⟩ : Cur).i ∧ (⟨x_b, x_i, x_h⟩ : Cur).b.length ≤ 1048576) : P5 (.call F_l39Act 0 nr_) [vL I1 vY x_b, .int .i64 x_i, .int .i64 x_h] kk_ ↔ kk_ (.int .i64 ((actDraw (⟨x_b, x_i, x_h⟩ : Cur)).1).a) (.int .i64 ((actDraw (⟨x_b, x_i, x_h⟩ : Cur)).1).b) (.int .i64 ((actDraw (⟨x_b, x_i, x_h⟩ : Cur)).1).c) (.int .i64 ((actDraw (⟨x_b, x_i, x_h⟩ : Cur)).2.i)) (.int .i64 ((actDraw (⟨x_b, x_i, x_h⟩ : Cur)).2.h)) :=
  P5_callF (by unfold F_l39Act; exact mkF_eq F_l39Act_inj ((⟨x_b, x_i, x_h⟩ : Cur)) hp)

def actTo (x : Cur) : Nat → List T3 × Cur
  | 0 => ([], x)
  | k + 1 => ((actTo x k).1 ++ [(actDraw (actTo x k).2).1], (actDraw (actTo x k).2).2)
def actCnt (x : Cur) : Nat := (cBelow x 14).toNat
def actsOf (x : Cur) : List T3 := (actTo (cAfter x 14) (actCnt x)).1
def actsEnd (x : Cur) : Cur := (actTo (cAfter x 14) (actCnt x)).2
def E_l39List (x : Cur) : List V := [vL I1 vY x.b, .int .i64 x.i, .int .i64 x.h]
noncomputable def F_l39List : List V → Option (List V) := mkF E_l39List (fun x => 0 ≤ x.i ∧ x.b.length ≤ 1048576) (fun x => [vL I3 v3 (actsOf x), .int .i64 ((actsEnd x).i), .int .i64 ((actsEnd x).h)])
theorem F_l39List_inj : ∀ x y, E_l39List x = E_l39List y → x = y := by
  rintro ⟨xb, xi, xh⟩ ⟨xb', xi', xh'⟩ h
  simpa [E_l39List] using h
theorem F_l39List_elim {P : List V → List V → Prop} (h : ∀ (x : Cur), (0 ≤ x.i ∧ x.b.length ≤ 1048576) → P [vL I1 vY x.b, .int .i64 x.i, .int .i64 x.h] [vL I3 v3 (actsOf x), .int .i64 ((actsEnd x).i), .int .i64 ((actsEnd x).h)]) : ∀ ds outs, F_l39List ds = some outs → P ds outs := by
  intro ds outs hh
  obtain ⟨x, rfl, hp, rfl⟩ := mkF_inv hh
  exact h x hp
theorem p_l39List {x_b : List UInt8} {x_i : Int} {x_h : Int} {nr_ : Nat} {kk_ : V → V → V → Prop} (hp : 0 ≤ (⟨x_b, x_i, x_h⟩ : Cur).i ∧ (⟨x_b, x_i, x_h⟩ : Cur).b.length ≤ 1048576) : P3 (.call F_l39List 0 nr_) [vL I1 vY x_b, .int .i64 x_i, .int .i64 x_h] kk_ ↔ kk_ (vL I3 v3 (actsOf (⟨x_b, x_i, x_h⟩ : Cur))) (.int .i64 ((actsEnd (⟨x_b, x_i, x_h⟩ : Cur)).i)) (.int .i64 ((actsEnd (⟨x_b, x_i, x_h⟩ : Cur)).h)) :=
  P3_callF (by unfold F_l39List; exact mkF_eq F_l39List_inj ((⟨x_b, x_i, x_h⟩ : Cur)) hp)

def sample : Shop := openShop 16 [12, 12, 16, 19] 40
def sceneOf (x : Cur) : Shop := if cBelow x 2 = 0 then sample else shopOf (cAfter x 2)
def sceneEnd (x : Cur) : Cur := if cBelow x 2 = 0 then cAfter x 2 else shopEnd (cAfter x 2)
def E_l39Workshop (x : Cur) : List V := [vL I1 vY x.b, .int .i64 x.i, .int .i64 x.h]
noncomputable def F_l39Workshop : List V → Option (List V) := mkF E_l39Workshop (fun x => 0 ≤ x.i ∧ x.b.length ≤ 1048576) (fun x => [.int .i64 (sceneOf x).s, .int .i64 (sceneOf x).t, vL I2 v2 (sceneOf x).p, vL IL2 vLL2 (sceneOf x).o, vL I1 v1 (sceneOf x).c, .int .i64 (sceneOf x).u, .int .i64 (sceneOf x).m, .int .i64 (sceneOf x).f, .int .i64 (sceneOf x).y, .int .i64 (sceneOf x).d, .int .i64 ((sceneEnd x).i), .int .i64 ((sceneEnd x).h)])
theorem F_l39Workshop_inj : ∀ x y, E_l39Workshop x = E_l39Workshop y → x = y := by
  rintro ⟨xb, xi, xh⟩ ⟨xb', xi', xh'⟩ h
  simpa [E_l39Workshop] using h
theorem F_l39Workshop_elim {P : List V → List V → Prop} (h : ∀ (x : Cur), (0 ≤ x.i ∧ x.b.length ≤ 1048576) → P [vL I1 vY x.b, .int .i64 x.i, .int .i64 x.h] [.int .i64 (sceneOf x).s, .int .i64 (sceneOf x).t, vL I2 v2 (sceneOf x).p, vL IL2 vLL2 (sceneOf x).o, vL I1 v1 (sceneOf x).c, .int .i64 (sceneOf x).u, .int .i64 (sceneOf x).m, .int .i64 (sceneOf x).f, .int .i64 (sceneOf x).y, .int .i64 (sceneOf x).d, .int .i64 ((sceneEnd x).i), .int .i64 ((sceneEnd x).h)]) : ∀ ds outs, F_l39Workshop ds = some outs → P ds outs := by
  intro ds outs hh
  obtain ⟨x, rfl, hp, rfl⟩ := mkF_inv hh
  exact h x hp
theorem p_l39Workshop {x_b : List UInt8} {x_i : Int} {x_h : Int} {nr_ : Nat} {kk_ : V → V → V → V → V → V → V → V → V → V → V → V → Prop} (hp : 0 ≤ (⟨x_b, x_i, x_h⟩ : Cur).i ∧ (⟨x_b, x_i, x_h⟩ : Cur).b.length ≤ 1048576) : P12 (.call F_l39Workshop 0 nr_) [vL I1 vY x_b, .int .i64 x_i, .int .i64 x_h] kk_ ↔ kk_ (.int .i64 (sceneOf (⟨x_b, x_i, x_h⟩ : Cur)).s) (.int .i64 (sceneOf (⟨x_b, x_i, x_h⟩ : Cur)).t) (vL I2 v2 (sceneOf (⟨x_b, x_i, x_h⟩ : Cur)).p) (vL IL2 vLL2 (sceneOf (⟨x_b, x_i, x_h⟩ : Cur)).o) (vL I1 v1 (sceneOf (⟨x_b, x_i, x_h⟩ : Cur)).c) (.int .i64 (sceneOf (⟨x_b, x_i, x_h⟩ : Cur)).u) (.int .i64 (sceneOf (⟨x_b, x_i, x_h⟩ : Cur)).m) (.int .i64 (sceneOf (⟨x_b, x_i, x_h⟩ : Cur)).f) (.int .i64 (sceneOf (⟨x_b, x_i, x_h⟩ : Cur)).y) (.int .i64 (sceneOf (⟨x_b, x_i, x_h⟩ : Cur)).d) (.int .i64 ((sceneEnd (⟨x_b, x_i, x_h⟩ : Cur)).i)) (.int .i64 ((sceneEnd (⟨x_b, x_i, x_h⟩ : Cur)).h)) :=
  P12_callF (by unfold F_l39Workshop; exact mkF_eq F_l39Workshop_inj ((⟨x_b, x_i, x_h⟩ : Cur)) hp)

def drawW (l : List UInt8) : Shop := sceneOf (cur0 l)
def drawA (l : List UInt8) : List T3 := actsOf (sceneEnd (cur0 l))
def E_DrawActs (l : List UInt8) : List V := [vL I1 vY l]
noncomputable def F_DrawActs : List V → Option (List V) := mkF E_DrawActs (fun l => l.length ≤ 1048576) (fun l => [.int .i64 (drawW l).s, .int .i64 (drawW l).t, vL I2 v2 (drawW l).p, vL IL2 vLL2 (drawW l).o, vL I1 v1 (drawW l).c, .int .i64 (drawW l).u, .int .i64 (drawW l).m, .int .i64 (drawW l).f, .int .i64 (drawW l).y, .int .i64 (drawW l).d, vL I3 v3 (drawA l)])
theorem F_DrawActs_inj : ∀ x y, E_DrawActs x = E_DrawActs y → x = y := by
  rintro l l' h
  simpa [E_DrawActs] using h
theorem F_DrawActs_elim {P : List V → List V → Prop} (h : ∀ (l : List UInt8), (l.length ≤ 1048576) → P [vL I1 vY l] [.int .i64 (drawW l).s, .int .i64 (drawW l).t, vL I2 v2 (drawW l).p, vL IL2 vLL2 (drawW l).o, vL I1 v1 (drawW l).c, .int .i64 (drawW l).u, .int .i64 (drawW l).m, .int .i64 (drawW l).f, .int .i64 (drawW l).y, .int .i64 (drawW l).d, vL I3 v3 (drawA l)]) : ∀ ds outs, F_DrawActs ds = some outs → P ds outs := by
  intro ds outs hh
  obtain ⟨l, rfl, hp, rfl⟩ := mkF_inv hh
  exact h l hp
theorem p_DrawActs {l : List UInt8} {nr_ : Nat} {kk_ : V → V → V → V → V → V → V → V → V → V → V → Prop} (hp : l.length ≤ 1048576) : P11 (.call F_DrawActs 0 nr_) [vL I1 vY l] kk_ ↔ kk_ (.int .i64 (drawW l).s) (.int .i64 (drawW l).t) (vL I2 v2 (drawW l).p) (vL IL2 vLL2 (drawW l).o) (vL I1 v1 (drawW l).c) (.int .i64 (drawW l).u) (.int .i64 (drawW l).m) (.int .i64 (drawW l).f) (.int .i64 (drawW l).y) (.int .i64 (drawW l).d) (vL I3 v3 (drawA l)) :=
  P11_callF (by unfold F_DrawActs; exact mkF_eq F_DrawActs_inj (l) hp)

end Go.Mw

namespace Go.Mw
noncomputable section
def spec_l01Once_L : L := .seq (.rg []) (.seq (.rg [⟨[], .call F_l01Below 0 1, [.v 0, .v 1, .v 2, .v 3], 3⟩, zk .eql 4 0]) (.ret [.v 7, .v 5, .v 6]))
theorem spec_l01Once_L_sh (Q : QT) (x0 x1 x2 x3 : V) : shL spec_l01Once_L Q [x0, x1, x2, x3] = (
  P3 (.call F_l01Below 0 1) [x0, x1, x2, x3] fun v0 v1 v2 =>
  P1 (.bin .eql) [v0, .int .i64 0] fun v3 =>
  Q .ret [v3, v1, v2]) := by kernel_rfl
def spec_l01Once_S : Sig := ⟨[.ptr 0 [.sl [.sc], .sc, .sc], .val false [.sc]], [(false, [.sc])], F_l01Once⟩
def spec_l01Once_hs : List NF := []

def spec_l37Bench_b0 : L := .seq (.seq (.seq (.rg [zk .gtr 0 0]) (.ite (.v 10) (.skip) (.seq (zt [1, 2, 3, 4, 5, 6, 7, 8, 9]) (.exit 0)))) (.seq (.block 1 (.seq (.seq (.rg [⟨[], .call F_l01Once 0 1, [.v 3, .v 4, .v 5, .k (.int .i64 3)], 3⟩]) (.ite (.v 11) (.seq (.rg [⟨[], .call F_l01Below 0 1, [.v 3, .v 12, .v 13, .k (.int .i64 6)], 3⟩, zc F_TakePin 5 [8, 9, 1, 2, 14]]) (zt [0, 19, 20, 3, 15, 16, 6, 7, 17, 18])) (.seq (.rg [⟨[], .call F_l01Below 0 1, [.v 3, .v 12, .v 13, .v 9], 3⟩, ⟨[], .call F_l01Below 0 1, [.v 3, .v 15, .v 16, .v 8], 3⟩, zc F_SetPin 5 [8, 9, 1, 2, 14, 17]]) (zt [0, 22, 23, 3, 18, 19, 6, 7, 20, 21])))) (zt [0, 1, 2, 3, 4, 5, 6, 7, 8, 9]))) (.rg [zk .sub 0 1]))) (zt [10, 1, 2, 3, 4, 5, 6, 7, 8, 9])
theorem spec_l37Bench_b0_sh (Q : QT) (x0 x1 x2 x3 x4 x5 x6 x7 x8 x9 : V) : shL spec_l37Bench_b0 Q [x0, x1, x2, x3, x4, x5, x6, x7, x8, x9] = (
  P1 (.bin .gtr) [x0, .int .i64 0] fun v0 =>
  ifB v0 (
    P3 (.call F_l01Once 0 1) [x3, x4, x5, .int .i64 3] fun v1 v2 v3 =>
    ifB v1 (
      P3 (.call F_l01Below 0 1) [x3, v2, v3, .int .i64 6] fun v4 v5 v6 =>
      P5 (.call F_TakePin 0 5) [x8, x9, x1, x2, v4] fun v7 v8 v9 v10 _ =>
      P1 (.bin .sub) [x0, .int .i64 1] fun v12 =>
      Q .normal [v12, v9, v10, x3, v5, v6, x6, x7, v7, v8]) (
      P3 (.call F_l01Below 0 1) [x3, v2, v3, x9] fun v13 v14 v15 =>
      P3 (.call F_l01Below 0 1) [x3, v14, v15, x8] fun v16 v17 v18 =>
      P5 (.call F_SetPin 0 5) [x8, x9, x1, x2, v13, v16] fun v19 v20 v21 v22 _ =>
      P1 (.bin .sub) [x0, .int .i64 1] fun v24 =>
      Q .normal [v24, v21, v22, x3, v17, v18, x6, x7, v19, v20])) (
    Q (.exit 0) [x1, x2, x3, x4, x5, x6, x7, x8, x9])) := by kernel_rfl

def spec_l37Bench_r1 : L := .seq (.rg []) (.ret [.v 7, .v 8, .v 0, .v 1, .v 3, .v 4])
theorem spec_l37Bench_r1_sh (Q : QT) (x0 x1 x2 x3 x4 x5 x6 x7 x8 : V) : shL spec_l37Bench_r1 Q [x0, x1, x2, x3, x4, x5, x6, x7, x8] = (
  Q .ret [x7, x8, x0, x1, x3, x4]) := by kernel_rfl

def spec_l37Bench_L : L := .seq (.rg []) (.seq (.rg [⟨[], .call F_l06Cylinder 0 3, [.v 0, .v 1, .v 2], 5⟩]) (.seq (.seq (.rg [⟨[], .call F_l01Below 0 1, [.v 0, .v 6, .v 7, .k (.int .i64 7)], 3⟩]) (.block 0 (.seq (.tup [.v 8, .v 5, .k (.list [.sl [.sc, .sc]] []), .v 0, .v 9, .v 10, .k (.int .i64 0), .k (.int .i64 0), .v 3, .v 4]) (.loop (spec_l37Bench_b0))))) (spec_l37Bench_r1)))
theorem spec_l37Bench_L_sh (Q : QT) (x0 x1 x2 : V) : shL spec_l37Bench_L Q [x0, x1, x2] = (
  P5 (.call F_l06Cylinder 0 3) [x0, x1, x2] fun v0 v1 v2 v3 v4 =>
  P3 (.call F_l01Below 0 1) [x0, v3, v4, .int .i64 7] fun v5 v6 v7 =>
  shL (.loop spec_l37Bench_b0) (qB 0 (qS (shL spec_l37Bench_r1 Q) Q)) [v5, v2, .list [.sl [.sc, .sc]] [], x0, v6, v7, .int .i64 0, .int .i64 0, v0, v1]) := by kernel_rfl
def spec_l37Bench_S : Sig := ⟨[.ptr 0 [.sl [.sc], .sc, .sc]], [(true, [.sc, .sc, .sl [.sc, .sc], .sl [.sl [.sc, .sc]]])], F_l37Bench⟩
def spec_l37Bench_hs : List NF := [⟨[(2, .ptr 64 0), (3, .ptr 65 0)], [(66, true, [.sc, .sc]), (67, true, [.sl [.sc, .sc]])], [(0, [.ro [.sc], .sc, .sc]), (64, [.sc, .sc, .nil, .nil]), (65, [.sc, .sc, .own 66, .own 67])], 68⟩, ⟨[(0, .ptr 0 0), (2, .ptr 64 0), (3, .ptr 65 0), (4, zs)], [(66, true, [.sc, .sc]), (67, true, [.sl [.sc, .sc]])], [(0, [.ro [.sc], .sc, .sc]), (64, [.sc, .sc, .nil, .nil]), (65, [.sc, .sc, .own 66, .own 67])], 68⟩, ⟨[(0, .ptr 0 0), (2, .ptr 64 0), (3, .ptr 65 0), (4, zs)], [(66, true, [.sc, .sc]), (67, true, [.sl [.sc, .sc]])], [(0, [.ro [.sc], .sc, .sc]), (64, [.sc, .sc, .nil, .nil]), (65, [.sc, .sc, .own 66, .own 67])], 68⟩, ⟨[(0, .ptr 0 0), (2, .ptr 64 0), (3, .ptr 65 0), (4, zs)], [(66, true, [.sc, .sc]), (67, true, [.sl [.sc, .sc]])], [(0, [.ro [.sc], .sc, .sc]), (64, [.sc, .sc, .nil, .nil]), (65, [.sc, .sc, .own 66, .own 67])], 68⟩]

def spec_l12Spring_L : L := .seq (.rg []) (.seq (.rg [⟨[], .call F_l01Below 0 1, [.v 0, .v 1, .v 2, .k (.int .i64 20)], 3⟩, ⟨[], .bin .add, [.k (.int .i64 1), .v 3], 1⟩]) (.seq (.rg [zk .add 6 1, ⟨[], .call F_l01Below 0 1, [.v 0, .v 4, .v 5, .v 7], 3⟩, ⟨[], .call F_l01Below 0 1, [.v 0, .v 9, .v 10, .k (.int .i64 200)], 3⟩, ⟨[], .bin .mul, [.k (.int .i64 3), .v 11], 1⟩, ⟨[], .bin .add, [.k (.int .i64 1), .v 14], 1⟩]) (.ret [.v 8, .v 6, .v 15, .v 12, .v 13])))
theorem spec_l12Spring_L_sh (Q : QT) (x0 x1 x2 : V) : shL spec_l12Spring_L Q [x0, x1, x2] = (
  P3 (.call F_l01Below 0 1) [x0, x1, x2, .int .i64 20] fun v0 v1 v2 =>
  P1 (.bin .add) [.int .i64 1, v0] fun v3 =>
  P1 (.bin .add) [v3, .int .i64 1] fun v4 =>
  P3 (.call F_l01Below 0 1) [x0, v1, v2, v4] fun v5 v6 v7 =>
  P3 (.call F_l01Below 0 1) [x0, v6, v7, .int .i64 200] fun v8 v9 v10 =>
  P1 (.bin .mul) [.int .i64 3, v8] fun v11 =>
  P1 (.bin .add) [.int .i64 1, v11] fun v12 =>
  Q .ret [v5, v3, v12, v9, v10]) := by kernel_rfl
def spec_l12Spring_S : Sig := ⟨[.ptr 0 [.sl [.sc], .sc, .sc]], [(true, [.sc, .sc, .sc])], F_l12Spring⟩
def spec_l12Spring_hs : List NF := []

def spec_l38Workshop_b0 : L := .seq (.seq (.seq (.rg [zb .lss 1 16]) (.ite (.v 22) (.skip) (.seq (zt [2, 3, 4, 5, 6, 7, 8, 9, 10, 11, 12, 13, 14, 15, 16, 17, 18, 19, 20, 21]) (.exit 0)))) (.seq (.block 1 (.seq (.seq (.rg [⟨[], .lst [.sc] false 1, [.v 0], 1⟩, ⟨[], .app [.sc] 8, [.v 4, .v 23], 1⟩]) (.rg [⟨[], .lst [.sc] false 4, [.k (.int .i64 0), .k (.int .i64 1), .k (.int .i64 2), .k (.int .i64 4)], 1⟩, ⟨[], .call F_l01PickInt 0 1, [.v 5, .v 6, .v 7, .v 25], 3⟩, zb .add 0 26])) (zt [29, 1, 2, 3, 24, 5, 27, 28, 8, 9, 10, 11, 12, 13, 14, 15, 16, 17, 18, 19, 20, 21]))) (.rg [zk .add 1 1]))) (zt [0, 22, 2, 3, 4, 5, 6, 7, 8, 9, 10, 11, 12, 13, 14, 15, 16, 17, 18, 19, 20, 21])
theorem spec_l38Workshop_b0_sh (Q : QT) (x0 x1 x2 x3 x4 x5 x6 x7 x8 x9 x10 x11 x12 x13 x14 x15 x16 x17 x18 x19 x20 x21 : V) : shL spec_l38Workshop_b0 Q [x0, x1, x2, x3, x4, x5, x6, x7, x8, x9, x10, x11, x12, x13, x14, x15, x16, x17, x18, x19, x20, x21] = (
  P1 (.bin .lss) [x1, x16] fun v0 =>
  ifB v0 (
    P1 (.lst [.sc] false 1) [x0] fun v1 =>
    P1 (.app [.sc] 8) [x4, v1] fun v2 =>
    P1 (.lst [.sc] false 4) [.int .i64 0, .int .i64 1, .int .i64 2, .int .i64 4] fun v3 =>
    P3 (.call F_l01PickInt 0 1) [x5, x6, x7, v3] fun v4 v5 v6 =>
    P1 (.bin .add) [x0, v4] fun v7 =>
    P1 (.bin .add) [x1, .int .i64 1] fun v8 =>
    Q .normal [v7, v8, x2, x3, v2, x5, v5, v6, x8, x9, x10, x11, x12, x13, x14, x15, x16, x17, x18, x19, x20, x21]) (
    Q (.exit 0) [x2, x3, x4, x5, x6, x7, x8, x9, x10, x11, x12, x13, x14, x15, x16, x17, x18, x19, x20, x21])) := by kernel_rfl

def spec_l38Workshop_r1 : L := .seq (.rg []) (.ret [.v 13, .v 14, .v 0, .v 1, .v 2, .v 15, .v 16, .v 17, .v 18, .v 19, .v 4, .v 5])
theorem spec_l38Workshop_r1_sh (Q : QT) (x0 x1 x2 x3 x4 x5 x6 x7 x8 x9 x10 x11 x12 x13 x14 x15 x16 x17 x18 x19 : V) : shL spec_l38Workshop_r1 Q [x0, x1, x2, x3, x4, x5, x6, x7, x8, x9, x10, x11, x12, x13, x14, x15, x16, x17, x18, x19] = (
  Q .ret [x13, x14, x0, x1, x2, x15, x16, x17, x18, x19, x4, x5]) := by kernel_rfl

def spec_l38Workshop_L : L := .seq (.rg []) (.seq (.rg [⟨[], .call F_l37Bench 0 4, [.v 0, .v 1, .v 2], 6⟩, ⟨[], .call F_l12Spring 0 3, [.v 0, .v 7, .v 8], 5⟩, ⟨[], .lst [.sc] false 4, [.k (.int .i64 0), .k (.int .i64 1), .k (.int .i64 30), .k (.int .i64 999)], 1⟩, ⟨[], .call F_l01PickInt 0 1, [.v 0, .v 12, .v 13, .v 14], 3⟩, ⟨[], .lst [.sc] false 3, [.k (.int .i64 0), .k (.int .i64 12), .k (.int .i64 999999)], 1⟩, ⟨[], .call F_l01PickInt 0 1, [.v 0, .v 16, .v 17, .v 18], 3⟩]) (.seq (.rg []) (.seq (.seq (.rg []) (.block 0 (.seq (.tup [.k (.int .i64 10), .k (.int .i64 0), .v 5, .v 6, .k (.list [.sc] []), .v 0, .v 20, .v 21, .k (.int .i64 0), .k (.int .i64 0), .k (.int .i64 0), .k (.int .i64 0), .k (.int .i64 0), .k (.int .i64 0), .k (.int .i64 0), .v 3, .v 4, .v 9, .v 10, .v 11, .v 15, .v 19]) (.loop (spec_l38Workshop_b0))))) (spec_l38Workshop_r1))))
theorem spec_l38Workshop_L_sh (Q : QT) (x0 x1 x2 : V) : shL spec_l38Workshop_L Q [x0, x1, x2] = (
  P6 (.call F_l37Bench 0 4) [x0, x1, x2] fun v0 v1 v2 v3 v4 v5 =>
  P5 (.call F_l12Spring 0 3) [x0, v4, v5] fun v6 v7 v8 v9 v10 =>
  P1 (.lst [.sc] false 4) [.int .i64 0, .int .i64 1, .int .i64 30, .int .i64 999] fun v11 =>
  P3 (.call F_l01PickInt 0 1) [x0, v9, v10, v11] fun v12 v13 v14 =>
  P1 (.lst [.sc] false 3) [.int .i64 0, .int .i64 12, .int .i64 999999] fun v15 =>
  P3 (.call F_l01PickInt 0 1) [x0, v13, v14, v15] fun v16 v17 v18 =>
  shL (.loop spec_l38Workshop_b0) (qB 0 (qS (shL spec_l38Workshop_r1 Q) Q)) [.int .i64 10, .int .i64 0, v2, v3, .list [.sc] [], x0, v17, v18, .int .i64 0, .int .i64 0, .int .i64 0, .int .i64 0, .int .i64 0, .int .i64 0, .int .i64 0, v0, v1, v6, v7, v8, v12, v16]) := by kernel_rfl
def spec_l38Workshop_S : Sig := ⟨[.ptr 0 [.sl [.sc], .sc, .sc]], [(true, [.sc, .sc, .sl [.sc, .sc], .sl [.sl [.sc, .sc]], .sl [.sc], .sc, .sc, .sc, .sc, .sc])], F_l38Workshop⟩
def spec_l38Workshop_hs : List NF := [⟨[(2, .ptr 64 0), (3, .ptr 65 0)], [(66, true, [.sc, .sc]), (67, true, [.sl [.sc, .sc]]), (68, true, [.sc])], [(0, [.ro [.sc], .sc, .sc]), (64, [.sc, .sc, .nil, .nil, .nil, .sc, .sc, .sc, .sc, .sc]), (65, [.sc, .sc, .own 66, .own 67, .own 68, .sc, .sc, .sc, .sc, .sc])], 69⟩, ⟨[(0, .ptr 0 0), (2, .ptr 64 0), (3, .ptr 65 0), (4, zs), (5, zs)], [(66, true, [.sc, .sc]), (67, true, [.sl [.sc, .sc]]), (68, true, [.sc])], [(0, [.ro [.sc], .sc, .sc]), (64, [.sc, .sc, .nil, .nil, .nil, .sc, .sc, .sc, .sc, .sc]), (65, [.sc, .sc, .own 66, .own 67, .own 68, .sc, .sc, .sc, .sc, .sc])], 69⟩, ⟨[(0, .ptr 0 0), (2, .ptr 64 0), (3, .ptr 65 0), (4, zs), (5, zs)], [(66, true, [.sc, .sc]), (67, true, [.sl [.sc, .sc]]), (68, true, [.sc])], [(0, [.ro [.sc], .sc, .sc]), (64, [.sc, .sc, .nil, .nil, .nil, .sc, .sc, .sc, .sc, .sc]), (65, [.sc, .sc, .own 66, .own 67, .own 68, .sc, .sc, .sc, .sc, .sc])], 69⟩]

def spec_l39Workshop_L : L := .seq (.rg []) (.seq (.seq (.rg [⟨[], .call F_l01Once 0 1, [.v 0, .v 1, .v 2, .k (.int .i64 2)], 3⟩]) (.ite (.v 3) (.seq (.rg [⟨[], .call F_SampleWorkshop 0 10, [], 10⟩]) (.ret [.v 6, .v 7, .v 8, .v 9, .v 10, .v 11, .v 12, .v 13, .v 14, .v 15, .v 4, .v 5])) (.skip))) (.seq (.rg [⟨[], .call F_l38Workshop 0 10, [.v 0, .v 4, .v 5], 12⟩]) (.ret [.v 6, .v 7, .v 8, .v 9, .v 10, .v 11, .v 12, .v 13, .v 14, .v 15, .v 16, .v 17])))
theorem spec_l39Workshop_L_sh (Q : QT) (x0 x1 x2 : V) : shL spec_l39Workshop_L Q [x0, x1, x2] = (
  P3 (.call F_l01Once 0 1) [x0, x1, x2, .int .i64 2] fun v0 v1 v2 =>
  ifB v0 (
    P10 (.call F_SampleWorkshop 0 10) [] fun v3 v4 v5 v6 v7 v8 v9 v10 v11 v12 =>
    Q .ret [v3, v4, v5, v6, v7, v8, v9, v10, v11, v12, v1, v2]) (
    P12 (.call F_l38Workshop 0 10) [x0, v1, v2] fun v13 v14 v15 v16 v17 v18 v19 v20 v21 v22 v23 v24 =>
    Q .ret [v13, v14, v15, v16, v17, v18, v19, v20, v21, v22, v23, v24])) := by kernel_rfl
def spec_l39Workshop_S : Sig := ⟨[.ptr 0 [.sl [.sc], .sc, .sc]], [(true, [.sc, .sc, .sl [.sc, .sc], .sl [.sl [.sc, .sc]], .sl [.sc], .sc, .sc, .sc, .sc, .sc])], F_l39Workshop⟩
def spec_l39Workshop_hs : List NF := []

def spec_l39Act_r0 : L := .ite (.v 1) (.seq (.rg [⟨[], .call F_l01Below 0 1, [.v 2, .v 3, .v 4, .k (.int .i64 4)], 3⟩, ⟨[], .call F_l01Below 0 1, [.v 2, .v 9, .v 10, .k (.int .i64 16)], 3⟩]) (.ret [.k (.int .i64 1), .v 8, .v 11, .v 12, .v 13])) (.seq (.rg [zk .eql 0 3]) (.ite (.v 8) (.seq (.rg [⟨[], .call F_l01Below 0 1, [.v 2, .v 3, .v 4, .k (.int .i64 5)], 3⟩]) (.ret [.k (.int .i64 2), .v 9, .k (.int .i64 0), .v 10, .v 11])) (.seq (.rg [zk .eql 0 4]) (.ite (.v 9) (.seq (.rg []) (.ret [.k (.int .i64 3), .k (.int .i64 0), .k (.int .i64 0), .v 3, .v 4])) (.seq (.rg [zk .eql 0 5]) (.ite (.v 10) (.seq (.rg [⟨[], .call F_l01Below 0 1, [.v 2, .v 3, .v 4, .k (.int .i64 8)], 3⟩]) (.ret [.k (.int .i64 4), .v 11, .k (.int .i64 0), .v 12, .v 13])) (.seq (.seq (.rg [zk .eql 0 6]) (.ite (.v 11) (.seq (.skip) (zt [11, 2, 3, 4, 5, 6, 7])) (.seq (.rg [zk .eql 0 7]) (zt [12, 2, 3, 4, 5, 6, 7])))) (.ite (.v 0) (.seq (.rg []) (.ret [.k (.int .i64 5), .k (.int .i64 0), .k (.int .i64 0), .v 2, .v 3])) (.skip)))))))))
theorem spec_l39Act_r0_sh (Q : QT) (x0 x1 x2 x3 x4 x5 x6 x7 : V) : shL spec_l39Act_r0 Q [x0, x1, x2, x3, x4, x5, x6, x7] = (
  ifB x1 (
    P3 (.call F_l01Below 0 1) [x2, x3, x4, .int .i64 4] fun v0 v1 v2 =>
    P3 (.call F_l01Below 0 1) [x2, v1, v2, .int .i64 16] fun v3 v4 v5 =>
    Q .ret [.int .i64 1, v0, v3, v4, v5]) (
    P1 (.bin .eql) [x0, .int .i64 3] fun v6 =>
    ifB v6 (
      P3 (.call F_l01Below 0 1) [x2, x3, x4, .int .i64 5] fun v7 v8 v9 =>
      Q .ret [.int .i64 2, v7, .int .i64 0, v8, v9]) (
      P1 (.bin .eql) [x0, .int .i64 4] fun v10 =>
      ifB v10 (
        Q .ret [.int .i64 3, .int .i64 0, .int .i64 0, x3, x4]) (
        P1 (.bin .eql) [x0, .int .i64 5] fun v11 =>
        ifB v11 (
          P3 (.call F_l01Below 0 1) [x2, x3, x4, .int .i64 8] fun v12 v13 v14 =>
          Q .ret [.int .i64 4, v12, .int .i64 0, v13, v14]) (
          P1 (.bin .eql) [x0, .int .i64 6] fun v15 =>
          ifB v15 (
            Q .ret [.int .i64 5, .int .i64 0, .int .i64 0, x3, x4]) (
            P1 (.bin .eql) [x0, .int .i64 7] fun v16 =>
            ifB v16 (
              Q .ret [.int .i64 5, .int .i64 0, .int .i64 0, x3, x4]) (
              Q .normal [.bool false, x2, x3, x4, x5, x6, x7]))))))) := by kernel_rfl

def spec_l39Act_r1 : L := zt [1, 2, 3, 4, 5, 6]
theorem spec_l39Act_r1_sh (Q : QT) (x0 x1 x2 x3 x4 x5 x6 : V) : shL spec_l39Act_r1 Q [x0, x1, x2, x3, x4, x5, x6] = (
  Q .normal [x1, x2, x3, x4, x5, x6]) := by kernel_rfl

def spec_l39Act_r2 : L := .seq (.rg []) (.ret [.k (.int .i64 6), .k (.int .i64 0), .k (.int .i64 0), .v 1, .v 2])
theorem spec_l39Act_r2_sh (Q : QT) (x0 x1 x2 x3 x4 x5 : V) : shL spec_l39Act_r2 Q [x0, x1, x2, x3, x4, x5] = (
  Q .ret [.int .i64 6, .int .i64 0, .int .i64 0, x1, x2]) := by kernel_rfl

def spec_l39Act_L : L := .seq (.rg []) (.seq (.seq (.rg [⟨[], .call F_l01Below 0 1, [.v 0, .v 1, .v 2, .k (.int .i64 9)], 3⟩]) (.block 0 (.seq (.seq (.seq (.rg [zk .eql 3 0]) (.ite (.v 6) (.seq (.skip) (.tup [.v 3, .v 6, .v 0, .v 4, .v 5, .k (.int .i64 0), .k (.int .i64 0), .k (.int .i64 0)])) (.seq (.seq (.rg [zk .eql 3 1]) (.ite (.v 7) (.seq (.skip) (.tup [.v 3, .v 7, .v 0, .v 4, .v 5, .k (.int .i64 0), .k (.int .i64 0), .k (.int .i64 0)])) (.seq (.rg [zk .eql 3 2]) (.tup [.v 3, .v 8, .v 0, .v 4, .v 5, .k (.int .i64 0), .k (.int .i64 0), .k (.int .i64 0)])))) (zt [0, 1, 2, 3, 4, 5, 6, 7])))) (spec_l39Act_r0)) (spec_l39Act_r1)))) (spec_l39Act_r2))
theorem spec_l39Act_L_sh (Q : QT) (x0 x1 x2 : V) : shL spec_l39Act_L Q [x0, x1, x2] = (
  P3 (.call F_l01Below 0 1) [x0, x1, x2, .int .i64 9] fun v0 v1 v2 =>
  P1 (.bin .eql) [v0, .int .i64 0] fun v3 =>
  ifB v3 (
    shL spec_l39Act_r0 (qS (shL spec_l39Act_r1 (qB 0 (qS (shL spec_l39Act_r2 Q) Q))) (qB 0 (qS (shL spec_l39Act_r2 Q) Q))) [v0, .bool true, x0, v1, v2, .int .i64 0, .int .i64 0, .int .i64 0]) (
    P1 (.bin .eql) [v0, .int .i64 1] fun v4 =>
    ifB v4 (
      shL spec_l39Act_r0 (qS (shL spec_l39Act_r1 (qB 0 (qS (shL spec_l39Act_r2 Q) Q))) (qB 0 (qS (shL spec_l39Act_r2 Q) Q))) [v0, .bool true, x0, v1, v2, .int .i64 0, .int .i64 0, .int .i64 0]) (
      P1 (.bin .eql) [v0, .int .i64 2] fun v5 =>
      shL spec_l39Act_r0 (qS (shL spec_l39Act_r1 (qB 0 (qS (shL spec_l39Act_r2 Q) Q))) (qB 0 (qS (shL spec_l39Act_r2 Q) Q))) [v0, v5, x0, v1, v2, .int .i64 0, .int .i64 0, .int .i64 0]))) := by kernel_rfl
def spec_l39Act_S : Sig := ⟨[.ptr 0 [.sl [.sc], .sc, .sc]], [(true, [.sc, .sc, .sc])], F_l39Act⟩
def spec_l39Act_hs : List NF := [⟨[(2, .ptr 64 0)], [], [(0, [.ro [.sc], .sc, .sc]), (64, [.sc, .sc, .sc])], 65⟩, ⟨[(0, .ptr 0 0), (2, .ptr 64 0), (4, zs), (5, zs)], [], [(0, [.ro [.sc], .sc, .sc]), (64, [.sc, .sc, .sc])], 65⟩, ⟨[(0, .ptr 0 0), (2, .ptr 64 0), (4, zs), (5, zs)], [], [(0, [.ro [.sc], .sc, .sc]), (64, [.sc, .sc, .sc])], 65⟩, ⟨[(2, .ptr 64 0), (27, zs)], [], [(0, [.ro [.sc], .sc, .sc]), (64, [.sc, .sc, .sc])], 65⟩]

def spec_l39List_b0 : L := .seq (.seq (.seq (.rg [zb .lss 1 0]) (.ite (.v 6) (.skip) (.seq (zt [2, 3, 4, 5]) (.exit 0)))) (.seq (.block 1 (.seq (.seq (.rg [⟨[], .call F_l39Act 0 3, [.v 3, .v 4, .v 5], 5⟩]) (.rg [⟨[], .lst [.sc, .sc, .sc] true 1, [.v 7, .v 8, .v 9], 1⟩, ⟨[], .app [.sc, .sc, .sc] 24, [.v 2, .v 12], 1⟩])) (zt [0, 1, 13, 3, 10, 11]))) (.rg [zk .add 1 1]))) (zt [0, 6, 2, 3, 4, 5])
theorem spec_l39List_b0_sh (Q : QT) (x0 x1 x2 x3 x4 x5 : V) : shL spec_l39List_b0 Q [x0, x1, x2, x3, x4, x5] = (
  P1 (.bin .lss) [x1, x0] fun v0 =>
  ifB v0 (
    P5 (.call F_l39Act 0 3) [x3, x4, x5] fun v1 v2 v3 v4 v5 =>
    P1 (.lst [.sc, .sc, .sc] true 1) [v1, v2, v3] fun v6 =>
    P1 (.app [.sc, .sc, .sc] 24) [x2, v6] fun v7 =>
    P1 (.bin .add) [x1, .int .i64 1] fun v8 =>
    Q .normal [x0, v8, v7, x3, v4, v5]) (
    Q (.exit 0) [x2, x3, x4, x5])) := by kernel_rfl

def spec_l39List_r1 : L := .seq (.rg []) (.ret [.v 0, .v 2, .v 3])
theorem spec_l39List_r1_sh (Q : QT) (x0 x1 x2 x3 : V) : shL spec_l39List_r1 Q [x0, x1, x2, x3] = (
  Q .ret [x0, x2, x3]) := by kernel_rfl

def spec_l39List_L : L := .seq (.rg []) (.seq (.rg [⟨[], .lst [.sc, .sc, .sc] true 0, [], 1⟩]) (.seq (.rg [⟨[], .call F_l01Below 0 1, [.v 0, .v 1, .v 2, .k (.int .i64 14)], 3⟩]) (.seq (.seq (.rg []) (.block 0 (.seq (.tup [.v 4, .k (.int .i64 0), .v 3, .v 0, .v 5, .v 6]) (.loop (spec_l39List_b0))))) (spec_l39List_r1))))
theorem spec_l39List_L_sh (Q : QT) (x0 x1 x2 : V) : shL spec_l39List_L Q [x0, x1, x2] = (
  P1 (.lst [.sc, .sc, .sc] true 0) [] fun v0 =>
  P3 (.call F_l01Below 0 1) [x0, x1, x2, .int .i64 14] fun v1 v2 v3 =>
  shL (.loop spec_l39List_b0) (qB 0 (qS (shL spec_l39List_r1 Q) Q)) [v1, .int .i64 0, v0, x0, v2, v3]) := by kernel_rfl
def spec_l39List_S : Sig := ⟨[.ptr 0 [.sl [.sc], .sc, .sc]], [(false, [.sl [.sc, .sc, .sc]])], F_l39List⟩
def spec_l39List_hs : List NF := [⟨[(3, zo 64)], [(64, true, [.sc, .sc, .sc])], [(0, [.ro [.sc], .sc, .sc])], 65⟩, ⟨[(0, .ptr 0 0), (3, zo 64), (4, zs), (5, zs)], [(64, true, [.sc, .sc, .sc])], [(0, [.ro [.sc], .sc, .sc])], 65⟩, ⟨[(0, .ptr 0 0), (3, zo 64), (4, zs), (5, zs)], [(64, true, [.sc, .sc, .sc])], [(0, [.ro [.sc], .sc, .sc])], 65⟩]

def spec_DrawActs_L : L := .seq (.rg []) (.seq (.rg [zc F_l01New 3 [0]]) (.seq (.rg [⟨[], .call F_l39Workshop 0 10, [.v 1, .v 2, .v 3], 12⟩]) (.seq (.rg [⟨[], .call F_l39List 0 1, [.v 1, .v 14, .v 15], 3⟩]) (.ret [.v 4, .v 5, .v 6, .v 7, .v 8, .v 9, .v 10, .v 11, .v 12, .v 13, .v 16]))))
theorem spec_DrawActs_L_sh (Q : QT) (x0 : V) : shL spec_DrawActs_L Q [x0] = (
  P3 (.call F_l01New 0 3) [x0] fun v0 v1 v2 =>
  P12 (.call F_l39Workshop 0 10) [v0, v1, v2] fun v3 v4 v5 v6 v7 v8 v9 v10 v11 v12 v13 v14 =>
  P3 (.call F_l39List 0 1) [v0, v13, v14] fun v15 _ _ =>
  Q .ret [v3, v4, v5, v6, v7, v8, v9, v10, v11, v12, v15]) := by kernel_rfl
def spec_DrawActs_S : Sig := ⟨[.val false [.sl [.sc]]], [(true, [.sc, .sc, .sl [.sc, .sc], .sl [.sl [.sc, .sc]], .sl [.sc], .sc, .sc, .sc, .sc, .sc]), (false, [.sl [.sc, .sc, .sc]])], F_DrawActs⟩
def spec_DrawActs_hs : List NF := []

end
end Go.Mw

namespace Go.Mw
theorem spec_l01Once_ok : ∀ ds outs, F_l01Once ds = some outs → shL spec_l01Once_L (qRet outs) ds := F_l01Once_elim fun x n hp => by
  rw [spec_l01Once_L_sh, q_below (b := x.b) x rfl hp.1 hp.2]
  simp
  rfl
theorem q_once {b : List UInt8} (c : Cur) {n : Int} {m : Nat} {k : V → V → V → Prop} (hb : c.b = b) (h : 0 ≤ c.i) (hl : b.length ≤ 1048576) :
    P3 (.call F_l01Once 0 m) [vL I1 vY b, .int .i64 c.i, .int .i64 c.h, .int .i64 n] k ↔ k (.bool (decide (cBelow c n = 0))) (.int .i64 (cAfter c n).i) (.int .i64 (cAfter c n).h) := by
  subst hb; exact p_l01Once ⟨h, hl⟩

theorem stepTo_ok {b : Bench} {c : Cyl} {d : Bool} (h : benchOk b = true) : benchOk (stepTo b c d) = true := by
  unfold stepTo
  split
  · rename_i hk
    simp only [stepOk, Bool.and_eq_true] at hk
    exact hk.2.2
  · exact h
theorem stepTo_st {b : Bench} {c : Cyl} {d : Bool} (hs : c.s = b.s) (ht : c.t = b.t) : (stepTo b c d).s = b.s ∧ (stepTo b c d).t = b.t := by
  unfold stepTo
  split
  · exact ⟨hs, ht⟩
  · exact ⟨rfl, rfl⟩
theorem stepTo_len {b : Bench} {c : Cyl} {d : Bool} : (stepTo b c d).o.length ≤ b.o.length + 1 := by
  unfold stepTo
  split
  · simp [stepped]
  · omega
theorem stepTo_plen {b : Bench} {c : Cyl} {d : Bool} {n : Nat} (h1 : c.p.length ≤ n) (h2 : b.p.length ≤ n) : (stepTo b c d).p.length ≤ n := by
  unfold stepTo
  split
  · exact h1
  · exact h2
theorem addTo_eq {c : Cyl} {p : T2} : (addTo c p).s = c.s ∧ (addTo c p).t = c.t ∧ (addTo c p).p.length ≤ c.p.length + 1 := by
  unfold addTo
  split
  · exact ⟨rfl, rfl, putPin_len _ _⟩
  · exact ⟨rfl, rfl, by omega⟩

theorem missing_self (l : List T2) : missing l l = 0 := by
  unfold missing
  have : l.filter (fun p => decide (p ∉ l)) = [] := by simp
  rw [this]; rfl
theorem missing_nonneg (a b : List T2) : 0 ≤ missing a b := by unfold missing; omega
theorem missing_mono_r {q a b : List T2} (h : ∀ x ∈ a, x ∈ b) : missing q b ≤ missing q a := by
  unfold missing
  have : (q.filter fun p => decide (p ∉ b)).length ≤ (q.filter fun p => decide (p ∉ a)).length := by
    rw [← List.countP_eq_length_filter, ← List.countP_eq_length_filter]
    refine List.countP_mono_left fun x _ hx => ?_
    simp only [decide_eq_true_eq] at hx ⊢
    exact fun h2 => hx (h x h2)
  omega
theorem missing_perm {a b q : List T2} (h : a.Perm b) : missing a q = missing b q := by
  unfold missing
  rw [(h.filter _).length_eq]
theorem missing_append (a b q : List T2) : missing (a ++ b) q = missing a q + missing b q := by
  unfold missing
  rw [List.filter_append, List.length_append]; omega
theorem missing_one (x : T2) (q : List T2) : missing [x] q ≤ 1 := by
  unfold missing
  have := List.length_filter_le (fun p => decide (p ∉ q)) [x]
  simp only [List.length_singleton] at this
  omega
theorem missing_drop1 {q : List T2} (x : T2) (a b : List T2) (hq : q.Nodup) : missing q (a ++ b) ≤ missing q (a ++ x :: b) + 1 := by
  unfold missing
  induction q with
  | nil => simp
  | cons y r ih =>
    have hr := ih (List.nodup_cons.1 hq).2
    simp only [List.filter_cons]
    by_cases e : y = x
    · subst e
      have hy : y ∉ r := (List.nodup_cons.1 hq).1
      have h1 : decide (y ∉ a ++ y :: b) = false := by simp
      have h2 : r.filter (fun p => decide (p ∉ a ++ b)) = r.filter (fun p => decide (p ∉ a ++ y :: b)) := by
        refine List.filter_congr fun z hz => ?_
        have : z ≠ y := fun h => hy (h ▸ hz)
        simp [this]
      rw [h1, h2]
      simp only [Bool.false_eq_true, if_false]
      split
      · simp only [List.length_cons]; omega
      · omega
    · have h1 : decide (y ∉ a ++ x :: b) = decide (y ∉ a ++ b) := by simp [e]
      rw [h1]
      split
      · simp only [List.length_cons]; omega
      · exact hr
theorem rising_pair {l : List T2} (h : rising l = true) : l.Pairwise (fun x y => pinLess x y = true) := by
  induction l with
  | nil => exact .nil
  | cons a r ih => exact .cons (rising_less h) (ih (rising_cons.1 h).2)
theorem rising_nodup {l : List T2} (h : rising l = true) : l.Nodup :=
  (rising_pair h).imp fun {a b} h e => by subst e; rw [pinLess_irrefl] at h; cases h
def Near (c b : List T2) : Prop := ∀ q : List T2, q.Nodup → missing c q + missing q c ≤ missing b q + missing q b + 1
theorem near_put {l : List T2} {y : T2} (hy : y ∉ l) : Near (putPin l y) l := by
  intro q hq
  have hp := putPin_perm hy
  rw [missing_perm hp, missing_append]
  have h1 := missing_one y q
  have h2 : missing q (putPin l y) ≤ missing q l := missing_mono_r fun x hx => (hp.mem_iff).2 (by simp [hx])
  omega
theorem near_pull {l : List T2} {k : Nat} (hk : k < l.length) : Near (l.take k ++ l.drop (k + 1)) l := by
  intro q hq
  have e : l = l.take k ++ l[k] :: l.drop (k + 1) := by rw [List.getElem_cons_drop hk, List.take_append_drop]
  have h1 := missing_drop1 l[k] (l.take k) (l.drop (k + 1)) hq
  rw [← e] at h1
  have h2 : missing (l.take k ++ l.drop (k + 1)) q ≤ missing l q := by
    have h3 : missing l q = missing (l.take k ++ l[k] :: l.drop (k + 1)) q := by rw [← e]
    have h4 : missing (l.take k ++ l[k] :: l.drop (k + 1)) q = missing (l.take k) q + (missing [l[k]] q + missing (l.drop (k + 1)) q) := by
      rw [← missing_append, ← missing_append]; rfl
    have h5 := missing_nonneg [l[k]] q
    rw [h3, h4, missing_append]; omega
  omega
def Chg (b : Bench) : Prop := ∀ q, b.o.head? = some q → missing b.p q + missing q b.p ≤ b.o.length
theorem chg_stepped {b : Bench} {c : Cyl} (hb : benchOk b = true) (hn : Near c.p b.p) (h : Chg b) : Chg (stepped b c) := by
  intro q hq
  obtain ⟨h1, h2, h3⟩ := (benchOk_iff b).1 hb
  simp only [stepped] at hq ⊢
  cases ho : b.o with
  | nil =>
    rw [ho] at hq
    simp only [List.nil_append, List.head?_cons, Option.some.injEq] at hq
    subst hq
    have := hn b.p (rising_nodup (cylOk_rising h1))
    rw [missing_self] at this
    simp; omega
  | cons x r =>
    rw [ho] at hq
    simp only [List.cons_append, List.head?_cons, Option.some.injEq] at hq
    subst hq
    have h4 := h x (by rw [ho]; rfl)
    have h5 := hn x (rising_nodup (cylOk_rising (h3 x (by simp [ho]))))
    rw [ho] at h4
    simp only [List.length_cons, List.length_append, List.length_nil] at h4 ⊢
    omega
theorem chg_stepTo {b : Bench} {c : Cyl} {d : Bool} (hb : benchOk b = true) (hn : d = true → Near c.p b.p) (h : Chg b) : Chg (stepTo b c d) := by
  unfold stepTo
  split
  · rename_i hk
    simp only [Bool.and_eq_true] at hk
    exact chg_stepped hb (hn hk.1) h
  · exact h
theorem chg_set {b : Bench} {p : T2} (hb : benchOk b = true) (h : Chg b) : Chg (setPin b p) := by
  refine chg_stepTo hb (fun hd => ?_) h
  have hd' := hd
  simp only [addOk, Bool.and_eq_true, Bool.not_eq_true', decide_eq_false_iff_not] at hd'
  simp only [addTo, hd, if_true]
  exact near_put hd'.2.1
theorem chg_take {b : Bench} {k : Int} (hb : benchOk b = true) (h : Chg b) : Chg (takePin b k) := by
  refine chg_stepTo hb (fun hd => ?_) h
  have hd' := hd
  simp only [pullOk, Bool.and_eq_true, decide_eq_true_eq] at hd'
  have h1 : (cylOk b.cyl && (decide (0 ≤ k) && decide (k < b.cyl.p.length))) = true := hd
  simp only [pulled, pullPin, h1, if_true]
  exact near_pull (by simp only [Bench.cyl] at hd' ⊢; omega)

structure BenchInv (b : Bench) (s t : Int) (k : Nat) : Prop where
  ok : benchOk b = true
  st : b.s = s ∧ b.t = t
  len : b.p.length ≤ 9 + k
  old : b.o.length ≤ k
  chg : Chg b
theorem BenchInv.step {b : Bench} {s t : Int} {k : Nat} (h : BenchInv b s t k) (x : Cur) : BenchInv (benchStep b x).1 s t (k + 1) := by
  unfold benchStep
  split
  · have e := stepTo_st (b := b) (c := pulled b (cBelow (cAfter x 3) 6)) (d := pullOk b.cyl (cBelow (cAfter x 3) 6)) rfl rfl
    have h1 := pullPin_len b.cyl (cBelow (cAfter x 3) 6)
    have h2 := h.len
    have h3 := h.old
    exact ⟨stepTo_ok h.ok, ⟨e.1.trans h.st.1, e.2.trans h.st.2⟩, stepTo_plen (Nat.le_trans h1 (by simp only [Bench.cyl]; omega)) (by omega), Nat.le_trans stepTo_len (by omega), chg_take h.ok h.chg⟩
  · generalize (⟨cBelow (cAfter x 3) b.t, cBelow (cAfter (cAfter x 3) b.t) b.s⟩ : T2) = p
    have a := addTo_eq (c := b.cyl) (p := p)
    have e := stepTo_st (b := b) (c := addTo b.cyl p) (d := addOk b.cyl p) a.1 a.2.1
    have h2 := h.len
    have h3 := h.old
    exact ⟨stepTo_ok h.ok, ⟨e.1.trans h.st.1, e.2.trans h.st.2⟩, stepTo_plen (Nat.le_trans a.2.2 (by simp only [Bench.cyl]; omega)) (by omega), Nat.le_trans stepTo_len (by omega), chg_set h.ok h.chg⟩
theorem benchStep_b (b : Bench) (x : Cur) : (benchStep b x).2.b = x.b := by unfold benchStep; split <;> simp
theorem benchStep_i {b : Bench} {x : Cur} (h : 0 ≤ x.i) : 0 ≤ (benchStep b x).2.i := by
  unfold benchStep
  split
  · exact cAfter_i (cAfter_i h)
  · exact cAfter_i (cAfter_i (cAfter_i h))
theorem bench_inv {x : Cur} (hi : 0 ≤ x.i) : ∀ k, BenchInv (benchTo x k).1 (cylS x) (cylT x) k ∧ (benchTo x k).2.b = x.b ∧ 0 ≤ (benchTo x k).2.i
  | 0 => by
    have h := cylOf_ok hi
    have h2 := cylEnd_b hi
    refine ⟨⟨(benchOk_iff _).2 ⟨h.1, by simp [benchTo], by simp [benchTo]⟩, ⟨rfl, rfl⟩, h.2, by simp [benchTo], fun q hq => by simp [benchTo] at hq⟩, ?_, cAfter_i h2.2⟩
    show (cAfter (cylEnd x) 7).b = _
    rw [cAfter_b]; exact h2.1
  | k + 1 => by
    obtain ⟨h1, h2, h3⟩ := bench_inv hi k
    exact ⟨h1.step _, (benchStep_b _ _).trans h2, benchStep_i h3⟩
theorem benchN_le (x : Cur) : benchN x ≤ 6 := by
  have := cBelow_range (cylEnd x) (show (0 : Int) < 7 by omega)
  unfold benchN; omega
theorem benchOf_inv {x : Cur} (hi : 0 ≤ x.i) : BenchInv (benchOf x) (cylS x) (cylT x) 6 := by
  have h := (bench_inv hi (benchN x)).1
  have h2 := benchN_le x
  exact ⟨h.ok, h.st, by have := h.len; simp only [benchOf]; omega, by have := h.old; simp only [benchOf]; omega, h.chg⟩
theorem benchEnd_b {x : Cur} (hi : 0 ≤ x.i) : (benchEnd x).b = x.b ∧ 0 ≤ (benchEnd x).i := (bench_inv hi (benchN x)).2
theorem q_cyl {b : List UInt8} (c : Cur) {m : Nat} {k : V → V → V → V → V → Prop} (hb : c.b = b) (h : 0 ≤ c.i) (hl : b.length ≤ 1048576) :
    P5 (.call F_l06Cylinder 0 m) [vL I1 vY b, .int .i64 c.i, .int .i64 c.h] k ↔ k (.int .i64 (cylOf c).s) (.int .i64 (cylOf c).t) (vL I2 v2 (cylOf c).p) (.int .i64 (cylEnd c).i) (.int .i64 (cylEnd c).h) := by
  subst hb; exact p_l06Cylinder ⟨h, hl⟩
theorem spec_l37Bench_ok : ∀ ds outs, F_l37Bench ds = some outs → shL spec_l37Bench_L (qRet outs) ds := F_l37Bench_elim fun x hp => by
  obtain ⟨i0, hb⟩ := hp
  have hE := cylEnd_b i0
  have hr := cBelow_range (cylEnd x) (show (0 : Int) < 7 by omega)
  rw [spec_l37Bench_L_sh, q_cyl (b := x.b) x rfl i0 hb, q_below (b := x.b) (cylEnd x) hE.1 hE.2 hb]
  refine loop_upto (benchN x) (fun k => [.int .i64 (cBelow (cylEnd x) 7 - k), vL I2 v2 (benchTo x k).1.p, vL IL2 vLL2 (benchTo x k).1.o, vL I1 vY x.b, .int .i64 (benchTo x k).2.i, .int .i64 (benchTo x k).2.h, .int .i64 0, .int .i64 0, .int .i64 (benchTo x k).1.s, .int .i64 (benchTo x k).1.t])
    (by intro i j hi hj h; simp only [List.cons.injEq, V.int.injEq, true_and] at h; omega) (fun _ => True) (by simp [benchTo]; rfl) trivial ?_
  intro k hk _
  obtain ⟨g1, g2, g3⟩ := bench_inv i0 k
  have hf : (benchTo x k).1.p.length ≤ 1048576 ∧ fitLL (benchTo x k).1.o := ⟨(bSmall_of_ok g1.ok).1, (bSmall_of_ok g1.ok).2.1⟩
  have hN : (benchN x : Int) = cBelow (cylEnd x) 7 := by unfold benchN; omega
  have e4 : benchTo x (k + 1) = benchStep (benchTo x k).1 (benchTo x k).2 := rfl
  rw [spec_l37Bench_b0_sh]
  simp only [P1_gtr, ifB_bool, decide_eq_true_eq, decide_eq_false_iff_not]
  refine ⟨fun h => ?_, fun h => ?_⟩
  · rw [q_once (b := x.b) _ g2 g3 hb]
    have hw : IntKind.i64.wrap (cBelow (cylEnd x) 7 - (k : Int) - 1) = cBelow (cylEnd x) 7 - ((k + 1 : Nat) : Int) := by rw [wrap_id (by omega) (by omega)]; omega
    simp only [ifB_bool, decide_eq_true_eq, decide_eq_false_iff_not, P1_sub, hw]
    refine ⟨fun h3 => ?_, fun h3 => ?_⟩
    · rw [q_below (b := x.b) (cAfter _ _) (by simp [g2]) (cAfter_i g3) hb]
      rw [p_TakePin (x_s := (benchTo x k).1.s) (x_t := (benchTo x k).1.t) (x_p := (benchTo x k).1.p) (x_o := (benchTo x k).1.o) hf]
      rw [e4]
      simp only [benchStep, h3, if_true]
      exact ⟨by omega, rfl, trivial⟩
    · rw [q_below (b := x.b) (cAfter _ _) (by simp [g2]) (cAfter_i g3) hb, q_below (b := x.b) (cAfter (cAfter _ _) _) (by simp [g2]) (cAfter_i (cAfter_i g3)) hb]
      rw [p_SetPin (x_s := (benchTo x k).1.s) (x_t := (benchTo x k).1.t) (x_p := (benchTo x k).1.p) (x_o := (benchTo x k).1.o) (y_a := cBelow (cAfter (benchTo x k).2 3) (benchTo x k).1.t) (y_b := cBelow (cAfter (cAfter (benchTo x k).2 3) (benchTo x k).1.t) (benchTo x k).1.s) hf]
      rw [e4]
      simp only [benchStep, h3, if_false]
      exact ⟨by omega, rfl, trivial⟩
  · have e : k = benchN x := by omega
    subst e
    simp [spec_l37Bench_r1_sh, benchOf, benchEnd]
end Go.Mw

namespace Go.Mw
theorem springMost_r (x : Cur) : 1 ≤ springMost x ∧ springMost x ≤ 20 := by
  have := cBelow_range x (show (0 : Int) < 20 by omega)
  unfold springMost; omega
theorem springEnd_b (x : Cur) : (springEnd x).b = x.b := by simp [springEnd]
theorem springEnd_i {x : Cur} (h : 0 ≤ x.i) : 0 ≤ (springEnd x).i := cAfter_i (cAfter_i (cAfter_i h))
theorem spec_l12Spring_ok : ∀ ds outs, F_l12Spring ds = some outs → shL spec_l12Spring_L (qRet outs) ds := F_l12Spring_elim fun x hp => by
  obtain ⟨i0, hb⟩ := hp
  have h1 := springMost_r x
  have h3 := cBelow_range (cAfter (cAfter x 20) (springMost x + 1)) (show (0 : Int) < 200 by omega)
  have w1 : IntKind.i64.wrap (1 + cBelow x 20) = springMost x := wrap_id (by unfold springMost at h1; omega) (by unfold springMost at h1; omega)
  have w2 : IntKind.i64.wrap (springMost x + 1) = springMost x + 1 := wrap_id (by omega) (by omega)
  rw [spec_l12Spring_L_sh, q_below (b := x.b) x rfl i0 hb]
  simp only [P1_add, w1, w2]
  rw [q_below (b := x.b) (cAfter x 20) (by simp) (cAfter_i i0) hb, q_below (b := x.b) (cAfter (cAfter x 20) _) (by simp) (cAfter_i (cAfter_i i0)) hb]
  have w3 : IntKind.i64.wrap (3 * cBelow (cAfter (cAfter x 20) (springMost x + 1)) 200) = 3 * cBelow (cAfter (cAfter x 20) (springMost x + 1)) 200 := wrap_id (by omega) (by omega)
  have w4 : IntKind.i64.wrap (1 + 3 * cBelow (cAfter (cAfter x 20) (springMost x + 1)) 200) = 1 + 3 * cBelow (cAfter (cAfter x 20) (springMost x + 1)) 200 := wrap_id (by omega) (by omega)
  simp [w3, w4, springOf, springEnd]

theorem combStep_r (x : Cur) : 0 ≤ (([0, 1, 2, 4] : List Int)[(cBelow x 4).toNat]?).getD 0 ∧ (([0, 1, 2, 4] : List Int)[(cBelow x 4).toNat]?).getD 0 ≤ 4 := by
  have h := cBelow_range x (show (0 : Int) < 4 by omega)
  generalize cBelow x 4 = v at *
  obtain rfl | rfl | rfl | rfl : v = 0 ∨ v = 1 ∨ v = 2 ∨ v = 3 := by omega
  all_goals simp
theorem upward_snoc {l : List Int} {y : Int} (h : upward l = true) (hl : ∀ x ∈ l, x ≤ y) : upward (l ++ [y]) = true := by
  induction l with
  | nil => rfl
  | cons a r ih =>
    cases r with
    | nil => simp [upward, hl a (by simp)]
    | cons b s =>
      simp only [upward, Bool.and_eq_true] at h
      have := ih h.2 (fun x hx => hl x (by simp [hx]))
      simp only [List.cons_append, upward, Bool.and_eq_true]
      exact ⟨h.1, this⟩
theorem comb_inv {x : Cur} (hi : 0 ≤ x.i) : ∀ k, (combTo x k).2.b = x.b ∧ 0 ≤ (combTo x k).2.i ∧ (combTo x k).1.1.length = k ∧ 10 ≤ (combTo x k).1.2 ∧ (combTo x k).1.2 ≤ 10 + 4 * k ∧
    (∀ y ∈ (combTo x k).1.1, 0 ≤ y ∧ y ≤ (combTo x k).1.2) ∧ upward (combTo x k).1.1 = true
  | 0 => ⟨rfl, hi, rfl, by simp [combTo], by simp [combTo], by simp [combTo], rfl⟩
  | k + 1 => by
    obtain ⟨h1, h2, h3, h4, h5, h6, h7⟩ := comb_inv hi k
    have r := combStep_r (combTo x k).2
    refine ⟨by simp [combTo, h1], cAfter_i h2, by simp [combTo, h3], ?_, ?_, ?_, upward_snoc h7 fun y hy => (h6 y hy).2⟩
    · simp only [combTo]; omega
    · simp only [combTo]; omega
    · intro y hy
      simp only [combTo, List.mem_append, List.mem_singleton] at hy ⊢
      rcases hy with hy | rfl
      · have := h6 y hy; omega
      · omega
theorem shopCur_b {x : Cur} (hi : 0 ≤ x.i) : (shopCur x).b = x.b ∧ 0 ≤ (shopCur x).i := by
  have h := benchEnd_b hi
  exact ⟨by simp [shopCur, springEnd_b, h.1], cAfter_i (cAfter_i (springEnd_i h.2))⟩
theorem benchOf_t {x : Cur} (hi : 0 ≤ x.i) : (4 ≤ (benchOf x).s ∧ (benchOf x).s ≤ 24) ∧ (1 ≤ (benchOf x).t ∧ (benchOf x).t ≤ 8) := by
  have h := (benchOf_inv hi).st
  have r := cyl_r x
  omega
theorem shopEnd_b {x : Cur} (hi : 0 ≤ x.i) : (shopEnd x).b = x.b ∧ 0 ≤ (shopEnd x).i := by
  have h := shopCur_b hi
  have h2 := comb_inv h.2 (benchOf x).t.toNat
  exact ⟨h2.1.trans h.1, h2.2.1⟩
theorem q_bench {b : List UInt8} (c : Cur) {m : Nat} {k : V → V → V → V → V → V → Prop} (hb : c.b = b) (h : 0 ≤ c.i) (hl : b.length ≤ 1048576) :
    P6 (.call F_l37Bench 0 m) [vL I1 vY b, .int .i64 c.i, .int .i64 c.h] k ↔ k (.int .i64 (benchOf c).s) (.int .i64 (benchOf c).t) (vL I2 v2 (benchOf c).p) (vL IL2 vLL2 (benchOf c).o) (.int .i64 (benchEnd c).i) (.int .i64 (benchEnd c).h) := by
  subst hb; exact p_l37Bench ⟨h, hl⟩
theorem q_spring {b : List UInt8} (c : Cur) {m : Nat} {k : V → V → V → V → V → Prop} (hb : c.b = b) (h : 0 ≤ c.i) (hl : b.length ≤ 1048576) :
    P5 (.call F_l12Spring 0 m) [vL I1 vY b, .int .i64 c.i, .int .i64 c.h] k ↔ k (.int .i64 (springOf c).a) (.int .i64 (springOf c).b) (.int .i64 (springOf c).c) (.int .i64 (springEnd c).i) (.int .i64 (springEnd c).h) := by
  subst hb; exact p_l12Spring ⟨h, hl⟩
@[simp] theorem P1_lstI4 {a b c d : Int} {k : V → Prop} : P1 (.lst [.sc] false 4) [.int .i64 a, .int .i64 b, .int .i64 c, .int .i64 d] k ↔ k (vL I1 v1 [a, b, c, d]) := P1_of (by simp [Prim.run, aksOk, akOk, chunk, V.pack, vL, v1]) k
theorem spec_l38Workshop_ok : ∀ ds outs, F_l38Workshop ds = some outs → shL spec_l38Workshop_L (qRet outs) ds := F_l38Workshop_elim fun x hp => by
  obtain ⟨i0, hb⟩ := hp
  have hE := benchEnd_b i0
  have hS := springEnd_i hE.2
  have hC := shopCur_b i0
  have ht := benchOf_t i0
  rw [spec_l38Workshop_L_sh, q_bench (b := x.b) x rfl i0 hb, q_spring (b := x.b) _ hE.1 hE.2 hb]
  simp only [P1_lstI4, P1_lstI3]
  rw [q_pick (b := x.b) (springEnd (benchEnd x)) (by rw [springEnd_b, hE.1]) hS hb (by simp) (by simp)]
  rw [q_pick (b := x.b) (cAfter (springEnd (benchEnd x)) _) (by rw [cAfter_b, springEnd_b, hE.1]) (cAfter_i hS) hb (by simp) (by simp)]
  have e4 : (([0, 1, 30, 999] : List Int).length : Int) = 4 := rfl
  have e3 : (([0, 12, 999999] : List Int).length : Int) = 3 := rfl
  simp only [e4, e3]
  refine loop_upto (benchOf x).t.toNat (fun k => [.int .i64 (combTo (shopCur x) k).1.2, .int .i64 k, vL I2 v2 (benchOf x).p, vL IL2 vLL2 (benchOf x).o, vL I1 v1 (combTo (shopCur x) k).1.1, vL I1 vY x.b, .int .i64 (combTo (shopCur x) k).2.i, .int .i64 (combTo (shopCur x) k).2.h,
      .int .i64 0, .int .i64 0, .int .i64 0, .int .i64 0, .int .i64 0, .int .i64 0, .int .i64 0, .int .i64 (benchOf x).s, .int .i64 (benchOf x).t, .int .i64 (springOf (benchEnd x)).a, .int .i64 (springOf (benchEnd x)).b, .int .i64 (springOf (benchEnd x)).c, .int .i64 (shopMoney x), .int .i64 (shopPlayed x)])
    (by intro i j hi hj h; simp only [List.cons.injEq, V.int.injEq, true_and] at h; omega) (fun _ => True) (by simp [combTo]; exact ⟨rfl, rfl, rfl, rfl⟩) trivial ?_
  intro k hk _
  obtain ⟨g1, g2, g3, g4, g5, -, -⟩ := comb_inv hC.2 k
  have r := combStep_r (combTo (shopCur x) k).2
  rw [spec_l38Workshop_b0_sh]
  simp only [P1_lss, ifB_bool, decide_eq_true_eq, decide_eq_false_iff_not]
  refine ⟨fun h => ?_, fun h => ?_⟩
  · simp only [P1_lstI4]
    have hw : IntKind.i64.wrap ((k : Int) + 1) = ((k + 1 : Nat) : Int) := by rw [wrap_id (by omega) (by omega)]; omega
    have hw2 : IntKind.i64.wrap ((combTo (shopCur x) k).1.2 + (([0, 1, 2, 4] : List Int)[(cBelow (combTo (shopCur x) k).2 4).toNat]?).getD 0) = (combTo (shopCur x) (k + 1)).1.2 := wrap_id (by omega) (by omega)
    simp only [P1_lst1, P1_appI_, g3, List.length_singleton]
    refine ⟨by omega, ?_⟩
    rw [q_pick (b := x.b) _ (g1.trans hC.1) g2 hb (by simp) (by simp)]
    have e4' : (([0, 1, 2, 4] : List Int).length : Int) = 4 := rfl
    simp only [e4', P1_add, hw, hw2]
    simp [combTo]
    omega
  · have e : k = (benchOf x).t.toNat := by omega
    subst e
    simp [spec_l38Workshop_r1_sh, shopOf, shopEnd]
end Go.Mw

namespace Go.Mw
theorem actDraw_b (x : Cur) : (actDraw x).2.b = x.b := by unfold actDraw; split <;> (try split) <;> (try split) <;> (try split) <;> (try split) <;> simp
theorem actDraw_i {x : Cur} (h : 0 ≤ x.i) : 0 ≤ (actDraw x).2.i := by
  unfold actDraw
  split
  · exact cAfter_i (cAfter_i (cAfter_i h))
  · split
    · exact cAfter_i (cAfter_i h)
    · split
      · exact cAfter_i h
      · split
        · exact cAfter_i (cAfter_i h)
        · split <;> exact cAfter_i h
theorem q_actB {b : List UInt8} (c : Cur) {n : Int} {m : Nat} {k : V → V → V → Prop} (hb : c.b = b) (h : 0 ≤ c.i) (hl : b.length ≤ 1048576) : P3 (.call F_l01Below 0 m) [vL I1 vY b, .int .i64 (cAfter c 9).i, .int .i64 (cAfter c 9).h, .int .i64 n] k ↔ k (.int .i64 (cBelow (cAfter c 9) n)) (.int .i64 (cAfter (cAfter c 9) n).i) (.int .i64 (cAfter (cAfter c 9) n).h) :=
  q_below (b := b) (cAfter c 9) (by simpa using hb) (cAfter_i h) hl
theorem spec_l39Act_ok : ∀ ds outs, F_l39Act ds = some outs → shL spec_l39Act_L (qRet outs) ds := F_l39Act_elim fun x hp => by
  obtain ⟨i0, hb⟩ := hp
  have hr := cBelow_range x (show (0 : Int) < 9 by omega)
  rw [spec_l39Act_L_sh, q_below (b := x.b) x rfl i0 hb]
  generalize hv : cBelow x 9 = v at *
  obtain h | rfl | rfl | rfl | h | rfl : (v = 0 ∨ v = 1 ∨ v = 2) ∨ v = 3 ∨ v = 4 ∨ v = 5 ∨ (v = 6 ∨ v = 7) ∨ v = 8 := by omega
  · have e : actDraw x = (⟨1, cBelow (cAfter x 9) 4, cBelow (cAfter (cAfter x 9) 4) 16⟩, cAfter (cAfter (cAfter x 9) 4) 16) := by
      unfold actDraw; rw [hv, if_pos (by omega)]
    rw [e]
    rcases h with rfl | rfl | rfl <;> simp [spec_l39Act_r0_sh, q_actB (b := x.b) x rfl i0 hb, q_below (b := x.b) (cAfter (cAfter x 9) 4) (by simp) (cAfter_i (cAfter_i i0)) hb]
  · have e : actDraw x = (⟨2, cBelow (cAfter x 9) 5, 0⟩, cAfter (cAfter x 9) 5) := by unfold actDraw; rw [hv]; rfl
    rw [e]
    simp [spec_l39Act_r0_sh, q_actB (b := x.b) x rfl i0 hb]
  · have e : actDraw x = (⟨3, 0, 0⟩, cAfter x 9) := by unfold actDraw; rw [hv]; rfl
    rw [e]
    simp [spec_l39Act_r0_sh]
  · have e : actDraw x = (⟨4, cBelow (cAfter x 9) 8, 0⟩, cAfter (cAfter x 9) 8) := by unfold actDraw; rw [hv]; rfl
    rw [e]
    simp [spec_l39Act_r0_sh, q_actB (b := x.b) x rfl i0 hb]
  · have e : actDraw x = (⟨5, 0, 0⟩, cAfter x 9) := by unfold actDraw; rw [hv]; rcases h with rfl | rfl <;> rfl
    rw [e]
    rcases h with rfl | rfl <;> simp [spec_l39Act_r0_sh]
  · have e : actDraw x = (⟨6, 0, 0⟩, cAfter x 9) := by unfold actDraw; rw [hv]; rfl
    rw [e]
    simp [spec_l39Act_r0_sh, spec_l39Act_r1_sh, spec_l39Act_r2_sh]
theorem q_act {b : List UInt8} (c : Cur) {m : Nat} {k : V → V → V → V → V → Prop} (hb : c.b = b) (h : 0 ≤ c.i) (hl : b.length ≤ 1048576) :
    P5 (.call F_l39Act 0 m) [vL I1 vY b, .int .i64 c.i, .int .i64 c.h] k ↔ k (.int .i64 (actDraw c).1.a) (.int .i64 (actDraw c).1.b) (.int .i64 (actDraw c).1.c) (.int .i64 (actDraw c).2.i) (.int .i64 (actDraw c).2.h) := by
  subst hb; exact p_l39Act ⟨h, hl⟩
theorem act_inv {x : Cur} (hi : 0 ≤ x.i) : ∀ k, (actTo x k).2.b = x.b ∧ 0 ≤ (actTo x k).2.i ∧ (actTo x k).1.length = k
  | 0 => ⟨rfl, hi, rfl⟩
  | k + 1 => by
    obtain ⟨h1, h2, h3⟩ := act_inv hi k
    exact ⟨(actDraw_b _).trans h1, actDraw_i h2, by simp [actTo, h3]⟩
theorem actCnt_le (x : Cur) : actCnt x ≤ 13 := by
  have := cBelow_range x (show (0 : Int) < 14 by omega)
  unfold actCnt; omega
theorem actsOf_len {x : Cur} (hi : 0 ≤ x.i) : (actsOf x).length ≤ 13 := by
  have h := (act_inv (x := cAfter x 14) (cAfter_i hi) (actCnt x)).2.2
  have h2 := actCnt_le x
  unfold actsOf; omega
theorem spec_l39List_ok : ∀ ds outs, F_l39List ds = some outs → shL spec_l39List_L (qRet outs) ds := F_l39List_elim fun x hp => by
  obtain ⟨i0, hb⟩ := hp
  have r := cBelow_range x (show (0 : Int) < 14 by omega)
  have w1 : cBelow x 14 = (actCnt x : Int) := by simp only [actCnt]; omega
  have hN := actCnt_le x
  rw [spec_l39List_L_sh]
  simp only [P1_lst0]
  rw [q_below (b := x.b) x rfl i0 hb, w1]
  refine loop_upto (actCnt x) (fun k => [.int .i64 (actCnt x), .int .i64 k, vL I3 v3 (actTo (cAfter x 14) k).1, vL I1 vY x.b, .int .i64 (actTo (cAfter x 14) k).2.i, .int .i64 (actTo (cAfter x 14) k).2.h]) (by intro i j _ _ h; simp at h; omega) (fun _ => True) (by simp [actTo]) trivial ?_
  intro k hk _
  obtain ⟨g1, g2, g3⟩ := act_inv (x := cAfter x 14) (cAfter_i i0) k
  rw [cAfter_b] at g1
  rw [spec_l39List_b0_sh]
  simp only [P1_lss, ifB_bool, decide_eq_true_eq, decide_eq_false_iff_not]
  refine ⟨fun h => ?_, fun h => ?_⟩
  · rw [q_act (b := x.b) _ g1 g2 hb]
    have hw : IntKind.i64.wrap ((k : Int) + 1) = ((k + 1 : Nat) : Int) := by rw [wrap_id (by omega) (by omega)]; omega
    simp only [P1_add, hw]
    simp [actTo, g3]
    omega
  · have e : k = actCnt x := by omega
    subst e
    simp [spec_l39List_r1_sh, actsOf, actsEnd]
theorem sample_ok : shopOk sample = true := by decide
theorem sceneEnd_b {x : Cur} (hi : 0 ≤ x.i) : (sceneEnd x).b = x.b ∧ 0 ≤ (sceneEnd x).i := by
  unfold sceneEnd
  split
  · exact ⟨by simp, cAfter_i hi⟩
  · have h := shopEnd_b (x := cAfter x 2) (cAfter_i hi)
    exact ⟨by rw [h.1]; simp, h.2⟩
theorem q_shop {b : List UInt8} (c : Cur) {m : Nat} {k : V → V → V → V → V → V → V → V → V → V → V → V → Prop} (hb : c.b = b) (h : 0 ≤ c.i) (hl : b.length ≤ 1048576) :
    P12 (.call F_l38Workshop 0 m) [vL I1 vY b, .int .i64 c.i, .int .i64 c.h] k ↔ k (.int .i64 (shopOf c).s) (.int .i64 (shopOf c).t) (vL I2 v2 (shopOf c).p) (vL IL2 vLL2 (shopOf c).o) (vL I1 v1 (shopOf c).c)
      (.int .i64 (shopOf c).u) (.int .i64 (shopOf c).m) (.int .i64 (shopOf c).f) (.int .i64 (shopOf c).y) (.int .i64 (shopOf c).d) (.int .i64 (shopEnd c).i) (.int .i64 (shopEnd c).h) := by
  subst hb; exact p_l38Workshop ⟨h, hl⟩
theorem spec_l39Workshop_ok : ∀ ds outs, F_l39Workshop ds = some outs → shL spec_l39Workshop_L (qRet outs) ds := F_l39Workshop_elim fun x hp => by
  obtain ⟨i0, hb⟩ := hp
  rw [spec_l39Workshop_L_sh, q_once (b := x.b) x rfl i0 hb]
  simp only [ifB_bool, decide_eq_true_eq, decide_eq_false_iff_not]
  refine ⟨fun h => ?_, fun h => ?_⟩
  · rw [p_SampleWorkshop]
    have e : sceneOf x = openShop 16 [12, 12, 16, 19] 40 := by unfold sceneOf; rw [if_pos h]; rfl
    have e2 : sceneEnd x = cAfter x 2 := by unfold sceneEnd; rw [if_pos h]
    rw [e, e2]
    simp
  · rw [q_shop (b := x.b) _ (by simp) (cAfter_i i0) hb]
    have e : sceneOf x = shopOf (cAfter x 2) := by unfold sceneOf; rw [if_neg h]
    have e2 : sceneEnd x = shopEnd (cAfter x 2) := by unfold sceneEnd; rw [if_neg h]
    rw [e, e2]
    simp
theorem q_scene {b : List UInt8} (c : Cur) {m : Nat} {k : V → V → V → V → V → V → V → V → V → V → V → V → Prop} (hb : c.b = b) (h : 0 ≤ c.i) (hl : b.length ≤ 1048576) :
    P12 (.call F_l39Workshop 0 m) [vL I1 vY b, .int .i64 c.i, .int .i64 c.h] k ↔ k (.int .i64 (sceneOf c).s) (.int .i64 (sceneOf c).t) (vL I2 v2 (sceneOf c).p) (vL IL2 vLL2 (sceneOf c).o) (vL I1 v1 (sceneOf c).c)
      (.int .i64 (sceneOf c).u) (.int .i64 (sceneOf c).m) (.int .i64 (sceneOf c).f) (.int .i64 (sceneOf c).y) (.int .i64 (sceneOf c).d) (.int .i64 (sceneEnd c).i) (.int .i64 (sceneEnd c).h) := by
  subst hb; exact p_l39Workshop ⟨h, hl⟩
theorem q_acts {b : List UInt8} (c : Cur) {m : Nat} {k : V → V → V → Prop} (hb : c.b = b) (h : 0 ≤ c.i) (hl : b.length ≤ 1048576) :
    P3 (.call F_l39List 0 m) [vL I1 vY b, .int .i64 c.i, .int .i64 c.h] k ↔ k (vL I3 v3 (actsOf c)) (.int .i64 (actsEnd c).i) (.int .i64 (actsEnd c).h) := by
  subst hb; exact p_l39List ⟨h, hl⟩
theorem cur0_i (l : List UInt8) : 0 ≤ (cur0 l).i := by simp [cur0]
theorem spec_DrawActs_ok : ∀ ds outs, F_DrawActs ds = some outs → shL spec_DrawActs_L (qRet outs) ds := F_DrawActs_elim fun l hp => by
  rw [spec_DrawActs_L_sh, p_l01New hp]
  have h0 := cur0_i l
  have hE := sceneEnd_b h0
  refine (q_scene (b := l) (cur0 l) rfl h0 hp).2 ?_
  rw [q_acts (b := l) _ hE.1 hE.2 hp]
  simp [drawW, drawA]
theorem drawA_len (l : List UInt8) : (drawA l).length ≤ 13 := actsOf_len (sceneEnd_b (cur0_i l)).2
end Go.Mw

namespace Go.Mw
theorem withBench_ok {x : Shop} {b : Bench} {k : Int} {ok : Bool} (h : shopOk x = true) : shopOk (withBench x b k ok) = true := by
  unfold withBench
  cases h2 : benchFits x b k ok with
  | false => simpa using h
  | true => simp [benchFits] at h2; simpa using h2.2.2
theorem windTo_ok {x : T3} {n : Int} (h : springOk x = true) : springOk (windTo x n) = true := by
  unfold windTo
  split
  · rename_i h2
    simp only [windOk, springOk, Bool.and_eq_true, within_iff'] at h h2 ⊢
    omega
  · exact h
theorem crank_ok {x : Shop} {n : Int} (h : shopOk x = true) : shopOk (crank x n) = true := by
  unfold crank
  rw [if_pos h]
  have h1 := (shopOk_iff x).1 h
  exact (shopOk_iff _).2 ⟨h1.1, h1.2.1, windTo_ok h1.2.2.1, h1.2.2.2⟩
theorem playOnce_ok {x : Shop} (h : shopOk x = true) : shopOk (playOnce x) = true := by
  unfold playOnce
  split
  · rename_i h2
    simp only [canPlay, Bool.and_eq_true] at h2
    exact h2.2.2.2
  · exact h
theorem actW_ok {x : Shop} {y : T3} (h : shopOk x = true) : shopOk (actW x y) = true := by
  unfold actW
  split
  · split
    · exact withBench_ok h
    · split
      · exact withBench_ok h
      · split
        · exact withBench_ok h
        · split
          · exact crank_ok h
          · split
            · exact playOnce_ok h
            · exact h
  · exact h
theorem run_ok {x : Shop} {l : List T3} (h : shopOk x = true) : ∀ k, shopOk (runTo x l k).1 = true
  | 0 => h
  | k + 1 => by
    have ih := run_ok (l := l) h k
    unfold runTo
    split
    · exact actW_ok ih
    · exact ih
end Go.Mw

namespace Go.Mw
structure ActDoes (w w' : Shop) (a : T3) (n : Int) : Prop where
  y : w'.y = if n = 1 ∧ a.a = 1 then w.y - 1 else w.y
  d : w'.d = if n = 1 ∧ a.a = 5 then w.d + w.p.length else w.d
  u : w'.u = if n = 1 ∧ a.a = 5 then w.u - 1 else if a.a = 4 then w.u + n else w.u
  c : a.a = 6 → n = closest w'.bench.cyl
  p : n = 1 ∧ a.a = 5 → tooClose w.bench.cyl 2 = []
theorem actDraw_ok (x : Cur) : actOk (actDraw x).1 = true := by
  unfold actDraw
  have h1 := cBelow_range (cAfter x 9) (show (0 : Int) < 4 by omega)
  have h2 := cBelow_range (cAfter (cAfter x 9) 4) (show (0 : Int) < 16 by omega)
  have h3 := cBelow_range (cAfter x 9) (show (0 : Int) < 5 by omega)
  have h4 := cBelow_range (cAfter x 9) (show (0 : Int) < 8 by omega)
  split
  · simp [actOk, within]; omega
  · split
    · simp [actOk, within]; omega
    · split
      · simp [actOk]
      · split
        · simp [actOk, within]; omega
        · split <;> simp [actOk]
end Go.Mw

namespace Go.Mw
theorem Shop.eta (x : Shop) : (⟨x.s, x.t, x.p, x.o, x.c, x.u, x.m, x.f, x.y, x.d⟩ : Shop) = x := rfl
end Go.Mw

namespace Go.Mw
end Go.Mw

namespace Go.Mw
end Go.Mw

namespace Go.Mw
noncomputable section
end
end Go.Mw

namespace Go.Mw
theorem runW_ok {x : Shop} {l : List T3} (h : shopOk x = true) : shopOk (runW x l) = true := by
  unfold runW
  split
  · exact run_ok h _
  · exact h
end Go.Mw

namespace Go.Mw
def E_strconv_Itoa (n : Int) : List V := [.int .i64 n]
noncomputable def F_strconv_Itoa : List V → Option (List V) := mkF E_strconv_Itoa (fun n => -9223372036854775808 ≤ n ∧ n ≤ 9223372036854775807) (fun n => [.str (Go.Lib.itoa n)])
theorem F_strconv_Itoa_inj : ∀ x y, E_strconv_Itoa x = E_strconv_Itoa y → x = y := by
  rintro n n' h
  simpa [E_strconv_Itoa] using h
theorem p_strconv_Itoa {n : Int} {nr_ : Nat} {kk_ : V → Prop} (hp : -9223372036854775808 ≤ n ∧ n ≤ 9223372036854775807) : P1 (.call F_strconv_Itoa 0 nr_) [.int .i64 n] kk_ ↔ kk_ (.str (Go.Lib.itoa n)) :=
  P1_callF (by unfold F_strconv_Itoa; exact mkF_eq F_strconv_Itoa_inj (n) hp)

def atoiV (s : List UInt8) : Int := match Go.Lib.atoiAll s with
  | .ok v => v
  | .range => Go.Lib.atoiSat s
  | _ => 0
def atoiE (s : List UInt8) : Bool := match Go.Lib.atoiAll s with
  | .ok _ => false
  | _ => true
def E_strconv_Atoi (s : List UInt8) : List V := [.str s]
noncomputable def F_strconv_Atoi : List V → Option (List V) := mkF E_strconv_Atoi (fun s => s.length ≤ 281474976710656) (fun s => [.int .i64 (atoiV s), .err (atoiE s)])
theorem F_strconv_Atoi_inj : ∀ x y, E_strconv_Atoi x = E_strconv_Atoi y → x = y := by
  rintro s s' h
  simpa [E_strconv_Atoi] using h
theorem p_strconv_Atoi {s : List UInt8} {nr_ : Nat} {kk_ : V → V → Prop} (hp : s.length ≤ 281474976710656) : P2 (.call F_strconv_Atoi 0 nr_) [.str s] kk_ ↔ kk_ (.int .i64 (atoiV s)) (.err (atoiE s)) :=
  P2_callF (by unfold F_strconv_Atoi; exact mkF_eq F_strconv_Atoi_inj (s) hp)

def E_strings_Join : List (List UInt8) × List UInt8 → List V := fun (l, s) => [vL I1 vS l, .str s]
noncomputable def F_strings_Join : List V → Option (List V) := mkF E_strings_Join (fun (l, s) => l.length ≤ 140737488355328 ∧ (Go.Lib.join l s).length ≤ 140737488355328) (fun (l, s) => [.str (Go.Lib.join l s)])
theorem F_strings_Join_inj : ∀ x y, E_strings_Join x = E_strings_Join y → x = y := by
  rintro ⟨l, s⟩ ⟨l', s'⟩ h
  simpa [E_strings_Join] using h
theorem p_strings_Join {l : List (List UInt8)} {s : List UInt8} {nr_ : Nat} {kk_ : V → Prop} (hp : l.length ≤ 140737488355328 ∧ (Go.Lib.join l s).length ≤ 140737488355328) : P1 (.call F_strings_Join 0 nr_) [vL I1 vS l, .str s] kk_ ↔ kk_ (.str (Go.Lib.join l s)) :=
  P1_callF (by unfold F_strings_Join; exact mkF_eq F_strings_Join_inj (l, s) hp)

def E_strings_Repeat : List UInt8 × Int → List V := fun (s, n) => [.str s, .int .i64 n]
noncomputable def F_strings_Repeat : List V → Option (List V) := mkF E_strings_Repeat (fun (s, n) => 0 ≤ n ∧ n ≤ 9223372036854775807 ∧ s.length * n.toNat ≤ 140737488355328) (fun (s, n) => [.str (Go.Lib.repeatL s n.toNat)])
theorem F_strings_Repeat_inj : ∀ x y, E_strings_Repeat x = E_strings_Repeat y → x = y := by
  rintro ⟨s, n⟩ ⟨s', n'⟩ h
  simpa [E_strings_Repeat] using h
theorem p_strings_Repeat {s : List UInt8} {n : Int} {nr_ : Nat} {kk_ : V → Prop} (hp : 0 ≤ n ∧ n ≤ 9223372036854775807 ∧ s.length * n.toNat ≤ 140737488355328) : P1 (.call F_strings_Repeat 0 nr_) [.str s, .int .i64 n] kk_ ↔ kk_ (.str (Go.Lib.repeatL s n.toNat)) :=
  P1_callF (by unfold F_strings_Repeat; exact mkF_eq F_strings_Repeat_inj (s, n) hp)

def E_strings_Split : List UInt8 × List UInt8 → List V := fun (s, t) => [.str s, .str t]
noncomputable def F_strings_Split : List V → Option (List V) := mkF E_strings_Split (fun (s, t) => s.length < 4294967281 ∧ 1 ≤ t.length) (fun (s, t) => [vL I1 vS (Go.Lib.split s t)])
theorem F_strings_Split_inj : ∀ x y, E_strings_Split x = E_strings_Split y → x = y := by
  rintro ⟨s, t⟩ ⟨s', t'⟩ h
  simpa [E_strings_Split] using h
theorem p_strings_Split {s : List UInt8} {t : List UInt8} {nr_ : Nat} {kk_ : V → Prop} (hp : s.length < 4294967281 ∧ 1 ≤ t.length) : P1 (.call F_strings_Split 0 nr_) [.str s, .str t] kk_ ↔ kk_ (vL I1 vS (Go.Lib.split s t)) :=
  P1_callF (by unfold F_strings_Split; exact mkF_eq F_strings_Split_inj (s, t) hp)


def E_FormatInt (n : Int) : List V := [.int .i64 n]
noncomputable def F_FormatInt : List V → Option (List V) := mkF E_FormatInt (fun n => -9223372036854775808 ≤ n ∧ n ≤ 9223372036854775807) (fun n => [.str (Go.Lib.itoa n)])
theorem F_FormatInt_inj : ∀ x y, E_FormatInt x = E_FormatInt y → x = y := by
  rintro n n' h
  simpa [E_FormatInt] using h
theorem F_FormatInt_elim {P : List V → List V → Prop} (h : ∀ (n : Int), (-9223372036854775808 ≤ n ∧ n ≤ 9223372036854775807) → P [.int .i64 n] [.str (Go.Lib.itoa n)]) : ∀ ds outs, F_FormatInt ds = some outs → P ds outs := by
  intro ds outs hh
  obtain ⟨n, rfl, hp, rfl⟩ := mkF_inv hh
  exact h n hp
theorem p_FormatInt {n : Int} {nr_ : Nat} {kk_ : V → Prop} (hp : -9223372036854775808 ≤ n ∧ n ≤ 9223372036854775807) : P1 (.call F_FormatInt 0 nr_) [.int .i64 n] kk_ ↔ kk_ (.str (Go.Lib.itoa n)) :=
  P1_callF (by unfold F_FormatInt; exact mkF_eq F_FormatInt_inj (n) hp)

def isDig (b : UInt8) : Bool := decide (48 ≤ b.toNat) && decide (b.toNat ≤ 57)
def uval (s : List UInt8) : Nat := s.foldl (fun n b => 10 * n + (b.toNat - 48)) 0
def uOk (s : List UInt8) : Bool := decide (s.length ≤ 10) && (s.all isDig && (decide (uval s ≤ 1000000000) && decide (Go.Lib.itoa (uval s) = s)))
def uNum (s : List UInt8) : Int := if uOk s then uval s else 0
def E_ParseUint (s : List UInt8) : List V := [.str s]
noncomputable def F_ParseUint : List V → Option (List V) := mkF E_ParseUint (fun s => s.length ≤ 1048576) (fun s => [.int .i64 (uNum s), .bool (uOk s)])
theorem F_ParseUint_inj : ∀ x y, E_ParseUint x = E_ParseUint y → x = y := by
  rintro s s' h
  simpa [E_ParseUint] using h
theorem F_ParseUint_elim {P : List V → List V → Prop} (h : ∀ (s : List UInt8), (s.length ≤ 1048576) → P [.str s] [.int .i64 (uNum s), .bool (uOk s)]) : ∀ ds outs, F_ParseUint ds = some outs → P ds outs := by
  intro ds outs hh
  obtain ⟨s, rfl, hp, rfl⟩ := mkF_inv hh
  exact h s hp
theorem p_ParseUint {s : List UInt8} {nr_ : Nat} {kk_ : V → V → Prop} (hp : s.length ≤ 1048576) : P2 (.call F_ParseUint 0 nr_) [.str s] kk_ ↔ kk_ (.int .i64 (uNum s)) (.bool (uOk s)) :=
  P2_callF (by unfold F_ParseUint; exact mkF_eq F_ParseUint_inj (s) hp)


def fieldsTo (s : List UInt8) : Nat → List (List UInt8) × Nat
  | 0 => ([], 0)
  | i + 1 => match s[i]? with
    | some b => if b = 32 then (if (fieldsTo s i).2 < i then (fieldsTo s i).1 ++ [(s.take i).drop (fieldsTo s i).2] else (fieldsTo s i).1, i + 1) else fieldsTo s i
    | none => (if (fieldsTo s i).2 < i then (fieldsTo s i).1 ++ [(s.take i).drop (fieldsTo s i).2] else (fieldsTo s i).1, i + 1)
def plainB (b : UInt8) : Bool := decide (32 ≤ b.toNat) && decide (b.toNat ≤ 126)
def fieldsOk (s : List UInt8) : Bool := decide (s.length ≤ 600) && (s.all plainB && decide ((fieldsTo s (s.length + 1)).1.length ≤ 24))
def fieldsOf (s : List UInt8) : List (List UInt8) := if fieldsOk s then (fieldsTo s (s.length + 1)).1 else []
def E_SplitFields (s : List UInt8) : List V := [.str s]
noncomputable def F_SplitFields : List V → Option (List V) := mkF E_SplitFields (fun s => s.length ≤ 1048576) (fun s => [vL I1 vS (fieldsOf s), .bool (fieldsOk s)])
theorem F_SplitFields_inj : ∀ x y, E_SplitFields x = E_SplitFields y → x = y := by
  rintro s s' h
  simpa [E_SplitFields] using h
theorem F_SplitFields_elim {P : List V → List V → Prop} (h : ∀ (s : List UInt8), (s.length ≤ 1048576) → P [.str s] [vL I1 vS (fieldsOf s), .bool (fieldsOk s)]) : ∀ ds outs, F_SplitFields ds = some outs → P ds outs := by
  intro ds outs hh
  obtain ⟨s, rfl, hp, rfl⟩ := mkF_inv hh
  exact h s hp
theorem p_SplitFields {s : List UInt8} {nr_ : Nat} {kk_ : V → V → Prop} (hp : s.length ≤ 1048576) : P2 (.call F_SplitFields 0 nr_) [.str s] kk_ ↔ kk_ (vL I1 vS (fieldsOf s)) (.bool (fieldsOk s)) :=
  P2_callF (by unfold F_SplitFields; exact mkF_eq F_SplitFields_inj (s) hp)


def actWord (k : Int) : List UInt8 := if k = 1 then [112, 105, 110] else if k = 2 then [112, 117, 108, 108] else if k = 3 then [98, 97, 99, 107] else if k = 4 then [119, 105, 110, 100] else if k = 5 then [112, 108, 97, 121] else [99, 108, 111, 115, 101]
def E_actWord (n : Int) : List V := [.int .i64 n]
noncomputable def F_actWord : List V → Option (List V) := mkF E_actWord (fun _ => True) (fun n => [.str (actWord n)])
theorem F_actWord_inj : ∀ x y, E_actWord x = E_actWord y → x = y := by
  rintro n n' h
  simpa [E_actWord] using h
theorem F_actWord_elim {P : List V → List V → Prop} (h : ∀ (n : Int), P [.int .i64 n] [.str (actWord n)]) : ∀ ds outs, F_actWord ds = some outs → P ds outs := by
  intro ds outs hh
  obtain ⟨n, rfl, -, rfl⟩ := mkF_inv hh
  exact h n
@[simp] theorem p_actWord {n : Int} {nr_ : Nat} {kk_ : V → Prop} : P1 (.call F_actWord 0 nr_) [.int .i64 n] kk_ ↔ kk_ (.str (actWord n)) :=
  P1_callF (by unfold F_actWord; exact mkF_eq F_actWord_inj (n) trivial)

def actNums (k : Int) : Nat := if k = 1 then 2 else if k = 2 ∨ k = 4 then 1 else 0
def E_actNumbers (n : Int) : List V := [.int .i64 n]
noncomputable def F_actNumbers : List V → Option (List V) := mkF E_actNumbers (fun _ => True) (fun n => [.int .i64 (actNums n)])
theorem F_actNumbers_inj : ∀ x y, E_actNumbers x = E_actNumbers y → x = y := by
  rintro n n' h
  simpa [E_actNumbers] using h
theorem F_actNumbers_elim {P : List V → List V → Prop} (h : ∀ (n : Int), P [.int .i64 n] [.int .i64 (actNums n)]) : ∀ ds outs, F_actNumbers ds = some outs → P ds outs := by
  intro ds outs hh
  obtain ⟨n, rfl, -, rfl⟩ := mkF_inv hh
  exact h n
@[simp] theorem p_actNumbers {n : Int} {nr_ : Nat} {kk_ : V → Prop} : P1 (.call F_actNumbers 0 nr_) [.int .i64 n] kk_ ↔ kk_ (.int .i64 (actNums n)) :=
  P1_callF (by unfold F_actNumbers; exact mkF_eq F_actNumbers_inj (n) trivial)

def fmtAct (a : T3) : List UInt8 := if actOk a then actWord a.a ++ (if actNums a.a = 2 then 32 :: (Go.Lib.itoa a.b ++ 32 :: Go.Lib.itoa a.c) else if actNums a.a = 1 then 32 :: Go.Lib.itoa a.b else []) else []
def E_FormatAct (x : T3) : List V := [.int .i64 x.a, .int .i64 x.b, .int .i64 x.c]
noncomputable def F_FormatAct : List V → Option (List V) := mkF E_FormatAct (fun _ => True) (fun x => [.str (fmtAct x), .bool (actOk x)])
theorem F_FormatAct_inj : ∀ x y, E_FormatAct x = E_FormatAct y → x = y := by
  rintro ⟨xa, xb, xc⟩ ⟨xa', xb', xc'⟩ h
  simpa [E_FormatAct] using h
theorem F_FormatAct_elim {P : List V → List V → Prop} (h : ∀ (x : T3), P [.int .i64 x.a, .int .i64 x.b, .int .i64 x.c] [.str (fmtAct x), .bool (actOk x)]) : ∀ ds outs, F_FormatAct ds = some outs → P ds outs := by
  intro ds outs hh
  obtain ⟨x, rfl, -, rfl⟩ := mkF_inv hh
  exact h x
@[simp] theorem p_FormatAct {x_a : Int} {x_b : Int} {x_c : Int} {nr_ : Nat} {kk_ : V → V → Prop} : P2 (.call F_FormatAct 0 nr_) [.int .i64 x_a, .int .i64 x_b, .int .i64 x_c] kk_ ↔ kk_ (.str (fmtAct (⟨x_a, x_b, x_c⟩ : T3))) (.bool (actOk (⟨x_a, x_b, x_c⟩ : T3))) :=
  P2_callF (by unfold F_FormatAct; exact mkF_eq F_FormatAct_inj ((⟨x_a, x_b, x_c⟩ : T3)) trivial)

def scriptTo (l : List T3) : Nat → List UInt8
  | 0 => []
  | k + 1 => match l[k]? with
    | some a => scriptTo l k ++ (fmtAct a ++ [10])
    | none => scriptTo l k
def scriptOk (l : List T3) : Bool := decide (l.length ≤ 40) && l.all actOk
def script (l : List T3) : List UInt8 := if scriptOk l then scriptTo l l.length else []
def E_ScriptText (l : List T3) : List V := [vL I3 v3 l]
noncomputable def F_ScriptText : List V → Option (List V) := mkF E_ScriptText (fun l => l.length ≤ 1048576) (fun l => [.str (script l), .bool (scriptOk l)])
theorem F_ScriptText_inj : ∀ x y, E_ScriptText x = E_ScriptText y → x = y := by
  rintro l l' h
  simpa [E_ScriptText] using h
theorem F_ScriptText_elim {P : List V → List V → Prop} (h : ∀ (l : List T3), (l.length ≤ 1048576) → P [vL I3 v3 l] [.str (script l), .bool (scriptOk l)]) : ∀ ds outs, F_ScriptText ds = some outs → P ds outs := by
  intro ds outs hh
  obtain ⟨l, rfl, hp, rfl⟩ := mkF_inv hh
  exact h l hp
theorem p_ScriptText {l : List T3} {nr_ : Nat} {kk_ : V → V → Prop} (hp : l.length ≤ 1048576) : P2 (.call F_ScriptText 0 nr_) [vL I3 v3 l] kk_ ↔ kk_ (.str (script l)) (.bool (scriptOk l)) :=
  P2_callF (by unfold F_ScriptText; exact mkF_eq F_ScriptText_inj (l) hp)

end Go.Mw

namespace Go.Mw
open Go.Lib (decDigits)
theorem dec_small {u : Nat} (h : u < 10) : decDigits u = [UInt8.ofNat (48 + u)] := by rw [decDigits, dif_pos h]
theorem dec_big {u : Nat} (h : ¬ u < 10) : decDigits u = decDigits (u / 10) ++ [UInt8.ofNat (48 + u % 10)] := by rw [decDigits, dif_neg h]
theorem dig_nat {d : Nat} (h : d < 10) : (UInt8.ofNat (48 + d)).toNat = 48 + d := by
  simp; omega
theorem isDig_ofNat {d : Nat} (h : d < 10) : isDig (UInt8.ofNat (48 + d)) = true := by
  simp only [isDig, dig_nat h, Bool.and_eq_true, decide_eq_true_eq]; omega
theorem all_one {d : Nat} (h : d < 10) : ([UInt8.ofNat (48 + d)] : List UInt8).all isDig = true := by
  rw [List.all_cons, List.all_nil, Bool.and_true]; exact isDig_ofNat h
theorem dec_digs : ∀ (n u : Nat), u ≤ n → (decDigits u).all isDig = true ∧ decDigits u ≠ []
  | 0, u, h => by
    obtain rfl : u = 0 := by omega
    rw [dec_small (by omega)]
    exact ⟨all_one (by omega), by simp⟩
  | n + 1, u, h => by
    by_cases h2 : u < 10
    · rw [dec_small h2]; exact ⟨all_one h2, by simp⟩
    · rw [dec_big h2]
      have ih := dec_digs n (u / 10) (by omega)
      exact ⟨by rw [List.all_append, ih.1, all_one (by omega)]; rfl, by simp⟩
theorem dec_dig (u : Nat) : (decDigits u).all isDig = true := (dec_digs u u (Nat.le_refl _)).1
theorem dec_ne (u : Nat) : decDigits u ≠ [] := (dec_digs u u (Nat.le_refl _)).2
theorem uval_snoc (s : List UInt8) (b : UInt8) : uval (s ++ [b]) = 10 * uval s + (b.toNat - 48) := by simp [uval, List.foldl_append]
theorem uval_dec : ∀ (n u : Nat), u ≤ n → uval (decDigits u) = u
  | 0, u, h => by
    obtain rfl : u = 0 := by omega
    rw [dec_small (by omega)]
    simp [uval]
  | n + 1, u, h => by
    by_cases h2 : u < 10
    · rw [dec_small h2]
      show 10 * 0 + ((UInt8.ofNat (48 + u)).toNat - 48) = u
      rw [dig_nat h2]; omega
    · rw [dec_big h2, uval_snoc, uval_dec n (u / 10) (by omega), dig_nat (show u % 10 < 10 by omega)]; omega
theorem uval_decDigits (u : Nat) : uval (decDigits u) = u := uval_dec u u (Nat.le_refl _)
theorem dec_len : ∀ (k u : Nat), u < 10 ^ (k + 1) → (decDigits u).length ≤ k + 1
  | 0, u, h => by rw [dec_small (by simpa using h)]; simp
  | k + 1, u, h => by
    by_cases h2 : u < 10
    · rw [dec_small h2]; simp
    · rw [dec_big h2, List.length_append]
      have h3 : u < 10 * 10 ^ (k + 1) := by rw [Nat.mul_comm, ← Nat.pow_succ]; exact h
      have := dec_len k (u / 10) (by omega)
      simp only [List.length_singleton]; omega
theorem uval_lt : ∀ {s : List UInt8}, s.all isDig = true → uval s < 10 ^ s.length := by
  intro s
  suffices H : ∀ (r : List UInt8), r.reverse.all isDig = true → uval r.reverse < 10 ^ r.length from by
    intro h
    have := H s.reverse (by simpa using h)
    simpa using this
  intro r
  induction r with
  | nil => intro _; simp [uval]
  | cons b r ih =>
    intro h
    rw [List.reverse_cons] at h ⊢
    simp only [List.all_append, List.all_cons, List.all_nil, Bool.and_true, Bool.and_eq_true, isDig, decide_eq_true_eq] at h
    have h1 := ih (by simpa [isDig] using h.1)
    rw [uval_snoc, List.length_cons, Nat.pow_succ]
    omega
theorem itoa_pos (u : Nat) : Go.Lib.itoa (u : Int) = decDigits u := Go.Lib.itoa_nonneg u

theorem parse_digits : ∀ {s : List UInt8} {acc : Nat}, s.all isDig = true → (acc + 1) * 10 ^ s.length ≤ 18446744073709551616 → Go.Lib.parseUint10 acc s = .ok (acc * 10 ^ s.length + uval s)
  | [], acc, _, _ => by simp [Go.Lib.parseUint10, uval]
  | b :: r, acc, h, hb => by
    simp only [List.all_cons, Bool.and_eq_true] at h
    have hd := h.1
    simp only [isDig, Bool.and_eq_true, decide_eq_true_eq] at hd
    have h10 : 1 ≤ 10 ^ r.length := Nat.pos_of_ne_zero (by simp)
    rw [List.length_cons, Nat.pow_succ] at hb
    have hb2 : (acc + 1) * 10 * 10 ^ r.length ≤ 18446744073709551616 := by
      rw [Nat.mul_assoc, Nat.mul_comm 10]; exact hb
    have hb3 : (acc * 10 + (b.toNat - 48) + 1) * 10 ^ r.length ≤ 18446744073709551616 :=
      Nat.le_trans (Nat.mul_le_mul_right _ (by omega)) hb2
    have hb4 : acc * 10 + (b.toNat - 48) + 1 ≤ 18446744073709551616 := Nat.le_trans (Nat.le_mul_of_pos_right _ h10) hb3
    have hb5 : (acc + 1) * 10 ≤ 18446744073709551616 := Nat.le_trans (Nat.le_mul_of_pos_right _ h10) hb2
    unfold Go.Lib.parseUint10
    rw [if_pos hd, if_neg (by omega), if_neg (by omega), parse_digits h.2 hb3]
    congr 1
    have e : uval (b :: r) = (b.toNat - 48) * 10 ^ r.length + uval r := by
      have key : ∀ (q : List UInt8) (a : Nat), q.foldl (fun n b => 10 * n + (b.toNat - 48)) a = a * 10 ^ q.length + uval q := by
        intro q
        induction q with
        | nil => intro a; simp [uval]
        | cons c q ih =>
          intro a
          rw [List.foldl_cons, ih, List.length_cons, Nat.pow_succ]
          have : uval (c :: q) = q.foldl (fun n b => 10 * n + (b.toNat - 48)) (10 * 0 + (c.toNat - 48)) := rfl
          rw [this, ih, Nat.add_mul, Nat.add_mul, Nat.add_assoc]
          congr 1
          · rw [Nat.mul_comm 10 a, Nat.mul_assoc, Nat.mul_comm 10]
          · simp
      have : uval (b :: r) = r.foldl (fun n b => 10 * n + (b.toNat - 48)) (10 * 0 + (b.toNat - 48)) := rfl
      rw [this, key]; simp
    rw [e, List.length_cons, Nat.pow_succ, Nat.add_mul, Nat.add_assoc]
    congr 1
    rw [Nat.mul_assoc, Nat.mul_comm 10]
theorem atoi_digits {s : List UInt8} (h : s.all isDig = true) (h0 : s ≠ []) (hl : s.length ≤ 18) : Go.Lib.atoiAll s = .ok (uval s : Int) := by
  match s, h0 with
  | c :: r, _ =>
    have hd := h
    simp only [List.all_cons, Bool.and_eq_true, isDig, decide_eq_true_eq] at hd
    have e2 : ¬ c.toNat = 45 := by omega
    have hlt := uval_lt h
    have hp : (10 : Nat) ^ (c :: r).length ≤ 10 ^ 18 := Nat.pow_le_pow_right (by omega) hl
    have hq := parse_digits (acc := 0) h (by rw [Nat.zero_add, Nat.one_mul]; exact Nat.le_trans hp (by decide))
    have hm : Go.Lib.parseMag (c :: r) = .ok (uval (c :: r)) := by
      unfold Go.Lib.parseMag
      rw [if_neg (by simp), hq]; simp
    have hb : uval (c :: r) < 1000000000000000000 := Nat.lt_of_lt_of_le hlt hp
    have e3 : ¬ (c.toNat = 43 ∨ False) := by rintro (h | h)
                                             · omega
                                             · exact h
    simp only [Go.Lib.atoiAll, e2, not_false_eq_true, true_and, false_and, if_false]
    rw [if_neg e3, hm]
    show (if 9223372036854775808 ≤ uval (c :: r) then Go.Lib.NumEnd.range else Go.Lib.NumEnd.ok (uval (c :: r) : Int)) = _
    rw [if_neg (Nat.not_le.mpr (Nat.lt_trans hb (by decide)))]
theorem atoi_back {s : List UInt8} : (atoiE s = false ∧ (0 ≤ atoiV s ∧ (atoiV s ≤ 1000000000 ∧ Go.Lib.itoa (atoiV s) = s))) ↔ uOk s = true := by
  constructor
  · rintro ⟨-, h1, h2, h3⟩
    obtain ⟨u, hu⟩ : ∃ u : Nat, atoiV s = u := ⟨(atoiV s).toNat, by omega⟩
    rw [hu, itoa_pos] at h3
    rw [hu] at h2
    have hv : uval s = u := by rw [← h3]; exact uval_decDigits u
    simp only [uOk, Bool.and_eq_true, decide_eq_true_eq]
    refine ⟨?_, ?_, by omega, by rw [hv, itoa_pos]; exact h3⟩
    · rw [← h3]; exact dec_len 9 u (by omega)
    · rw [← h3]; exact dec_dig u
  · intro h
    simp only [uOk, Bool.and_eq_true, decide_eq_true_eq] at h
    obtain ⟨h1, h2, h3, h4⟩ := h
    have h0 : s ≠ [] := by rw [← h4, itoa_pos]; exact dec_ne _
    have ha := atoi_digits h2 h0 (by omega)
    have hv : atoiV s = uval s := by simp [atoiV, ha]
    refine ⟨by simp [atoiE, ha], by omega, by omega, by rw [hv]; exact h4⟩
theorem atoi_num {s : List UInt8} (h : uOk s = true) : atoiV s = uval s := by
  simp only [uOk, Bool.and_eq_true, decide_eq_true_eq] at h
  obtain ⟨h1, h2, h3, h4⟩ := h
  have h0 : s ≠ [] := by rw [← h4, itoa_pos]; exact dec_ne _
  simp [atoiV, atoi_digits h2 h0 (by omega)]
end Go.Mw

namespace Go.Mw
noncomputable section
def impl_actWord_L : L := .seq (.rg []) (.seq (.seq (.rg []) (.block 0 (.seq (.seq (.rg [zk .eql 0 1]) (.ite (.v 1) (.seq (.rg []) (.ret [.k (.str [112, 105, 110])])) (.seq (.rg [zk .eql 0 2]) (.ite (.v 2) (.seq (.rg []) (.ret [.k (.str [112, 117, 108, 108])])) (.seq (.rg [zk .eql 0 3]) (.ite (.v 3) (.seq (.rg []) (.ret [.k (.str [98, 97, 99, 107])])) (.seq (.rg [zk .eql 0 4]) (.ite (.v 4) (.seq (.rg []) (.ret [.k (.str [119, 105, 110, 100])])) (.seq (.rg [zk .eql 0 5]) (.ite (.v 5) (.seq (.rg []) (.ret [.k (.str [112, 108, 97, 121])])) (.skip))))))))))) (.tup [])))) (.seq (.rg []) (.ret [.k (.str [99, 108, 111, 115, 101])])))
theorem impl_actWord_L_sh (Q : QT) (x0 : V) : shL impl_actWord_L Q [x0] = (
  P1 (.bin .eql) [x0, .int .i64 1] fun v0 =>
  ifB v0 (
    Q .ret [.str [112, 105, 110]]) (
    P1 (.bin .eql) [x0, .int .i64 2] fun v1 =>
    ifB v1 (
      Q .ret [.str [112, 117, 108, 108]]) (
      P1 (.bin .eql) [x0, .int .i64 3] fun v2 =>
      ifB v2 (
        Q .ret [.str [98, 97, 99, 107]]) (
        P1 (.bin .eql) [x0, .int .i64 4] fun v3 =>
        ifB v3 (
          Q .ret [.str [119, 105, 110, 100]]) (
          P1 (.bin .eql) [x0, .int .i64 5] fun v4 =>
          ifB v4 (
            Q .ret [.str [112, 108, 97, 121]]) (
            Q .ret [.str [99, 108, 111, 115, 101]])))))) := by kernel_rfl
def impl_actWord_S : Sig := ⟨[.val false [.sc]], [(false, [.sc])], F_actWord⟩
def impl_actWord_hs : List NF := [⟨[], [], [], 64⟩]

def impl_FormatInt_L : L := .seq (.rg []) (.seq (.rg [zc F_strconv_Itoa 1 [0]]) (.ret [.v 1]))
theorem impl_FormatInt_L_sh (Q : QT) (x0 : V) : shL impl_FormatInt_L Q [x0] = (
  P1 (.call F_strconv_Itoa 0 1) [x0] fun v0 =>
  Q .ret [v0]) := by kernel_rfl
def impl_FormatInt_S : Sig := ⟨[.val false [.sc]], [(false, [.sc])], F_FormatInt⟩
def impl_FormatInt_hs : List NF := []

def impl_actNumbers_L : L := .seq (.rg []) (.seq (.seq (.rg []) (.block 0 (.seq (.seq (.rg [zk .eql 0 1]) (.ite (.v 1) (.seq (.rg []) (.ret [.k (.int .i64 2)])) (.seq (.seq (.rg [zk .eql 0 2]) (.ite (.v 2) (.seq (.skip) (zt [2])) (.seq (.rg [zk .eql 0 4]) (zt [3])))) (.ite (.v 0) (.seq (.rg []) (.ret [.k (.int .i64 1)])) (.skip))))) (.tup [])))) (.seq (.rg []) (.ret [.k (.int .i64 0)])))
theorem impl_actNumbers_L_sh (Q : QT) (x0 : V) : shL impl_actNumbers_L Q [x0] = (
  P1 (.bin .eql) [x0, .int .i64 1] fun v0 =>
  ifB v0 (
    Q .ret [.int .i64 2]) (
    P1 (.bin .eql) [x0, .int .i64 2] fun v1 =>
    ifB v1 (
      Q .ret [.int .i64 1]) (
      P1 (.bin .eql) [x0, .int .i64 4] fun v2 =>
      ifB v2 (
        Q .ret [.int .i64 1]) (
        Q .ret [.int .i64 0])))) := by kernel_rfl
def impl_actNumbers_S : Sig := ⟨[.val false [.sc]], [(false, [.sc])], F_actNumbers⟩
def impl_actNumbers_hs : List NF := [⟨[], [], [], 64⟩, ⟨[(6, zs)], [], [], 64⟩]

def impl_FormatAct_L : L := .seq (.rg []) (.seq (.seq (.rg [zc F_ActOk 1 [0, 1, 2], zn 3]) (.ite (.v 4) (.seq (.rg []) (.ret [.k (.str []), .k (.bool false)])) (.skip))) (.seq (.rg [zc F_actWord 1 [0], zc F_FormatInt 1 [1], zc F_FormatInt 1 [2], ⟨[], .lst [.sc] false 3, [.v 5, .v 6, .v 7], 1⟩]) (.seq (.rg [zc F_actNumbers 1 [0], ⟨[], .bin .add, [.k (.int .i64 1), .v 9], 1⟩, ⟨[], .lsub [.sc], [.v 8, .k (.int .i64 0), .v 10], 1⟩, ⟨[], .call F_strings_Join 0 1, [.v 11, .k (.str [32])], 1⟩]) (.ret [.v 12, .k (.bool true)]))))
theorem impl_FormatAct_L_sh (Q : QT) (x0 x1 x2 : V) : shL impl_FormatAct_L Q [x0, x1, x2] = (
  P1 (.call F_ActOk 0 1) [x0, x1, x2] fun v0 =>
  P1 (.un .not) [v0] fun v1 =>
  ifB v1 (
    Q .ret [.str [], .bool false]) (
    P1 (.call F_actWord 0 1) [x0] fun v2 =>
    P1 (.call F_FormatInt 0 1) [x1] fun v3 =>
    P1 (.call F_FormatInt 0 1) [x2] fun v4 =>
    P1 (.lst [.sc] false 3) [v2, v3, v4] fun v5 =>
    P1 (.call F_actNumbers 0 1) [x0] fun v6 =>
    P1 (.bin .add) [.int .i64 1, v6] fun v7 =>
    P1 (.lsub [.sc]) [v5, .int .i64 0, v7] fun v8 =>
    P1 (.call F_strings_Join 0 1) [v8, .str [32]] fun v9 =>
    Q .ret [v9, .bool true])) := by kernel_rfl
def impl_FormatAct_S : Sig := ⟨[.val true [.sc, .sc, .sc]], [(false, [.sc]), (false, [.sc])], F_FormatAct⟩
def impl_FormatAct_hs : List NF := []

def impl_ScriptText_b0 : L := .seq (.seq (.rg [zb .lss 3 2]) (.seq (.ite (.v 4) (.skip) (.seq (zt [0]) (.exit 0))) (.seq (.block 1 (.seq (.seq (.rg [⟨[], .idx [.sc, .sc, .sc], [.v 1, .v 3], 3⟩]) (.seq (.rg [zc F_FormatAct 2 [5, 6, 7]]) (.seq (.seq (.rg [zn 9]) (.ite (.v 10) (.seq (.rg []) (.ret [.k (.str []), .k (.bool false)])) (.skip))) (.rg [⟨[], .bin .add, [.v 8, .k (.str [10])], 1⟩, zb .add 0 11])))) (zt [12, 1, 2, 3]))) (.rg [zk .add 3 1])))) (zt [0, 1, 2, 4])
theorem impl_ScriptText_b0_sh (Q : QT) (x0 x1 x2 x3 : V) : shL impl_ScriptText_b0 Q [x0, x1, x2, x3] = (
  P1 (.bin .lss) [x3, x2] fun v0 =>
  ifB v0 (
    P3 (.idx [.sc, .sc, .sc]) [x1, x3] fun v1 v2 v3 =>
    P2 (.call F_FormatAct 0 2) [v1, v2, v3] fun v4 v5 =>
    P1 (.un .not) [v5] fun v6 =>
    ifB v6 (
      Q .ret [.str [], .bool false]) (
      P1 (.bin .add) [v4, .str [10]] fun v7 =>
      P1 (.bin .add) [x0, v7] fun v8 =>
      P1 (.bin .add) [x3, .int .i64 1] fun v9 =>
      Q .normal [v8, x1, x2, v9])) (
    Q (.exit 0) [x0])) := by kernel_rfl

def impl_ScriptText_r1 : L := .seq (.rg []) (.ret [.v 0, .k (.bool true)])
theorem impl_ScriptText_r1_sh (Q : QT) (x0 : V) : shL impl_ScriptText_r1 Q [x0] = (
  Q .ret [x0, .bool true]) := by kernel_rfl

def impl_ScriptText_L : L := .seq (.rg []) (.seq (.seq (.rg [zl 0, zk .gtr 1 40]) (.ite (.v 2) (.seq (.rg []) (.ret [.k (.str []), .k (.bool false)])) (.skip))) (.seq (.rg []) (.seq (.seq (.rg [zl 0]) (.block 0 (.seq (.tup [.k (.str []), .v 0, .v 3, .k (.int .i64 0)]) (.loop (impl_ScriptText_b0))))) (impl_ScriptText_r1))))
theorem impl_ScriptText_L_sh (Q : QT) (x0 : V) : shL impl_ScriptText_L Q [x0] = (
  P1 (.len) [x0] fun v0 =>
  P1 (.bin .gtr) [v0, .int .i64 40] fun v1 =>
  ifB v1 (
    Q .ret [.str [], .bool false]) (
    P1 (.len) [x0] fun v2 =>
    shL (.loop impl_ScriptText_b0) (qB 0 (qS (shL impl_ScriptText_r1 Q) Q)) [.str [], x0, v2, .int .i64 0])) := by kernel_rfl
def impl_ScriptText_S : Sig := ⟨[.val false [.sl [.sc, .sc, .sc]]], [(false, [.sc]), (false, [.sc])], F_ScriptText⟩
def impl_ScriptText_hs : List NF := [⟨[(4, zs)], [], [], 64⟩, ⟨[(4, zs), (12, .sc false [.ro [.sc, .sc, .sc]]), (13, zs), (14, zs)], [], [], 64⟩, ⟨[(4, zs), (12, .sc false [.ro [.sc, .sc, .sc]]), (13, zs), (14, zs)], [], [], 64⟩]

end
end Go.Mw

namespace Go.Mw
open Go.Lib (decDigits itoa)
section
variable {k : V → Prop}
@[simp] theorem P1_addS {x y : List UInt8} : P1 (.bin .add) [.str x, .str y] k ↔ x.length + y.length ≤ 1073741824 ∧ k (.str (x ++ y)) := P1_opt (by simp [Prim.run, binV, binS]) k
@[simp] theorem P1_neqS {x y : List UInt8} : P1 (.bin .neq) [.str x, .str y] k ↔ k (.bool (!(x == y))) := P1_of (by simp [Prim.run, binV, binS]) k
@[simp] theorem P1_eqlS {x y : List UInt8} : P1 (.bin .eql) [.str x, .str y] k ↔ k (.bool (x == y)) := P1_of (by simp [Prim.run, binV, binS]) k
@[simp] theorem P1_lstY1 {b : UInt8} : P1 (.lst [.sc] false 1) [.int .u8 b.toNat] k ↔ k (vL I1 vY [b]) := P1_of (by simp [Prim.run, aksOk, akOk, chunk, V.pack, vL, vY]) k
@[simp] theorem P1_lstS3 {a b c : List UInt8} : P1 (.lst [.sc] false 3) [.str a, .str b, .str c] k ↔ k (vL I1 vS [a, b, c]) := P1_of (by simp [Prim.run, aksOk, akOk, chunk, V.pack, vL, vS]) k
@[simp] theorem P1_lstS7 {a b c d e f g : List UInt8} : P1 (.lst [.sc] false 7) [.str a, .str b, .str c, .str d, .str e, .str f, .str g] k ↔ k (vL I1 vS [a, b, c, d, e, f, g]) := P1_of (by simp [Prim.run, aksOk, akOk, chunk, V.pack, vL, vS]) k
@[simp] theorem P1_lstI7 {a b c d e f g : Int} : P1 (.lst [.sc] false 7) [.int .i64 a, .int .i64 b, .int .i64 c, .int .i64 d, .int .i64 e, .int .i64 f, .int .i64 g] k ↔ k (vL I1 v1 [a, b, c, d, e, f, g]) := P1_of (by simp [Prim.run, aksOk, akOk, chunk, V.pack, vL, v1]) k
theorem bytesV_map : ∀ l : List UInt8, bytesV (l.map vY) = some l
  | [] => rfl
  | b :: r => by
    have ih := bytesV_map r
    simp only [List.map_cons, vY, bytesV, Option.map_eq_some_iff]
    exact ⟨r, ih, by simp⟩
@[simp] theorem P1_b2s {l : List UInt8} : P1 .b2s [vL I1 vY l] k ↔ k (.str l) := P1_of (by simp [Prim.run, vL, bytesV_map]) k
end
theorem impl_FormatInt_ok : ∀ ds outs, F_FormatInt ds = some outs → shL impl_FormatInt_L (qRet outs) ds := F_FormatInt_elim fun n hp => by
  rw [impl_FormatInt_L_sh, p_strconv_Itoa hp]
  simp
theorem impl_actWord_ok : ∀ ds outs, F_actWord ds = some outs → shL impl_actWord_L (qRet outs) ds := F_actWord_elim fun n => by
  rw [impl_actWord_L_sh]
  simp only [P1_eql, ifB_bool, beq_iff_eq, beq_eq_false_iff_ne, qRet_ret, actWord]
  refine ⟨fun h => by simp [h], fun h1 => ⟨fun h => by simp [h], fun h2 => ⟨fun h => by simp [h], fun h3 => ⟨fun h => by simp [h], fun h4 => ⟨fun h => by simp [h], fun h5 => ?_⟩⟩⟩⟩⟩
  rw [if_neg h1, if_neg h2, if_neg h3, if_neg h4, if_neg h5]
theorem impl_actNumbers_ok : ∀ ds outs, F_actNumbers ds = some outs → shL impl_actNumbers_L (qRet outs) ds := F_actNumbers_elim fun n => by
  rw [impl_actNumbers_L_sh]
  simp only [P1_eql, ifB_bool, beq_iff_eq, beq_eq_false_iff_ne, qRet_ret, actNums]
  refine ⟨fun h => by simp [h], fun h1 => ⟨fun h => by simp [h], fun h2 => ⟨fun h => by simp [h], fun h3 => ?_⟩⟩⟩
  simp [h1, h2, h3]

theorem actOk_kind {a : T3} (h : actOk a = true) : 1 ≤ a.a ∧ a.a ≤ 6 ∧ (0 ≤ a.b ∧ a.b ≤ 100) ∧ 0 ≤ a.c ∧ a.c ≤ 100 := by
  unfold actOk within at h
  split at h
  · simp at h; omega
  · split at h
    · simp at h; omega
    · split at h
      · simp at h; omega
      · split at h
        · simp at h; omega
        · cases h
theorem itoa_len {n : Int} (h0 : 0 ≤ n) (h1 : n ≤ 100) : (itoa n).length ≤ 21 := Go.Lib.itoa_length_le n (by omega) (by omega)
theorem actWord_len (n : Int) : (actWord n).length ≤ 5 := by
  unfold actWord
  split
  · simp
  · split
    · simp
    · split
      · simp
      · split
        · simp
        · split <;> simp
theorem actNums_le (n : Int) : actNums n ≤ 2 := by
  unfold actNums
  split
  · omega
  · split <;> omega
def fmtTo (a : T3) (k : Nat) : List UInt8 := actWord a.a ++ (if k = 0 then [] else if k = 1 then 32 :: itoa a.b else 32 :: (itoa a.b ++ 32 :: itoa a.c))
theorem fmt_to {a : T3} (h : actOk a = true) : fmtAct a = fmtTo a (actNums a.a) := by
  unfold fmtAct fmtTo
  rw [if_pos h]
  congr 1
  unfold actNums
  split
  · rfl
  · split <;> rfl
theorem impl_FormatAct_ok : ∀ ds outs, F_FormatAct ds = some outs → shL impl_FormatAct_L (qRet outs) ds := F_FormatAct_elim fun a => by
  rw [impl_FormatAct_L_sh]
  simp only [p_ActOk, P1_not, ifB_bool, Bool.not_eq_true', Bool.not_eq_false', qRet_ret]
  refine ⟨fun h => by simp [fmtAct, h], fun h => ?_⟩
  have h : actOk a = true := h
  obtain ⟨k1, k6, ⟨b0, b1⟩, c0, c1⟩ := actOk_kind h
  have hl2 := actNums_le a.a
  have lw := actWord_len a.a
  have lb := itoa_len b0 b1
  have lc := itoa_len c0 c1
  rw [p_actWord, p_FormatInt (by omega), p_FormatInt (by omega)]
  simp only [P1_lstS3, p_actNumbers, P1_add]
  have w1 : IntKind.i64.wrap (1 + (actNums a.a : Int)) = ((1 + actNums a.a : Nat) : Int) := by rw [wrap_id (by omega) (by omega)]; omega
  rw [w1, P1_lsubS_2]
  refine ⟨⟨by omega, by omega, by simp only [List.length_cons, List.length_nil]; omega⟩, ?_⟩
  have ej : Go.Lib.join (([actWord a.a, itoa a.b, itoa a.c].take (1 + actNums a.a))) [32] = fmtAct a := by
    rw [fmt_to h]
    obtain e | e | e : actNums a.a = 0 ∨ actNums a.a = 1 ∨ actNums a.a = 2 := by omega
    all_goals rw [e]; simp [fmtTo, Go.Lib.join, List.intercalate, List.intersperse]
  have el : (fmtAct a).length ≤ 140737488355328 := by
    rw [fmt_to h]
    unfold fmtTo
    split
    · simp; omega
    · split
      · simp; omega
      · simp; omega
  simp only [Int.toNat_natCast, Int.toNat_zero, List.drop_zero]
  rw [p_strings_Join ⟨by simp; omega, by rw [ej]; exact el⟩, ej]
  simp [h]
end Go.Mw

namespace Go.Mw
open Go.Lib (decDigits itoa)
@[simp] theorem P1_apps {l y : List UInt8} {b : Nat} {k : V → Prop} : P1 (.apps b) [vL I1 vY l, .str y] k ↔ ((l.length + y.length) * b ≤ 140737488355328 ∧ l.length + y.length ≤ 140737488355328) ∧ k (vL I1 vY (l ++ y)) :=
  P1_opt (by simp [Prim.run, vL, I1, show AK.eqs [.sc] [.sc] = true from rfl]; rfl) k
@[simp] theorem P1_apps0 {y : List UInt8} {b : Nat} {k : V → Prop} : P1 (.apps b) [.list [.sc] [], .str y] k ↔ ((([] : List UInt8).length + y.length) * b ≤ 140737488355328 ∧ ([] : List UInt8).length + y.length ≤ 140737488355328) ∧ k (vL I1 vY ([] ++ y)) := P1_apps (l := [])
theorem fmt_len (a : T3) : (fmtAct a).length ≤ 49 := by
  by_cases h : actOk a = true
  · obtain ⟨k1, k6, ⟨b0, b1⟩, c0, c1⟩ := actOk_kind h
    have lw := actWord_len a.a
    have lb := itoa_len b0 b1
    have lc := itoa_len c0 c1
    rw [fmt_to h]
    unfold fmtTo
    split
    · simp; omega
    · split
      · simp; omega
      · simp; omega
  · unfold fmtAct; rw [if_neg h]; simp
theorem scriptTo_len (l : List T3) : ∀ k, (scriptTo l k).length ≤ 50 * k
  | 0 => by simp [scriptTo]
  | k + 1 => by
    have ih := scriptTo_len l k
    unfold scriptTo
    split
    · rename_i a _
      have := fmt_len a
      simp only [List.length_append, List.length_singleton]; omega
    · omega
theorem scriptTo_succ {l : List T3} {k : Nat} (h : k < l.length) : scriptTo l (k + 1) = scriptTo l k ++ (fmtAct l[k] ++ [10]) := by
  rw [scriptTo, List.getElem?_eq_getElem h]
theorem script_no {l : List T3} (h : scriptOk l = false) : script l = [] := by simp [script, h]
theorem scriptOk_bad {l : List T3} {k : Nat} (h : k < l.length) (h2 : actOk l[k] = false) : scriptOk l = false := by
  have : l.all actOk = false := by
    rw [List.all_eq_false]
    exact ⟨l[k], List.getElem_mem h, by simp [h2]⟩
  simp [scriptOk, this]
theorem scriptOk_long {l : List T3} (h : 40 < l.length) : scriptOk l = false := by
  simp [scriptOk]; omega

theorem impl_ScriptText_ok : ∀ ds outs, F_ScriptText ds = some outs → shL impl_ScriptText_L (qRet outs) ds := F_ScriptText_elim fun l hp => by
  rw [impl_ScriptText_L_sh]
  simp only [P1_len, P1_gtr, ifB_bool, decide_eq_true_eq, decide_eq_false_iff_not]
  refine ⟨fun h => ?_, fun h => ?_⟩
  · have h4 := scriptOk_long (l := l) (by omega)
    simp [script_no h4, h4]
  refine loop_upto l.length (fun k => [.str (scriptTo l k), vL I3 v3 l, .int .i64 l.length, .int .i64 k]) (fun i j _ _ e => by simp at e; omega) (fun k => ∀ a ∈ l.take k, actOk a = true) (by simp [scriptTo]) (by simp) ?_
  intro k hk ha
  rw [impl_ScriptText_b0_sh]
  simp only [P1_lss, ifB_bool, decide_eq_true_eq, decide_eq_false_iff_not]
  refine ⟨fun h => ?_, fun h => ?_⟩
  · have h2 : k < l.length := by omega
    simp only [P3_idxI, Int.toNat_natCast, List.getElem?_eq_getElem h2, Option.some.injEq, exists_eq_left', p_FormatAct, P1_not, ifB_bool, Bool.not_eq_true', Bool.not_eq_false']
    refine ⟨by omega, fun h3 => ?_, fun h3 => ?_⟩
    · have h4 := scriptOk_bad h2 h3
      simp [script_no h4, h4]
    · have hl := scriptTo_len l k
      have hf : (fmtAct ⟨l[k].a, l[k].b, l[k].c⟩).length ≤ 49 := fmt_len l[k]
      simp only [P1_addS, P1_add, List.length_append, List.length_singleton, qS_normal]
      refine ⟨by omega, by omega, h2, by rw [scriptTo_succ h2, wrap_id (by omega) (by omega)]; rfl, ?_⟩
      rw [all_take_succ h2]
      exact ⟨ha, h3⟩
  · have e : k = l.length := by omega
    subst e
    rw [List.take_length] at ha
    have h4 : scriptOk l = true := by
      simp only [scriptOk, Bool.and_eq_true, decide_eq_true_eq, List.all_eq_true]
      exact ⟨by omega, ha⟩
    simp only [qS_exit, qB_exit, if_true, qS_normal, impl_ScriptText_r1_sh, qRet_ret]
    simp [script, h4]
end Go.Mw

namespace Go.Mw
def gridTo (p : List T2) (y : Int) (n : Nat) : Nat → List UInt8
  | 0 => List.replicate n 46
  | k + 1 => match p[k]? with
    | some q => if q.a = y then (gridTo p y n k).set q.b.toNat 120 else gridTo p y n k
    | none => gridTo p y n k
def gridRow (c : Cyl) (y : Nat) : List UInt8 := gridTo c.p y c.s.toNat c.p.length
def gridUp (c : Cyl) (k : Nat) : List (List UInt8) := (List.range k).map (gridRow c)
def gridText (c : Cyl) : List (List UInt8) := if cylOk c then gridUp c c.t.toNat else []
def E_GridText (x : Cyl) : List V := [.int .i64 x.s, .int .i64 x.t, vL I2 v2 x.p]
noncomputable def F_GridText : List V → Option (List V) := mkF E_GridText (fun x => x.p.length ≤ 1048576) (fun x => [vL I1 vS (gridText x)])
theorem F_GridText_inj : ∀ x y, E_GridText x = E_GridText y → x = y := by
  rintro ⟨xs, xt, xp⟩ ⟨xs', xt', xp'⟩ h
  simpa [E_GridText] using h
theorem F_GridText_elim {P : List V → List V → Prop} (h : ∀ (x : Cyl), (x.p.length ≤ 1048576) → P [.int .i64 x.s, .int .i64 x.t, vL I2 v2 x.p] [vL I1 vS (gridText x)]) : ∀ ds outs, F_GridText ds = some outs → P ds outs := by
  intro ds outs hh
  obtain ⟨x, rfl, hp, rfl⟩ := mkF_inv hh
  exact h x hp
theorem p_GridText {x_s : Int} {x_t : Int} {x_p : List T2} {nr_ : Nat} {kk_ : V → Prop} (hp : (⟨x_s, x_t, x_p⟩ : Cyl).p.length ≤ 1048576) : P1 (.call F_GridText 0 nr_) [.int .i64 x_s, .int .i64 x_t, vL I2 v2 x_p] kk_ ↔ kk_ (vL I1 vS (gridText (⟨x_s, x_t, x_p⟩ : Cyl))) :=
  P1_callF (by unfold F_GridText; exact mkF_eq F_GridText_inj ((⟨x_s, x_t, x_p⟩ : Cyl)) hp)

def sumTurns (w : Shop) : List UInt8 := [116, 117, 114, 110, 115, 32] ++ Go.Lib.itoa w.u
def sumMoney (w : Shop) : List UInt8 := [109, 111, 110, 101, 121, 32] ++ Go.Lib.itoa w.y
def sumPlayed (w : Shop) : List UInt8 := [112, 108, 97, 121, 101, 100, 32] ++ Go.Lib.itoa w.d
def fmtShop (w : Shop) : List (List UInt8) := if shopOk w then gridText ⟨w.s, w.t, w.p⟩ ++ [sumTurns w, sumMoney w, sumPlayed w] else []
def E_FormatWorkshop (x : Shop) : List V := [.int .i64 x.s, .int .i64 x.t, vL I2 v2 x.p, vL IL2 vLL2 x.o, vL I1 v1 x.c, .int .i64 x.u, .int .i64 x.m, .int .i64 x.f, .int .i64 x.y, .int .i64 x.d]
noncomputable def F_FormatWorkshop : List V → Option (List V) := mkF E_FormatWorkshop (fun x => x.p.length ≤ 1048576 ∧ fitLL x.o ∧ x.c.length ≤ 1048576) (fun x => [vL I1 vS (fmtShop x)])
theorem F_FormatWorkshop_inj : ∀ x y, E_FormatWorkshop x = E_FormatWorkshop y → x = y := by
  rintro ⟨xs, xt, xp, xo, xc, xu, xm, xf, xy, xd⟩ ⟨xs', xt', xp', xo', xc', xu', xm', xf', xy', xd'⟩ h
  simpa [E_FormatWorkshop] using h
theorem F_FormatWorkshop_elim {P : List V → List V → Prop} (h : ∀ (x : Shop), (x.p.length ≤ 1048576 ∧ fitLL x.o ∧ x.c.length ≤ 1048576) → P [.int .i64 x.s, .int .i64 x.t, vL I2 v2 x.p, vL IL2 vLL2 x.o, vL I1 v1 x.c, .int .i64 x.u, .int .i64 x.m, .int .i64 x.f, .int .i64 x.y, .int .i64 x.d] [vL I1 vS (fmtShop x)]) : ∀ ds outs, F_FormatWorkshop ds = some outs → P ds outs := by
  intro ds outs hh
  obtain ⟨x, rfl, hp, rfl⟩ := mkF_inv hh
  exact h x hp
theorem p_FormatWorkshop {x_s : Int} {x_t : Int} {x_p : List T2} {x_o : List (List T2)} {x_c : List Int} {x_u : Int} {x_m : Int} {x_f : Int} {x_y : Int} {x_d : Int} {nr_ : Nat} {kk_ : V → Prop} (hp : (⟨x_s, x_t, x_p, x_o, x_c, x_u, x_m, x_f, x_y, x_d⟩ : Shop).p.length ≤ 1048576 ∧ fitLL (⟨x_s, x_t, x_p, x_o, x_c, x_u, x_m, x_f, x_y, x_d⟩ : Shop).o ∧ (⟨x_s, x_t, x_p, x_o, x_c, x_u, x_m, x_f, x_y, x_d⟩ : Shop).c.length ≤ 1048576) : P1 (.call F_FormatWorkshop 0 nr_) [.int .i64 x_s, .int .i64 x_t, vL I2 v2 x_p, vL IL2 vLL2 x_o, vL I1 v1 x_c, .int .i64 x_u, .int .i64 x_m, .int .i64 x_f, .int .i64 x_y, .int .i64 x_d] kk_ ↔ kk_ (vL I1 vS (fmtShop (⟨x_s, x_t, x_p, x_o, x_c, x_u, x_m, x_f, x_y, x_d⟩ : Shop))) :=
  P1_callF (by unfold F_FormatWorkshop; exact mkF_eq F_FormatWorkshop_inj ((⟨x_s, x_t, x_p, x_o, x_c, x_u, x_m, x_f, x_y, x_d⟩ : Shop)) hp)


def markT (n : Int) : List UInt8 := if n ≤ 0 then [109, 48] else 109 :: Go.Lib.decDigits n.toNat
def markLS (n : Nat) (k : Int) : List (List UInt8) := (List.range n).map fun i : Nat => markT (k + (i : Int))
end Go.Mw

namespace Go.Mw
noncomputable section
def impl_GridText_b1 : L := .seq (.seq (.rg [zb .lss 3 2]) (.seq (.ite (.v 9) (.skip) (.seq (zt [0, 4, 5, 6, 7, 8]) (.exit 2))) (.seq (.block 3 (.seq (.seq (.rg [zj 1 3]) (.seq (.rg [zb .eql 10 0]) (.ite (.v 12) (.seq (.rg [zi 5 11, ⟨[], .set [.sc] 0, [.v 5, .v 11, .k (.int .u8 120)], 1⟩]) (zt [0, 1, 2, 3, 4, 14, 6, 7, 8])) (.seq (.skip) (zt [0, 1, 2, 3, 4, 5, 6, 7, 8]))))) (zt [0, 1, 2, 3, 4, 5, 6, 7, 8]))) (.rg [zk .add 3 1])))) (zt [0, 1, 2, 9, 4, 5, 6, 7, 8])
theorem impl_GridText_b1_sh (Q : QT) (x0 x1 x2 x3 x4 x5 x6 x7 x8 : V) : shL impl_GridText_b1 Q [x0, x1, x2, x3, x4, x5, x6, x7, x8] = (
  P1 (.bin .lss) [x3, x2] fun v0 =>
  ifB v0 (
    P2 (.idx [.sc, .sc]) [x1, x3] fun v1 v2 =>
    P1 (.bin .eql) [v1, x0] fun v3 =>
    ifB v3 (
      P1 (.idx [.sc]) [x5, v2] fun _ =>
      P1 (.set [.sc] 0) [x5, v2, .int .u8 120] fun v5 =>
      P1 (.bin .add) [x3, .int .i64 1] fun v6 =>
      Q .normal [x0, x1, x2, v6, x4, v5, x6, x7, x8]) (
      P1 (.bin .add) [x3, .int .i64 1] fun v7 =>
      Q .normal [x0, x1, x2, v7, x4, x5, x6, x7, x8])) (
    Q (.exit 2) [x0, x4, x5, x6, x7, x8])) := by kernel_rfl

def impl_GridText_r2 : L := .rg [⟨[], .b2s, [.v 2], 1⟩, ⟨[], .lst [.sc] false 1, [.v 6], 1⟩, ⟨[], .app [.sc] 16, [.v 1, .v 7], 1⟩]
theorem impl_GridText_r2_sh (Q : QT) (x0 x1 x2 x3 x4 x5 : V) : shL impl_GridText_r2 Q [x0, x1, x2, x3, x4, x5] = (
  P1 (.b2s) [x2] fun v0 =>
  P1 (.lst [.sc] false 1) [v0] fun v1 =>
  P1 (.app [.sc] 16) [x1, v1] fun v2 =>
  Q .normal [x0, x1, x2, x3, x4, x5, v0, v1, v2]) := by kernel_rfl

def impl_GridText_r3 : L := zt [0, 8, 3, 4, 5]
theorem impl_GridText_r3_sh (Q : QT) (x0 x1 x2 x3 x4 x5 x6 x7 x8 : V) : shL impl_GridText_r3 Q [x0, x1, x2, x3, x4, x5, x6, x7, x8] = (
  Q .normal [x0, x8, x3, x4, x5]) := by kernel_rfl

def impl_GridText_r4 : L := .rg [zk .add 0 1]
theorem impl_GridText_r4_sh (Q : QT) (x0 x1 x2 x3 x4 : V) : shL impl_GridText_r4 Q [x0, x1, x2, x3, x4] = (
  P1 (.bin .add) [x0, .int .i64 1] fun v0 =>
  Q .normal [x0, x1, x2, x3, x4, v0]) := by kernel_rfl

def impl_GridText_r5 : L := zt [5, 1, 2, 3, 4]
theorem impl_GridText_r5_sh (Q : QT) (x0 x1 x2 x3 x4 x5 : V) : shL impl_GridText_r5 Q [x0, x1, x2, x3, x4, x5] = (
  Q .normal [x5, x1, x2, x3, x4]) := by kernel_rfl

def impl_GridText_b0 : L := .seq (.seq (.seq (.rg [zb .lss 0 3]) (.ite (.v 5) (.skip) (.seq (zt [1]) (.exit 0)))) (.seq (.block 1 (.seq (.seq (.rg [⟨[], .call F_strings_Repeat 0 1, [.k (.str [46]), .v 2], 1⟩, ⟨[], .s2b 1, [.v 6], 1⟩]) (.seq (.seq (.rg [zl 4]) (.block 2 (.seq (.tup [.v 0, .v 4, .v 8, .k (.int .i64 0), .v 1, .v 7, .v 2, .v 3, .v 4]) (.loop (impl_GridText_b1))))) (impl_GridText_r2))) (impl_GridText_r3))) (impl_GridText_r4))) (impl_GridText_r5)
theorem impl_GridText_b0_sh (Q : QT) (x0 x1 x2 x3 x4 : V) : shL impl_GridText_b0 Q [x0, x1, x2, x3, x4] = (
  P1 (.bin .lss) [x0, x3] fun v0 =>
  ifB v0 (
    P1 (.call F_strings_Repeat 0 1) [.str [46], x2] fun v1 =>
    P1 (.s2b 1) [v1] fun v2 =>
    P1 (.len) [x4] fun v3 =>
    shL (.loop impl_GridText_b1) (qB 2 (qS (shL impl_GridText_r2 (qS (shL impl_GridText_r3 (qB 1 (qS (shL impl_GridText_r4 (qS (shL impl_GridText_r5 Q) Q)) (qS (shL impl_GridText_r5 Q) Q)))) (qB 1 (qS (shL impl_GridText_r4 (qS (shL impl_GridText_r5 Q) Q)) (qS (shL impl_GridText_r5 Q) Q))))) (qS (shL impl_GridText_r3 (qB 1 (qS (shL impl_GridText_r4 (qS (shL impl_GridText_r5 Q) Q)) (qS (shL impl_GridText_r5 Q) Q)))) (qB 1 (qS (shL impl_GridText_r4 (qS (shL impl_GridText_r5 Q) Q)) (qS (shL impl_GridText_r5 Q) Q)))))) [x0, x4, v3, .int .i64 0, x1, v2, x2, x3, x4]) (
    Q (.exit 0) [x1])) := by kernel_rfl

def impl_GridText_r6 : L := .seq (.rg []) (.ret [.v 0])
theorem impl_GridText_r6_sh (Q : QT) (x0 : V) : shL impl_GridText_r6 Q [x0] = (
  Q .ret [x0]) := by kernel_rfl

def impl_GridText_L : L := .seq (.rg []) (.seq (.seq (.rg [zc F_CylinderOk 1 [0, 1, 2], zn 3]) (.ite (.v 4) (.seq (.rg []) (.ret [.k (.list [.sc] [])])) (.skip))) (.seq (.rg [⟨[], .lst [.sc] false 0, [], 1⟩]) (.seq (.seq (.rg []) (.block 0 (.seq (.tup [.k (.int .i64 0), .v 5, .v 0, .v 1, .v 2]) (.loop (impl_GridText_b0))))) (impl_GridText_r6))))
theorem impl_GridText_L_sh (Q : QT) (x0 x1 x2 : V) : shL impl_GridText_L Q [x0, x1, x2] = (
  P1 (.call F_CylinderOk 0 1) [x0, x1, x2] fun v0 =>
  P1 (.un .not) [v0] fun v1 =>
  ifB v1 (
    Q .ret [.list [.sc] []]) (
    P1 (.lst [.sc] false 0) [] fun v2 =>
    shL (.loop impl_GridText_b0) (qB 0 (qS (shL impl_GridText_r6 Q) Q)) [.int .i64 0, v2, x0, x1, x2])) := by kernel_rfl
def impl_GridText_S : Sig := ⟨[.val true [.sc, .sc, .sl [.sc, .sc]]], [(false, [.sl [.sc]])], F_GridText⟩
def impl_GridText_hs : List NF := [⟨[(3, zo 64)], [(64, true, [.sc])], [], 65⟩, ⟨[(1, .ptr 64 0), (3, zo 65), (4, zs)], [(65, true, [.sc])], [(64, [.sc, .sc, .ro [.sc, .sc]])], 66⟩, ⟨[(1, .ptr 64 0), (3, zo 65), (4, zs)], [(65, true, [.sc])], [(64, [.sc, .sc, .ro [.sc, .sc]])], 66⟩, ⟨[(1, .ptr 64 0), (3, zo 65), (4, zs), (5, zo 66)], [(65, true, [.sc]), (66, true, [.sc])], [(64, [.sc, .sc, .ro [.sc, .sc]])], 67⟩, ⟨[(1, .ptr 64 0), (3, zo 65), (4, zs), (5, zo 66), (23, zq), (24, zs), (25, zs)], [(65, true, [.sc]), (66, true, [.sc])], [(64, [.sc, .sc, .ro [.sc, .sc]])], 67⟩, ⟨[(1, .ptr 64 0), (3, zo 65), (4, zs), (5, zo 66), (23, zq), (24, zs), (25, zs)], [(65, true, [.sc]), (66, true, [.sc])], [(64, [.sc, .sc, .ro [.sc, .sc]])], 67⟩, ⟨[(1, .ptr 64 0), (3, zo 65), (4, zs), (5, zo 66), (23, zq), (24, zs), (25, zs)], [(65, true, [.sc]), (66, true, [.sc])], [(64, [.sc, .sc, .ro [.sc, .sc]])], 67⟩]

def impl_FormatWorkshop_L : L := .seq (.rg []) (.seq (.seq (.rg [zc F_WorkshopOk 1 [0, 1, 2, 3, 4, 5, 6, 7, 8, 9], zn 10]) (.ite (.v 11) (.seq (.rg []) (.ret [.k (.list [.sc] [])])) (.skip))) (.seq (.rg [zc F_GridText 1 [0, 1, 2]]) (.seq (.rg [zc F_FormatInt 1 [5], ⟨[], .bin .add, [.k (.str [116, 117, 114, 110, 115, 32]), .v 13], 1⟩, zc F_FormatInt 1 [8], ⟨[], .bin .add, [.k (.str [109, 111, 110, 101, 121, 32]), .v 15], 1⟩, ⟨[], .lst [.sc] false 2, [.v 14, .v 16], 1⟩, ⟨[], .app [.sc] 16, [.v 12, .v 17], 1⟩]) (.seq (.rg [zc F_FormatInt 1 [9], ⟨[], .bin .add, [.k (.str [112, 108, 97, 121, 101, 100, 32]), .v 19], 1⟩, ⟨[], .lst [.sc] false 1, [.v 20], 1⟩, ⟨[], .app [.sc] 16, [.v 18, .v 21], 1⟩]) (.ret [.v 22])))))
theorem impl_FormatWorkshop_L_sh (Q : QT) (x0 x1 x2 x3 x4 x5 x6 x7 x8 x9 : V) : shL impl_FormatWorkshop_L Q [x0, x1, x2, x3, x4, x5, x6, x7, x8, x9] = (
  P1 (.call F_WorkshopOk 0 1) [x0, x1, x2, x3, x4, x5, x6, x7, x8, x9] fun v0 =>
  P1 (.un .not) [v0] fun v1 =>
  ifB v1 (
    Q .ret [.list [.sc] []]) (
    P1 (.call F_GridText 0 1) [x0, x1, x2] fun v2 =>
    P1 (.call F_FormatInt 0 1) [x5] fun v3 =>
    P1 (.bin .add) [.str [116, 117, 114, 110, 115, 32], v3] fun v4 =>
    P1 (.call F_FormatInt 0 1) [x8] fun v5 =>
    P1 (.bin .add) [.str [109, 111, 110, 101, 121, 32], v5] fun v6 =>
    P1 (.lst [.sc] false 2) [v4, v6] fun v7 =>
    P1 (.app [.sc] 16) [v2, v7] fun v8 =>
    P1 (.call F_FormatInt 0 1) [x9] fun v9 =>
    P1 (.bin .add) [.str [112, 108, 97, 121, 101, 100, 32], v9] fun v10 =>
    P1 (.lst [.sc] false 1) [v10] fun v11 =>
    P1 (.app [.sc] 16) [v8, v11] fun v12 =>
    Q .ret [v12])) := by kernel_rfl
def impl_FormatWorkshop_S : Sig := ⟨[.val true [.sc, .sc, .sl [.sc, .sc], .sl [.sl [.sc, .sc]], .sl [.sc], .sc, .sc, .sc, .sc, .sc]], [(false, [.sl [.sc]])], F_FormatWorkshop⟩
def impl_FormatWorkshop_hs : List NF := []

end
end Go.Mw

namespace Go.Mw
open Go.Lib (decDigits itoa)
section
variable {k : V → Prop} {κ : IntKind} {i : Int}
@[simp] theorem P1_lstDot : P1 (.lst [.sc] false 1) [.int .u8 46] k ↔ k (vL I1 vY [46]) := P1_lstY1 (b := 46)
@[simp] theorem P1_setX {l : List UInt8} : P1 (.set [.sc] 0) [vL I1 vY l, .int κ i, .int .u8 120] k ↔ 0 ≤ i ∧ ∃ x, l[i.toNat]? = some x ∧ k (vL I1 vY (l.set i.toNat 120)) :=
  P1_set (news := [.int .u8 120]) (by simp [aksOk, akOk]) (fun _ => 120) (fun x => rfl)
@[simp] theorem P1_lstS1 {a : List UInt8} : P1 (.lst [.sc] false 1) [.str a] k ↔ k (vL I1 vS [a]) := P1_of (by simp [Prim.run, aksOk, akOk, chunk, V.pack, vL, vS]) k
@[simp] theorem P1_lstS2 {a b : List UInt8} : P1 (.lst [.sc] false 2) [.str a, .str b] k ↔ k (vL I1 vS [a, b]) := P1_of (by simp [Prim.run, aksOk, akOk, chunk, V.pack, vL, vS]) k
@[simp] theorem P1_s2b {y : List UInt8} {b : Nat} : P1 (.s2b b) [.str y] k ↔ (y.length * b ≤ 140737488355328 ∧ y.length ≤ 140737488355328) ∧ k (vL I1 vY y) := P1_opt (by simp [Prim.run]; rfl) k
end
theorem gridTo_len (p : List T2) (y : Int) (n : Nat) : ∀ k, (gridTo p y n k).length = n
  | 0 => by simp [gridTo]
  | k + 1 => by
    have ih := gridTo_len p y n k
    unfold gridTo
    split
    · split
      · rw [List.length_set]; exact ih
      · exact ih
    · exact ih
theorem gridTo_yes {p : List T2} {y : Int} {n k : Nat} (h : k < p.length) (e : p[k].a = y) : gridTo p y n (k + 1) = (gridTo p y n k).set p[k].b.toNat 120 := by
  rw [gridTo, List.getElem?_eq_getElem h]
  simp only [if_pos e]
theorem gridTo_no {p : List T2} {y : Int} {n k : Nat} (h : k < p.length) (e : ¬ p[k].a = y) : gridTo p y n (k + 1) = gridTo p y n k := by
  rw [gridTo, List.getElem?_eq_getElem h]
  simp only [if_neg e]
theorem gridUp_succ (c : Cyl) (k : Nat) : gridUp c (k + 1) = gridUp c k ++ [gridRow c k] := by
  simp [gridUp, List.range_succ]
theorem gridUp_len (c : Cyl) (k : Nat) : (gridUp c k).length = k := by simp [gridUp]
theorem cyl_bounds {c : Cyl} (h : cylOk c = true) : (4 ≤ c.s ∧ c.s ≤ 96) ∧ (1 ≤ c.t ∧ c.t ≤ 100) ∧ c.p.length ≤ 100 ∧ ∀ q ∈ c.p, 0 ≤ q.b ∧ q.b < c.s := by
  simp only [cylOk, within, Bool.and_eq_true, decide_eq_true_eq, List.all_eq_true] at h
  refine ⟨by omega, by omega, by omega, fun q hq => ?_⟩
  have := h.2.1 q hq
  simp only [pinIn, within, Bool.and_eq_true, decide_eq_true_eq] at this
  omega

theorem impl_GridText_ok : ∀ ds outs, F_GridText ds = some outs → shL impl_GridText_L (qRet outs) ds := F_GridText_elim fun c hp => by
  rw [impl_GridText_L_sh, p_CylinderOk hp]
  have e0 : cylOk ⟨c.s, c.t, c.p⟩ = cylOk c := rfl
  simp only [P1_not, ifB_bool, Bool.not_eq_true', Bool.not_eq_false', qRet_ret, e0]
  refine ⟨fun hc => by simp [gridText, hc], fun hc => ?_⟩
  obtain ⟨⟨s0, s1⟩, ⟨t0, t1⟩, hp1, hin⟩ := cyl_bounds hc
  have et : ((c.t.toNat : Nat) : Int) = c.t := by omega
  have es : ((c.s.toNat : Nat) : Int) = c.s := by omega
  have hr : Go.Lib.repeatL [46] c.s.toNat = List.replicate c.s.toNat 46 := by
    generalize c.s.toNat = n
    induction n with
    | zero => rfl
    | succ n ih => simp [Go.Lib.repeatL, List.replicate_succ] at ih ⊢ <;> exact ih
  simp only [P1_lst0]
  refine loop_upto c.t.toNat (fun k => [.int .i64 k, vL I1 vS (gridUp c k), .int .i64 c.s, .int .i64 c.t, vL I2 v2 c.p]) (fun i j _ _ e => by simp at e; omega) (fun _ => True) (by simp [gridUp]) trivial ?_
  intro y hy _
  rw [impl_GridText_b0_sh]
  simp only [P1_lss, ifB_bool, decide_eq_true_eq, decide_eq_false_iff_not]
  refine ⟨fun h => ?_, fun h => ?_⟩
  · rw [p_strings_Repeat ⟨by omega, by omega, by simp; omega⟩, hr]
    simp only [P1_s2b, P1_len, List.length_replicate]
    refine ⟨⟨by omega, by omega⟩, ?_⟩
    refine loop_upto c.p.length (fun k => [.int .i64 y, vL I2 v2 c.p, .int .i64 c.p.length, .int .i64 k, vL I1 vS (gridUp c y), vL I1 vY (gridTo c.p y c.s.toNat k), .int .i64 c.s, .int .i64 c.t, vL I2 v2 c.p]) (fun i j _ _ e => by simp at e; omega) (fun _ => True) (by simp [gridTo]) trivial ?_
    intro k hk _
    rw [impl_GridText_b1_sh]
    simp only [P1_lss, ifB_bool, decide_eq_true_eq, decide_eq_false_iff_not]
    refine ⟨fun h3 => ?_, fun h3 => ?_⟩
    · have h4 : k < c.p.length := by omega
      have hb := hin c.p[k] (List.getElem_mem h4)
      have hl : c.p[k].b.toNat < (gridTo c.p y c.s.toNat k).length := by rw [gridTo_len]; omega
      simp only [P2_idxI, Int.toNat_natCast, List.getElem?_eq_getElem h4, Option.some.injEq, exists_eq_left', P1_eql, ifB_bool, beq_iff_eq, beq_eq_false_iff_ne, ne_eq]
      refine ⟨by omega, fun e => ?_, fun e => ?_⟩
      · simp only [P1_idxY, P1_setX, List.getElem?_eq_getElem hl, Option.some.injEq, exists_eq_left', P1_add, qS_normal]
        exact ⟨hb.1, hb.1, h4, by rw [gridTo_yes h4 e, wrap_id (by omega) (by omega)]; rfl, trivial⟩
      · simp only [P1_add, qS_normal]
        exact ⟨h4, by rw [gridTo_no h4 e, wrap_id (by omega) (by omega)]; rfl, trivial⟩
    · have e4 : k = c.p.length := by omega
      subst e4
      have hl := gridUp_len c y
      simp only [qS_exit, qB_exit, if_true, qS_normal, impl_GridText_r2_sh, P1_b2s, P1_lstS1, P1_appS_, hl, List.length_singleton, impl_GridText_r3_sh, qB_normal, impl_GridText_r4_sh, impl_GridText_r5_sh, P1_add]
      exact ⟨⟨by omega, by omega⟩, by omega, by rw [gridUp_succ, wrap_id (by omega) (by omega)]; rfl, trivial⟩
  · have ey : y = c.t.toNat := by omega
    subst ey
    simp only [qS_exit, qB_exit, if_true, qS_normal, impl_GridText_r6_sh, qRet_ret]
    simp [gridText, hc]
end Go.Mw

namespace Go.Mw
open Go.Lib (decDigits itoa)
theorem shop_bounds {w : Shop} (h : shopOk w = true) : cylOk ⟨w.s, w.t, w.p⟩ = true ∧ (0 ≤ w.u ∧ w.u ≤ 50) ∧ (0 ≤ w.y ∧ w.y ≤ 1000000) ∧ (0 ≤ w.d ∧ w.d ≤ 1000000) := by
  simp only [shopOk, springOk, within, Bool.and_eq_true, decide_eq_true_eq] at h
  refine ⟨?_, by omega, by omega, by omega⟩
  have h1 := h.1
  simp only [benchOk, Bool.and_eq_true] at h1
  exact h1.1
theorem gridText_len (c : Cyl) : (gridText c).length ≤ 100 := by
  unfold gridText
  split
  · rename_i h
    have := (cyl_bounds h).2.1
    rw [gridUp_len]; omega
  · simp
theorem itoa_len2 {n : Int} (h0 : 0 ≤ n) (h1 : n ≤ 1000000) : (itoa n).length ≤ 21 := Go.Lib.itoa_length_le n (by omega) (by omega)
theorem fmtShop_len (w : Shop) : (fmtShop w).length ≤ 103 := by
  unfold fmtShop
  split
  · have := gridText_len ⟨w.s, w.t, w.p⟩
    simp only [List.length_append, List.length_cons, List.length_nil]; omega
  · simp
theorem impl_FormatWorkshop_ok : ∀ ds outs, F_FormatWorkshop ds = some outs → shL impl_FormatWorkshop_L (qRet outs) ds := F_FormatWorkshop_elim fun w hp => by
  rw [impl_FormatWorkshop_L_sh, p_WorkshopOk (x_p := w.p) (x_o := w.o) (x_c := w.c) hp]
  have e0 : shopOk ⟨w.s, w.t, w.p, w.o, w.c, w.u, w.m, w.f, w.y, w.d⟩ = shopOk w := rfl
  simp only [P1_not, ifB_bool, Bool.not_eq_true', Bool.not_eq_false', e0]
  refine ⟨fun h => by simp [fmtShop, h], fun h => ?_⟩
  obtain ⟨-, hu, hy, hd⟩ := shop_bounds h
  have lu := itoa_len2 hu.1 (by omega)
  have ly := itoa_len2 hy.1 hy.2
  have ld := itoa_len2 hd.1 hd.2
  have lg := gridText_len ⟨w.s, w.t, w.p⟩
  rw [p_GridText (x_p := w.p) hp.1, p_FormatInt (by omega)]
  simp only [P1_addS, List.length_cons, List.length_nil]
  refine ⟨by omega, ?_⟩
  rw [p_FormatInt (by omega)]
  simp only [P1_addS, List.length_cons, List.length_nil, P1_lstS2, P1_appS_]
  refine ⟨by omega, ⟨by omega, by omega⟩, ?_⟩
  rw [p_FormatInt (by omega)]
  simp only [P1_addS, List.length_cons, List.length_nil, P1_lstS1, P1_appS_, List.length_append]
  refine ⟨by omega, ⟨by omega, by omega⟩, ?_⟩
  simp [fmtShop, h, sumTurns, sumMoney, sumPlayed]

@[simp] theorem markLS_len {n : Nat} {k : Int} : (markLS n k).length = n := by simp [markLS]
end Go.Mw

namespace Go.Mw
end Go.Mw

namespace Go.Mw
end Go.Mw

namespace Go.Mw
open Go.Lib (itoa)
def toks (a : T3) : List (List UInt8) := actWord a.a :: (if actNums a.a = 2 then [itoa a.b, itoa a.c] else if actNums a.a = 1 then [itoa a.b] else [])
def fits (f : List (List UInt8)) : Prop := ∃ a, actOk a = true ∧ toks a = f
noncomputable def parseV (f : List (List UInt8)) : T3 := @dite _ (fits f) (Classical.propDecidable _) (fun h => h.choose) (fun _ => ⟨0, 0, 0⟩)
noncomputable def parseB (f : List (List UInt8)) : Bool := @decide (fits f) (Classical.propDecidable _)
def E_ParseAct (s : List UInt8) : List V := [.str s]
noncomputable def F_ParseAct : List V → Option (List V) := mkF E_ParseAct (fun s => s.length ≤ 1048576) (fun s => [.int .i64 (parseV (fieldsOf s)).a, .int .i64 (parseV (fieldsOf s)).b, .int .i64 (parseV (fieldsOf s)).c, .bool (parseB (fieldsOf s))])
theorem F_ParseAct_inj : ∀ x y, E_ParseAct x = E_ParseAct y → x = y := by
  rintro s s' h
  simpa [E_ParseAct] using h
theorem F_ParseAct_elim {P : List V → List V → Prop} (h : ∀ (s : List UInt8), (s.length ≤ 1048576) → P [.str s] [.int .i64 (parseV (fieldsOf s)).a, .int .i64 (parseV (fieldsOf s)).b, .int .i64 (parseV (fieldsOf s)).c, .bool (parseB (fieldsOf s))]) : ∀ ds outs, F_ParseAct ds = some outs → P ds outs := by
  intro ds outs hh
  obtain ⟨s, rfl, hp, rfl⟩ := mkF_inv hh
  exact h s hp
theorem p_ParseAct {s : List UInt8} {nr_ : Nat} {kk_ : V → V → V → V → Prop} (hp : s.length ≤ 1048576) : P4 (.call F_ParseAct 0 nr_) [.str s] kk_ ↔ kk_ (.int .i64 (parseV (fieldsOf s)).a) (.int .i64 (parseV (fieldsOf s)).b) (.int .i64 (parseV (fieldsOf s)).c) (.bool (parseB (fieldsOf s))) :=
  P4_callF (by unfold F_ParseAct; exact mkF_eq F_ParseAct_inj (s) hp)

end Go.Mw

namespace Go.Mw
noncomputable section
def impl_SplitFields_r1 : L := .seq (.rg [⟨[], .slen, [.v 0], 1⟩, zb .eql 2 14, ⟨[(.v 15, false)], .sidx, [.v 0, .v 2], 1⟩, ⟨[(.v 15, false)], .bin .eql, [.v 16, .k (.int .u8 32)], 1⟩, ⟨[], .pick, [.v 15, .k (.bool true), .v 17], 1⟩]) (.ite (.v 18) (.seq (.seq (.seq (.rg [zb .gtr 2 1]) (.ite (.v 19) (.seq (.rg [⟨[], .ssub, [.v 0, .v 1, .v 2], 1⟩, ⟨[], .lst [.sc] false 1, [.v 20], 1⟩, ⟨[], .app [.sc] 16, [.v 3, .v 21], 1⟩]) (zt [0, 2, 22])) (.seq (.skip) (zt [0, 2, 3])))) (.rg [zk .add 1 1])) (zt [0, 3, 1, 2])) (.seq (.skip) (zt [0, 1, 2, 3])))
theorem impl_SplitFields_r1_sh (Q : QT) (x0 x1 x2 x3 x4 x5 x6 x7 x8 x9 x10 x11 x12 x13 : V) : shL impl_SplitFields_r1 Q [x0, x1, x2, x3, x4, x5, x6, x7, x8, x9, x10, x11, x12, x13] = (
  P1 (.slen) [x0] fun v0 =>
  P1 (.bin .eql) [x2, v0] fun v1 =>
  ifB v1 (
    P1 (.bin .gtr) [x2, x1] fun v2 =>
    ifB v2 (
      P1 (.ssub) [x0, x1, x2] fun v3 =>
      P1 (.lst [.sc] false 1) [v3] fun v4 =>
      P1 (.app [.sc] 16) [x3, v4] fun v5 =>
      P1 (.bin .add) [x2, .int .i64 1] fun v6 =>
      Q .normal [x0, v6, x2, v5]) (
      P1 (.bin .add) [x2, .int .i64 1] fun v7 =>
      Q .normal [x0, v7, x2, x3])) (
    P1 (.sidx) [x0, x2] fun v8 =>
    P1 (.bin .eql) [v8, .int .u8 32] fun v9 =>
    ifB v9 (
      P1 (.bin .gtr) [x2, x1] fun v10 =>
      ifB v10 (
        P1 (.ssub) [x0, x1, x2] fun v11 =>
        P1 (.lst [.sc] false 1) [v11] fun v12 =>
        P1 (.app [.sc] 16) [x3, v12] fun v13 =>
        P1 (.bin .add) [x2, .int .i64 1] fun v14 =>
        Q .normal [x0, v14, x2, v13]) (
        P1 (.bin .add) [x2, .int .i64 1] fun v15 =>
        Q .normal [x0, v15, x2, x3])) (
      Q .normal [x0, x1, x2, x3]))) := by kernel_rfl

def impl_SplitFields_r2 : L := zt [0, 1, 2, 3]
theorem impl_SplitFields_r2_sh (Q : QT) (x0 x1 x2 x3 : V) : shL impl_SplitFields_r2 Q [x0, x1, x2, x3] = (
  Q .normal [x0, x1, x2, x3]) := by kernel_rfl

def impl_SplitFields_r3 : L := .rg [zk .add 2 1]
theorem impl_SplitFields_r3_sh (Q : QT) (x0 x1 x2 x3 : V) : shL impl_SplitFields_r3 Q [x0, x1, x2, x3] = (
  P1 (.bin .add) [x2, .int .i64 1] fun v0 =>
  Q .normal [x0, x1, x2, x3, v0]) := by kernel_rfl

def impl_SplitFields_r4 : L := zt [0, 1, 4, 3]
theorem impl_SplitFields_r4_sh (Q : QT) (x0 x1 x2 x3 x4 : V) : shL impl_SplitFields_r4 Q [x0, x1, x2, x3, x4] = (
  Q .normal [x0, x1, x4, x3]) := by kernel_rfl

def impl_SplitFields_b0 : L := .seq (.seq (.seq (.rg [⟨[], .slen, [.v 0], 1⟩, zb .leq 2 4]) (.ite (.v 5) (.skip) (.seq (zt [3]) (.exit 0)))) (.seq (.block 1 (.seq (.seq (.seq (.rg [⟨[], .slen, [.v 0], 1⟩, zb .lss 2 6, ⟨[(.v 7, true)], .sidx, [.v 0, .v 2], 1⟩, ⟨[(.v 7, true)], .bin .lss, [.v 8, .k (.int .u8 32)], 1⟩, ⟨[(.v 7, true), (.v 9, false)], .sidx, [.v 0, .v 2], 1⟩, ⟨[(.v 7, true), (.v 9, false)], .bin .gtr, [.v 10, .k (.int .u8 126)], 1⟩, ⟨[(.v 7, true)], .pick, [.v 9, .k (.bool true), .v 11], 1⟩, ⟨[], .pick, [.v 7, .v 12, .k (.bool false)], 1⟩]) (.ite (.v 13) (.seq (.rg []) (.ret [.k (.list [.sc] []), .k (.bool false)])) (.skip))) (impl_SplitFields_r1)) (impl_SplitFields_r2))) (impl_SplitFields_r3))) (impl_SplitFields_r4)
theorem impl_SplitFields_b0_sh (Q : QT) (x0 x1 x2 x3 : V) : shL impl_SplitFields_b0 Q [x0, x1, x2, x3] = (
  P1 (.slen) [x0] fun v0 =>
  P1 (.bin .leq) [x2, v0] fun v1 =>
  ifB v1 (
    P1 (.slen) [x0] fun v2 =>
    P1 (.bin .lss) [x2, v2] fun v3 =>
    ifB v3 (
      P1 (.sidx) [x0, x2] fun v4 =>
      P1 (.bin .lss) [v4, .int .u8 32] fun v5 =>
      ifB v5 (
        Q .ret [.list [.sc] [], .bool false]) (
        P1 (.sidx) [x0, x2] fun v6 =>
        P1 (.bin .gtr) [v6, .int .u8 126] fun v7 =>
        ifB v7 (
          Q .ret [.list [.sc] [], .bool false]) (
          shL impl_SplitFields_r1 (qS (shL impl_SplitFields_r2 (qB 1 (qS (shL impl_SplitFields_r3 (qS (shL impl_SplitFields_r4 Q) Q)) (qS (shL impl_SplitFields_r4 Q) Q)))) (qB 1 (qS (shL impl_SplitFields_r3 (qS (shL impl_SplitFields_r4 Q) Q)) (qS (shL impl_SplitFields_r4 Q) Q)))) [x0, x1, x2, x3, v0, .bool true, v2, .bool true, v4, .bool false, v6, v7, v7, .bool false]))) (
      shL impl_SplitFields_r1 (qS (shL impl_SplitFields_r2 (qB 1 (qS (shL impl_SplitFields_r3 (qS (shL impl_SplitFields_r4 Q) Q)) (qS (shL impl_SplitFields_r4 Q) Q)))) (qB 1 (qS (shL impl_SplitFields_r3 (qS (shL impl_SplitFields_r4 Q) Q)) (qS (shL impl_SplitFields_r4 Q) Q)))) [x0, x1, x2, x3, v0, .bool true, v2, .bool false, .list [] [], .list [] [], .list [] [], .list [] [], .list [] [], .bool false])) (
    Q (.exit 0) [x3])) := by kernel_rfl

def impl_SplitFields_r5 : L := .seq (.seq (.rg [zl 0, zk .gtr 1 24]) (.ite (.v 2) (.seq (.rg []) (.ret [.k (.list [.sc] []), .k (.bool false)])) (.skip))) (.seq (.rg []) (.ret [.v 0, .k (.bool true)]))
theorem impl_SplitFields_r5_sh (Q : QT) (x0 : V) : shL impl_SplitFields_r5 Q [x0] = (
  P1 (.len) [x0] fun v0 =>
  P1 (.bin .gtr) [v0, .int .i64 24] fun v1 =>
  ifB v1 (
    Q .ret [.list [.sc] [], .bool false]) (
    Q .ret [x0, .bool true])) := by kernel_rfl

def impl_SplitFields_L : L := .seq (.rg []) (.seq (.seq (.rg [⟨[], .slen, [.v 0], 1⟩, zk .gtr 1 600]) (.ite (.v 2) (.seq (.rg []) (.ret [.k (.list [.sc] []), .k (.bool false)])) (.skip))) (.seq (.rg [⟨[], .lst [.sc] false 0, [], 1⟩]) (.seq (.rg []) (.seq (.seq (.rg []) (.block 0 (.seq (.tup [.v 0, .k (.int .i64 0), .k (.int .i64 0), .v 3]) (.loop (impl_SplitFields_b0))))) (impl_SplitFields_r5)))))
theorem impl_SplitFields_L_sh (Q : QT) (x0 : V) : shL impl_SplitFields_L Q [x0] = (
  P1 (.slen) [x0] fun v0 =>
  P1 (.bin .gtr) [v0, .int .i64 600] fun v1 =>
  ifB v1 (
    Q .ret [.list [.sc] [], .bool false]) (
    P1 (.lst [.sc] false 0) [] fun v2 =>
    shL (.loop impl_SplitFields_b0) (qB 0 (qS (shL impl_SplitFields_r5 Q) Q)) [x0, .int .i64 0, .int .i64 0, v2])) := by kernel_rfl
def impl_SplitFields_S : Sig := ⟨[.val false [.sc]], [(false, [.sl [.sc]]), (false, [.sc])], F_SplitFields⟩
def impl_SplitFields_hs : List NF := [⟨[(4, zo 64)], [(64, true, [.sc])], [], 65⟩, ⟨[(0, zs), (4, zo 64), (5, zs), (6, zs)], [(64, true, [.sc])], [], 65⟩, ⟨[(0, zs), (4, zo 64), (5, zs), (6, zs)], [(64, true, [.sc])], [], 65⟩, ⟨[(0, zs), (4, zo 64), (6, zs)], [(64, true, [.sc])], [], 65⟩, ⟨[(0, zs), (4, zo 64), (5, zs), (6, zs)], [(64, true, [.sc])], [], 65⟩]

def impl_ParseUint_L : L := .seq (.rg []) (.seq (.rg [zc F_strconv_Atoi 2 [0]]) (.seq (.seq (.rg [⟨[], .isNil true, [.v 2], 1⟩, ⟨[(.v 3, false)], .bin .lss, [.v 1, .k (.int .i64 0)], 1⟩, ⟨[], .pick, [.v 3, .k (.bool true), .v 4], 1⟩, ⟨[(.v 5, false)], .bin .gtr, [.v 1, .k (.int .i64 1000000000)], 1⟩, ⟨[], .pick, [.v 5, .k (.bool true), .v 6], 1⟩, ⟨[(.v 7, false)], .call F_FormatInt 0 1, [.v 1], 1⟩, ⟨[(.v 7, false)], .bin .neq, [.v 8, .v 0], 1⟩, ⟨[], .pick, [.v 7, .k (.bool true), .v 9], 1⟩]) (.ite (.v 10) (.seq (.rg []) (.ret [.k (.int .i64 0), .k (.bool false)])) (.skip))) (.seq (.rg []) (.ret [.v 1, .k (.bool true)]))))
theorem impl_ParseUint_L_sh (Q : QT) (x0 : V) : shL impl_ParseUint_L Q [x0] = (
  P2 (.call F_strconv_Atoi 0 2) [x0] fun v0 v1 =>
  P1 (.isNil true) [v1] fun v2 =>
  ifB v2 (
    Q .ret [.int .i64 0, .bool false]) (
    P1 (.bin .lss) [v0, .int .i64 0] fun v3 =>
    ifB v3 (
      Q .ret [.int .i64 0, .bool false]) (
      P1 (.bin .gtr) [v0, .int .i64 1000000000] fun v4 =>
      ifB v4 (
        Q .ret [.int .i64 0, .bool false]) (
        P1 (.call F_FormatInt 0 1) [v0] fun v5 =>
        P1 (.bin .neq) [v5, x0] fun v6 =>
        ifB v6 (
          Q .ret [.int .i64 0, .bool false]) (
          Q .ret [v0, .bool true]))))) := by kernel_rfl
def impl_ParseUint_S : Sig := ⟨[.val false [.sc]], [(false, [.sc]), (false, [.sc])], F_ParseUint⟩
def impl_ParseUint_hs : List NF := []

def impl_ParseAct_b0 : L := .seq (.seq (.rg [zb .lss 2 1]) (.seq (.ite (.v 8) (.skip) (.seq (zt [3, 4, 5, 6, 7]) (.exit 0))) (.seq (.block 1 (.seq (.seq (.rg [zi 0 2]) (.seq (.rg [zc F_ParseUint 2 [9]]) (.seq (.seq (.rg [zn 11]) (.ite (.v 12) (.seq (.rg []) (.ret [.k (.int .i64 0), .k (.int .i64 0), .k (.int .i64 0), .k (.bool false)])) (.skip))) (.rg [⟨[], .lst [.sc] false 1, [.v 10], 1⟩, ⟨[], .app [.sc] 8, [.v 4, .v 13], 1⟩])))) (zt [0, 1, 2, 3, 14, 5, 6, 7]))) (.rg [zk .add 2 1])))) (zt [0, 1, 8, 3, 4, 5, 6, 7])
theorem impl_ParseAct_b0_sh (Q : QT) (x0 x1 x2 x3 x4 x5 x6 x7 : V) : shL impl_ParseAct_b0 Q [x0, x1, x2, x3, x4, x5, x6, x7] = (
  P1 (.bin .lss) [x2, x1] fun v0 =>
  ifB v0 (
    P1 (.idx [.sc]) [x0, x2] fun v1 =>
    P2 (.call F_ParseUint 0 2) [v1] fun v2 v3 =>
    P1 (.un .not) [v3] fun v4 =>
    ifB v4 (
      Q .ret [.int .i64 0, .int .i64 0, .int .i64 0, .bool false]) (
      P1 (.lst [.sc] false 1) [v2] fun v5 =>
      P1 (.app [.sc] 8) [x4, v5] fun v6 =>
      P1 (.bin .add) [x2, .int .i64 1] fun v7 =>
      Q .normal [x0, x1, v7, x3, v6, x5, x6, x7])) (
    Q (.exit 0) [x3, x4, x5, x6, x7])) := by kernel_rfl

def impl_ParseAct_b2 : L := .seq (.seq (.seq (.rg [zk .leq 0 6]) (.ite (.v 6) (.skip) (.seq (zt [3, 4, 5]) (.exit 2)))) (.seq (.block 3 (.seq (.seq (.rg [⟨[], .idx [.sc], [.v 1, .k (.int .i64 0)], 1⟩, zc F_actWord 1 [0], zb .neq 7 8, ⟨[(.v 9, false)], .len, [.v 2], 1⟩, ⟨[(.v 9, false)], .call F_actNumbers 0 1, [.v 0], 1⟩, ⟨[(.v 9, false)], .bin .neq, [.v 10, .v 11], 1⟩, ⟨[], .pick, [.v 9, .k (.bool true), .v 12], 1⟩]) (.ite (.v 13) (.seq (zt [0, 1, 2, 3, 4, 5]) (.exit 3)) (.skip))) (.seq (.rg [⟨[], .lst [.sc] false 2, [.k (.int .i64 0), .k (.int .i64 0)], 1⟩, ⟨[], .app [.sc] 8, [.v 2, .v 14], 1⟩]) (.seq (.rg [⟨[], .idx [.sc], [.v 15, .k (.int .i64 0)], 1⟩, ⟨[], .idx [.sc], [.v 15, .k (.int .i64 1)], 1⟩]) (.seq (.seq (.rg [zc F_ActOk 1 [0, 16, 17], zn 18]) (.ite (.v 19) (.seq (.rg []) (.ret [.k (.int .i64 0), .k (.int .i64 0), .k (.int .i64 0), .k (.bool false)])) (.skip))) (.seq (.rg []) (.ret [.v 0, .v 16, .v 17, .k (.bool true)]))))))) (.rg [zk .add 0 1]))) (zt [6, 1, 2, 3, 4, 5])
theorem impl_ParseAct_b2_sh (Q : QT) (x0 x1 x2 x3 x4 x5 : V) : shL impl_ParseAct_b2 Q [x0, x1, x2, x3, x4, x5] = (
  P1 (.bin .leq) [x0, .int .i64 6] fun v0 =>
  ifB v0 (
    P1 (.idx [.sc]) [x1, .int .i64 0] fun v1 =>
    P1 (.call F_actWord 0 1) [x0] fun v2 =>
    P1 (.bin .neq) [v1, v2] fun v3 =>
    ifB v3 (
      P1 (.bin .add) [x0, .int .i64 1] fun v4 =>
      Q .normal [v4, x1, x2, x3, x4, x5]) (
      P1 (.len) [x2] fun v5 =>
      P1 (.call F_actNumbers 0 1) [x0] fun v6 =>
      P1 (.bin .neq) [v5, v6] fun v7 =>
      ifB v7 (
        P1 (.bin .add) [x0, .int .i64 1] fun v8 =>
        Q .normal [v8, x1, x2, x3, x4, x5]) (
        P1 (.lst [.sc] false 2) [.int .i64 0, .int .i64 0] fun v9 =>
        P1 (.app [.sc] 8) [x2, v9] fun v10 =>
        P1 (.idx [.sc]) [v10, .int .i64 0] fun v11 =>
        P1 (.idx [.sc]) [v10, .int .i64 1] fun v12 =>
        P1 (.call F_ActOk 0 1) [x0, v11, v12] fun v13 =>
        P1 (.un .not) [v13] fun v14 =>
        ifB v14 (
          Q .ret [.int .i64 0, .int .i64 0, .int .i64 0, .bool false]) (
          Q .ret [x0, v11, v12, .bool true])))) (
    Q (.exit 2) [x3, x4, x5])) := by kernel_rfl

def impl_ParseAct_r3 : L := .seq (.rg []) (.ret [.k (.int .i64 0), .k (.int .i64 0), .k (.int .i64 0), .k (.bool false)])
theorem impl_ParseAct_r3_sh (Q : QT) (x0 x1 x2 : V) : shL impl_ParseAct_r3 Q [x0, x1, x2] = (
  Q .ret [.int .i64 0, .int .i64 0, .int .i64 0, .bool false]) := by kernel_rfl

def impl_ParseAct_r1 : L := .seq (.seq (.rg []) (.block 2 (.seq (.tup [.k (.int .i64 1), .v 0, .v 1, .v 2, .v 3, .v 4]) (.loop (impl_ParseAct_b2))))) (impl_ParseAct_r3)
theorem impl_ParseAct_r1_sh (Q : QT) (x0 x1 x2 x3 x4 : V) : shL impl_ParseAct_r1 Q [x0, x1, x2, x3, x4] = (
  shL (.loop impl_ParseAct_b2) (qB 2 (qS (shL impl_ParseAct_r3 Q) Q)) [.int .i64 1, x0, x1, x2, x3, x4]) := by kernel_rfl

def impl_ParseAct_L : L := .seq (.rg []) (.seq (.rg [zc F_SplitFields 2 [0]]) (.seq (.seq (.rg [zn 2, ⟨[(.v 3, false)], .len, [.v 1], 1⟩, ⟨[(.v 3, false)], .bin .eql, [.v 4, .k (.int .i64 0)], 1⟩, ⟨[], .pick, [.v 3, .k (.bool true), .v 5], 1⟩]) (.ite (.v 6) (.seq (.rg []) (.ret [.k (.int .i64 0), .k (.int .i64 0), .k (.int .i64 0), .k (.bool false)])) (.skip))) (.seq (.rg [⟨[], .lst [.sc] false 0, [], 1⟩]) (.seq (.seq (.rg [⟨[], .lsub [.sc], [.v 1, .k (.int .i64 1)], 1⟩, zl 8]) (.block 0 (.seq (.tup [.v 8, .v 9, .k (.int .i64 0), .v 1, .v 7, .k (.int .i64 0), .k (.int .i64 0), .k (.int .i64 0)]) (.loop (impl_ParseAct_b0))))) (impl_ParseAct_r1)))))
theorem impl_ParseAct_L_sh (Q : QT) (x0 : V) : shL impl_ParseAct_L Q [x0] = (
  P2 (.call F_SplitFields 0 2) [x0] fun v0 v1 =>
  P1 (.un .not) [v1] fun v2 =>
  ifB v2 (
    Q .ret [.int .i64 0, .int .i64 0, .int .i64 0, .bool false]) (
    P1 (.len) [v0] fun v3 =>
    P1 (.bin .eql) [v3, .int .i64 0] fun v4 =>
    ifB v4 (
      Q .ret [.int .i64 0, .int .i64 0, .int .i64 0, .bool false]) (
      P1 (.lst [.sc] false 0) [] fun v5 =>
      P1 (.lsub [.sc]) [v0, .int .i64 1] fun v6 =>
      P1 (.len) [v6] fun v7 =>
      shL (.loop impl_ParseAct_b0) (qB 0 (qS (shL impl_ParseAct_r1 Q) Q)) [v6, v7, .int .i64 0, v0, v5, .int .i64 0, .int .i64 0, .int .i64 0]))) := by kernel_rfl
def impl_ParseAct_S : Sig := ⟨[.val false [.sc]], [(true, [.sc, .sc, .sc]), (false, [.sc])], F_ParseAct⟩
def impl_ParseAct_hs : List NF := [⟨[(2, .ptr 64 0), (4, zo 65), (6, zo 66)], [(65, true, [.sc]), (66, true, [.sc])], [(64, [.sc, .sc, .sc])], 67⟩, ⟨[(2, .ptr 64 0), (4, zo 65), (6, zo 66), (28, .sc false [.inn 65 [.sc]]), (29, zs), (30, zs)], [(65, true, [.sc]), (66, true, [.sc])], [(64, [.sc, .sc, .sc])], 67⟩, ⟨[(2, .ptr 64 0), (4, zo 65), (6, zo 66), (28, .sc false [.inn 65 [.sc]]), (29, zs), (30, zs)], [(65, true, [.sc]), (66, true, [.sc])], [(64, [.sc, .sc, .sc])], 67⟩, ⟨[(2, .ptr 64 0)], [], [(64, [.sc, .sc, .sc])], 65⟩, ⟨[(2, .ptr 64 0), (4, zo 65), (6, zo 66), (11, zs)], [(65, true, [.sc]), (66, true, [.sc])], [(64, [.sc, .sc, .sc])], 67⟩, ⟨[(2, .ptr 64 0), (4, zo 65), (6, zo 66), (11, zs)], [(65, true, [.sc]), (66, true, [.sc])], [(64, [.sc, .sc, .sc])], 67⟩]

end
end Go.Mw

namespace Go.Mw
open Go.Lib (decDigits itoa)
section
variable {k : V → Prop} {κ κ' : IntKind} {i j : Int} {l : List UInt8}
@[simp] theorem P1_slen : P1 .slen [.str l] k ↔ k (.int .i64 l.length) := P1_of (by simp [Prim.run]) k
@[simp] theorem P1_sidx : P1 .sidx [.str l, .int κ i] k ↔ 0 ≤ i ∧ ∃ b, l[i.toNat]? = some b ∧ k (.int .u8 b.toNat) := by
  by_cases h : 0 ≤ i
  · cases hb : l[i.toNat]? with
    | some b => rw [P1_of (v := .int .u8 b.toNat) (by simp [Prim.run, h, hb])]; simp [h]
    | none =>
      constructor
      · rintro ⟨a, e, _⟩
        simp [Prim.run, h, hb] at e
      · rintro ⟨_, b, e, _⟩; cases e
  · constructor
    · rintro ⟨a, e, _⟩
      simp [Prim.run, h] at e
    · intro ⟨h1, _⟩; exact absurd h1 h
@[simp] theorem P1_ssub2 : P1 .ssub [.str l, .int κ i, .int κ' j] k ↔ (0 ≤ i ∧ i ≤ j ∧ j ≤ l.length) ∧ k (.str ((l.take j.toNat).drop i.toNat)) := P1_opt (by simp [Prim.run, subB]) k
@[simp] theorem P1_ssub1 : P1 .ssub [.str l, .int κ i] k ↔ (0 ≤ i ∧ i ≤ l.length) ∧ k (.str (l.drop i.toNat)) := P1_opt (by simp [Prim.run, subB]) k
@[simp] theorem P1_notNil {b : Bool} : P1 (.isNil true) [.err b] k ↔ k (.bool b) := P1_of (by simp [Prim.run]) k
end
theorem all_snoc {s : List UInt8} {k : Nat} {p : UInt8 → Bool} (h : k < s.length) : (s.take (k + 1)).all p = ((s.take k).all p && p s[k]) := by
  rw [take_succ_get h, List.all_append]; simp
theorem uNum_no {s : List UInt8} (h : uOk s = false) : uNum s = 0 := by simp [uNum, h]
theorem impl_ParseUint_ok : ∀ ds outs, F_ParseUint ds = some outs → shL impl_ParseUint_L (qRet outs) ds := F_ParseUint_elim fun s hp => by
  rw [impl_ParseUint_L_sh, p_strconv_Atoi (by omega)]
  have hi := atoi_back (s := s)
  simp only [P1_notNil, ifB_bool, P1_lss, P1_gtr, decide_eq_true_eq, decide_eq_false_iff_not, qRet_ret]
  have hno : ¬ (atoiE s = false ∧ (0 ≤ atoiV s ∧ (atoiV s ≤ 1000000000 ∧ itoa (atoiV s) = s))) → [V.int .i64 0, V.bool false] = [V.int .i64 (uNum s), V.bool (uOk s)] := by
    intro h
    have h4 : uOk s = false := by
      cases h5 : uOk s with
      | false => rfl
      | true => exact absurd (hi.2 h5) h
    simp [uNum_no h4, h4]
  refine ⟨fun h => hno (by simp [h]), fun h1 => ⟨fun h => hno (by omega), fun h2 => ⟨fun h => hno (by omega), fun h3 => ?_⟩⟩⟩
  rw [p_FormatInt (by omega)]
  simp only [P1_neqS, ifB_bool, Bool.not_eq_true', Bool.not_eq_false', beq_eq_false_iff_ne, beq_iff_eq]
  refine ⟨fun h => hno (fun h5 => h h5.2.2.2), fun h4 => ?_⟩
  have h5 := hi.1 ⟨h1, by omega, by omega, h4⟩
  have h6 := atoi_num h5
  simp [uNum, h5, h6]
theorem fieldsTo_le (s : List UInt8) : ∀ i, (fieldsTo s i).2 ≤ i ∧ (fieldsTo s i).1.length ≤ i
  | 0 => by simp [fieldsTo]
  | i + 1 => by
    have ih := fieldsTo_le s i
    unfold fieldsTo
    split
    · split
      · refine ⟨Nat.le_refl _, ?_⟩
        simp only
        split
        · rw [List.length_append, List.length_singleton]; omega
        · omega
      · omega
    · refine ⟨Nat.le_refl _, ?_⟩
      simp only
      split
      · rw [List.length_append, List.length_singleton]; omega
      · omega
theorem fieldsOk_bad {s : List UInt8} {k : Nat} (h : k < s.length) (h2 : plainB s[k] = false) : fieldsOk s = false := by
  have : s.all plainB = false := by
    rw [List.all_eq_false]
    exact ⟨s[k], List.getElem_mem h, by simp [h2]⟩
  simp [fieldsOk, this]
theorem fieldsOf_no {s : List UInt8} (h : fieldsOk s = false) : fieldsOf s = [] := by simp [fieldsOf, h]
theorem fieldsTo_end {s : List UInt8} : fieldsTo s (s.length + 1) = (if (fieldsTo s s.length).2 < s.length then (fieldsTo s s.length).1 ++ [(s.take s.length).drop (fieldsTo s s.length).2] else (fieldsTo s s.length).1, s.length + 1) := by
  rw [fieldsTo, List.getElem?_eq_none (Nat.le_refl _)]
theorem fieldsTo_space {s : List UInt8} {k : Nat} (h : k < s.length) (e : s[k] = 32) : fieldsTo s (k + 1) = (if (fieldsTo s k).2 < k then (fieldsTo s k).1 ++ [(s.take k).drop (fieldsTo s k).2] else (fieldsTo s k).1, k + 1) := by
  rw [fieldsTo, List.getElem?_eq_getElem h]; simp only [if_pos e]
theorem fieldsTo_other {s : List UInt8} {k : Nat} (h : k < s.length) (e : ¬ s[k] = 32) : fieldsTo s (k + 1) = fieldsTo s k := by
  rw [fieldsTo, List.getElem?_eq_getElem h]; simp only [if_neg e]
theorem is32 {b : UInt8} : (b.toNat : Int) = 32 ↔ b = 32 := by
  constructor
  · intro h
    exact UInt8.toNat_inj.1 (by show b.toNat = 32; omega)
  · rintro rfl; rfl
end Go.Mw

namespace Go.Mw
open Go.Lib (decDigits itoa)
theorem plainB_no1 {b : UInt8} (h : (b.toNat : Int) < 32) : plainB b = false := by
  simp only [plainB, Bool.and_eq_false_iff, decide_eq_false_iff_not]; omega
theorem plainB_no2 {b : UInt8} (h : (126 : Int) < b.toNat) : plainB b = false := by
  simp only [plainB, Bool.and_eq_false_iff, decide_eq_false_iff_not]; omega
theorem plainB_yes {b : UInt8} (h : ¬ (b.toNat : Int) < 32) (h2 : ¬ (126 : Int) < b.toNat) : plainB b = true := by
  simp only [plainB, Bool.and_eq_true, decide_eq_true_eq]; omega
theorem fieldsOk_long {s : List UInt8} (h : 600 < s.length) : fieldsOk s = false := by simp [fieldsOk]; omega
theorem fieldsOk_many {s : List UInt8} (h : 24 < (fieldsTo s (s.length + 1)).1.length) : fieldsOk s = false := by
  have : decide ((fieldsTo s (s.length + 1)).1.length ≤ 24) = false := by simp; omega
  simp [fieldsOk, this]
theorem fieldsOk_yes {s : List UInt8} (h : s.length ≤ 600) (h2 : s.all plainB = true) (h3 : (fieldsTo s (s.length + 1)).1.length ≤ 24) : fieldsOk s = true := by
  simp only [fieldsOk, Bool.and_eq_true, decide_eq_true_eq]; exact ⟨h, h2, h3⟩
theorem fieldsTo_grow {s : List UInt8} {k : Nat} (h : k < s.length → s[k]? = some 32) (hk : k ≤ s.length) : fieldsTo s (k + 1) = (if (fieldsTo s k).2 < k then (fieldsTo s k).1 ++ [(s.take k).drop (fieldsTo s k).2] else (fieldsTo s k).1, k + 1) := by
  rcases Nat.lt_or_ge k s.length with h1 | h1
  · have := h h1
    rw [List.getElem?_eq_getElem h1, Option.some.injEq] at this
    exact fieldsTo_space h1 this
  · obtain rfl : k = s.length := by omega
    exact fieldsTo_end

theorem impl_SplitFields_ok : ∀ ds outs, F_SplitFields ds = some outs → shL impl_SplitFields_L (qRet outs) ds := F_SplitFields_elim fun s hp => by
  rw [impl_SplitFields_L_sh]
  simp only [P1_lst0, P1_slen, P1_gtr, ifB_bool, decide_eq_true_eq, decide_eq_false_iff_not, qRet_ret]
  refine ⟨fun h => ?_, fun h => ?_⟩
  · have h4 := fieldsOk_long (s := s) (by omega)
    simp [fieldsOf_no h4, h4]
  have hl : s.length ≤ 600 := by omega
  refine loop_upto (s.length + 1) (fun k => [.str s, .int .i64 (fieldsTo s k).2, .int .i64 k, vL I1 vS (fieldsTo s k).1]) (fun i j _ _ e => by simp at e; omega) (fun k => (s.take k).all plainB = true) (by simp [fieldsTo]) (by simp) ?_
  intro k hk ha
  obtain ⟨g1, g2⟩ := fieldsTo_le s k
  have w5 : IntKind.i64.wrap ((k : Int) + 1) = ((k + 1 : Nat) : Int) := by rw [wrap_id (by omega) (by omega)]; omega
  rw [impl_SplitFields_b0_sh]
  simp only [P1_slen, P1_leq, P1_lss, ifB_bool, decide_eq_true_eq, decide_eq_false_iff_not]
  refine ⟨fun hk2 => ⟨fun h1 => ?_, fun h1 => ?_⟩, fun hk2 => ?_⟩
  · have h2 : k < s.length := by omega
    simp only [P1_sidx, Int.toNat_natCast, List.getElem?_eq_getElem h2, Option.some.injEq, exists_eq_left', P1_lss, ifB_bool, decide_eq_true_eq, decide_eq_false_iff_not]
    refine ⟨by omega, fun h3 => ?_, fun h3 => ⟨by omega, ?_⟩⟩
    · have h4 := fieldsOk_bad h2 (plainB_no1 h3)
      simp [fieldsOf_no h4, h4]
    simp only [P1_gtr, ifB_bool, decide_eq_true_eq, decide_eq_false_iff_not]
    refine ⟨fun h5 => ?_, fun h5 => ?_⟩
    · have h4 := fieldsOk_bad h2 (plainB_no2 h5)
      simp [fieldsOf_no h4, h4]
    have hP : (s.take (k + 1)).all plainB = true := by rw [all_snoc h2, ha, plainB_yes h3 h5]; rfl
    rw [impl_SplitFields_r1_sh]
    simp only [P1_slen, P1_eql, P1_gtr, ifB_bool, decide_eq_true_eq, decide_eq_false_iff_not, P1_sidx, Int.toNat_natCast, List.getElem?_eq_getElem h2, Option.some.injEq, exists_eq_left', beq_iff_eq, beq_eq_false_iff_ne, ne_eq]
    refine ⟨fun h9 => by omega, fun _ => ⟨by omega, fun h6 => ?_, fun h6 => ?_⟩⟩
    · have e := fieldsTo_grow (s := s) (k := k) (fun _ => by rw [List.getElem?_eq_getElem h2, is32.1 h6]) (by omega)
      refine ⟨fun h7 => ?_, fun h7 => ?_⟩
      · rw [if_pos (by omega)] at e
        simp only [P1_ssub2, P1_lstS1, P1_appS_, P1_add, w5, List.length_singleton, qS_normal, qB_normal, impl_SplitFields_r2_sh, impl_SplitFields_r3_sh, impl_SplitFields_r4_sh, e, Int.toNat_natCast]
        exact ⟨by omega, ⟨by omega, by omega⟩, by omega, trivial, hP⟩
      · rw [if_neg (by omega)] at e
        simp only [P1_add, w5, qS_normal, qB_normal, impl_SplitFields_r2_sh, impl_SplitFields_r3_sh, impl_SplitFields_r4_sh, e]
        exact ⟨by omega, trivial, hP⟩
    · have e := fieldsTo_other h2 (fun h7 => h6 (is32.2 h7))
      simp only [qS_normal, qB_normal, impl_SplitFields_r2_sh, impl_SplitFields_r3_sh, impl_SplitFields_r4_sh, P1_add, w5, e]
      exact ⟨by omega, trivial, hP⟩
  · have h2 : k = s.length := by omega
    have hP : (s.take (k + 1)).all plainB = true := by
      rw [List.take_of_length_le (by omega)]
      rw [List.take_of_length_le (by omega)] at ha
      exact ha
    have e := fieldsTo_grow (s := s) (k := k) (fun h9 => by omega) (by omega)
    rw [impl_SplitFields_r1_sh]
    simp only [P1_slen, P1_eql, P1_gtr, ifB_bool, decide_eq_true_eq, decide_eq_false_iff_not, beq_iff_eq, beq_eq_false_iff_ne, ne_eq]
    refine ⟨fun _ => ⟨fun h7 => ?_, fun h7 => ?_⟩, fun h9 => absurd (by omega) h9⟩
    · rw [if_pos (by omega)] at e
      simp only [P1_ssub2, P1_lstS1, P1_appS_, P1_add, w5, List.length_singleton, qS_normal, qB_normal, impl_SplitFields_r2_sh, impl_SplitFields_r3_sh, impl_SplitFields_r4_sh, e, Int.toNat_natCast]
      exact ⟨by omega, ⟨by omega, by omega⟩, by omega, trivial, hP⟩
    · rw [if_neg (by omega)] at e
      simp only [P1_add, w5, qS_normal, qB_normal, impl_SplitFields_r2_sh, impl_SplitFields_r3_sh, impl_SplitFields_r4_sh, e]
      exact ⟨by omega, trivial, hP⟩
  · have e : k = s.length + 1 := by omega
    subst e
    rw [List.take_of_length_le (by omega)] at ha
    simp only [qS_exit, qB_exit, if_true, qS_normal, impl_SplitFields_r5_sh, P1_len, P1_gtr, ifB_bool, decide_eq_true_eq, decide_eq_false_iff_not, qRet_ret]
    refine ⟨fun h3 => ?_, fun h3 => ?_⟩
    · have h4 := fieldsOk_many (s := s) (by omega)
      simp [fieldsOf_no h4, h4]
    · have h4 := fieldsOk_yes hl ha (by omega)
      simp [fieldsOf, h4]
end Go.Mw

