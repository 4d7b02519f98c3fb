/- What functions of the program compute, as small pure programs, shown against plain Lean functions: no condition. -/
import Derived.Test.YtbpghjdibloppabPl2
/- Laws' helpers on memory, and the plain functions of pieces, pins, cylinders, states. -/
namespace Go.Mw
theorem mark_set_get {α : Type} {l m : List α} {k : Nat} {x : α} (hm : m.length = l.length) (h : k < l.length) : ((m.take k ++ l.drop k).set k x)[k]? = some x := by
  rw [List.getElem?_set_self (by simp; omega)]

theorem laws_szPinS_ok : ∀ ds outs, F_szPinS ds = some outs → shL laws_szPinS_L (qRet outs) ds := F_szPinS_elim fun l n hp => by
  rw [laws_szPinS_L_sh]
  simp (disch := omega) [wrap_id]
  grind

theorem laws_toPinS_ok : ∀ ds outs, F_toPinS ds = some outs → shL laws_toPinS_L (qRet outs) ds := F_toPinS_elim fun l hp => by
  rw [laws_toPinS_L_sh]
  simp
  refine ⟨by omega, ?_⟩
  refine loop_upto l.length (fun k => [vL I2 v2 l, .int .i64 k, vL I2 v2 (l.take k ++ List.replicate (l.length - k) ⟨0, 0⟩)]) (by intro i j _ _ h; simp at h; omega) (fun _ => True) (by simp) trivial ?_
  intro k hk _
  rw [laws_toPinS_b0_sh]
  simp
  refine ⟨fun h => ?_, fun h => ?_⟩
  · rw [fill_get h (by omega)]
    simp (disch := omega) [h, fill_set h, wrap_id]
  · obtain rfl : k = l.length := by omega
    simp [laws_toPinS_r1_sh]

theorem laws_eqPinS_ok : ∀ ds outs, F_eqPinS ds = some outs → shL laws_eqPinS_L (qRet outs) ds := F_eqPinS_elim fun l m hp => by
  rw [laws_eqPinS_L_sh]
  simp
  refine ⟨fun h => ?_, fun hl => ?_⟩
  · rintro rfl; omega
  refine loop_upto l.length (fun k => [vL I2 v2 l, vL I2 v2 m, .int .i64 k]) (by intro i j _ _ h; simp at h; omega) (fun k => l.take k = m.take k) (by simp) (by simp) ?_
  intro k hk hP
  rw [laws_eqPinS_b0_sh]
  simp
  refine ⟨fun h => ?_, fun h => ?_⟩
  · have h2 : k < m.length := by omega
    simp (disch := omega) [h, wrap_id]
    refine ⟨fun hne he => ?_, fun h3 => ?_⟩
    · subst he; exact hne rfl
    · rw [take_succ_get h, take_succ_get h2, hP, h3]
  · obtain rfl : k = l.length := by omega
    rw [List.take_length, List.take_of_length_le (by omega)] at hP
    simp [laws_eqPinS_r1_sh, hP]

theorem laws_toIntS_ok : ∀ ds outs, F_toIntS ds = some outs → shL laws_toIntS_L (qRet outs) ds := F_toIntS_elim fun l hp => by
  rw [laws_toIntS_L_sh]
  simp
  refine ⟨by omega, ?_⟩
  refine loop_upto l.length (fun k => [vL I1 v1 l, .int .i64 k, vL I1 v1 (l.take k ++ List.replicate (l.length - k) 0)]) (by intro i j _ _ h; simp at h; omega) (fun _ => True) (by simp) trivial ?_
  intro k hk _
  rw [laws_toIntS_b0_sh]
  simp
  refine ⟨fun h => ?_, fun h => ?_⟩
  · rw [fill_get h (by omega)]
    simp (disch := omega) [h, fill_set h, wrap_id]
  · obtain rfl : k = l.length := by omega
    simp [laws_toIntS_r1_sh]

theorem laws_eqIntS_ok : ∀ ds outs, F_eqIntS ds = some outs → shL laws_eqIntS_L (qRet outs) ds := F_eqIntS_elim fun l m hp => by
  rw [laws_eqIntS_L_sh]
  simp
  refine ⟨fun h => ?_, fun hl => ?_⟩
  · rintro rfl; omega
  refine loop_upto l.length (fun k => [vL I1 v1 l, vL I1 v1 m, .int .i64 k]) (by intro i j _ _ h; simp at h; omega) (fun k => l.take k = m.take k) (by simp) (by simp) ?_
  intro k hk hP
  rw [laws_eqIntS_b0_sh]
  simp
  refine ⟨fun h => ?_, fun h => ?_⟩
  · have h2 : k < m.length := by omega
    simp (disch := omega) [h, wrap_id]
    refine ⟨fun hne he => ?_, fun h3 => ?_⟩
    · subst he; exact hne rfl
    · rw [take_succ_get h, take_succ_get h2, hP, h3]
  · obtain rfl : k = l.length := by omega
    rw [List.take_length, List.take_of_length_le (by omega)] at hP
    simp [laws_eqIntS_r1_sh, hP]

theorem laws_szBoxS_ok : ∀ ds outs, F_szBoxS ds = some outs → shL laws_szBoxS_L (qRet outs) ds := F_szBoxS_elim fun l n hp => by
  rw [laws_szBoxS_L_sh]
  simp (disch := omega) [wrap_id]
  grind

theorem laws_toBoxS_ok : ∀ ds outs, F_toBoxS ds = some outs → shL laws_toBoxS_L (qRet outs) ds := F_toBoxS_elim fun l hp => by
  rw [laws_toBoxS_L_sh]
  simp
  refine ⟨by omega, ?_⟩
  refine loop_upto l.length (fun k => [vL I3 v3 l, .int .i64 k, vL I3 v3 (l.take k ++ List.replicate (l.length - k) ⟨0, 0, 0⟩)]) (by intro i j _ _ h; simp at h; omega) (fun _ => True) (by simp) trivial ?_
  intro k hk _
  rw [laws_toBoxS_b0_sh]
  simp
  refine ⟨fun h => ?_, fun h => ?_⟩
  · rw [fill_get h (by omega)]
    simp (disch := omega) [h, fill_set h, wrap_id]
  · obtain rfl : k = l.length := by omega
    simp [laws_toBoxS_r1_sh]

theorem laws_eqBoxS_ok : ∀ ds outs, F_eqBoxS ds = some outs → shL laws_eqBoxS_L (qRet outs) ds := F_eqBoxS_elim fun l m hp => by
  rw [laws_eqBoxS_L_sh]
  simp
  refine ⟨fun h => ?_, fun hl => ?_⟩
  · rintro rfl; omega
  refine loop_upto l.length (fun k => [vL I3 v3 l, vL I3 v3 m, .int .i64 k]) (by intro i j _ _ h; simp at h; omega) (fun k => l.take k = m.take k) (by simp) (by simp) ?_
  intro k hk hP
  rw [laws_eqBoxS_b0_sh]
  simp
  refine ⟨fun h => ?_, fun h => ?_⟩
  · have h2 : k < m.length := by omega
    simp (disch := omega) [h, wrap_id]
    refine ⟨fun hne he => ?_, fun h3 => ?_⟩
    · subst he; exact hne rfl
    · rw [take_succ_get h, take_succ_get h2, hP, h3]
  · obtain rfl : k = l.length := by omega
    rw [List.take_length, List.take_of_length_le (by omega)] at hP
    simp [laws_eqBoxS_r1_sh, hP]

theorem laws_markIntS_ok : ∀ ds outs, F_markIntS ds = some outs → shL laws_markIntS_L (qRet outs) ds := F_markIntS_elim fun l k hp => by
  rw [laws_markIntS_L_sh]
  refine loop_upto l.length (fun i => [.int .i64 (k + 1 * i), .int .i64 i, vL I1 v1 ((markL1 l.length k).take i ++ l.drop i)]) (by intro i j _ _ h; simp at h; omega) (fun _ => True) (by simp) trivial ?_
  intro i hi _
  have hml : (markL1 l.length k).length = l.length := markL1_len
  rw [laws_markIntS_b0_sh]
  simp
  have e0 : ((min i l.length : Nat) : Int) + ((l.length - i : Nat) : Int) = l.length := by omega
  simp only [e0]
  refine ⟨fun h => ?_, fun h => ?_⟩
  · replace h : i < l.length := by omega
    rw [mark_get hml h]
    have hs := mark_set hml h
    have hg : (markL1 l.length k)[i]'(by omega) = k + (i : Int) := by simp [markL1]
    rw [hg] at hs
    simp (disch := omega) [h, wrap_id, hs]
    omega
  · obtain rfl : i = l.length := by omega
    have e1 : List.take l.length (markL1 l.length k) = markL1 l.length k := List.take_of_length_le (by simp)
    simp [laws_markIntS_r1_sh, e1]

theorem laws_heldIntS_ok : ∀ ds outs, F_heldIntS ds = some outs → shL laws_heldIntS_L (qRet outs) ds := F_heldIntS_elim fun l k hp => by
  rw [laws_heldIntS_L_sh]
  refine loop_upto l.length (fun i => [vL I1 v1 l, .int .i64 (k + 1 * i), .int .i64 i]) (by intro i j _ _ h; simp at h; omega) (fun i => ∀ j (hj : j < l.length), j < i → l[j] = (markL1 l.length k)[j]'(by simp; omega)) (by simp) (by simp) ?_
  intro i hi hP
  rw [laws_heldIntS_b0_sh]
  simp
  refine ⟨fun h => ?_, fun h => ?_⟩
  · have hg : (markL1 l.length k)[i]'(by simp; omega) = k + (i : Int) := by simp [markL1]
    have hno : l[i] ≠ (markL1 l.length k)[i]'(by simp; omega) → l ≠ markL1 l.length k := by
      intro hne he
      exact hne (by simp only [← he])
    have hstep : l[i] = (markL1 l.length k)[i]'(by simp; omega) → ∀ j (hj : j < l.length), j < i + 1 → l[j] = (markL1 l.length k)[j]'(by simp; omega) := by
      intro he j hj hji
      by_cases hjj : j = i
      · subst hjj; exact he
      · exact hP j hj (by omega)
    rw [hg] at hno hstep
    simp (disch := omega) only [h, List.getElem?_eq_getElem, Option.some.injEq, exists_eq_left', wrap_id, true_and]
    grind
  · obtain rfl : i = l.length := by omega
    have he : l = markL1 l.length k := List.ext_getElem (by simp) fun j h1 h2 => hP j h1 h1
    simp [laws_heldIntS_r1_sh]
    intro h; exact absurd he h

theorem laws_markPinS_ok : ∀ ds outs, F_markPinS ds = some outs → shL laws_markPinS_L (qRet outs) ds := F_markPinS_elim fun l k hp => by
  rw [laws_markPinS_L_sh]
  refine loop_upto l.length (fun i => [.int .i64 (k + 2 * i), .int .i64 i, vL I2 v2 ((markL2 l.length k).take i ++ l.drop i)]) (by intro i j _ _ h; simp at h; omega) (fun _ => True) (by simp) trivial ?_
  intro i hi _
  have hml : (markL2 l.length k).length = l.length := markL2_len
  rw [laws_markPinS_b0_sh]
  simp
  have e0 : ((min i l.length : Nat) : Int) + ((l.length - i : Nat) : Int) = l.length := by omega
  simp only [e0]
  refine ⟨fun h => ?_, fun h => ?_⟩
  · replace h : i < l.length := by omega
    rw [mark_get hml h]
    have hs := mark_set hml h
    have hg : (markL2 l.length k)[i]'(by omega) = ⟨k + 2 * (i : Int), k + 2 * (i : Int) + 1⟩ := by simp [markL2]
    rw [hg] at hs
    simp (disch := omega) [h, wrap_id, hs, fun x => mark_set_get (x := x) hml h]
    omega
  · obtain rfl : i = l.length := by omega
    have e1 : List.take l.length (markL2 l.length k) = markL2 l.length k := List.take_of_length_le (by simp)
    simp [laws_markPinS_r1_sh, e1]

theorem laws_toPin_ok : ∀ ds outs, F_toPin ds = some outs → shL laws_toPin_L (qRet outs) ds := F_toPin_elim fun x => by
  rw [laws_toPin_L_sh]; simp
theorem laws_eqPin_ok : ∀ ds outs, F_eqPin ds = some outs → shL laws_eqPin_L (qRet outs) ds := F_eqPin_elim fun x y => by
  rw [laws_eqPin_L_sh]
  cases x; cases y
  simp
  grind
theorem laws_szCylinder_ok : ∀ ds outs, F_szCylinder ds = some outs → shL laws_szCylinder_L (qRet outs) ds := F_szCylinder_elim fun x n hp => by
  rw [laws_szCylinder_L_sh]
  simp [p_szPinS hp]
  grind
theorem laws_toCylinder_ok : ∀ ds outs, F_toCylinder ds = some outs → shL laws_toCylinder_L (qRet outs) ds := F_toCylinder_elim fun x hp => by
  rw [laws_toCylinder_L_sh]
  simp [p_toPinS hp]
theorem laws_toState_ok : ∀ ds outs, F_toState ds = some outs → shL laws_toState_L (qRet outs) ds := F_toState_elim fun x => by
  rw [laws_toState_L_sh]; simp
end Go.Mw

/- Pieces, pins, cylinders, states: the functions compute what was said. -/
namespace Go.Mw

theorem laws_eqState_ok : ∀ ds outs, F_eqState ds = some outs → shL laws_eqState_L (qRet outs) ds := F_eqState_elim fun x y => by
  rw [laws_eqState_L_sh]
  cases x; cases y
  simp
  grind
theorem laws_eqCylinder_ok : ∀ ds outs, F_eqCylinder ds = some outs → shL laws_eqCylinder_L (qRet outs) ds := F_eqCylinder_elim fun x y hp => by
  rw [laws_eqCylinder_L_sh]
  simp [p_eqPinS hp]
  grind
theorem laws_markCylinder_ok : ∀ ds outs, F_markCylinder ds = some outs → shL laws_markCylinder_L (qRet outs) ds := F_markCylinder_elim fun x k hp => by
  rw [laws_markCylinder_L_sh]
  simp [p_markPinS hp]

/-! show time -/
theorem pieceOk_iff (x : T2) : pieceOk x = true ↔ (1 ≤ x.a ∧ x.a ≤ 600) ∧ (0 ≤ x.b ∧ x.b ≤ 9) := by
  simp [pieceOk, within]
theorem piecesOk_len {l : List T2} (h : piecesOk l = true) : l.length ≤ 12 := by
  simp [piecesOk] at h; omega
theorem piecesOk_get {l : List T2} (h : piecesOk l = true) {k : Nat} (hk : k < l.length) : (1 ≤ l[k].a ∧ l[k].a ≤ 600) ∧ (0 ≤ l[k].b ∧ l[k].b ≤ 9) := by
  simp [piecesOk] at h
  exact (pieceOk_iff _).1 (h.2 _ (by simp))
theorem showSum_le {l : List T2} (h : piecesOk l = true) {p : Int} (h0 : 0 ≤ p) (h1 : p ≤ 600) : ∀ k : Nat, k ≤ l.length → 0 ≤ showSum p l k ∧ showSum p l k ≤ 1200 * k
  | 0, _ => by simp [showSum]
  | k + 1, hk => by
    have ih := showSum_le h h0 h1 k (by omega)
    have hg := piecesOk_get h (k := k) (by omega)
    simp only [showSum, List.getElem?_eq_getElem (show k < l.length by omega)]
    split <;> push_cast <;> omega

theorem spec_ShowTime_ok : ∀ ds outs, F_ShowTime ds = some outs → shL spec_ShowTime_L (qRet outs) ds := F_ShowTime_elim fun l p hp => by
  rw [spec_ShowTime_L_sh]
  cases h : piecesOk l with
  | false => simp [p_PiecesOk hp, h, showTime]
  | true =>
    cases h2 : within p 0 600 with
    | false => simp [p_PiecesOk hp, h, h2, showTime]
    | true =>
      have hw : 0 ≤ p ∧ p ≤ 600 := by simpa [within] using h2
      have hlen := piecesOk_len h
      simp [p_PiecesOk hp, h, h2, showTime]
      refine loop_upto l.length (fun k => [vL I2 v2 l, .int .i64 p, .int .i64 (showSum p l k), .int .i64 k]) (by intro i j _ _ h; simp at h; omega) (fun _ => True) (by simp [showSum]) trivial ?_
      intro k hk _
      have hb := showSum_le h hw.1 hw.2 k hk
      rw [spec_ShowTime_b0_sh]
      simp
      refine ⟨fun h3 => ?_, fun h3 => ?_⟩
      · have hg := piecesOk_get h h3
        have e : showSum p l (k + 1) = showSum p l k + l[k].a + (if 0 < k then p else 0) := by simp [showSum, h3]
        rw [e]
        simp (disch := omega) [h3, wrap_id]
        by_cases h4 : 0 < k
        · simp [h4]; omega
        · simp [h4]
      · obtain rfl : k = l.length := by omega
        simp [spec_ShowTime_r1_sh]
theorem impl_ShowTime_ok : ∀ ds outs, F_ShowTime ds = some outs → shL impl_ShowTime_L (qRet outs) ds := F_ShowTime_elim fun l p hp => by
  rw [impl_ShowTime_L_sh]
  cases h : piecesOk l with
  | false => simp [p_PiecesOk hp, h, showTime]
  | true =>
    cases h2 : within p 0 600 with
    | false => simp [p_PiecesOk hp, h, h2, showTime]
    | true =>
      have hw : 0 ≤ p ∧ p ≤ 600 := by simpa [within] using h2
      have hlen := piecesOk_len h
      simp [p_PiecesOk hp, h, h2, showTime]
      refine loop_upto l.length (fun k => [.int .i64 p, .int .i64 (showSum p l k), vL I2 v2 l, .int .i64 l.length, .int .i64 k]) (by intro i j _ _ h; simp at h; omega) (fun _ => True) (by simp [showSum]) trivial ?_
      intro k hk _
      have hb := showSum_le h hw.1 hw.2 k hk
      rw [impl_ShowTime_b0_sh]
      simp
      refine ⟨fun h3 => ?_, fun h3 => ?_⟩
      · have hg := piecesOk_get h h3
        have e : showSum p l (k + 1) = showSum p l k + l[k].a + (if 0 < k then p else 0) := by simp [showSum, h3]
        rw [e]
        simp (disch := omega) [h3, wrap_id]
        by_cases h4 : 0 < k
        · simp [h4]; omega
        · simp [h4]
      · obtain rfl : k = l.length := by omega
        simp [impl_ShowTime_r1_sh]
theorem laws_FnExactShowTime_ok : ∀ ds outs, F_FnExactShowTime ds = some outs → shL laws_FnExactShowTime_L (qRet outs) ds := F_FnExactShowTime_elim fun l p hp => by
  rw [laws_FnExactShowTime_L_sh]
  rw [p_szPieceS (by have := hp.1.1; omega)]
  by_cases h : (l.length : Int) ≤ 1048576
  · have h' : l.length ≤ 1048576 := by omega
    simp [h, h', p_toPieceS, p_ShowTime, p_eqPieceS]
  · simp [h]

/-! cylinders -/
theorem spec_l06Less_ok : ∀ ds outs, F_l06Less ds = some outs → shL spec_l06Less_L (qRet outs) ds := F_l06Less_elim fun x y => by
  rw [spec_l06Less_L_sh]; simp [pinLess]; grind
theorem impl_comparePins_ok : ∀ ds outs, F_comparePins ds = some outs → shL impl_comparePins_L (qRet outs) ds := F_comparePins_elim fun x y => by
  rw [impl_comparePins_L_sh]
  cases x; cases y
  simp [pinLess]
  grind
end Go.Mw

/- Cylinders and their pins. -/
namespace Go.Mw

theorem rising_iff : ∀ l : List T2, rising l = true ↔ ∀ j (_ : j < l.length), 0 < j → pinLess l[j - 1] l[j] = true
  | [] => by simp [rising]
  | [a] => by simp [rising]
  | a :: b :: r => by
    simp only [rising, Bool.and_eq_true, rising_iff (b :: r)]
    constructor
    · rintro ⟨h1, h2⟩ j hj h0
      rcases j with _ | _ | j
      · omega
      · exact h1
      · exact h2 (j + 1) (by simp at hj ⊢; omega) (by omega)
    · intro h
      refine ⟨h 1 (by simp) (by omega), fun j hj h0 => ?_⟩
      have := h (j + 1) (by simp at hj ⊢; omega) (by omega)
      rcases j with _ | j
      · omega
      · exact this

def goodPin (x : Cyl) (j : Nat) (hj : j < x.p.length) : Prop := pinIn x.s x.t x.p[j] = true ∧ (0 < j → pinLess x.p[j - 1] x.p[j] = true)
theorem cylOk_iff (x : Cyl) : cylOk x = true ↔ within x.s 4 96 = true ∧ within x.t 1 100 = true ∧ x.p.length ≤ 100 ∧ ∀ j (hj : j < x.p.length), goodPin x j hj := by
  simp only [cylOk, Bool.and_eq_true, decide_eq_true_eq, rising_iff, List.all_eq_true, goodPin, and_assoc]
  refine and_congr_right fun _ => and_congr_right fun _ => and_congr_right fun _ => ?_
  constructor
  · rintro ⟨h1, h2⟩ j hj
    exact ⟨h1 _ (List.getElem_mem hj), h2 j hj⟩
  · intro h
    refine ⟨fun p hp => ?_, fun j hj h0 => (h j hj).2 h0⟩
    obtain ⟨j, hj, rfl⟩ := List.getElem_of_mem hp
    exact (h j hj).1

theorem spec_CylinderOk_ok : ∀ ds outs, F_CylinderOk ds = some outs → shL spec_CylinderOk_L (qRet outs) ds := F_CylinderOk_elim fun x hp => by
  rw [spec_CylinderOk_L_sh]
  cases h1 : within x.s 4 96 with
  | false => simp [h1, cylOk]
  | true =>
  cases h2 : within x.t 1 100 with
  | false => simp [h1, h2, cylOk]
  | true =>
  have hs : 4 ≤ x.s ∧ x.s ≤ 96 := by simpa [within] using h1
  have ht : 1 ≤ x.t ∧ x.t ≤ 100 := by simpa [within] using h2
  simp [h1, h2]
  refine ⟨fun h => ?_, fun h3 => ?_⟩
  · cases hc : cylOk x with
    | false => rfl
    | true => have := ((cylOk_iff x).1 hc).2.2.1; omega
  have hc : cylOk x = true ↔ ∀ j (hj : j < x.p.length), goodPin x j hj := by
    rw [cylOk_iff, h1, h2]; simp; intro _; omega
  refine loop_upto x.p.length (fun k => [.int .i64 k, .int .i64 x.s, .int .i64 x.t, vL I2 v2 x.p]) (by intro i j _ _ h; simp at h; omega) (fun k => ∀ j (hj : j < x.p.length), j < k → goodPin x j hj) (by simp) (by simp) ?_
  intro k hk hP
  rw [spec_CylinderOk_b0_sh]
  simp
  refine ⟨fun h => ?_, fun h => ?_⟩
  · have hbad : ¬ goodPin x k h → cylOk x = false := fun hn => by
      cases hcc : cylOk x with
      | false => rfl
      | true => exact absurd (hc.1 hcc k h) hn
    have hgood : goodPin x k h → ∀ j (hj : j < x.p.length), j < k + 1 → goodPin x j hj := fun hg j hj hjk => by
      by_cases hjk2 : j = k
      · subst hjk2; exact hg
      · exact hP j hj (by omega)
    simp (disch := omega) only [h, List.getElem?_eq_getElem, Option.some.injEq, exists_eq_left', wrap_id]
    cases e1 : within x.p[k].a 0 (x.t - 1) with
    | false => simp; exact hbad (by simp [goodPin, pinIn, e1])
    | true =>
    cases e2 : within x.p[k].b 0 (x.s - 1) with
    | false => simp; exact hbad (by simp [goodPin, pinIn, e1, e2])
    | true =>
    have hk1 : ((k : Int) - 1).toNat = k - 1 := by omega
    have hk2 : k - 1 < x.p.length := by omega
    simp (disch := omega) [hk1]
    refine ⟨fun hk0 => ⟨by omega, fun e3 => hbad (by simp [goodPin, e3, hk0]), fun e3 => ?_⟩, fun hk0 => ?_⟩
    · exact hgood (by simp [goodPin, pinIn, e1, e2, e3])
    · exact hgood ⟨by simp [pinIn, e1, e2], fun hh => by omega⟩
  · obtain rfl : k = x.p.length := by omega
    simp [spec_CylinderOk_r1_sh]
    exact (hc.2 fun j hj => hP j hj hj)
theorem impl_CylinderOk_ok : ∀ ds outs, F_CylinderOk ds = some outs → shL impl_CylinderOk_L (qRet outs) ds := F_CylinderOk_elim fun x hp => by
  rw [impl_CylinderOk_L_sh]
  cases h1 : within x.s 4 96 with
  | false => simp [h1, cylOk]
  | true =>
  cases h2 : within x.t 1 100 with
  | false => simp [h1, h2, cylOk]
  | true =>
  have hs : 4 ≤ x.s ∧ x.s ≤ 96 := by simpa [within] using h1
  have ht : 1 ≤ x.t ∧ x.t ≤ 100 := by simpa [within] using h2
  simp [h1, h2]
  refine ⟨fun h => ?_, fun h3 => ?_⟩
  · cases hc : cylOk x with
    | false => rfl
    | true => have := ((cylOk_iff x).1 hc).2.2.1; omega
  have hc : cylOk x = true ↔ ∀ j (hj : j < x.p.length), goodPin x j hj := by
    rw [cylOk_iff, h1, h2]; simp; intro _; omega
  refine loop_upto x.p.length (fun k => [vL I2 v2 x.p, .int .i64 x.p.length, .int .i64 k, .int .i64 x.s, .int .i64 x.t, vL I2 v2 x.p]) (by intro i j _ _ h; simp at h; omega) (fun k => ∀ j (hj : j < x.p.length), j < k → goodPin x j hj) (by simp) (by simp) ?_
  intro k hk hP
  rw [impl_CylinderOk_b0_sh]
  simp
  refine ⟨fun h => ?_, fun h => ?_⟩
  · have hbad : ¬ goodPin x k h → cylOk x = false := fun hn => by
      cases hcc : cylOk x with
      | false => rfl
      | true => exact absurd (hc.1 hcc k h) hn
    have hgood : goodPin x k h → ∀ j (hj : j < x.p.length), j < k + 1 → goodPin x j hj := fun hg j hj hjk => by
      by_cases hjk2 : j = k
      · subst hjk2; exact hg
      · exact hP j hj (by omega)
    simp (disch := omega) only [h, List.getElem?_eq_getElem, Option.some.injEq, exists_eq_left', wrap_id]
    cases e1 : within x.p[k].a 0 (x.t - 1) with
    | false => simp; exact hbad (by simp [goodPin, pinIn, e1])
    | true =>
    cases e2 : within x.p[k].b 0 (x.s - 1) with
    | false => simp; exact hbad (by simp [goodPin, pinIn, e1, e2])
    | true =>
    have hk1 : ((k : Int) - 1).toNat = k - 1 := by omega
    have hk2 : k - 1 < x.p.length := by omega
    simp (disch := omega) [hk1]
    refine ⟨fun hk0 => ⟨by omega, fun e3 => hbad ?_, fun e3 => ?_⟩, fun hk0 => ?_⟩
    · simp only [goodPin, hk0, forall_const, not_and]
      intro _ e4
      simp [e4] at e3
    · refine hgood ⟨by simp [pinIn, e1, e2], fun _ => ?_⟩
      by_cases e4 : pinLess x.p[k - 1] x.p[k] = true
      · exact e4
      · rw [if_neg e4] at e3
        split at e3 <;> omega
    · exact hgood ⟨by simp [pinIn, e1, e2], fun hh => by omega⟩
  · obtain rfl : k = x.p.length := by omega
    simp [impl_CylinderOk_r1_sh]
    exact (hc.2 fun j hj => hP j hj hj)

theorem spec_StateOk_ok : ∀ ds outs, F_StateOk ds = some outs → shL spec_StateOk_L (qRet outs) ds := F_StateOk_elim fun x y hp => by
  rw [spec_StateOk_L_sh]
  rw [p_CylinderOk hp]
  cases h : cylOk x with
  | false => simp [sttOk, h]
  | true =>
    have hs : 4 ≤ x.s ∧ x.s ≤ 96 := by simpa [within] using ((cylOk_iff x).1 h).1
    simp (disch := omega) [sttOk, h, wrap_id]
    cases within y.a 0 (x.s - 1) <;> simp
theorem impl_StateOk_ok : ∀ ds outs, F_StateOk ds = some outs → shL impl_StateOk_L (qRet outs) ds := F_StateOk_elim fun x y hp => by
  rw [impl_StateOk_L_sh]
  rw [p_CylinderOk hp]
  cases h : cylOk x with
  | false => simp [sttOk, h]
  | true =>
    have hs : 4 ≤ x.s ∧ x.s ≤ 96 := by simpa [within] using ((cylOk_iff x).1 h).1
    simp (disch := omega) [sttOk, h, wrap_id]
    cases within y.a 0 (x.s - 1) <;> simp
theorem laws_FnExactStateOk_ok : ∀ ds outs, F_FnExactStateOk ds = some outs → shL laws_FnExactStateOk_L (qRet outs) ds := F_FnExactStateOk_elim fun x y hp => by
  rw [laws_FnExactStateOk_L_sh]
  rw [p_szCylinder (x_p := x.p) ⟨hp.2.2.1.1, by omega, by omega⟩]
  by_cases h : (x.p.length : Int) ≤ 1048576
  · have h' : x.p.length ≤ 1048576 := by omega
    simp [h, h', p_toCylinder, p_StateOk, p_eqCylinder]
  · simp [h]
end Go.Mw

/- Sums, steps, states. -/
namespace Go.Mw

theorem cylOk_bounds {x : Cyl} (h : cylOk x = true) : (4 ≤ x.s ∧ x.s ≤ 96) ∧ (1 ≤ x.t ∧ x.t ≤ 100) ∧ x.p.length ≤ 100 := by
  have h := (cylOk_iff x).1 h
  exact ⟨by simpa [within] using h.1, by simpa [within] using h.2.1, h.2.2.1⟩
theorem cylOk_pin {x : Cyl} (h : cylOk x = true) {k : Nat} (hk : k < x.p.length) : (0 ≤ x.p[k].a ∧ x.p[k].a ≤ 99) ∧ (0 ≤ x.p[k].b ∧ x.p[k].b ≤ 95) := by
  have hb := cylOk_bounds h
  have h := (((cylOk_iff x).1 h).2.2.2 k hk).1
  simp [pinIn, within] at h
  omega
theorem pinSumGo_snoc (x : T2) : ∀ (l : List T2) (k : Int), pinSumGo (l ++ [x]) k = pinSumGo l k + (k + l.length) * (100 * x.a + x.b + 1)
  | [], k => by simp [pinSumGo]
  | p :: r, k => by
    simp only [List.cons_append, pinSumGo, pinSumGo_snoc x r (k + 1), List.length_cons]
    push_cast
    rw [show k + 1 + (r.length : Int) = k + ((r.length : Int) + 1) by omega]
    omega
theorem pinSumGo_bound {x : Cyl} (h : cylOk x = true) : ∀ k : Nat, k ≤ x.p.length → 0 ≤ pinSumGo (x.p.take k) 1 ∧ pinSumGo (x.p.take k) 1 ≤ 1000000 * k
  | 0, _ => by simp [pinSumGo]
  | k + 1, hk => by
    have ih := pinSumGo_bound h k (by omega)
    have hp := cylOk_pin h (k := k) (by omega)
    have hb := cylOk_bounds h
    rw [take_succ_get (by omega), pinSumGo_snoc]
    have e : ((x.p.take k).length : Int) = k := by simp; omega
    rw [e]
    generalize x.p[k].a = a at *
    generalize x.p[k].b = b at *
    have h1 : (0 : Int) ≤ (1 + k) * (100 * a + b + 1) := Int.mul_nonneg (by omega) (by omega)
    have h2 : (1 + (k : Int)) * (100 * a + b + 1) ≤ 100 * 10000 := Int.mul_le_mul (by omega) (by omega) (by omega) (by omega)
    omega
theorem mul_b {a b : Int} (h0 : 0 ≤ a) (h1 : a ≤ 100) (h2 : 0 ≤ b) (h3 : b ≤ 10000) : 0 ≤ a * b ∧ a * b ≤ 1000000 :=
  ⟨Int.mul_nonneg h0 h2, Int.le_trans (Int.mul_le_mul h1 h3 h2 (by omega)) (by omega)⟩
theorem impl_PinSum_ok : ∀ ds outs, F_PinSum ds = some outs → shL impl_PinSum_L (qRet outs) ds := F_PinSum_elim fun x hp => by
  rw [impl_PinSum_L_sh]
  rw [p_CylinderOk hp]
  cases h : cylOk x with
  | false => simp [pinSum, h]
  | true =>
    have hb := cylOk_bounds h
    simp [pinSum, h]
    refine loop_upto x.p.length (fun k => [.int .i64 (pinSumGo (x.p.take k) 1), vL I2 v2 x.p, .int .i64 x.p.length, .int .i64 k]) (by intro i j _ _ h; simp at h; omega) (fun _ => True) (by simp [pinSumGo]) trivial ?_
    intro k hk _
    have hs := pinSumGo_bound h k hk
    rw [impl_PinSum_b0_sh]
    simp
    refine ⟨fun h3 => ?_, fun h3 => ?_⟩
    · have hq := cylOk_pin h h3
      have e : pinSumGo (x.p.take (k + 1)) 1 = pinSumGo (x.p.take k) 1 + ((k : Int) + 1) * (100 * x.p[k].a + x.p[k].b + 1) := by
        rw [take_succ_get h3, pinSumGo_snoc, show 1 + ((x.p.take k).length : Int) = (k : Int) + 1 by simp; omega]
      rw [e]
      have hm := mul_b (a := (k : Int) + 1) (b := 100 * x.p[k].a + x.p[k].b + 1) (by omega) (by omega) (by omega) (by omega)
      simp (disch := omega) [h3, wrap_id]
    · obtain rfl : k = x.p.length := by omega
      simp [impl_PinSum_r1_sh]
      rw [List.take_length] at hs
      rw [Int.tmod_eq_emod_of_nonneg (by omega)]
theorem spec_PinSum_ok : ∀ ds outs, F_PinSum ds = some outs → shL spec_PinSum_L (qRet outs) ds := F_PinSum_elim fun x hp => by
  rw [spec_PinSum_L_sh]
  rw [p_CylinderOk hp]
  cases h : cylOk x with
  | false => simp [pinSum, h]
  | true =>
    have hb := cylOk_bounds h
    simp [pinSum, h]
    refine loop_upto x.p.length (fun k => [.int .i64 (pinSumGo (x.p.take k) 1 % 9973), .int .i64 k, .int .i64 x.s, .int .i64 x.t, vL I2 v2 x.p]) (by intro i j _ _ h; simp at h; omega) (fun _ => True) (by simp [pinSumGo]) trivial ?_
    intro k hk _
    have hs := pinSumGo_bound h k hk
    rw [spec_PinSum_b0_sh]
    simp
    refine ⟨fun h3 => ?_, fun h3 => ?_⟩
    · have hq := cylOk_pin h h3
      have e : pinSumGo (x.p.take (k + 1)) 1 = pinSumGo (x.p.take k) 1 + ((k : Int) + 1) * (100 * x.p[k].a + x.p[k].b + 1) := by
        rw [take_succ_get h3, pinSumGo_snoc, show 1 + ((x.p.take k).length : Int) = (k : Int) + 1 by simp; omega]
      rw [e]
      have hm := mul_b (a := (k : Int) + 1) (b := 100 * x.p[k].a + x.p[k].b + 1) (by omega) (by omega) (by omega) (by omega)
      simp (disch := omega) [h3, wrap_id]
      generalize ((k : Int) + 1) * (100 * x.p[k].a + x.p[k].b + 1) = z at *
      generalize pinSumGo (x.p.take k) 1 = w at *
      rw [Int.tmod_eq_emod_of_nonneg (by omega)]
      omega
    · obtain rfl : k = x.p.length := by omega
      simp [spec_PinSum_r1_sh]
theorem laws_FnExactPinSum_ok : ∀ ds outs, F_FnExactPinSum ds = some outs → shL laws_FnExactPinSum_L (qRet outs) ds := F_FnExactPinSum_elim fun x hp => by
  rw [laws_FnExactPinSum_L_sh]
  rw [p_szCylinder (x_p := x.p) ⟨hp.2.2.1, by omega, by omega⟩]
  by_cases h : (x.p.length : Int) ≤ 1048576
  · have h' : x.p.length ≤ 1048576 := by omega
    simp [h, h', p_toCylinder, p_PinSum, p_eqCylinder]
  · simp [h]
end Go.Mw

/- States: around, pins at an angle, start, stop, step. -/
namespace Go.Mw

theorem around_eq {n s : Int} (hs : 1 ≤ s) : (n.tmod s + s).tmod s = n % s := by
  have h2 := Int.lt_tmod_of_pos n (b := s) (by omega)
  rw [Int.tmod_eq_emod_of_nonneg (by omega), Int.add_emod_right]
  have e := Int.tmod_add_mul_tdiv n s
  rw [show n % s = (n.tmod s + s * n.tdiv s) % s by rw [e], Int.add_mul_emod_self_left]
theorem spec_l06Mod_ok : ∀ ds outs, F_l06Mod ds = some outs → shL spec_l06Mod_L (qRet outs) ds := F_l06Mod_elim fun n s hp => by
  rw [spec_l06Mod_L_sh]
  have h1 := Int.tmod_lt_of_pos n (b := s) (by omega)
  have h2 := Int.lt_tmod_of_pos n (b := s) (by omega)
  simp (disch := omega) [wrap_id, around_eq]
  omega
theorem impl_around_ok : ∀ ds outs, F_around ds = some outs → shL impl_around_L (qRet outs) ds := F_around_elim fun n s hp => by
  rw [impl_around_L_sh]
  have h1 := Int.tmod_lt_of_pos n (b := s) (by omega)
  have h2 := Int.lt_tmod_of_pos n (b := s) (by omega)
  simp (disch := omega) [wrap_id, around_eq]
  omega

def pinsGo (x : Cyl) (a : Int) (k : Nat) : List Int := ((x.p.take k).filter fun p => p.b == a % x.s).map (·.a)
theorem pinsGo_succ {x : Cyl} {a : Int} {k : Nat} (h : k < x.p.length) : pinsGo x a (k + 1) = pinsGo x a k ++ (if x.p[k].b = a % x.s then [x.p[k].a] else []) := by
  unfold pinsGo
  rw [take_succ_get h, List.filter_append, List.map_append]
  congr 1
  by_cases h2 : x.p[k].b = a % x.s <;> simp [h2]
theorem pinsGo_len {x : Cyl} {a : Int} {k : Nat} (h : k ≤ x.p.length) : (pinsGo x a k).length ≤ k := by
  unfold pinsGo
  rw [List.length_map]
  refine Nat.le_trans (List.length_filter_le _ _) ?_
  simp; omega
theorem spec_PinsAt_ok : ∀ ds outs, F_PinsAt ds = some outs → shL spec_PinsAt_L (qRet outs) ds := F_PinsAt_elim fun x a hp => by
  rw [spec_PinsAt_L_sh]
  rw [P1_lst0, p_CylinderOk hp]
  cases h : cylOk x with
  | false => simp [pinsAt, h]
  | true =>
    have hb := cylOk_bounds h
    cases h2 : within a (-1000000) 1000000 with
    | false => simp [pinsAt, h, h2]
    | true =>
      have hw : -1000000 ≤ a ∧ a ≤ 1000000 := by simpa [within] using h2
      simp [pinsAt, h, h2]
      refine loop_upto x.p.length (fun k => [.int .i64 a, .int .i64 k, vL I1 v1 (pinsGo x a k), .int .i64 x.s, .int .i64 x.t, vL I2 v2 x.p]) (by intro i j _ _ h; simp at h; omega) (fun _ => True) (by simp [pinsGo]) trivial ?_
      intro k hk _
      have hl := pinsGo_len (a := a) hk
      rw [spec_PinsAt_b0_sh]
      simp [p_l06Mod (n := a) (s := x.s) (by omega)]
      refine ⟨fun h3 => ?_, fun h3 => ?_⟩
      · rw [pinsGo_succ h3]
        by_cases h4 : x.p[k].b = a % x.s
        · simp (disch := omega) [h3, h4, wrap_id]
          omega
        · simp (disch := omega) [h3, h4, wrap_id]
      · obtain rfl : k = x.p.length := by omega
        simp [spec_PinsAt_r1_sh, pinsGo]
theorem impl_PinsAt_ok : ∀ ds outs, F_PinsAt ds = some outs → shL impl_PinsAt_L (qRet outs) ds := F_PinsAt_elim fun x a hp => by
  rw [impl_PinsAt_L_sh]
  rw [p_CylinderOk hp]
  cases h : cylOk x with
  | false => simp [pinsAt, h]
  | true =>
    have hb := cylOk_bounds h
    cases h2 : within a (-1000000) 1000000 with
    | false => simp [pinsAt, h, h2]
    | true =>
      have hw : -1000000 ≤ a ∧ a ≤ 1000000 := by simpa [within] using h2
      simp [pinsAt, h, h2]
      refine loop_upto x.p.length (fun k => [.int .i64 a, vL I2 v2 x.p, .int .i64 x.p.length, .int .i64 k, vL I1 v1 (pinsGo x a k), .int .i64 x.s, .int .i64 x.t, vL I2 v2 x.p]) (by intro i j _ _ h; simp at h; omega) (fun _ => True) (by simp [pinsGo]) trivial ?_
      intro k hk _
      have hl := pinsGo_len (a := a) hk
      rw [impl_PinsAt_b0_sh]
      simp [p_around (n := a) (s := x.s) (by omega)]
      refine ⟨fun h3 => ?_, fun h3 => ?_⟩
      · rw [pinsGo_succ h3]
        by_cases h4 : x.p[k].b = a % x.s
        · simp (disch := omega) [h3, h4, wrap_id]
          omega
        · simp (disch := omega) [h3, h4, wrap_id]
      · obtain rfl : k = x.p.length := by omega
        simp [impl_PinsAt_r1_sh, pinsGo]
theorem pinsAt_len {x : Cyl} (_h : x.p.length ≤ 1048576) (a : Int) : (pinsAt x a).length ≤ 100 := by
  unfold pinsAt
  split
  · rename_i hc
    have hb := cylOk_bounds (by simp at hc; exact hc.1)
    rw [List.length_map]
    exact Nat.le_trans (List.length_filter_le _ _) hb.2.2
  · simp

theorem sttOk_iff (x : Cyl) (y : Stt) : sttOk x y = true ↔ cylOk x = true ∧ (0 ≤ y.a ∧ y.a ≤ x.s - 1) ∧ (0 ≤ y.p ∧ y.p ≤ 100000) := by
  simp [sttOk, within]
theorem spec_StartBox_ok : ∀ ds outs, F_StartBox ds = some outs → shL spec_StartBox_L (qRet outs) ds := F_StartBox_elim fun x y hp => by
  rw [spec_StartBox_L_sh]
  rw [p_StateOk hp]
  cases h : sttOk x y <;> cases h2 : y.n <;> simp [startBox, h, h2]
theorem impl_StartBox_ok : ∀ ds outs, F_StartBox ds = some outs → shL impl_StartBox_L (qRet outs) ds := F_StartBox_elim fun x y hp => by
  rw [impl_StartBox_L_sh]
  rw [p_StateOk hp]
  cases h : sttOk x y <;> cases h2 : y.n <;> simp [startBox, h, h2]
theorem spec_StopBox_ok : ∀ ds outs, F_StopBox ds = some outs → shL spec_StopBox_L (qRet outs) ds := F_StopBox_elim fun x y hp => by
  rw [spec_StopBox_L_sh]
  rw [p_StateOk hp]
  cases h : sttOk x y <;> cases h2 : y.n <;> simp [stopBox, h, h2]
theorem impl_StopBox_ok : ∀ ds outs, F_StopBox ds = some outs → shL impl_StopBox_L (qRet outs) ds := F_StopBox_elim fun x y hp => by
  rw [impl_StopBox_L_sh]
  rw [p_StateOk hp]
  cases h : sttOk x y <;> cases h2 : y.n <;> simp [stopBox, h, h2]
theorem spec_StepsLeft_ok : ∀ ds outs, F_StepsLeft ds = some outs → shL spec_StepsLeft_L (qRet outs) ds := F_StepsLeft_elim fun x y hp => by
  rw [spec_StepsLeft_L_sh]
  rw [p_StateOk hp]
  cases h : sttOk x y with
  | false => simp [stepsLeft, h]
  | true =>
    have hs := (sttOk_iff x y).1 h
    have hb := cylOk_bounds hs.1
    cases h2 : y.n <;> simp (disch := omega) [stepsLeft, h, h2, wrap_id]
theorem impl_StepsLeft_ok : ∀ ds outs, F_StepsLeft ds = some outs → shL impl_StepsLeft_L (qRet outs) ds := F_StepsLeft_elim fun x y hp => by
  rw [impl_StepsLeft_L_sh]
  rw [p_StateOk hp]
  cases h : sttOk x y with
  | false => simp [stepsLeft, h]
  | true =>
    have hs := (sttOk_iff x y).1 h
    have hb := cylOk_bounds hs.1
    cases h2 : y.n <;> simp (disch := omega) [stepsLeft, h, h2, wrap_id]
theorem laws_FnExactStepsLeft_ok : ∀ ds outs, F_FnExactStepsLeft ds = some outs → shL laws_FnExactStepsLeft_L (qRet outs) ds := F_FnExactStepsLeft_elim fun x y hp => by
  rw [laws_FnExactStepsLeft_L_sh]
  rw [p_szCylinder (x_p := x.p) ⟨hp.2.2.1.1, by omega, by omega⟩]
  by_cases h : (x.p.length : Int) ≤ 1048576
  · have h' : x.p.length ≤ 1048576 := by omega
    simp [h, h', p_toCylinder, p_StepsLeft, p_eqCylinder]
  · simp [h]
theorem laws_FnExactStartBox_ok : ∀ ds outs, F_FnExactStartBox ds = some outs → shL laws_FnExactStartBox_L (qRet outs) ds := F_FnExactStartBox_elim fun x y hp => by
  rw [laws_FnExactStartBox_L_sh]
  rw [p_szCylinder (x_p := x.p) ⟨hp.2.2.1.1, by omega, by omega⟩]
  by_cases h : (x.p.length : Int) ≤ 1048576
  · have h' : x.p.length ≤ 1048576 := by omega
    simp [h, h', p_toCylinder, p_StartBox, p_eqCylinder]
  · simp [h]
theorem laws_FnExactStopBox_ok : ∀ ds outs, F_FnExactStopBox ds = some outs → shL laws_FnExactStopBox_L (qRet outs) ds := F_FnExactStopBox_elim fun x y hp => by
  rw [laws_FnExactStopBox_L_sh]
  rw [p_szCylinder (x_p := x.p) ⟨hp.2.2.1.1, by omega, by omega⟩]
  by_cases h : (x.p.length : Int) ≤ 1048576
  · have h' : x.p.length ≤ 1048576 := by omega
    simp [h, h', p_toCylinder, p_StopBox, p_eqCylinder]
  · simp [h]
end Go.Mw

/- Steps and runs. -/
namespace Go.Mw

theorem next_a {x : Cyl} {y : Stt} (hs : 0 ≤ y.a) (_h2 : y.a ≤ x.s - 1) : (y.a + 1).tmod x.s = (y.a + 1) % x.s := Int.tmod_eq_emod_of_nonneg (by omega)
theorem next_0 {x : Cyl} {y : Stt} (h : (y.a + 1) % x.s = 0) : nextStt x y = ⟨0, false, y.p + (pinsAt x y.a).length⟩ := by simp [nextStt, h]
theorem next_1 {x : Cyl} {y : Stt} (h : ¬ (y.a + 1) % x.s = 0) : nextStt x y = ⟨(y.a + 1) % x.s, true, y.p + (pinsAt x y.a).length⟩ := by simp [nextStt, h]

theorem impl_stepBox_ok : ∀ ds outs, F_stepBox ds = some outs → shL impl_stepBox_L (qRet outs) ds := F_stepBox_elim fun x y hp => by
  rw [impl_stepBox_L_sh]
  rw [p_StateOk hp]
  cases h : sttOk x y with
  | false => simp [canStep, h]
  | true =>
    have hs := (sttOk_iff x y).1 h
    have hb := cylOk_bounds hs.1
    cases h2 : y.n with
    | false => simp [canStep, h2]
    | true =>
      have hl := pinsAt_len hp y.a
      have hn := next_a (x := x) (y := y) (by omega) (by omega)
      have hs0 : ¬ x.s = 0 := by omega
      by_cases h0 : (y.a + 1) % x.s = 0
      · have e := next_0 h0
        cases hc : sttOk x ⟨0, false, y.p + (pinsAt x y.a).length⟩ <;>
          simp (disch := omega) [canStep, h, h2, e, hc, p_PinsAt, p_StateOk, wrap_id, hn, h0, hs0]
      · have e := next_1 h0
        have h0' : ((y.a + 1) % x.s != 0) = true := by simp [h0]
        cases hc : sttOk x ⟨(y.a + 1) % x.s, true, y.p + (pinsAt x y.a).length⟩ <;>
          simp (disch := omega) [canStep, h, h2, e, hc, p_PinsAt, p_StateOk, wrap_id, hn, h0', hs0]
theorem impl_StepBox_ok : ∀ ds outs, F_StepBox ds = some outs → shL impl_StepBox_L (qRet outs) ds := F_StepBox_elim fun x y hp => by
  rw [impl_StepBox_L_sh, p_stepBox hp]; simp
theorem spec_StepBox_ok : ∀ ds outs, F_StepBox ds = some outs → shL spec_StepBox_L (qRet outs) ds := F_StepBox_elim fun x y hp => by
  rw [spec_StepBox_L_sh]
  rw [p_StateOk hp]
  cases h : sttOk x y with
  | false => simp [canStep, h]
  | true =>
    have hs := (sttOk_iff x y).1 h
    have hb := cylOk_bounds hs.1
    cases h2 : y.n with
    | false => simp [canStep, h2]
    | true =>
      have hl := pinsAt_len hp y.a
      have hn := next_a (x := x) (y := y) (by omega) (by omega)
      have hs0 : ¬ x.s = 0 := by omega
      by_cases h0 : (y.a + 1) % x.s = 0
      · have e := next_0 h0
        cases hc : sttOk x ⟨0, false, y.p + (pinsAt x y.a).length⟩ <;>
          simp (disch := omega) [spec_StepBox_r0_sh, canStep, h, h2, e, hc, p_PinsAt, p_StateOk, wrap_id, hn, h0, hs0]
      · have e := next_1 h0
        cases hc : sttOk x ⟨(y.a + 1) % x.s, true, y.p + (pinsAt x y.a).length⟩ <;>
          simp (disch := omega) [spec_StepBox_r0_sh, canStep, h, h2, e, hc, p_PinsAt, p_StateOk, wrap_id, hn, h0, hs0]

theorem canStep_iff (x : Cyl) (y : Stt) : canStep x y = true ↔ sttOk x y = true ∧ y.n = true ∧ sttOk x (nextStt x y) = true := by
  simp [canStep, and_assoc]
theorem itS_on {x : Cyl} {y : Stt} (h : sttOk x y = true) (hn : y.n = true) : ∀ k, k < runN x y → (itS x y k).a = y.a + k ∧ (itS x y k).n = true
  | 0, _ => by simp [itS, hn]
  | k + 1, hk => by
    have ih := itS_on h hn k (by omega)
    have hs := (sttOk_iff x y).1 h
    unfold runN at hk
    have e : (y.a + k + 1) % x.s = y.a + k + 1 := Int.emod_eq_of_lt (by omega) (by omega)
    simp only [itS, nextStt, ih.1, e]
    simp; omega
theorem itS_off {x : Cyl} {y : Stt} (h : sttOk x y = true) (hn : y.n = true) : (itS x y (runN x y)).a = 0 ∧ (itS x y (runN x y)).n = false := by
  have hs := (sttOk_iff x y).1 h
  obtain ⟨k, hk⟩ : ∃ k, runN x y = k + 1 := ⟨runN x y - 1, by unfold runN; omega⟩
  have ih := itS_on h hn k (by omega)
  rw [hk]
  have e : (y.a + k + 1) % x.s = 0 := by
    rw [show y.a + k + 1 = x.s by unfold runN at hk; omega, Int.emod_self]
  simp only [itS, nextStt, ih.1, e]
  simp
theorem itL_len {x : Cyl} {y : Stt} (h : x.p.length ≤ 1048576) : ∀ k, (itL x y k).length ≤ 100 * k
  | 0 => by simp [itL]
  | k + 1 => by
    have ih := itL_len (y := y) h k
    have hp := pinsAt_len h (itS x y k).a
    simp only [itL, List.length_append]; omega
theorem itS_ok {x : Cyl} {y : Stt} (h : sttOk x y = true) {k : Nat} (hP : ∀ j, j < k → canStep x (itS x y j) = true) : sttOk x (itS x y k) = true := by
  rcases k with _ | k
  · exact h
  · exact ((canStep_iff _ _).1 (hP k (by omega))).2.2

theorem impl_RunBox_ok : ∀ ds outs, F_RunBox ds = some outs → shL impl_RunBox_L (qRet outs) ds := F_RunBox_elim fun x y hp => by
  rw [impl_RunBox_L_sh]
  rw [p_StateOk hp]
  cases h : sttOk x y with
  | false => simp [runBox, runOk, h]
  | true =>
  have hs := (sttOk_iff x y).1 h
  have hb := cylOk_bounds hs.1
  cases h2 : y.n with
  | false =>
    simp [runBox, runOk, h, h2]
    refine loop_upto 0 (fun k => [vL I1 v1 [], .int .i64 x.s, .int .i64 x.t, vL I2 v2 x.p, .int .i64 y.a, .bool false, .int .i64 y.p, .int .i64 0, .bool false, .int .i64 0, .int .i64 y.a, .bool false, .int .i64 y.p]) (by omega) (fun _ => True) (by simp) trivial ?_
    intro k hk _
    rw [impl_RunBox_b0_sh]
    simp [impl_RunBox_r1_sh]
  | true =>
    simp []
    have hN : runN x y ≤ 96 := by unfold runN; omega
    refine loop_upto (runN x y) (fun k => [vL I1 v1 (itL x y k), .int .i64 x.s, .int .i64 x.t, vL I2 v2 x.p, .int .i64 y.a, .bool true, .int .i64 y.p, .int .i64 0, .bool false, .int .i64 0, .int .i64 (itS x y k).a, .bool (itS x y k).n, .int .i64 (itS x y k).p]) ?_ (fun k => ∀ j, j < k → canStep x (itS x y j) = true) (by simp [itS, itL, h2]) (by simp) ?_
    · intro i j hi hj he
      simp at he
      have hoff := itS_off h h2
      rcases Nat.lt_or_eq_of_le hi with hi | rfl
      · rcases Nat.lt_or_eq_of_le hj with hj | rfl
        · have := itS_on h h2 i hi
          have := itS_on h h2 j hj
          omega
        · have := itS_on h h2 i hi
          simp [this.2, hoff.2] at he
      · rcases Nat.lt_or_eq_of_le hj with hj | rfl
        · have := itS_on h h2 j hj
          simp [this.2, hoff.2] at he
        · rfl
    intro k hk hP
    have hlen := itL_len (y := y) hp k
    have hpl := pinsAt_len hp (itS x y k).a
    rw [impl_RunBox_b0_sh]
    rcases Nat.lt_or_eq_of_le hk with hk | rfl
    · have hon := itS_on h h2 k hk
      have hka : Stt.mk (itS x y k).a true (itS x y k).p = itS x y k := by rw [← hon.2]
      cases hc : canStep x (itS x y k) with
      | false =>
        have hro : runOk x y = false := by
          cases hr : runOk x y with
          | false => rfl
          | true =>
            simp [runOk] at hr
            exact absurd (hr.2.2 k hk) (by simp [hc])
        simp [hon.2, p_stepBox, hp, hka, hc, runBox, hro, h2]
      | true =>
        simp [hon.2, p_stepBox, hp, hka, hc]
        refine ⟨by omega, hk, by simp [itS, itL], fun j hj => ?_⟩
        rcases Nat.lt_or_eq_of_le (Nat.le_of_lt_succ hj) with hj | rfl
        · exact hP j hj
        · exact hc
    · have hoff := itS_off h h2
      have hro : runOk x y = true := by
        simp [runOk, h, h2]
        exact hP
      simp [hoff.2, impl_RunBox_r1_sh, runBox, hro]
theorem spec_RunBox_ok : ∀ ds outs, F_RunBox ds = some outs → shL spec_RunBox_L (qRet outs) ds := F_RunBox_elim fun x y hp => by
  rw [spec_RunBox_L_sh]
  rw [P1_lst0, p_StepsLeft hp]
  by_cases hon0 : sttOk x y = true ∧ y.n = true
  · obtain ⟨h, h2⟩ := hon0
    have hs := (sttOk_iff x y).1 h
    have hb := cylOk_bounds hs.1
    have hN : runN x y ≤ 96 := by unfold runN; omega
    have hxy : Stt.mk y.a true y.p = y := by rw [← h2]
    have hN2 : (runN x y : Int) = x.s - y.a := by unfold runN; omega
    simp [stepsLeft, h2]
    refine loop_upto (runN x y) (fun k => [.int .i64 (runN x y - k), vL I1 v1 (itL x y k), .int .i64 x.s, .int .i64 x.t, vL I2 v2 x.p, .int .i64 y.a, .bool true, .int .i64 y.p, .int .i64 0, .bool false, .int .i64 0, .int .i64 (itS x y k).a, .bool (itS x y k).n, .int .i64 (itS x y k).p]) (by intro i j _ _ h; simp at h; omega) (fun k => ∀ j, j < k → canStep x (itS x y j) = true) (by simp [itS, itL, h2, hN2, hxy, h]) (by simp) ?_
    intro k hk hP
    have hlen := itL_len (y := y) hp k
    have hpl := pinsAt_len hp (itS x y k).a
    rw [spec_RunBox_b0_sh]
    rcases Nat.lt_or_eq_of_le hk with hk | rfl
    · have hon := itS_on h h2 k hk
      have hka : Stt.mk (itS x y k).a true (itS x y k).p = itS x y k := by rw [← hon.2]
      have hne : ¬ ((nextStt x (itS x y k)).a = (itS x y k).a) := by
        simp only [nextStt, hon.1]
        by_cases h5 : k + 1 < runN x y
        · rw [Int.emod_eq_of_lt (by omega) (by omega)]; omega
        · rw [show y.a + (k : Int) + 1 = x.s by omega, Int.emod_self]; omega
      cases hc : canStep x (itS x y k) with
      | false =>
        have hro : runOk x y = false := by
          cases hr : runOk x y with
          | false => rfl
          | true =>
            simp [runOk] at hr
            exact absurd (hr.2.2 k hk) (by simp [hc])
        simp [hon.2, p_StepBox, hp, hka, hc, runBox, hro, h2]
        omega
      | true =>
        simp (disch := omega) [hon.2, p_StepBox, hka, hc, hne, wrap_id, hk]
        refine ⟨⟨by omega, by omega⟩, ⟨by omega, by simp [itL], by simp [itS]⟩, ?_⟩
        · intro j hj
          rcases Nat.lt_or_eq_of_le (Nat.le_of_lt_succ hj) with hj | rfl
          · exact hP j hj
          · exact hc
    · have hoff := itS_off h h2
      have hro : runOk x y = true := by
        simp [runOk, h, h2]
        exact hP
      simp [hoff.2, spec_RunBox_r1_sh, runBox, hro]
  · have hz : stepsLeft x y ≤ 0 := by
      unfold stepsLeft
      split
      · rename_i h
        cases h2 : y.n with
        | false => simp
        | true => exact absurd ⟨h, h2⟩ hon0
      · omega
    have hro : runOk x y = false := by
      cases h : sttOk x y <;> cases h2 : y.n <;> simp_all [runOk]
    refine loop_upto 0 (fun k => [.int .i64 (stepsLeft x y), vL I1 v1 [], .int .i64 x.s, .int .i64 x.t, vL I2 v2 x.p, .int .i64 y.a, .bool y.n, .int .i64 y.p, .int .i64 0, .bool false, .int .i64 0, .int .i64 y.a, .bool y.n, .int .i64 y.p]) (by omega) (fun _ => True) (by simp) trivial ?_
    intro k hk _
    rw [spec_RunBox_b0_sh]
    simp [spec_RunBox_r1_sh, runBox, hro]
    omega
theorem runBox_len {x : Cyl} {y : Stt} (hp : x.p.length ≤ 1048576) : (runBox x y).2.length ≤ 9600 := by
  unfold runBox
  split
  · rename_i h
    simp only [runOk, Bool.and_eq_true] at h
    have hs := (sttOk_iff x y).1 h.1
    have hb := cylOk_bounds hs.1
    have := itL_len (y := y) hp (runN x y)
    have hN : runN x y ≤ 96 := by unfold runN; omega
    simp only; omega
  · simp
theorem laws_FnExactStepBox_ok : ∀ ds outs, F_FnExactStepBox ds = some outs → shL laws_FnExactStepBox_L (qRet outs) ds := F_FnExactStepBox_elim fun x y hp => by
  rw [laws_FnExactStepBox_L_sh]
  rw [p_szCylinder (x_p := x.p) ⟨hp.2.2.1.1, by omega, by omega⟩]
  by_cases h : (x.p.length : Int) ≤ 1048576
  · have h' : x.p.length ≤ 1048576 := by omega
    have h'' : x.p.length ≤ 4194304 := by omega
    have hl : (if canStep x y = true then pinsAt x y.a else []).length ≤ 100 := by
      split
      · exact pinsAt_len h' _
      · simp
    generalize hg : (if canStep x y = true then pinsAt x y.a else []) = g at *
    have h1 : g.length ≤ 1048576 := by omega
    have h2 : g.length ≤ 4194304 := by omega
    have h3 : (0 : Int) ≤ 1 + g.length := by omega
    have h4 : (0 : Int) ≤ 1 + 2 * x.p.length := by omega
    simp [h, h', p_toCylinder, p_StepBox, p_eqCylinder, laws_FnExactStepBox_r0_sh, laws_FnExactStepBox_r1_sh, hg, h'', h1, h2, p_eqIntS, p_markIntS, p_heldIntS, p_markCylinder, h3, h4]
  · simp [h]
theorem laws_FnExactRunBox_ok : ∀ ds outs, F_FnExactRunBox ds = some outs → shL laws_FnExactRunBox_L (qRet outs) ds := F_FnExactRunBox_elim fun x y hp => by
  rw [laws_FnExactRunBox_L_sh]
  rw [p_szCylinder (x_p := x.p) ⟨hp.2.2.1.1, by omega, by omega⟩]
  by_cases h : (x.p.length : Int) ≤ 1048576
  · have h' : x.p.length ≤ 1048576 := by omega
    have h'' : x.p.length ≤ 4194304 := by omega
    have hl := runBox_len (y := y) h'
    generalize hg : (runBox x y).2 = g at *
    have h1 : g.length ≤ 1048576 := by omega
    have h2 : g.length ≤ 4194304 := by omega
    have h3 : (0 : Int) ≤ 1 + g.length := by omega
    have h4 : (0 : Int) ≤ 1 + 2 * x.p.length := by omega
    simp [h, h', p_toCylinder, p_RunBox, p_eqCylinder, laws_FnExactRunBox_r0_sh, laws_FnExactRunBox_r1_sh, hg, h'', h1, h2, p_eqIntS, p_markIntS, p_heldIntS, p_markCylinder, h3, h4]
  · simp [h]
end Go.Mw

/- Digits; boxes. -/
namespace Go.Mw

theorem areDigits_iff {l : List Int} {a b : Int} : areDigits l a b = true ↔ within l.length a b = true ∧ ∀ x ∈ l, within x 0 9 = true := by
  simp [areDigits]
theorem spec_l33Ok_ok : ∀ ds outs, F_l33Ok ds = some outs → shL spec_l33Ok_L (qRet outs) ds := F_l33Ok_elim fun l a b hp => by
  rw [spec_l33Ok_L_sh]
  refine loop_upto l.length (fun k => [vL I1 v1 l, .int .i64 a, .int .i64 b, .int .i64 k]) (by intro i j _ _ h; simp at h; omega) (fun k => ∀ x ∈ l.take k, within x 0 9 = true) (by simp) (by simp) ?_
  intro k hk hP
  rw [spec_l33Ok_b0_sh]
  simp
  refine ⟨fun h => ?_, fun h => ?_⟩
  · have hno : within l[k] 0 9 = false → areDigits l a b = false := by
      intro hf
      cases hc : areDigits l a b with
      | false => rfl
      | true => have := (areDigits_iff.1 hc).2 l[k] (by simp); simp [hf] at this
    simp (disch := omega) only [h, List.getElem?_eq_getElem, Option.some.injEq, exists_eq_left', wrap_id, all_take_succ h]
    cases h1 : within l[k] 0 9 <;> simp_all
  · obtain rfl : k = l.length := by omega
    simp [spec_l33Ok_r1_sh, areDigits]
    cases within l.length a b <;> simp
    simpa using hP
theorem impl_areDigits_ok : ∀ ds outs, F_areDigits ds = some outs → shL impl_areDigits_L (qRet outs) ds := F_areDigits_elim fun l a b hp => by
  rw [impl_areDigits_L_sh]
  cases hw : within l.length a b with
  | false => simp [hw, areDigits]
  | true =>
  simp [hw]
  refine loop_upto l.length (fun k => [vL I1 v1 l, .int .i64 l.length, .int .i64 k]) (by intro i j _ _ h; simp at h; omega) (fun k => ∀ x ∈ l.take k, within x 0 9 = true) (by simp) (by simp) ?_
  intro k hk hP
  rw [impl_areDigits_b0_sh]
  simp
  refine ⟨fun h => ?_, fun h => ?_⟩
  · have hno : within l[k] 0 9 = false → areDigits l a b = false := by
      intro hf
      cases hc : areDigits l a b with
      | false => rfl
      | true => have := (areDigits_iff.1 hc).2 l[k] (by simp); simp [hf] at this
    simp (disch := omega) only [h, List.getElem?_eq_getElem, Option.some.injEq, exists_eq_left', wrap_id, all_take_succ h]
    cases h1 : within l[k] 0 9 <;> simp_all
  · obtain rfl : k = l.length := by omega
    simp [impl_areDigits_r1_sh, areDigits, hw]
    simpa using hP
def evenN (k : Nat) : Bool := k % 2 == 0
theorem digitSum_snoc (x : Int) : ∀ (l : List Int) (t : Bool), digitSum (l ++ [x]) t = digitSum l t + (if (evenN l.length == t) then 3 * x else x)
  | [], true => by simp [digitSum, evenN]
  | [], false => by simp [digitSum, evenN]
  | d :: r, true => by
    simp only [List.cons_append, digitSum, digitSum_snoc x r false, List.length_cons]
    have : evenN (r.length + 1) = !evenN r.length := by unfold evenN; rcases Nat.mod_two_eq_zero_or_one r.length with h | h <;> simp [h, Nat.add_mod]
    simp only [this]
    cases evenN r.length <;> simp <;> omega
  | d :: r, false => by
    simp only [List.cons_append, digitSum, digitSum_snoc x r true, List.length_cons]
    have : evenN (r.length + 1) = !evenN r.length := by unfold evenN; rcases Nat.mod_two_eq_zero_or_one r.length with h | h <;> simp [h, Nat.add_mod]
    simp only [this]
    cases evenN r.length <;> simp <;> omega
theorem digitSum_succ {l : List Int} {k : Nat} (h : k < l.length) : digitSum (l.take (k + 1)) true = digitSum (l.take k) true + (if evenN k then 3 * l[k] else l[k]) := by
  rw [take_succ_get h, digitSum_snoc]
  have : (l.take k).length = k := by simp; omega
  rw [this]; simp
theorem digitSum_bound {l : List Int} (h : ∀ x ∈ l, 0 ≤ x ∧ x ≤ 9) : ∀ k, k ≤ l.length → 0 ≤ digitSum (l.take k) true ∧ digitSum (l.take k) true ≤ 27 * k
  | 0, _ => by simp [digitSum]
  | k + 1, hk => by
    have ih := digitSum_bound h k (by omega)
    have hx := h l[k] (by simp)
    rw [digitSum_succ (by omega)]
    split <;> omega
theorem checkDigit_pre {l : List Int} (h : areDigits l 1 20 = true) : (l.length ≤ 20) ∧ ∀ x ∈ l, 0 ≤ x ∧ x ≤ 9 := by
  rw [areDigits_iff] at h
  simp [within] at h
  exact ⟨by omega, h.2⟩
theorem mod2 (k : Nat) : ((k : Int).tmod 2 == 0) = evenN k := by
  rw [Int.tmod_eq_emod_of_nonneg (by omega)]
  unfold evenN
  rcases Nat.mod_two_eq_zero_or_one k with h | h
  · have : (k : Int) % 2 = 0 := by omega
    simp [h, this]
  · have : (k : Int) % 2 = 1 := by omega
    simp [h, this]
theorem spec_CheckDigit_ok : ∀ ds outs, F_CheckDigit ds = some outs → shL spec_CheckDigit_L (qRet outs) ds := F_CheckDigit_elim fun l hp => by
  rw [spec_CheckDigit_L_sh]
  cases hd : areDigits l 1 20 with
  | false => simp [p_l33Ok hp, hd, checkDigit]
  | true =>
    obtain ⟨hlen, hx⟩ := checkDigit_pre hd
    simp [p_l33Ok hp, hd, checkDigit]
    refine loop_upto l.length (fun k => [vL I1 v1 l, .int .i64 (digitSum (l.take k) true), .int .i64 k]) (by intro i j _ _ h; simp at h; omega) (fun _ => True) (by simp [digitSum]) trivial ?_
    intro k hk _
    have hb := digitSum_bound hx k hk
    rw [spec_CheckDigit_b0_sh]
    simp only [P1_len, P1_lss, P1_rem, P1_eql, mod2]
    simp
    refine ⟨fun h => ?_, fun h => ?_⟩
    · have hg := hx l[k] (by simp)
      rw [digitSum_succ h]
      cases he : evenN k <;> simp (disch := omega) [h, wrap_id]
    · obtain rfl : k = l.length := by omega
      rw [List.take_length] at hb
      have h5 : (digitSum l true).tmod 10 = digitSum l true % 10 := Int.tmod_eq_emod_of_nonneg (by omega)
      have h6 : (10 - digitSum l true % 10).tmod 10 = (10 - digitSum l true % 10) % 10 := Int.tmod_eq_emod_of_nonneg (by omega)
      simp (disch := omega) [spec_CheckDigit_r1_sh, h5, wrap_id, h6]
theorem impl_CheckDigit_ok : ∀ ds outs, F_CheckDigit ds = some outs → shL impl_CheckDigit_L (qRet outs) ds := F_CheckDigit_elim fun l hp => by
  rw [impl_CheckDigit_L_sh]
  cases hd : areDigits l 1 20 with
  | false => simp [p_areDigits hp, hd, checkDigit]
  | true =>
    obtain ⟨hlen, hx⟩ := checkDigit_pre hd
    simp [p_areDigits hp, hd, checkDigit]
    refine loop_upto l.length (fun k => [.int .i64 (digitSum (l.take k) true), vL I1 v1 l, .int .i64 l.length, .int .i64 k]) (by intro i j _ _ h; simp at h; omega) (fun _ => True) (by simp [digitSum]) trivial ?_
    intro k hk _
    have hb := digitSum_bound hx k hk
    rw [impl_CheckDigit_b0_sh]
    simp only [P1_lss, P1_rem, P1_eql, mod2]
    simp
    refine ⟨fun h => ?_, fun h => ?_⟩
    · have hg := hx l[k] (by simp)
      rw [digitSum_succ h]
      cases he : evenN k <;> simp (disch := omega) [h, wrap_id]
    · obtain rfl : k = l.length := by omega
      rw [List.take_length] at hb
      have h5 : (digitSum l true).tmod 10 = digitSum l true % 10 := Int.tmod_eq_emod_of_nonneg (by omega)
      have h6 : (10 - digitSum l true % 10).tmod 10 = (10 - digitSum l true % 10) % 10 := Int.tmod_eq_emod_of_nonneg (by omega)
      simp (disch := omega) [impl_CheckDigit_r1_sh, h5, wrap_id, h6]
theorem impl_copyInts_ok : ∀ ds outs, F_copyInts ds = some outs → shL impl_copyInts_L (qRet outs) ds := F_copyInts_elim fun l hp => by
  rw [impl_copyInts_L_sh]
  simp []; omega
end Go.Mw

/- Checked digits. -/
namespace Go.Mw

theorem spec_IsChecked_ok : ∀ ds outs, F_IsChecked ds = some outs → shL spec_IsChecked_L (qRet outs) ds := F_IsChecked_elim fun l hp => by
  rw [spec_IsChecked_L_sh]
  by_cases h2 : 2 ≤ l.length
  · have e1 : ((l.length : Int) - 1).toNat = l.length - 1 := by omega
    have h3 : l.length - 1 < l.length := by omega
    have h5 : (l.take (l.length - 1)).length ≤ 1048576 := by simp; omega
    simp (disch := omega) [isChecked, h2, wrap_id, e1, p_CheckDigit h5]
    refine ⟨by omega, fun _ => ⟨by omega, fun h6 => ⟨by omega, by grind⟩, by omega⟩⟩
  · simp [isChecked, h2]
    intro h; omega
theorem impl_IsChecked_ok : ∀ ds outs, F_IsChecked ds = some outs → shL impl_IsChecked_L (qRet outs) ds := F_IsChecked_elim fun l hp => by
  rw [impl_IsChecked_L_sh]
  by_cases h2 : 2 ≤ l.length
  · have e1 : ((l.length : Int) - 1).toNat = l.length - 1 := by omega
    have h3 : l.length - 1 < l.length := by omega
    have h5 : (l.take (l.length - 1)).length ≤ 1048576 := by simp; omega
    simp (disch := omega) [isChecked, h2, wrap_id, e1, p_CheckDigit h5]
    refine ⟨by omega, fun _ => ⟨by omega, fun h6 => ⟨by omega, by grind⟩, by omega⟩⟩
  · simp [isChecked, h2]
    intro h; omega
theorem scanD_succ (f : Int → Bool) (n : Nat) : scanD f (n + 1) = if f (9 - (n : Int)) then 9 - (n : Int) else scanD f n := rfl
def wrF (l : List Int) (i : Nat) (d : Int) : Bool := decide (some d ≠ l[i]?) && isChecked (l.set i d)
theorem wrongAt_eq (l : List Int) (i : Nat) : wrongAt l i = scanD (wrF l i) 10 := rfl
theorem spec_WrongDigits_ok : ∀ ds outs, F_WrongDigits ds = some outs → shL spec_WrongDigits_L (qRet outs) ds := F_WrongDigits_elim fun l hp => by
  rw [spec_WrongDigits_L_sh]
  cases hd : areDigits l 2 21 with
  | false =>
    simp [wrongDigits, hd]
    refine loop_upto 0 (fun k => [vL I1 v1 l, .int .i64 0, .list [.sc] []]) (by omega) (fun _ => True) rfl trivial ?_
    intro k hk _
    rw [spec_WrongDigits_b0_sh]
    simp [p_l33Ok hp, hd, spec_WrongDigits_r6_sh]
  | true =>
  have hlen : l.length ≤ 21 := by rw [areDigits_iff] at hd; simp [within] at hd; omega
  simp [wrongDigits, hd]
  refine loop_upto l.length (fun k => [vL I1 v1 l, .int .i64 k, vL I1 v1 ((List.range k).map (wrongAt l))]) (by intro i j _ _ h; simp at h; omega) (fun _ => True) (by simp) trivial ?_
  intro i hi _
  rw [spec_WrongDigits_b0_sh]
  simp [p_l33Ok hp, hd]
  refine ⟨fun h => ?_, fun h => ?_⟩
  · refine loop_upto 10 (fun n => [vL I1 v1 l, .int .i64 i, .int .i64 (scanD (wrF l i) n), .int .i64 (9 - n), vL I1 v1 ((List.range i).map (wrongAt l))]) (by intro i j _ _ h; simp at h; omega) (fun _ => True) (by simp [scanD]) trivial ?_
    intro n hn _
    rw [spec_WrongDigits_b1_sh]
    by_cases h9 : (n : Int) ≤ 9
    · have h10 : n < 10 := by omega
      have hs : (l.set i (9 - n)).length ≤ 1048576 := by simp; omega
      rw [scanD_succ]
      cases hf : wrF l i (9 - n) with
      | false =>
        simp (disch := omega) [h9, h, h10, p_IsChecked hs, wrap_id]
        simp [wrF, h] at hf
        exact ⟨by omega, fun h1 => ⟨fun h2 => by simp [h2] at hf; exact absurd hf h1, fun _ => by omega⟩, fun _ => by omega⟩
      | true =>
        simp (disch := omega) [h9, h, h10, p_IsChecked hs, wrap_id]
        simp [wrF, h] at hf
        exact ⟨by omega, fun _ => ⟨fun _ => by omega, fun h3 => by simp [hf.2] at h3⟩, fun h3 => absurd h3 hf.1⟩
    · obtain rfl : n = 10 := by omega
      simp [spec_WrongDigits_r2_sh, spec_WrongDigits_r3_sh, spec_WrongDigits_r4_sh, spec_WrongDigits_r5_sh]
      refine ⟨by omega, h, wrap_id (by omega) (by omega), ?_⟩
      rw [List.range_succ, List.map_append, ← wrongAt_eq]; rfl
  · obtain rfl : i = l.length := by omega
    simp [spec_WrongDigits_r6_sh]
theorem impl_WrongDigits_ok : ∀ ds outs, F_WrongDigits ds = some outs → shL impl_WrongDigits_L (qRet outs) ds := F_WrongDigits_elim fun l hp => by
  rw [impl_WrongDigits_L_sh]
  cases hd : areDigits l 2 21 with
  | false => simp [wrongDigits, p_areDigits hp, hd]
  | true =>
  have hlen : l.length ≤ 21 := by rw [areDigits_iff] at hd; simp [within] at hd; omega
  simp [wrongDigits, hd, p_areDigits hp]
  refine loop_upto l.length (fun k => [vL I1 v1 l, vL I1 v1 l, .int .i64 l.length, .int .i64 k, vL I1 v1 ((List.range k).map (wrongAt l))]) (by intro i j _ _ h; simp at h; omega) (fun _ => True) (by simp) trivial ?_
  intro i hi _
  rw [impl_WrongDigits_b0_sh]
  simp
  refine ⟨fun h => ?_, fun h => ?_⟩
  · simp [h, p_copyInts (show l.length ≤ 4194304 by omega)]
    refine loop_upto 10 (fun n => [vL I1 v1 l, .int .i64 i, .int .i64 l[i], .int .i64 (scanD (wrF l i) n), .int .i64 (9 - n), vL I1 v1 l, .int .i64 l.length, .int .i64 i, vL I1 v1 ((List.range i).map (wrongAt l)), vL I1 v1 (if n = 0 then l else l.set i (10 - n))]) (by intro i j _ _ h; simp at h; omega) (fun _ => True) (by simp [scanD]) trivial ?_
    intro n hn _
    rw [impl_WrongDigits_b1_sh]
    have hgl : (if n = 0 then l else l.set i (10 - (n : Int))).length = l.length := by split <;> simp
    have hgs : (if n = 0 then l else l.set i (10 - (n : Int))).set i (9 - (n : Int)) = l.set i (9 - (n : Int)) := by split <;> simp
    have hgn : (if n + 1 = 0 then l else l.set i (10 - ((n + 1 : Nat) : Int))) = l.set i (9 - (n : Int)) := by
      rw [if_neg (by omega)]; congr 1; push_cast; omega
    rw [hgn]
    generalize (if n = 0 then l else l.set i (10 - (n : Int))) = w at *
    have hiw : i < w.length := by omega
    by_cases h9 : (n : Int) ≤ 9
    · have h10 : n < 10 := by omega
      have hs : (l.set i (9 - n)).length ≤ 1048576 := by simp; omega
      rw [scanD_succ]
      cases hf : wrF l i (9 - n) with
      | false =>
        simp (disch := omega) [h9, h10, p_IsChecked hs, wrap_id, hgs]
        simp [wrF, h] at hf
        exact ⟨fun h1 => ⟨fun h2 => by simp [h2] at hf; exact absurd hf h1, fun _ => by omega⟩, fun _ => by omega⟩
      | true =>
        simp (disch := omega) [h9, h10, p_IsChecked hs, wrap_id, hgs]
        simp [wrF, h] at hf
        exact ⟨fun _ => ⟨fun _ => by omega, fun h3 => by simp [hf.2] at h3⟩, fun h3 => absurd h3 hf.1⟩
    · obtain rfl : n = 10 := by omega
      simp [impl_WrongDigits_r2_sh, impl_WrongDigits_r3_sh, impl_WrongDigits_r4_sh, impl_WrongDigits_r5_sh]
      refine ⟨by omega, wrap_id (by omega) (by omega), ?_⟩
      rw [List.range_succ, List.map_append, ← wrongAt_eq]; rfl
  · obtain rfl : i = l.length := by omega
    simp [impl_WrongDigits_r6_sh]
theorem wrongDigits_len (l : List Int) : (wrongDigits l).length ≤ 21 := by
  unfold wrongDigits
  split
  · rename_i hd
    rw [areDigits_iff] at hd; simp [within] at hd
    simp; omega
  · simp
theorem laws_FnExactWrongDigits_ok : ∀ ds outs, F_FnExactWrongDigits ds = some outs → shL laws_FnExactWrongDigits_L (qRet outs) ds := F_FnExactWrongDigits_elim fun l hp => by
  rw [laws_FnExactWrongDigits_L_sh]
  by_cases h : (l.length : Int) ≤ 1048576
  · have h' : l.length ≤ 1048576 := by omega
    have h'' : l.length ≤ 4194304 := by omega
    have hl := wrongDigits_len l
    have h1 : (wrongDigits l).length ≤ 1048576 := by omega
    have h2 : (wrongDigits l).length ≤ 4194304 := by omega
    have h3 : (0 : Int) ≤ 1 + l.length := by omega
    have h4 : (0 : Int) ≤ 1 + (wrongDigits l).length := by omega
    simp [h', p_WrongDigits, p_toIntS, p_eqIntS, laws_FnExactWrongDigits_r0_sh, h'', h1, h2, p_markIntS, p_heldIntS, h3, h4]
  · simp [h]
end Go.Mw

/- Boxes; moods. -/
namespace Go.Mw

theorem impl_areBoxes_ok : ∀ ds outs, F_areBoxes ds = some outs → shL impl_areBoxes_L (qRet outs) ds := F_areBoxes_elim fun l n hp => by
  rw [impl_areBoxes_L_sh]
  simp
  refine ⟨fun h => by simp [areBoxes]; intro h; omega, fun h9 => ?_⟩
  refine loop_upto l.length (fun k => [vL I3 v3 l, .int .i64 l.length, .int .i64 k]) (by intro i j _ _ h; simp at h; omega) (fun k => ∀ x ∈ l.take k, boxOk x = true) (by simp) (by simp) ?_
  intro k hk hP
  rw [impl_areBoxes_b0_sh]
  simp
  refine ⟨fun h => ?_, fun h => ?_⟩
  · have hno : boxOk l[k] = false → areBoxes l n = false := by
      intro hf
      simp only [areBoxes, Bool.and_eq_false_iff, List.all_eq_false]
      exact .inr ⟨l[k], by simp, by simp [hf]⟩
    simp (disch := omega) only [h, List.getElem?_eq_getElem, Option.some.injEq, exists_eq_left', wrap_id, all_take_succ h]
    cases h1 : boxOk l[k] <;> simp_all
  · obtain rfl : k = l.length := by omega
    simp [impl_areBoxes_r1_sh, areBoxes]
    simp at hP
    exact ⟨by omega, hP⟩
theorem impl_isInside_ok : ∀ ds outs, F_isInside ds = some outs → shL impl_isInside_L (qRet outs) ds := F_isInside_elim fun x y => by
  rw [impl_isInside_L_sh]
  simp [inside]
  grind

theorem bestBox_lt (l : List T3) (w : T3) : ∀ k : Nat, k ≤ l.length → -1 ≤ bestBox l w k ∧ bestBox l w k < k
  | 0, _ => by simp [bestBox]
  | k + 1, h => by
    have ih := bestBox_lt l w k (by omega)
    simp only [bestBox, List.getElem?_eq_getElem (show k < l.length by omega)]
    split <;> (push_cast; omega)
theorem bestBox_succ {l : List T3} {w : T3} {k : Nat} (h : k < l.length) (hb : 0 ≤ bestBox l w k) : bestBox l w (k + 1) =
    if 0 ≤ leftOver w l[k] ∧ leftOver w l[k] < leftOver w (l[(bestBox l w k).toNat]'(by have := bestBox_lt l w k (by omega); omega)) then (k : Int) else bestBox l w k := by
  have hl := bestBox_lt l w k (by omega)
  simp only [bestBox, List.getElem?_eq_getElem h, List.getElem?_eq_getElem (show (bestBox l w k).toNat < l.length by omega)]
  have : ¬ bestBox l w k < 0 := by omega
  simp [this]
theorem bestBox_succ0 {l : List T3} {w : T3} {k : Nat} (h : k < l.length) (hb : bestBox l w k < 0) : bestBox l w (k + 1) =
    if 0 ≤ leftOver w l[k] then (k : Int) else bestBox l w k := by
  simp only [bestBox, List.getElem?_eq_getElem h]
  simp [hb]
theorem impl_SmallestBox_ok : ∀ ds outs, F_SmallestBox ds = some outs → shL impl_SmallestBox_L (qRet outs) ds := F_SmallestBox_elim fun l w hp => by
  rw [impl_SmallestBox_L_sh]
  cases hd : areBoxes l 20 with
  | false => simp [p_areBoxes hp, hd, smallestBox]
  | true =>
  cases hd2 : boxOk w with
  | false => simp [p_areBoxes hp, hd, hd2, smallestBox]
  | true =>
  have hlen : l.length ≤ 20 := by simp [areBoxes] at hd; omega
  simp [p_areBoxes hp, hd, hd2, smallestBox]
  refine loop_upto l.length (fun k => [vL I3 v3 l, .int .i64 (bestBox l w k), vL I3 v3 l, .int .i64 l.length, .int .i64 k, .int .i64 w.a, .int .i64 w.b, .int .i64 w.c]) (by intro i j _ _ h; simp at h; omega) (fun _ => True) (by simp [bestBox]) trivial ?_
  intro k hk _
  have hl := bestBox_lt l w k hk
  rw [impl_SmallestBox_b0_sh]
  simp
  refine ⟨fun h => ?_, fun h => ?_⟩
  · have hkw : IntKind.i64.wrap ((k : Int) + 1) = k + 1 := wrap_id (by omega) (by omega)
    simp [h, hkw]
    refine ⟨fun h0 => ⟨fun h1 => ?_, fun h1 => ⟨h1, ?_⟩⟩, fun h0 => ?_⟩
    · rw [bestBox_succ0 h h1]; simp [h0]
    · have h2 : (bestBox l w k).toNat < l.length := by omega
      rw [bestBox_succ h h1]
      simp [h0, h2]
      grind
    · by_cases h1 : 0 ≤ bestBox l w k
      · rw [bestBox_succ h h1, if_neg (by omega)]
      · rw [bestBox_succ0 h (by omega), if_neg (by omega)]
  · obtain rfl : k = l.length := by omega
    simp [impl_SmallestBox_r1_sh]
theorem spec_SmallestBox_ok : ∀ ds outs, F_SmallestBox ds = some outs → shL spec_SmallestBox_L (qRet outs) ds := F_SmallestBox_elim fun l w hp => by
  rw [spec_SmallestBox_L_sh]
  simp
  refine ⟨fun h => ?_, fun h20 => ⟨fun hd2 => by simp [smallestBox, hd2], fun hd2 => ?_⟩⟩
  · have : areBoxes l 20 = false := by simp [areBoxes]; intro h; omega
    simp [smallestBox, this]
  refine loop_upto l.length (fun k => [vL I3 v3 l, .int .i64 (bestBox l w k), .int .i64 k, .int .i64 w.a, .int .i64 w.b, .int .i64 w.c]) (by intro i j _ _ h; simp at h; omega) (fun k => ∀ x ∈ l.take k, boxOk x = true) (by simp [bestBox]) (by simp) ?_
  intro k hk hP
  have hl := bestBox_lt l w k hk
  rw [spec_SmallestBox_b0_sh]
  simp
  refine ⟨fun h => ?_, fun h => ?_⟩
  · have hno : boxOk l[k] = false → areBoxes l 20 = false := by
      intro hf
      simp only [areBoxes, Bool.and_eq_false_iff, List.all_eq_false]
      exact .inr ⟨l[k], by simp, by simp [hf]⟩
    have hkw : IntKind.i64.wrap ((k : Int) + 1) = k + 1 := wrap_id (by omega) (by omega)
    simp only [h, List.getElem?_eq_getElem, Option.some.injEq, exists_eq_left', hkw, all_take_succ h, true_and, and_true]
    refine ⟨fun hb => by simp [smallestBox, hno hb], fun hb => ?_⟩
    refine ⟨fun h0 => ⟨fun h1 => ?_, fun h1 => ⟨h1, ?_⟩⟩, fun h0 => ?_⟩
    · rw [bestBox_succ0 h h1]; simp [h0, hb]; exact hP
    · have h2 : (bestBox l w k).toNat < l.length := by omega
      rw [bestBox_succ h h1]
      simp [h0, h2, hb]
      grind
    · simp only [hb, and_true]
      refine ⟨?_, hP⟩
      by_cases h1 : 0 ≤ bestBox l w k
      · rw [bestBox_succ h h1, if_neg (by omega)]
      · rw [bestBox_succ0 h (by omega), if_neg (by omega)]
  · obtain rfl : k = l.length := by omega
    have hd : areBoxes l 20 = true := by
      simp [areBoxes]
      simp at hP
      exact ⟨by omega, hP⟩
    simp [spec_SmallestBox_r1_sh, smallestBox, hd, hd2]
theorem laws_FnExactSmallestBox_ok : ∀ ds outs, F_FnExactSmallestBox ds = some outs → shL laws_FnExactSmallestBox_L (qRet outs) ds := F_FnExactSmallestBox_elim fun l w hp => by
  rw [laws_FnExactSmallestBox_L_sh]
  rw [p_szBoxS (by have := hp.1.1; omega)]
  by_cases h : (l.length : Int) ≤ 1048576
  · have h' : l.length ≤ 1048576 := by omega
    simp [h, h', p_toBoxS, p_SmallestBox, p_eqBoxS]
  · simp [h]
end Go.Mw

/- Moods. -/
namespace Go.Mw

theorem impl_magnitude_ok : ∀ ds outs, F_magnitude ds = some outs → shL impl_magnitude_L (qRet outs) ds := F_magnitude_elim fun n hp => by
  rw [impl_magnitude_L_sh]
  by_cases h : n < 0
  · simp (disch := omega) [mag, h, wrap_id]
  · simp [mag, h]

/-- Which of the numbers below n stand in the list. -/
def seenOf (l : List Int) (n : Nat) : List Bool := (List.range n).map fun j : Nat => decide ((j : Int) ∈ l)
@[simp] theorem seenOf_len {l : List Int} {n : Nat} : (seenOf l n).length = n := by simp [seenOf]
theorem seenOf_nil (n : Nat) : seenOf [] n = List.replicate n false := by
  apply List.ext_getElem <;> simp [seenOf]
theorem seenOf_get {l : List Int} {n : Nat} {v : Int} (h0 : 0 ≤ v) (h1 : v < n) : (seenOf l n)[v.toNat]? = some (decide (v ∈ l)) := by
  have h2 : v.toNat < n := by omega
  have h3 : ((v.toNat : Nat) : Int) = v := by omega
  simp [seenOf, h2, h3]
theorem seenOf_set {l : List Int} {n : Nat} {v : Int} (h0 : 0 ≤ v) (_h1 : v < n) : (seenOf l n).set v.toNat true = seenOf (l ++ [v]) n := by
  apply List.ext_getElem
  · simp
  · intro j hj hj2
    simp only [List.getElem_set, seenOf, List.getElem_map, List.getElem_range, List.mem_append, List.mem_singleton]
    split
    · rename_i h; simp; right; omega
    · rename_i h
      have : ¬ ((j : Int) = v) := by omega
      simp [this]
/-- The first so many are fine. -/
def permTo (o : List Int) (n : Int) (k : Nat) : Prop := (∀ x ∈ o.take k, 0 ≤ x ∧ x < n) ∧ (o.take k).Nodup
theorem permTo_succ {o : List Int} {n : Int} {k : Nat} (h : k < o.length) : permTo o n (k + 1) ↔ permTo o n k ∧ (0 ≤ o[k] ∧ o[k] < n) ∧ o[k] ∉ o.take k := by
  unfold permTo
  rw [all_take_succ h]
  rw [take_succ_get h, List.nodup_append]
  simp
  constructor
  · rintro ⟨⟨h1, h2⟩, h3, h4⟩
    exact ⟨⟨h1, h3⟩, h2, fun hm => h4 _ hm rfl⟩
  · rintro ⟨⟨h1, h3⟩, h2, h4⟩
    exact ⟨⟨h1, h2⟩, h3, fun a ha he => h4 (he ▸ ha)⟩
theorem permTo_mono {o : List Int} {n : Int} {k : Nat} (h : permTo o n o.length) (_hk : k ≤ o.length) : permTo o n k := by
  obtain ⟨h1, h2⟩ := h
  rw [List.take_length] at h1 h2
  exact ⟨fun x hx => h1 x (List.mem_of_mem_take hx), h2.sublist (List.take_sublist _ _)⟩
theorem isPerm_iff {o : List Int} {n : Int} : isPerm o n = true ↔ (o.length : Int) = n ∧ permTo o n o.length := by
  simp [isPerm, permTo]
theorem isPerm_no {o : List Int} {n : Int} {k : Nat} (h : k < o.length) (hn : ¬ ((0 ≤ o[k] ∧ o[k] < n) ∧ o[k] ∉ o.take k)) : isPerm o n = false := by
  cases hc : isPerm o n with
  | false => rfl
  | true => exact absurd ((permTo_succ h).1 (permTo_mono (isPerm_iff.1 hc).2 h)).2 hn

theorem impl_isPermutation_ok : ∀ ds outs, F_isPermutation ds = some outs → shL impl_isPermutation_L (qRet outs) ds := F_isPermutation_elim fun o n hp => by
  rw [impl_isPermutation_L_sh]
  by_cases hn : (o.length : Int) = n
  · subst hn
    simp
    refine ⟨by omega, ?_⟩
    refine loop_upto o.length (fun k => [.int .i64 o.length, vL I1 v1 o, .int .i64 o.length, .int .i64 k, vL I1 vB (seenOf (o.take k) o.length)]) (by intro i j _ _ h; simp at h; omega) (fun k => permTo o o.length k) (by simp [seenOf_nil]) (by simp [permTo]) ?_
    intro k hk hP
    rw [impl_isPermutation_b0_sh]
    simp
    refine ⟨fun h => ?_, fun h => ?_⟩
    · have hno := isPerm_no (o := o) (n := o.length) h
      have hkw : IntKind.i64.wrap ((k : Int) + 1) = k + 1 := wrap_id (by omega) (by omega)
      simp only [h, List.getElem?_eq_getElem, Option.some.injEq, exists_eq_left', hkw, true_and]
      refine ⟨fun h1 => hno (by omega), fun h1 => ⟨fun h2 => hno (by omega), fun h2 => ?_⟩⟩
      rw [seenOf_get (l := o.take k) h1 h2, seenOf_set h1 h2, ← take_succ_get h]
      by_cases h3 : o[k] ∈ o.take k
      · simp [h3, hno, h1]
      · simp [h3]
        exact ⟨h1, (permTo_succ h).2 ⟨hP, ⟨h1, h2⟩, h3⟩⟩
    · obtain rfl : k = o.length := by omega
      simp [impl_isPermutation_r1_sh]
      exact isPerm_iff.2 ⟨rfl, hP⟩
  · have : isPerm o n = false := by
      cases hc : isPerm o n with
      | false => rfl
      | true => exact absurd (isPerm_iff.1 hc).1 hn
    simp [hn, this]
theorem mood_get {l : List T2} {o : List Int} {k : Nat} (h : k < o.length) (h0 : 0 ≤ o[k]) (h1 : o[k] < l.length) : moodOf l (o[k]?.getD 0) = (l[o[k].toNat]'(by omega)).b := by
  have h2 : o[k].toNat < l.length := by omega
  simp [moodOf, h, h2]
theorem mood_b {l : List T2} (h : piecesOk l = true) (i : Int) : 0 ≤ moodOf l i ∧ moodOf l i ≤ 9 := by
  unfold moodOf
  split
  · rename_i x hx
    obtain ⟨h1, h2⟩ := List.getElem?_eq_some_iff.1 hx
    have := piecesOk_get h h1
    rw [h2] at this
    exact this.2
  · omega
theorem stepsTo_b {l : List T2} {o : List Int} (h : piecesOk l = true) : ∀ k : Nat, 0 ≤ stepsTo l o k ∧ stepsTo l o k ≤ 9 * k
  | 0 => by simp [stepsTo]
  | k + 1 => by
    have ih := stepsTo_b (o := o) h k
    have h1 := mood_b h (o[k]?.getD 0)
    have h2 := mood_b h (o[k - 1]?.getD 0)
    simp only [stepsTo, mag]
    split <;> (try split) <;> (push_cast; omega)
theorem impl_MoodSteps_ok : ∀ ds outs, F_MoodSteps ds = some outs → shL impl_MoodSteps_L (qRet outs) ds := F_MoodSteps_elim fun l o hp => by
  rw [impl_MoodSteps_L_sh]
  cases hd : piecesOk l with
  | false => simp [p_PiecesOk hp.1, hd, moodSteps]
  | true =>
  cases hd2 : isPerm o l.length with
  | false =>
    have hpre : o.length ≤ 1048576 ∧ (l.length : Int) ≤ 1048576 := by omega
    simp [p_PiecesOk hp.1, hd, hd2, moodSteps, p_isPermutation hpre]
  | true =>
  have hlen := piecesOk_len hd
  obtain ⟨hol, hpm⟩ := isPerm_iff.1 hd2
  have hol : o.length = l.length := by omega
  have hpre : o.length ≤ 1048576 ∧ (l.length : Int) ≤ 1048576 := by omega
  simp [p_PiecesOk hp.1, hd, hd2, moodSteps, p_isPermutation hpre]
  refine loop_upto (o.length - 1) (fun k => [vL I2 v2 l, vL I1 v1 o, .int .i64 (stepsTo l o (k + 1)), .int .i64 (k + 1)]) (by intro i j _ _ h; simp at h; omega) (fun _ => True) (by simp [stepsTo]) trivial ?_
  intro k hk _
  have hb := stepsTo_b (o := o) hd (k + 1)
  rw [impl_MoodSteps_b0_sh]
  simp
  refine ⟨fun h => ?_, fun h => ?_⟩
  · have h1 : k + 1 < o.length := by omega
    have e1 : ((k : Int) + 1).toNat = k + 1 := by omega
    have e2 : IntKind.i64.wrap (k : Int) = k := by rw [wrap_id] <;> omega
    have e3 : IntKind.i64.wrap ((k : Int) + 1 + 1) = (k : Int) + 1 + 1 := by rw [wrap_id] <;> omega
    have g1 := ((permTo_succ h1).1 (permTo_mono hpm h1)).2.1
    have g2 := ((permTo_succ (show k < o.length by omega)).1 (permTo_mono hpm (show k + 1 ≤ o.length by omega))).2.1
    have m1 := mood_get (l := l) h1 g1.1 (by omega)
    have m2 := mood_get (l := l) (show k < o.length by omega) g2.1 (by omega)
    have b1 := mood_b hd (o[k + 1]?.getD 0)
    have b2 := mood_b hd (o[k]?.getD 0)
    have l1 : o[k + 1].toNat < l.length := by omega
    have l2 : o[k].toNat < l.length := by omega
    have h0 : k < o.length := by omega
    have e : stepsTo l o (k + 1 + 1) = stepsTo l o (k + 1) + mag (moodOf l (o[k + 1]?.getD 0) - moodOf l (o[k]?.getD 0)) := by
      rw [stepsTo]; simp
    have e5 : IntKind.i64.wrap (moodOf l (o[k + 1]?.getD 0) - moodOf l (o[k]?.getD 0)) = moodOf l (o[k + 1]?.getD 0) - moodOf l (o[k]?.getD 0) := wrap_id (by omega) (by omega)
    have e6 : IntKind.i64.wrap (stepsTo l o (k + 1) + mag (moodOf l (o[k + 1]?.getD 0) - moodOf l (o[k]?.getD 0))) = stepsTo l o (k + 1 + 1) := by
      rw [e]
      refine wrap_id ?_ ?_ <;> (simp only [mag]; split <;> omega)
    simp only [List.getElem?_eq_getElem h1, Option.some.injEq, exists_eq_left', List.getElem?_eq_getElem l1, e2, Int.toNat_natCast, List.getElem?_eq_getElem h0, List.getElem?_eq_getElem l2]
    rw [← m1, ← m2, e5, p_magnitude (by omega)]
    simp [e6, e3]
    omega
  · obtain rfl : k = o.length - 1 := by omega
    simp [impl_MoodSteps_r1_sh]
    rcases Nat.eq_zero_or_pos o.length with h0 | h0
    · simp [h0, stepsTo]
    · rw [Nat.sub_add_cancel h0]
theorem spec_MoodSteps_ok : ∀ ds outs, F_MoodSteps ds = some outs → shL spec_MoodSteps_L (qRet outs) ds := F_MoodSteps_elim fun l o hp => by
  rw [spec_MoodSteps_L_sh]
  cases hd : piecesOk l with
  | false => simp [p_PiecesOk hp.1, hd, moodSteps]
  | true =>
  have hlen := piecesOk_len hd
  by_cases hol : (o.length : Int) = l.length
  case neg =>
    have : isPerm o l.length = false := by
      cases hc : isPerm o l.length with
      | false => rfl
      | true => exact absurd (isPerm_iff.1 hc).1 hol
    have hol2 : ¬ (o.length = l.length) := by omega
    simp [p_PiecesOk hp.1, hd, moodSteps, this]
    intro h; omega
  have hol2 : o.length = l.length := by omega
  simp [p_PiecesOk hp.1, hd, hol2]
  refine ⟨by omega, ?_⟩
  refine loop_upto o.length (fun k => [vL I2 v2 l, vL I1 v1 o, .int .i64 (stepsTo l o k), .int .i64 k, vL I1 vB (seenOf (o.take k) l.length)]) (by intro i j _ _ h; simp at h; omega) (fun k => permTo o l.length k) (by simp [seenOf_nil, stepsTo]) (by simp [permTo]) ?_
  intro k hk hP
  have hb := stepsTo_b (o := o) hd k
  rw [spec_MoodSteps_b0_sh]
  simp
  refine ⟨fun h => ?_, fun h => ?_⟩
  · have hno := isPerm_no (o := o) (n := l.length) h
    have hkw : IntKind.i64.wrap ((k : Int) + 1) = k + 1 := wrap_id (by omega) (by omega)
    have hlw : IntKind.i64.wrap ((l.length : Int) - 1) = l.length - 1 := wrap_id (by omega) (by omega)
    have hms : isPerm o l.length = false → moodSteps l o = -1 := fun hh => by simp [moodSteps, hh]
    simp only [h, List.getElem?_eq_getElem, Option.some.injEq, exists_eq_left', hlw, true_and]
    by_cases h1 : 0 ≤ o[k] ∧ o[k] < l.length
    case neg =>
      have hw : within o[k] 0 (l.length - 1) = false := by simp [within]; omega
      simp [hw, hms (hno (by omega))]
    have hw : within o[k] 0 (l.length - 1) = true := by simp [within]; omega
    have l1 : o[k].toNat < l.length := by omega
    simp only [hw]
    simp [l1]
    have hsg : (seenOf (o.take k) l.length)[o[k].toNat]'(by simp; omega) = decide (o[k] ∈ o.take k) := by
      have := seenOf_get (l := o.take k) h1.1 h1.2
      rw [List.getElem?_eq_getElem (by simp; omega)] at this
      simpa using this
    rw [hsg]
    by_cases h3 : o[k] ∈ o.take k
    · simp [h3, h1.1, hms (hno (by simp [h3]))]
    simp [h3, h1.1]
    rw [spec_MoodSteps_r1_sh]
    have hps := (permTo_succ h).2 ⟨hP, h1, h3⟩
    simp [h, l1, h1.1, seenOf_set h1.1 h1.2, spec_MoodSteps_r2_sh, spec_MoodSteps_r3_sh, spec_MoodSteps_r4_sh, hkw, hps]
    refine ⟨fun hk0 => ?_, fun hk0 => by simp [stepsTo, hk0]⟩
    have e1 : IntKind.i64.wrap ((k : Int) - 1) = k - 1 := by rw [wrap_id] <;> omega
    have e2 : ((k : Int) - 1).toNat = k - 1 := by omega
    have h0 : k - 1 < o.length := by omega
    have hps0 : permTo o (↑l.length) (k - 1 + 1) := by rw [Nat.sub_add_cancel hk0]; exact hP
    have g2 := ((permTo_succ h0).1 hps0).2.1
    have l2 : o[k - 1].toNat < l.length := by omega
    have m1 := mood_get (l := l) h h1.1 (by omega)
    have m2 := mood_get (l := l) h0 g2.1 (by omega)
    have b1 := mood_b hd (o[k]?.getD 0)
    have b2 := mood_b hd (o[k - 1]?.getD 0)
    have e : stepsTo l o (k + 1) = stepsTo l o k + mag (moodOf l (o[k]?.getD 0) - moodOf l (o[k - 1]?.getD 0)) := by
      rw [stepsTo]; simp [hk0]
    rw [e1, e2]
    refine ⟨by omega, _, List.getElem?_eq_getElem h0, g2.1, _, List.getElem?_eq_getElem l2, ?_⟩
    rw [← m1, ← m2, e]
    generalize moodOf l (o[k]?.getD 0) = x at *
    generalize moodOf l (o[k - 1]?.getD 0) = y at *
    rw [wrap_id (x := x - y) (by omega) (by omega), wrap_id (x := -(x - y)) (by omega) (by omega)]
    have : max (x - y) (-(x - y)) = mag (x - y) := by simp only [mag]; split <;> omega
    rw [this]
    refine wrap_id ?_ ?_ <;> (simp only [mag]; split <;> omega)
  · obtain rfl : k = o.length := by omega
    simp [spec_MoodSteps_r5_sh]
    have : isPerm o l.length = true := isPerm_iff.2 ⟨hol, hP⟩
    simp [moodSteps, hd, this]
theorem laws_FnExactMoodSteps_ok : ∀ ds outs, F_FnExactMoodSteps ds = some outs → shL laws_FnExactMoodSteps_L (qRet outs) ds := F_FnExactMoodSteps_elim fun l o hp => by
  rw [laws_FnExactMoodSteps_L_sh]
  by_cases h2 : (o.length : Int) ≤ 1048576
  · have h2' : o.length ≤ 1048576 := by omega
    simp only [P1_len, P1_gtr]
    rw [p_szPieceS (by have := hp.1.1; omega)]
    by_cases h : (l.length : Int) ≤ 1048576
    · have h' : l.length ≤ 1048576 := by omega
      simp [h, h', h2', p_toPieceS, p_MoodSteps, p_eqPieceS, p_toIntS, p_eqIntS]
    · simp [h]
  · simp
    intro h; omega
end Go.Mw

