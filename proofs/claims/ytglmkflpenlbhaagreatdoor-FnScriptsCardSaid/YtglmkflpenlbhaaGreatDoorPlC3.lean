/- What functions of the program compute, as small pure programs, shown against plain Lean functions: no condition. -/
import Derived.Lib.IndexBytes
import Derived.Lib.CountLaws
import Derived.KernelRfl
import Derived.Test.YtglmkflpenlbhaaGreatDoorPlC2
namespace Go.Mw
open Go.Lib (decDigits itoa)
theorem fields_in (s : List UInt8) : ∀ k, k ≤ s.length + 1 → (∀ x ∈ (fieldsTo s k).1, x ≠ [] ∧ 32 ∉ x ∧ x.length ≤ s.length) ∧ ∀ j, (fieldsTo s k).2 ≤ j → j < k → s[j]? ≠ some 32
  | 0, _ => ⟨by simp [fieldsTo], fun j _ h => by omega⟩
  | k + 1, hk => by
    obtain ⟨ih1, ih2⟩ := fields_in s k (by omega)
    have g := (fieldsTo_le s k).1
    by_cases h : k < s.length → s[k]? = some 32
    · rw [fieldsTo_grow h (by omega)]
      refine ⟨?_, fun j h1 h2 => by simp only at h1; omega⟩
      simp only
      split
      · rename_i h3
        intro x hx
        rcases List.mem_append.1 hx with hx | hx
        · exact ih1 x hx
        · rw [List.mem_singleton] at hx
          subst hx
          refine ⟨fun e => ?_, fun e => ?_, by rw [List.length_drop, List.length_take]; omega⟩
          · have := congrArg List.length e
            rw [List.length_drop, List.length_take, List.length_nil] at this
            omega
          · obtain ⟨j, hj⟩ := List.mem_iff_getElem?.1 e
            rw [List.getElem?_drop, List.getElem?_take] at hj
            split at hj
            · exact ih2 _ (by omega) (by omega) hj
            · cases hj
      · exact ih1
    · have h1 : k < s.length := by
        rcases Nat.lt_or_ge k s.length with h1 | h1
        · exact h1
        · exact absurd (fun h2 => by omega) h
      have h2 : ¬ s[k] = 32 := fun e => h (fun _ => by rw [List.getElem?_eq_getElem h1, e])
      rw [fieldsTo_other h1 h2]
      refine ⟨ih1, fun j h3 h4 => ?_⟩
      by_cases e : j = k
      · subst e
        rw [List.getElem?_eq_getElem h1]
        intro e2
        exact h2 (Option.some.inj e2)
      · exact ih2 j h3 (by omega)
theorem fieldsOf_in {s : List UInt8} (h : fieldsOk s = true) : (fieldsOf s).length ≤ 24 ∧ ∀ x ∈ fieldsOf s, x ≠ [] ∧ 32 ∉ x ∧ x.length ≤ 600 := by
  have h2 := h
  simp only [fieldsOk, Bool.and_eq_true, decide_eq_true_eq] at h2
  rw [fieldsOf, if_pos h]
  refine ⟨h2.2.2, fun x hx => ?_⟩
  have := (fields_in s (s.length + 1) (Nat.le_refl _)).1 x hx
  exact ⟨this.1, this.2.1, by omega⟩

def accR (w : List UInt8) (r : List (List UInt8)) : List UInt8 := w ++ (r.map (32 :: ·)).flatten
theorem accR_nil (w : List UInt8) : accR w [] = w := by simp [accR]
theorem accR_cons (w x : List UInt8) (r : List (List UInt8)) : accR w (x :: r) = w ++ 32 :: accR x r := by simp [accR]
theorem dig32 {s : List UInt8} (h : s.all isDig = true) : 32 ∉ s := by
  intro h2
  have := (List.all_eq_true.1 h) 32 h2
  simp [isDig] at this
theorem word32 (k : Int) : 32 ∉ actWord k := by
  unfold actWord
  split
  · decide
  · split
    · decide
    · split
      · decide
      · split
        · decide
        · split <;> decide
theorem word_inj {j k : Int} (j1 : 1 ≤ j) (j6 : j ≤ 6) (k1 : 1 ≤ k) (k6 : k ≤ 6) (h : actWord j = actWord k) : j = k := by
  obtain e | e | e | e | e | e : j = 1 ∨ j = 2 ∨ j = 3 ∨ j = 4 ∨ j = 5 ∨ j = 6 := by omega
  all_goals
    obtain e2 | e2 | e2 | e2 | e2 | e2 : k = 1 ∨ k = 2 ∨ k = 3 ∨ k = 4 ∨ k = 5 ∨ k = 6 := by omega
    all_goals
      subst e
      subst e2
      first | rfl | (simp [actWord] at h)
theorem itoa_nat {n : Int} (h : 0 ≤ n) : itoa n = decDigits n.toNat := by
  have e : ((n.toNat : Nat) : Int) = n := by omega
  rw [← itoa_pos, e]
theorem itoa32 {n : Int} (h : 0 ≤ n) : 32 ∉ itoa n := by rw [itoa_nat h]; exact dig32 (dec_dig _)
theorem uOk_itoa {n : Int} (h : 0 ≤ n) (h2 : n ≤ 1000000000) : uOk (itoa n) = true ∧ uNum (itoa n) = n := by
  have e : ((n.toNat : Nat) : Int) = n := by omega
  have hv : uval (itoa n) = n.toNat := by rw [itoa_nat h]; exact uval_decDigits _
  have ho : uOk (itoa n) = true := by
    simp only [uOk, Bool.and_eq_true, decide_eq_true_eq]
    refine ⟨?_, ?_, by omega, by rw [hv, e]⟩
    · rw [itoa_nat h]; exact dec_len 9 _ (by omega)
    · rw [itoa_nat h]; exact dec_dig _
  exact ⟨ho, by rw [uNum, if_pos ho, hv, e]⟩
theorem uOk_back {s : List UInt8} (h : uOk s = true) : itoa (uNum s) = s := by
  have h2 := h
  simp only [uOk, Bool.and_eq_true, decide_eq_true_eq] at h2
  rw [uNum, if_pos h]
  exact h2.2.2.2

theorem actOk_zero {a : T3} (h : actOk a = true) : (actNums a.a ≠ 2 → a.c = 0) ∧ (actNums a.a = 0 → a.b = 0) := by
  unfold actOk at h
  unfold actNums
  split at h
  · rename_i e; rw [if_pos e]; exact ⟨fun h => absurd rfl h, fun h => by omega⟩
  · rename_i e; rw [if_neg e]
    split at h
    · rename_i e2
      rw [if_pos (.inl e2)]
      simp at h
      exact ⟨fun _ => h.2, fun h => by omega⟩
    · rename_i e2
      split at h
      · rename_i e3
        rw [if_pos (.inr e3)]
        simp at h
        exact ⟨fun _ => h.2, fun h => by omega⟩
      · split at h
        · simp at h
          exact ⟨fun _ => h.2, fun _ => h.1⟩
        · cases h
theorem nums_three (k : Int) : actNums k = 0 ∨ actNums k = 1 ∨ actNums k = 2 := by
  have := actNums_le k; omega
theorem toks_in {a : T3} (h : actOk a = true) {w : List UInt8} {r : List (List UInt8)} (e : toks a = w :: r) : w = actWord a.a ∧ r.length = actNums a.a ∧ (∀ x ∈ r, 32 ∉ x ∧ uOk x = true) ∧ fmtAct a = accR w r := by
  obtain ⟨k1, k6, ⟨b0, b1⟩, c0, c1⟩ := actOk_kind h
  have ub := uOk_itoa b0 (by omega)
  have uc := uOk_itoa c0 (by omega)
  have sb := itoa32 b0
  have sc := itoa32 c0
  rw [fmt_to h]
  obtain q | q | q := nums_three a.a
  all_goals
    simp [toks, q] at e
    obtain ⟨rfl, rfl⟩ := e
    simp [fmtTo, q, accR, ub, uc, sb, sc]
theorem toks_nums {a : T3} (h : actOk a = true) {w : List UInt8} {r : List (List UInt8)} (e : toks a = w :: r) (g : List UInt8 → Int) (hg : ∀ n, 0 ≤ n → n ≤ 100 → g (itoa n) = n) {n1 n2 : Int} {q : List Int} (hq : r.map g ++ [0, 0] = n1 :: n2 :: q) : a = ⟨a.a, n1, n2⟩ := by
  obtain ⟨k1, k6, ⟨b0, b1⟩, c0, c1⟩ := actOk_kind h
  obtain ⟨z1, z2⟩ := actOk_zero h
  have gb := hg a.b b0 b1
  have gc := hg a.c c0 c1
  obtain ⟨x, y, z⟩ := a
  simp only at *
  obtain t | t | t := nums_three x
  all_goals
    simp [toks, t] at e
    obtain ⟨rfl, rfl⟩ := e
    simp [t] at z1 z2
    simp [gb, gc] at hq
    obtain ⟨rfl, rfl, -⟩ := hq
    first | rfl | (simp [z1, z2])
theorem toks_inj {a b : T3} (ha : actOk a = true) (hb : actOk b = true) (e : toks a = toks b) : a = b := by
  obtain ⟨w, r, hw⟩ : ∃ w r, toks a = w :: r := ⟨_, _, rfl⟩
  have hw2 : toks b = w :: r := by rw [← e, hw]
  have i1 := toks_in ha hw
  have i2 := toks_in hb hw2
  obtain ⟨k1, k6, -⟩ := actOk_kind ha
  obtain ⟨j1, j6, -⟩ := actOk_kind hb
  have ek := word_inj k1 k6 j1 j6 (i1.1.symm.trans i2.1)
  obtain ⟨n1, n2, q, hq⟩ : ∃ n1 n2 q, r.map uNum ++ [0, 0] = n1 :: n2 :: q := by
    match r with
    | [] => exact ⟨0, 0, [], rfl⟩
    | [x] => exact ⟨uNum x, 0, [0], rfl⟩
    | x :: y :: t => exact ⟨uNum x, uNum y, t.map uNum ++ [0, 0], rfl⟩
  have hg : ∀ n, 0 ≤ n → n ≤ 100 → uNum (itoa n) = n := fun n h0 h1 => (uOk_itoa h0 (by omega)).2
  rw [toks_nums ha hw uNum hg hq, toks_nums hb hw2 uNum hg hq, ek]
theorem parse_fit {f : List (List UInt8)} {a : T3} (h : actOk a = true) (e : toks a = f) : parseV f = a ∧ parseB f = true := by
  have hf : fits f := ⟨a, h, e⟩
  refine ⟨?_, by simp [parseB, hf]⟩
  rw [parseV, dif_pos hf]
  have := hf.choose_spec
  exact toks_inj this.1 h (this.2.trans e.symm)
theorem parse_no {f : List (List UInt8)} (h : ¬ fits f) : parseV f = ⟨0, 0, 0⟩ ∧ parseB f = false := ⟨by rw [parseV, dif_neg h], by simp [parseB, h]⟩
theorem fits_nil : ¬ fits [] := by
  rintro ⟨a, -, e⟩
  simp [toks] at e
theorem toks_len (a : T3) : 1 ≤ (toks a).length ∧ (toks a).length ≤ 3 := by
  unfold toks
  split
  · simp
  · split <;> simp
end Go.Mw

namespace Go.Mw
open Go.Lib (decDigits itoa)
theorem pad_two (l : List Int) : ∃ n1 n2 q, l ++ [0, 0] = n1 :: n2 :: q := by
  match l with
  | [] => exact ⟨0, 0, [], rfl⟩
  | [x] => exact ⟨x, 0, [0], rfl⟩
  | x :: y :: t => exact ⟨x, y, t ++ [0, 0], rfl⟩
theorem impl_ParseAct_ok : ∀ ds outs, F_ParseAct ds = some outs → shL impl_ParseAct_L (qRet outs) ds := F_ParseAct_elim fun s hp => by
  rw [impl_ParseAct_L_sh, p_SplitFields hp]
  simp only [P1_not, ifB_bool, Bool.not_eq_true', Bool.not_eq_false', qRet_ret]
  refine ⟨fun h => ?_, fun h => ?_⟩
  · rw [fieldsOf_no h]
    obtain ⟨e1, e2⟩ := parse_no fits_nil
    rw [e1, e2]
  obtain ⟨hn, hf⟩ := fieldsOf_in h
  generalize fieldsOf s = f at *
  simp only [P1_len, P1_eql, ifB_bool, beq_iff_eq, beq_eq_false_iff_ne, ne_eq]
  refine ⟨fun h2 => ?_, fun h2 => ?_⟩
  · obtain rfl : f = [] := List.length_eq_zero_iff.1 (by omega)
    obtain ⟨e1, e2⟩ := parse_no fits_nil
    rw [e1, e2]
  obtain ⟨w, r, rfl⟩ : ∃ w r, f = w :: r := by
    cases f with
    | nil => simp at h2
    | cons w r => exact ⟨w, r, rfl⟩
  have hr : ∀ x ∈ r, x ≠ [] ∧ 32 ∉ x ∧ x.length ≤ 600 := fun x hx => hf x (by simp [hx])
  have hrl : r.length ≤ 24 := by simp at hn; omega
  simp only [P1_lst0, P1_lsubS_1, Int.toNat_one, List.drop_succ_cons, List.drop_zero, P1_len, List.length_cons]
  refine ⟨by omega, ?_⟩
  refine loop_upto r.length (fun k => [vL I1 vS r, .int .i64 r.length, .int .i64 k, vL I1 vS (w :: r), vL I1 v1 ((r.take k).map uNum), .int .i64 0, .int .i64 0, .int .i64 0]) (fun i j _ _ e => by simp at e; omega) (fun k => ∀ x ∈ r.take k, uOk x = true) (by simp) (by simp) ?_
  intro k hk ha
  rw [impl_ParseAct_b0_sh]
  simp only [P1_lss, ifB_bool, decide_eq_true_eq, decide_eq_false_iff_not]
  refine ⟨fun h4 => ?_, fun h4 => ?_⟩
  · have h5 : k < r.length := by omega
    have hx := hr r[k] (List.getElem_mem h5)
    have w5 : IntKind.i64.wrap ((k : Int) + 1) = ((k + 1 : Nat) : Int) := by rw [wrap_id (by omega) (by omega)]; omega
    simp only [P1_idxS, Int.toNat_natCast, List.getElem?_eq_getElem h5, Option.some.injEq, exists_eq_left']
    refine ⟨by omega, ?_⟩
    rw [p_ParseUint (by omega)]
    simp only [P1_not, ifB_bool, Bool.not_eq_true', Bool.not_eq_false', P1_lst1, P1_appI_, List.length_map, List.length_take, List.length_singleton, P1_add, w5, qS_normal]
    refine ⟨fun h6 => ?_, fun h6 => ⟨by omega, h5, ?_, ?_⟩⟩
    · have hno : ¬ fits (w :: r) := by
        rintro ⟨a, h7, h8⟩
        have := ((toks_in h7 h8).2.2.1 _ (List.getElem_mem h5)).2
        rw [h6] at this
        cases this
      obtain ⟨e1, e2⟩ := parse_no hno
      rw [e1, e2]
      simp
    · rw [take_succ_get h5, List.map_append]
      rfl
    · rw [all_take_succ h5]
      exact ⟨ha, h6⟩
  · have e : k = r.length := by omega
    subst e
    rw [List.take_length] at ha
    obtain ⟨n1, n2, q, hq⟩ := pad_two (r.map uNum)
    have hg : ∀ n, 0 ≤ n → n ≤ 100 → uNum (itoa n) = n := fun n h0 h1 => (uOk_itoa h0 (by omega)).2
    simp only [qS_exit, qB_exit, if_true, qS_normal, impl_ParseAct_r1_sh, List.take_length]
    refine loop_upto 6 (fun i => [.int .i64 ((i : Int) + 1), vL I1 vS (w :: r), vL I1 v1 (r.map uNum), .int .i64 0, .int .i64 0, .int .i64 0]) (fun i j _ _ e => by simp at e; omega) (fun i => ∀ k : Int, 1 ≤ k → k ≤ i → ¬ (w = actWord k ∧ r.length = actNums k)) (by simp) (fun k h0 h1 => by omega) ?_
    intro i hi hP
    rw [impl_ParseAct_b2_sh]
    have w5 : IntKind.i64.wrap ((i : Int) + 1 + 1) = ((i + 1 : Nat) : Int) + 1 := by rw [wrap_id (by omega) (by omega)]; omega
    simp only [P1_leq, ifB_bool, decide_eq_true_eq, decide_eq_false_iff_not]
    refine ⟨fun h5 => ?_, fun h5 => ?_⟩
    · have hstep : ¬ (w = actWord ((i : Int) + 1) ∧ r.length = actNums ((i : Int) + 1)) → ∀ k : Int, 1 ≤ k → k ≤ ((i + 1 : Nat) : Int) → ¬ (w = actWord k ∧ r.length = actNums k) := by
        intro hno k h0 h1
        by_cases e : k = (i : Int) + 1
        · subst e; exact hno
        · exact hP k h0 (by omega)
      simp only [P1_idxS, Int.toNat_zero, List.getElem?_cons_zero, Option.some.injEq, exists_eq_left', p_actWord, P1_neqS, ifB_bool, Bool.not_eq_true', Bool.not_eq_false', beq_iff_eq, beq_eq_false_iff_ne, ne_eq, P1_add, w5, qS_normal, P1_len, List.length_map, p_actNumbers, P1_neq, bne_iff_ne, bne_eq_false_iff_eq]
      refine ⟨by omega, fun h6 => ⟨by omega, trivial, hstep (fun h7 => h6 h7.1)⟩, fun h6 => ⟨fun h7 => ⟨by omega, trivial, hstep (fun h8 => h7 (by rw [h8.2]))⟩, fun h7 => ?_⟩⟩
      have h8 : r.length = actNums ((i : Int) + 1) := by omega
      simp only [P1_lstI2, P1_appI_, List.length_map, List.length_cons, List.length_nil, hq, P1_idxI, Int.toNat_zero, Int.toNat_one, List.getElem?_cons_zero, List.getElem?_cons_succ, Option.some.injEq, exists_eq_left', p_ActOk, P1_not, ifB_bool, Bool.not_eq_true', Bool.not_eq_false']
      refine ⟨by omega, by omega, by omega, fun h9 => ?_, fun h9 => ?_⟩
      · have hno : ¬ fits (w :: r) := by
          rintro ⟨a, m1, m2⟩
          obtain ⟨k1, k6, -⟩ := actOk_kind m1
          have m3 := toks_nums m1 m2 uNum hg hq
          have m4 := word_inj k1 k6 (show (1 : Int) ≤ (i : Int) + 1 by omega) (by omega) ((toks_in m1 m2).1.symm.trans h6)
          rw [m3, m4, h9] at m1
          cases m1
        obtain ⟨e1, e2⟩ := parse_no hno
        rw [e1, e2]
        simp
      · have m5 : toks ⟨(i : Int) + 1, n1, n2⟩ = w :: r := by
          have hb : ∀ x ∈ r, itoa (uNum x) = x := fun x hx => uOk_back (ha x hx)
          unfold toks
          simp only
          rw [← h6, ← h8]
          match r, hq, hb with
          | [], _, _ => simp
          | [x], hq, hb =>
            simp at hq
            have := hb x (by simp)
            simp [← hq.1, this]
          | [x, y], hq, hb =>
            simp at hq
            have e3 := hb x (by simp)
            have e4 := hb y (by simp)
            simp [← hq.1, ← hq.2.1, e3, e4]
          | x :: y :: z :: t, _, _ =>
            have := actNums_le ((i : Int) + 1)
            simp at h8
            omega
        obtain ⟨e1, e2⟩ := parse_fit (f := w :: r) h9 m5
        rw [e1, e2]
        simp
    · have e : i = 6 := by omega
      subst e
      have hno : ¬ fits (w :: r) := by
        rintro ⟨a, h6, h7⟩
        obtain ⟨k1, k6, -⟩ := actOk_kind h6
        obtain ⟨t1, t2, -⟩ := toks_in h6 h7
        exact hP a.a k1 (by omega) ⟨t1, t2⟩
      obtain ⟨e1, e2⟩ := parse_no hno
      simp only [qS_exit, qB_exit, if_true, qS_normal, impl_ParseAct_r3_sh, qRet_ret, e1, e2]
end Go.Mw

namespace Go.Mw
open Go.Lib (decDigits itoa)
theorem at_tok {s tok rest : List UInt8} {m : Nat} {F : List (List UInt8)} (h : fieldsTo s m = (F, m)) (hd : s.drop m = tok ++ 32 :: rest) (h0 : tok ≠ []) (h32 : 32 ∉ tok) :
    fieldsTo s (m + tok.length + 1) = (F ++ [tok], m + tok.length + 1) ∧ m + tok.length < s.length ∧ s.drop (m + tok.length + 1) = rest := by
  have hlen := congrArg List.length hd
  rw [List.length_drop, List.length_append, List.length_cons] at hlen
  have hpos : 0 < tok.length := List.length_pos_iff.2 h0
  have hget : ∀ i, s[m + i]? = (tok ++ 32 :: rest)[i]? := fun i => by rw [← hd, List.getElem?_drop]
  have run : ∀ i, i ≤ tok.length → fieldsTo s (m + i) = (F, m) := by
    intro i
    induction i with
    | zero => intro _; exact h
    | succ i ih =>
      intro hi
      have h1 : m + i < s.length := by omega
      have h2 : ¬ s[m + i] = 32 := by
        intro e
        have := hget i
        rw [List.getElem?_eq_getElem h1, e, List.getElem?_append_left (by omega)] at this
        exact h32 (List.mem_of_getElem? this.symm)
      rw [← Nat.add_assoc, fieldsTo_other h1 h2, ih (by omega)]
  refine ⟨?_, by omega, ?_⟩
  · have h1 : m + tok.length < s.length := by omega
    have h2 : s[m + tok.length]? = some 32 := by
      rw [hget, List.getElem?_append_right (Nat.le_refl _)]; simp
    rw [fieldsTo_grow (fun _ => h2) (by omega), run _ (Nat.le_refl _)]
    have e : (s.take (m + tok.length)).drop m = tok := by
      rw [List.drop_take, hd]
      simp
    simp only [e]
    rw [if_pos (by omega)]
  · have : s.drop (m + tok.length + 1) = (s.drop m).drop (tok.length + 1) := by rw [List.drop_drop, Nat.add_assoc]
    rw [this, hd]
    simp
theorem at_all {s : List UInt8} : ∀ (r : List (List UInt8)) (w : List UInt8) (m : Nat) (F : List (List UInt8)), fieldsTo s m = (F, m) → s.drop m = accR w r ++ [32] → (w ≠ [] ∧ 32 ∉ w) → (∀ x ∈ r, x ≠ [] ∧ 32 ∉ x) → fieldsTo s s.length = (F ++ w :: r, s.length)
  | [], w, m, F, h, hd, hw, _ => by
    rw [accR_nil] at hd
    obtain ⟨h1, h2, h3⟩ := at_tok h hd hw.1 hw.2
    have : m + w.length + 1 = s.length := by
      have := congrArg List.length h3
      rw [List.length_drop, List.length_nil] at this
      omega
    rw [this] at h1
    exact h1
  | x :: t, w, m, F, h, hd, hw, hr => by
    rw [accR_cons, List.append_assoc, List.cons_append] at hd
    obtain ⟨h1, h2, h3⟩ := at_tok h hd hw.1 hw.2
    have := at_all t x _ _ h1 h3 (hr x (by simp)) (fun y hy => hr y (by simp [hy]))
    rw [this]
    simp
theorem plain_dig {s : List UInt8} (h : s.all isDig = true) : s.all plainB = true := by
  rw [List.all_eq_true] at h ⊢
  intro x hx
  have := h x hx
  simp only [isDig, plainB, Bool.and_eq_true, decide_eq_true_eq] at this ⊢
  omega
theorem plain_word (k : Int) : (actWord k).all plainB = true := by
  unfold actWord
  split
  · decide
  · split
    · decide
    · split
      · decide
      · split
        · decide
        · split <;> decide
theorem plain_itoa {n : Int} (h : 0 ≤ n) : (itoa n).all plainB = true := by rw [itoa_nat h]; exact plain_dig (dec_dig _)
theorem plain_fmt (a : T3) : (fmtAct a).all plainB = true := by
  by_cases h : actOk a = true
  · obtain ⟨k1, k6, ⟨b0, b1⟩, c0, c1⟩ := actOk_kind h
    have pb := plain_itoa b0
    have pc := plain_itoa c0
    have pw := plain_word a.a
    have p32 : plainB 32 = true := by decide
    rw [fmt_to h]
    unfold fmtTo
    split
    · simp only [List.all_append, pw, List.all_nil, Bool.and_self]
    · split
      · simp only [List.all_append, List.all_cons, pw, pb, p32, Bool.and_self]
      · simp only [List.all_append, List.all_cons, pw, pb, pc, p32, Bool.and_self]
  · unfold fmtAct; rw [if_neg h]; rfl
theorem word_ne (k : Int) : actWord k ≠ [] := by
  unfold actWord
  split
  · decide
  · split
    · decide
    · split
      · decide
      · split
        · decide
        · split <;> decide
theorem toks_ne {a : T3} (h : actOk a = true) : ∀ x ∈ toks a, x ≠ [] := by
  obtain ⟨k1, k6, ⟨b0, b1⟩, c0, c1⟩ := actOk_kind h
  have hb : itoa a.b ≠ [] := by rw [itoa_nat b0]; exact dec_ne _
  have hc : itoa a.c ≠ [] := by rw [itoa_nat c0]; exact dec_ne _
  intro x hx
  unfold toks at hx
  rcases List.mem_cons.1 hx with rfl | hx
  · exact word_ne _
  · split at hx
    · simp at hx
      rcases hx with rfl | rfl
      · exact hb
      · exact hc
    · split at hx
      · simp at hx
        subst hx
        exact hb
      · cases hx
theorem actTo_each (x : Cur) : ∀ k, ∀ a ∈ (actTo x k).1, actOk a = true
  | 0 => by simp [actTo]
  | k + 1 => by
    intro a ha
    rw [actTo] at ha
    rcases List.mem_append.1 ha with h | h
    · exact actTo_each x k a h
    · rw [List.mem_singleton] at h
      subst h
      exact actDraw_ok _
theorem drawA_each (l : List UInt8) : ∀ a ∈ drawA l, actOk a = true := actTo_each _ _
end Go.Mw

namespace Go.Mw
def E_sameTexts : List (List UInt8) × List (List UInt8) → List V := fun (a, b) => [vL I1 vS a, vL I1 vS b]
noncomputable def F_sameTexts : List V → Option (List V) := mkF E_sameTexts (fun (a, b) => a.length ≤ 1048576 ∧ b.length ≤ 1048576) (fun (a, b) => [.bool (decide (a = b))])
theorem F_sameTexts_inj : ∀ x y, E_sameTexts x = E_sameTexts y → x = y := by
  rintro ⟨a, b⟩ ⟨a', b'⟩ h
  simpa [E_sameTexts] using h
theorem F_sameTexts_elim {P : List V → List V → Prop} (h : ∀ (a : List (List UInt8)) (b : List (List UInt8)), (a.length ≤ 1048576 ∧ b.length ≤ 1048576) → P [vL I1 vS a, vL I1 vS b] [.bool (decide (a = b))]) : ∀ ds outs, F_sameTexts ds = some outs → P ds outs := by
  intro ds outs hh
  obtain ⟨⟨a, b⟩, rfl, hp, rfl⟩ := mkF_inv hh
  exact h a b hp
theorem p_sameTexts {a : List (List UInt8)} {b : List (List UInt8)} {nr_ : Nat} {kk_ : V → Prop} (hp : a.length ≤ 1048576 ∧ b.length ≤ 1048576) : P1 (.call F_sameTexts 0 nr_) [vL I1 vS a, vL I1 vS b] kk_ ↔ kk_ (.bool (decide (a = b))) :=
  P1_callF (by unfold F_sameTexts; exact mkF_eq F_sameTexts_inj (a, b) hp)

def cutNl : List UInt8 → List (List UInt8)
  | [] => [[]]
  | b :: r => if b = 10 then [] :: cutNl r else match cutNl r with
    | h :: t => (b :: h) :: t
    | [] => [[b]]
def blankL (s : List UInt8) : Bool := fieldsOk s && (fieldsOf s).isEmpty
noncomputable def lineStep (acc : Option (List T3)) (s : List UInt8) : Option (List T3) := match acc with
  | none => none
  | some a => if blankL s then some a else if parseB (fieldsOf s) then some (a ++ [parseV (fieldsOf s)]) else none
noncomputable def scriptOf (l : List (List UInt8)) : Option (List T3) := l.foldl lineStep (some [])
def nums (l : List Int) : List (List UInt8) := l.map Go.Lib.itoa
noncomputable def scriptActs (s : List UInt8) : Option (List T3) := if s.length ≤ 20000 then (match scriptOf (cutNl s) with
  | some a => if a.length ≤ 40 then some a else none
  | none => none) else none
def linesOf (a : List T3) : List (List UInt8) := nums (runN' (openShop 16 [12, 12, 16, 19] 40) a) ++ fmtShop (runW (openShop 16 [12, 12, 16, 19] 40) a)
noncomputable def scriptL (s : List UInt8) : List (List UInt8) := match scriptActs s with
  | some a => linesOf a
  | none => []
noncomputable def scriptB (s : List UInt8) : Bool := (scriptActs s).isSome
def E_RunScript (s : List UInt8) : List V := [.str s]
noncomputable def F_RunScript : List V → Option (List V) := mkF E_RunScript (fun s => s.length ≤ 1048576) (fun s => [vL I1 vS (scriptL s), .bool (scriptB s)])
theorem F_RunScript_inj : ∀ x y, E_RunScript x = E_RunScript y → x = y := by
  rintro s s' h
  simpa [E_RunScript] using h
theorem F_RunScript_elim {P : List V → List V → Prop} (h : ∀ (s : List UInt8), (s.length ≤ 1048576) → P [.str s] [vL I1 vS (scriptL s), .bool (scriptB s)]) : ∀ ds outs, F_RunScript ds = some outs → P ds outs := by
  intro ds outs hh
  obtain ⟨s, rfl, hp, rfl⟩ := mkF_inv hh
  exact h s hp
theorem p_RunScript {s : List UInt8} {nr_ : Nat} {kk_ : V → V → Prop} (hp : s.length ≤ 1048576) : P2 (.call F_RunScript 0 nr_) [.str s] kk_ ↔ kk_ (vL I1 vS (scriptL s)) (.bool (scriptB s)) :=
  P2_callF (by unfold F_RunScript; exact mkF_eq F_RunScript_inj (s) hp)

def E_FnScripts (l : List UInt8) : List V := [vL I1 vY l]
noncomputable def F_FnScripts : List V → Option (List V) := mkF E_FnScripts (fun l => wfLY l) (fun _ => [.bool true])
theorem F_FnScripts_inj : ∀ x y, E_FnScripts x = E_FnScripts y → x = y := by
  rintro l l' h
  simpa [E_FnScripts] using h
theorem F_FnScripts_elim {P : List V → List V → Prop} (h : ∀ (l : List UInt8), (wfLY l) → P [vL I1 vY l] [.bool true]) : ∀ ds outs, F_FnScripts ds = some outs → P ds outs := by
  intro ds outs hh
  obtain ⟨l, rfl, hp, rfl⟩ := mkF_inv hh
  exact h l hp
theorem F_FnScripts_law : ∀ ds, okTKs [.list false [.int .u8]] ds → F_FnScripts ds = some [.bool true] := by
  intro ds g0
  obtain ⟨_, _, rfl, h0, g1⟩ := okTKs_cons g0
  obtain ⟨l, rfl, r0⟩ := dec_LY h0
  obtain rfl := okTKs_nil g1
  exact mkF_eq F_FnScripts_inj (l) r0


end Go.Mw

namespace Go.Mw
noncomputable section
def laws_sameTexts_b0 : L := .seq (.seq (.seq (.rg [zl 0, zb .lss 2 3]) (.ite (.v 4) (.skip) (.seq (.tup []) (.exit 0)))) (.seq (.block 1 (.seq (.seq (.rg [zi 0 2, zi 1 2, zb .neq 5 6]) (.ite (.v 7) (.seq (.rg []) (.ret [.k (.bool false)])) (.skip))) (zt [0, 1, 2]))) (.rg [zk .add 2 1]))) (zt [0, 1, 3])
theorem laws_sameTexts_b0_sh (Q : QT) (x0 x1 x2 : V) : shL laws_sameTexts_b0 Q [x0, x1, x2] = (
  P1 (.len) [x0] fun v0 =>
  P1 (.bin .lss) [x2, v0] fun v1 =>
  ifB v1 (
    P1 (.idx [.sc]) [x0, x2] fun v2 =>
    P1 (.idx [.sc]) [x1, x2] fun v3 =>
    P1 (.bin .neq) [v2, v3] fun v4 =>
    ifB v4 (
      Q .ret [.bool false]) (
      P1 (.bin .add) [x2, .int .i64 1] fun v5 =>
      Q .normal [x0, x1, v5])) (
    Q (.exit 0) [])) := by kernel_rfl

def laws_sameTexts_r1 : L := .seq (.rg []) (.ret [.k (.bool true)])
theorem laws_sameTexts_r1_sh (Q : QT) : shL laws_sameTexts_r1 Q [] = (
  Q .ret [.bool true]) := by kernel_rfl

def laws_sameTexts_L : L := .seq (.rg []) (.seq (.seq (.rg [zl 0, zl 1, zb .neq 2 3]) (.ite (.v 4) (.seq (.rg []) (.ret [.k (.bool false)])) (.skip))) (.seq (.seq (.rg []) (.block 0 (.seq (.tup [.v 0, .v 1, .k (.int .i64 0)]) (.loop (laws_sameTexts_b0))))) (laws_sameTexts_r1)))
theorem laws_sameTexts_L_sh (Q : QT) (x0 x1 : V) : shL laws_sameTexts_L Q [x0, x1] = (
  P1 (.len) [x0] fun v0 =>
  P1 (.len) [x1] fun v1 =>
  P1 (.bin .neq) [v0, v1] fun v2 =>
  ifB v2 (
    Q .ret [.bool false]) (
    shL (.loop laws_sameTexts_b0) (qB 0 (qS (shL laws_sameTexts_r1 Q) Q)) [x0, x1, .int .i64 0])) := by kernel_rfl
def laws_sameTexts_S : Sig := ⟨[.val false [.sl [.sc]], .val false [.sl [.sc]]], [(false, [.sc])], F_sameTexts⟩
def laws_sameTexts_hs : List NF := [⟨[], [], [], 64⟩, ⟨[(0, zr), (1, zr), (5, zs)], [], [], 64⟩, ⟨[(0, zr), (1, zr), (5, zs)], [], [], 64⟩]

def impl_RunScript_b0 : L := .seq (.seq (.rg [zb .lss 1 0]) (.seq (.ite (.v 4) (.skip) (.seq (zt [2]) (.exit 0))) (.seq (.block 1 (.seq (.seq (.rg [zi 3 1]) (.seq (.rg [zc F_SplitFields 2 [5]]) (.seq (.seq (.rg [⟨[(.v 7, true)], .len, [.v 6], 1⟩, ⟨[(.v 7, true)], .bin .eql, [.v 8, .k (.int .i64 0)], 1⟩, ⟨[], .pick, [.v 7, .v 9, .k (.bool false)], 1⟩]) (.ite (.v 10) (.seq (zt [0, 1, 2, 3]) (.exit 1)) (.skip))) (.seq (.rg [zc F_ParseAct 4 [5]]) (.seq (.seq (.rg [zn 14]) (.ite (.v 15) (.seq (.rg []) (.ret [.k (.list [.sc] []), .k (.bool false)])) (.skip))) (.rg [⟨[], .lst [.sc, .sc, .sc] true 1, [.v 11, .v 12, .v 13], 1⟩, ⟨[], .app [.sc, .sc, .sc] 24, [.v 2, .v 16], 1⟩])))))) (zt [0, 1, 17, 3]))) (.rg [zk .add 1 1])))) (zt [0, 4, 2, 3])
theorem impl_RunScript_b0_sh (Q : QT) (x0 x1 x2 x3 : V) : shL impl_RunScript_b0 Q [x0, x1, x2, x3] = (
  P1 (.bin .lss) [x1, x0] fun v0 =>
  ifB v0 (
    P1 (.idx [.sc]) [x3, x1] fun v1 =>
    P2 (.call F_SplitFields 0 2) [v1] fun v2 v3 =>
    ifB v3 (
      P1 (.len) [v2] fun v4 =>
      P1 (.bin .eql) [v4, .int .i64 0] fun v5 =>
      ifB v5 (
        P1 (.bin .add) [x1, .int .i64 1] fun v6 =>
        Q .normal [x0, v6, x2, x3]) (
        P4 (.call F_ParseAct 0 4) [v1] fun v7 v8 v9 v10 =>
        P1 (.un .not) [v10] fun v11 =>
        ifB v11 (
          Q .ret [.list [.sc] [], .bool false]) (
          P1 (.lst [.sc, .sc, .sc] true 1) [v7, v8, v9] fun v12 =>
          P1 (.app [.sc, .sc, .sc] 24) [x2, v12] fun v13 =>
          P1 (.bin .add) [x1, .int .i64 1] fun v14 =>
          Q .normal [x0, v14, v13, x3]))) (
      P4 (.call F_ParseAct 0 4) [v1] fun v15 v16 v17 v18 =>
      P1 (.un .not) [v18] fun v19 =>
      ifB v19 (
        Q .ret [.list [.sc] [], .bool false]) (
        P1 (.lst [.sc, .sc, .sc] true 1) [v15, v16, v17] fun v20 =>
        P1 (.app [.sc, .sc, .sc] 24) [x2, v20] fun v21 =>
        P1 (.bin .add) [x1, .int .i64 1] fun v22 =>
        Q .normal [x0, v22, v21, x3]))) (
    Q (.exit 0) [x2])) := by kernel_rfl

def impl_RunScript_b2 : L := .seq (.seq (.rg [zb .lss 1 0]) (.seq (.ite (.v 14) (.skip) (.seq (zt [2, 4, 5, 6, 7, 8, 9, 10, 11, 12, 13]) (.exit 2))) (.seq (.block 3 (.seq (.seq (.rg [zi 3 1]) (.rg [zc F_FormatInt 1 [15], ⟨[], .lst [.sc] false 1, [.v 16], 1⟩, ⟨[], .app [.sc] 16, [.v 2, .v 17], 1⟩])) (zt [0, 1, 18, 3, 4, 5, 6, 7, 8, 9, 10, 11, 12, 13]))) (.rg [zk .add 1 1])))) (zt [0, 14, 2, 3, 4, 5, 6, 7, 8, 9, 10, 11, 12, 13])
theorem impl_RunScript_b2_sh (Q : QT) (x0 x1 x2 x3 x4 x5 x6 x7 x8 x9 x10 x11 x12 x13 : V) : shL impl_RunScript_b2 Q [x0, x1, x2, x3, x4, x5, x6, x7, x8, x9, x10, x11, x12, x13] = (
  P1 (.bin .lss) [x1, x0] fun v0 =>
  ifB v0 (
    P1 (.idx [.sc]) [x3, x1] fun v1 =>
    P1 (.call F_FormatInt 0 1) [v1] fun v2 =>
    P1 (.lst [.sc] false 1) [v2] fun v3 =>
    P1 (.app [.sc] 16) [x2, v3] fun v4 =>
    P1 (.bin .add) [x1, .int .i64 1] fun v5 =>
    Q .normal [x0, v5, v4, x3, x4, x5, x6, x7, x8, x9, x10, x11, x12, x13]) (
    Q (.exit 2) [x2, x4, x5, x6, x7, x8, x9, x10, x11, x12, x13])) := by kernel_rfl

def impl_RunScript_r3 : L := .seq (.rg [zc F_FormatWorkshop 1 [4, 5, 1, 2, 3, 6, 7, 8, 9, 10], ⟨[], .app [.sc] 16, [.v 0, .v 11], 1⟩]) (.ret [.v 12, .k (.bool true)])
theorem impl_RunScript_r3_sh (Q : QT) (x0 x1 x2 x3 x4 x5 x6 x7 x8 x9 x10 : V) : shL impl_RunScript_r3 Q [x0, x1, x2, x3, x4, x5, x6, x7, x8, x9, x10] = (
  P1 (.call F_FormatWorkshop 0 1) [x4, x5, x1, x2, x3, x6, x7, x8, x9, x10] fun v0 =>
  P1 (.app [.sc] 16) [x0, v0] fun v1 =>
  Q .ret [v1, .bool true]) := by kernel_rfl

def impl_RunScript_r1 : L := .seq (.seq (.rg [zl 0, zk .gtr 1 40]) (.ite (.v 2) (.seq (.rg []) (.ret [.k (.list [.sc] []), .k (.bool false)])) (.skip))) (.seq (.rg [⟨[], .call F_SampleWorkshop 0 10, [], 10⟩, zc F_RunActs 11 [3, 4, 5, 6, 7, 8, 9, 10, 11, 12, 0]]) (.seq (.rg [⟨[], .lst [.sc] false 0, [], 1⟩]) (.seq (.seq (.rg [zl 23]) (.block 2 (.seq (.tup [.v 25, .k (.int .i64 0), .v 24, .v 23, .v 15, .v 16, .v 17, .v 13, .v 14, .v 18, .v 19, .v 20, .v 21, .v 22]) (.loop (impl_RunScript_b2))))) (impl_RunScript_r3))))
theorem impl_RunScript_r1_sh (Q : QT) (x0 : V) : shL impl_RunScript_r1 Q [x0] = (
  P1 (.len) [x0] fun v0 =>
  P1 (.bin .gtr) [v0, .int .i64 40] fun v1 =>
  ifB v1 (
    Q .ret [.list [.sc] [], .bool false]) (
    P10 (.call F_SampleWorkshop 0 10) [] fun v2 v3 v4 v5 v6 v7 v8 v9 v10 v11 =>
    P11 (.call F_RunActs 0 11) [v2, v3, v4, v5, v6, v7, v8, v9, v10, v11, x0] fun v12 v13 v14 v15 v16 v17 v18 v19 v20 v21 v22 =>
    P1 (.lst [.sc] false 0) [] fun v23 =>
    P1 (.len) [v22] fun v24 =>
    shL (.loop impl_RunScript_b2) (qB 2 (qS (shL impl_RunScript_r3 Q) Q)) [v24, .int .i64 0, v23, v22, v14, v15, v16, v12, v13, v17, v18, v19, v20, v21])) := by kernel_rfl

def impl_RunScript_L : L := .seq (.rg []) (.seq (.seq (.rg [⟨[], .slen, [.v 0], 1⟩, zk .gtr 1 20000]) (.ite (.v 2) (.seq (.rg []) (.ret [.k (.list [.sc] []), .k (.bool false)])) (.skip))) (.seq (.rg [⟨[], .lst [.sc, .sc, .sc] true 0, [], 1⟩]) (.seq (.seq (.rg [⟨[], .call F_strings_Split 0 1, [.v 0, .k (.str [10])], 1⟩, zl 4]) (.block 0 (.seq (.tup [.v 5, .k (.int .i64 0), .v 3, .v 4]) (.loop (impl_RunScript_b0))))) (impl_RunScript_r1))))
theorem impl_RunScript_L_sh (Q : QT) (x0 : V) : shL impl_RunScript_L Q [x0] = (
  P1 (.slen) [x0] fun v0 =>
  P1 (.bin .gtr) [v0, .int .i64 20000] fun v1 =>
  ifB v1 (
    Q .ret [.list [.sc] [], .bool false]) (
    P1 (.lst [.sc, .sc, .sc] true 0) [] fun v2 =>
    P1 (.call F_strings_Split 0 1) [x0, .str [10]] fun v3 =>
    P1 (.len) [v3] fun v4 =>
    shL (.loop impl_RunScript_b0) (qB 0 (qS (shL impl_RunScript_r1 Q) Q)) [v4, .int .i64 0, v2, v3])) := by kernel_rfl
def impl_RunScript_S : Sig := ⟨[.val false [.sc]], [(false, [.sl [.sc]]), (false, [.sc])], F_RunScript⟩
def impl_RunScript_hs : List NF := [⟨[(4, zo 64)], [(64, true, [.sc, .sc, .sc])], [], 65⟩, ⟨[(4, zo 64), (20, zo 65), (21, zs), (22, zs)], [(64, true, [.sc, .sc, .sc]), (65, true, [.sc])], [], 66⟩, ⟨[(4, zo 64), (20, zo 65), (21, zs), (22, zs)], [(64, true, [.sc, .sc, .sc]), (65, true, [.sc])], [], 66⟩, ⟨[(10, .ptr 64 0), (12, zo 65)], [(65, true, [.sc]), (66, true, [.sc, .sc]), (67, true, [.sl [.sc, .sc]]), (68, true, [.sc])], [(64, [.sc, .sc, .own 66, .own 67, .own 68, .sc, .sc, .sc, .sc, .sc])], 69⟩, ⟨[(10, .ptr 64 0), (12, zo 65), (59, zo 66), (60, zs), (61, zs)], [(65, true, [.sc]), (66, true, [.sc]), (67, true, [.sc, .sc]), (68, true, [.sl [.sc, .sc]]), (69, true, [.sc])], [(64, [.sc, .sc, .own 67, .own 68, .own 69, .sc, .sc, .sc, .sc, .sc])], 70⟩, ⟨[(10, .ptr 64 0), (12, zo 65), (59, zo 66), (60, zs), (61, zs)], [(65, true, [.sc]), (66, true, [.sc]), (67, true, [.sc, .sc]), (68, true, [.sl [.sc, .sc]]), (69, true, [.sc])], [(64, [.sc, .sc, .own 67, .own 68, .own 69, .sc, .sc, .sc, .sc, .sc])], 70⟩]

def laws_FnScripts_b0 : L := .seq (.seq (.seq (.rg [zl 4, zb .lss 2 16]) (.ite (.v 17) (.skip) (.seq (zt [0, 1, 3, 5, 6, 7, 8, 9, 10, 11, 12, 13, 14, 15]) (.exit 0)))) (.seq (.block 1 (.seq (.rg [zi 4 2, zc F_FormatInt 1 [18], ⟨[], .lst [.sc] false 1, [.v 19], 1⟩, ⟨[], .app [.sc] 16, [.v 5, .v 20], 1⟩]) (zt [0, 1, 2, 3, 4, 21, 6, 7, 8, 9, 10, 11, 12, 13, 14, 15]))) (.rg [zk .add 2 1]))) (zt [0, 1, 16, 3, 4, 5, 6, 7, 8, 9, 10, 11, 12, 13, 14, 15])
theorem laws_FnScripts_b0_sh (Q : QT) (x0 x1 x2 x3 x4 x5 x6 x7 x8 x9 x10 x11 x12 x13 x14 x15 : V) : shL laws_FnScripts_b0 Q [x0, x1, x2, x3, x4, x5, x6, x7, x8, x9, x10, x11, x12, x13, x14, x15] = (
  P1 (.len) [x4] fun v0 =>
  P1 (.bin .lss) [x2, v0] fun v1 =>
  ifB v1 (
    P1 (.idx [.sc]) [x4, x2] fun v2 =>
    P1 (.call F_FormatInt 0 1) [v2] fun v3 =>
    P1 (.lst [.sc] false 1) [v3] fun v4 =>
    P1 (.app [.sc] 16) [x5, v4] fun v5 =>
    P1 (.bin .add) [x2, .int .i64 1] fun v6 =>
    Q .normal [x0, x1, v6, x3, x4, v5, x6, x7, x8, x9, x10, x11, x12, x13, x14, x15]) (
    Q (.exit 0) [x0, x1, x3, x5, x6, x7, x8, x9, x10, x11, x12, x13, x14, x15])) := by kernel_rfl

def laws_FnScripts_r1 : L := .seq (.rg [zc F_FormatWorkshop 1 [7, 8, 4, 5, 6, 9, 10, 11, 12, 13], ⟨[], .app [.sc] 16, [.v 3, .v 14], 1⟩]) (.seq (.rg [⟨[], .pick, [.v 0, .v 1, .k (.bool false)], 1⟩, ⟨[(.v 16, true)], .call F_sameTexts 0 1, [.v 2, .v 15], 1⟩, ⟨[], .pick, [.v 16, .v 17, .k (.bool false)], 1⟩]) (.ret [.v 18]))
theorem laws_FnScripts_r1_sh (Q : QT) (x0 x1 x2 x3 x4 x5 x6 x7 x8 x9 x10 x11 x12 x13 : V) : shL laws_FnScripts_r1 Q [x0, x1, x2, x3, x4, x5, x6, x7, x8, x9, x10, x11, x12, x13] = (
  P1 (.call F_FormatWorkshop 0 1) [x7, x8, x4, x5, x6, x9, x10, x11, x12, x13] fun v0 =>
  P1 (.app [.sc] 16) [x3, v0] fun v1 =>
  P1 (.pick) [x0, x1, .bool false] fun v2 =>
  ifB v2 (
    P1 (.call F_sameTexts 0 1) [x2, v1] fun v3 =>
    Q .ret [v3]) (
    Q .ret [.bool false])) := by kernel_rfl

def laws_FnScripts_L : L := .seq (.rg []) (.seq (.seq (.rg [zc F_big 1 [0]]) (.ite (.v 1) (.seq (.rg []) (.ret [.k (.bool true)])) (.skip))) (.seq (.rg [zc F_DrawActs 11 [0]]) (.seq (.rg [zc F_ScriptText 2 [12]]) (.seq (.rg [zc F_RunScript 2 [13]]) (.seq (.rg [⟨[], .call F_SampleWorkshop 0 10, [], 10⟩, zc F_RunActs 11 [17, 18, 19, 20, 21, 22, 23, 24, 25, 26, 12]]) (.seq (.rg [⟨[], .lst [.sc] false 0, [], 1⟩]) (.seq (.seq (.rg []) (.block 0 (.seq (.tup [.v 14, .v 16, .k (.int .i64 0), .v 15, .v 37, .v 38, .v 29, .v 30, .v 31, .v 27, .v 28, .v 32, .v 33, .v 34, .v 35, .v 36]) (.loop (laws_FnScripts_b0))))) (laws_FnScripts_r1))))))))
theorem laws_FnScripts_L_sh (Q : QT) (x0 : V) : shL laws_FnScripts_L Q [x0] = (
  P1 (.call F_big 0 1) [x0] fun v0 =>
  ifB v0 (
    Q .ret [.bool true]) (
    P11 (.call F_DrawActs 0 11) [x0] fun _ _ _ _ _ _ _ _ _ _ v11 =>
    P2 (.call F_ScriptText 0 2) [v11] fun v12 v13 =>
    P2 (.call F_RunScript 0 2) [v12] fun v14 v15 =>
    P10 (.call F_SampleWorkshop 0 10) [] fun v16 v17 v18 v19 v20 v21 v22 v23 v24 v25 =>
    P11 (.call F_RunActs 0 11) [v16, v17, v18, v19, v20, v21, v22, v23, v24, v25, v11] fun v26 v27 v28 v29 v30 v31 v32 v33 v34 v35 v36 =>
    P1 (.lst [.sc] false 0) [] fun v37 =>
    shL (.loop laws_FnScripts_b0) (qB 0 (qS (shL laws_FnScripts_r1 Q) Q)) [v13, v15, .int .i64 0, v14, v36, v37, v28, v29, v30, v26, v27, v31, v32, v33, v34, v35])) := by kernel_rfl
def laws_FnScripts_S : Sig := ⟨[.val false [.sl [.sc]]], [(false, [.sc])], F_FnScripts⟩
def laws_FnScripts_hs : List NF := [⟨[(6, zs), (7, zo 64), (8, zs), (9, .ptr 65 0), (11, zo 66)], [(64, true, [.sc]), (66, true, [.sc]), (67, true, [.sc, .sc]), (68, true, [.sl [.sc, .sc]]), (69, true, [.sc])], [(65, [.sc, .sc, .own 67, .own 68, .own 69, .sc, .sc, .sc, .sc, .sc])], 70⟩, ⟨[(6, zs), (7, zo 64), (8, zs), (9, .ptr 65 0), (10, zo 66), (11, zo 67), (12, zs)], [(64, true, [.sc]), (66, true, [.sc]), (67, true, [.sc]), (68, true, [.sc, .sc]), (69, true, [.sl [.sc, .sc]]), (70, true, [.sc])], [(65, [.sc, .sc, .own 68, .own 69, .own 70, .sc, .sc, .sc, .sc, .sc])], 71⟩, ⟨[(6, zs), (7, zo 64), (8, zs), (9, .ptr 65 0), (10, zo 66), (11, zo 67), (12, zs)], [(64, true, [.sc]), (66, true, [.sc]), (67, true, [.sc]), (68, true, [.sc, .sc]), (69, true, [.sl [.sc, .sc]]), (70, true, [.sc])], [(65, [.sc, .sc, .own 68, .own 69, .own 70, .sc, .sc, .sc, .sc, .sc])], 71⟩]

end
end Go.Mw

namespace Go.Mw
open Go.Lib (itoa)
theorem cut_index : ∀ s : List UInt8, (Go.Lib.index s [10] = -1 → cutNl s = [s]) ∧ ∀ i : Nat, Go.Lib.index s [10] = i → cutNl s = s.take i :: cutNl (s.drop (i + 1)) ∧ i < s.length
  | [] => by
    refine ⟨fun _ => rfl, fun i h => ?_⟩
    rw [Go.Lib.index_one] at h
    simp [Go.Lib.indexByte] at h
  | b :: r => by
    have ih := cut_index r
    rw [Go.Lib.index_one] at ih ⊢
    simp only [Go.Lib.indexByte]
    by_cases hb : b = 10
    · subst hb
      refine ⟨fun h => by simp at h, fun i h => ?_⟩
      have hi : i = 0 := by simp at h; omega
      subst hi
      simp [cutNl]
    · have hb2 : (b == 10) = false := by simpa using hb
      simp only [hb2, Bool.false_eq_true, if_false, cutNl, if_neg hb]
      by_cases hm : Go.Lib.indexByte r 10 = -1
      · rw [ih.1 hm]
        refine ⟨fun _ => rfl, fun i h => ?_⟩
        simp [hm] at h
      · have hge := Go.Lib.index_ge r [10]
        rw [Go.Lib.index_one] at hge
        obtain ⟨j, hj⟩ := Int.eq_ofNat_of_zero_le (show 0 ≤ Go.Lib.indexByte r 10 by omega)
        have h2 := ih.2 j hj
        have hm2 : (Go.Lib.indexByte r 10 == -1) = false := by simpa using hm
        simp only [hm2, Bool.false_eq_true, if_false]
        refine ⟨fun h => by omega, fun i h => ?_⟩
        have hi : i = j + 1 := by omega
        subst hi
        rw [h2.1]
        exact ⟨rfl, by have := h2.2; simp; omega⟩
theorem split_cut : ∀ (n : Nat) (s : List UInt8), s.length ≤ n → Go.Lib.splitK [10] 0 (Go.Lib.count s [10]) s = cutNl s := by
  intro n
  induction n with
  | zero =>
    intro s h
    obtain rfl := List.eq_nil_of_length_eq_zero (by omega : s.length = 0)
    have hm : Go.Lib.index [] [10] = -1 := rfl
    rw [Go.Lib.count_miss hm, (cut_index []).1 hm]
    rfl
  | succ n ih =>
    intro s h
    have hge := Go.Lib.index_ge s [10]
    by_cases hm : Go.Lib.index s [10] = -1
    · rw [Go.Lib.count_miss hm, (cut_index s).1 hm]
      rfl
    · obtain ⟨i, hi⟩ := Int.eq_ofNat_of_zero_le (show 0 ≤ Go.Lib.index s [10] by omega)
      have h2 := (cut_index s).2 i hi
      rw [Go.Lib.count_hit (by simp) hi, Nat.add_comm 1, h2.1]
      have hm2 : (Go.Lib.index s [10] == -1) = false := by simpa using hm
      have hm3 : ((i : Int) == -1) = false := by rw [← hi]; exact hm2
      simp only [Go.Lib.splitK, hi, hm3, Bool.false_eq_true, if_false, Int.toNat_natCast, Nat.add_zero, List.length_singleton]
      rw [ih (s.drop (i + 1)) (by simp; omega)]
theorem split_eq (s : List UInt8) : Go.Lib.split s [10] = cutNl s := split_cut s.length s (Nat.le_refl _)
theorem cut_at : ∀ {p r : List UInt8}, (10 : UInt8) ∉ p → cutNl (p ++ 10 :: r) = p :: cutNl r
  | [], _, _ => by simp [cutNl]
  | b :: q, r, h => by
    simp only [List.mem_cons, not_or] at h
    rw [List.cons_append, cutNl, if_neg (fun e => h.1 e.symm), cut_at h.2]
theorem cut_len : ∀ s : List UInt8, (cutNl s).length ≤ s.length + 1 ∧ ∀ x ∈ cutNl s, x.length ≤ s.length
  | [] => by simp [cutNl]
  | b :: r => by
    have ih := cut_len r
    unfold cutNl
    split
    · refine ⟨by simp; omega, fun x hx => ?_⟩
      rcases List.mem_cons.1 hx with rfl | hx
      · simp
      · have := ih.2 x hx; simp; omega
    · split
      · rename_i h t e
        rw [e] at ih
        refine ⟨by have := ih.1; simp at this ⊢; omega, fun x hx => ?_⟩
        rcases List.mem_cons.1 hx with rfl | hx
        · have := ih.2 h (by simp); simp; omega
        · have := ih.2 x (by simp [hx]); simp; omega
      · simp
theorem fold_none (l : List (List UInt8)) : l.foldl lineStep none = none := by
  induction l with
  | nil => rfl
  | cons a r ih => exact ih
theorem scriptActs_none {s : List UInt8} (h : scriptOf (cutNl s) = none) : scriptActs s = none := by
  unfold scriptActs
  split
  · rw [h]
  · rfl
theorem script_bad {s : List UInt8} (h : scriptActs s = none) : scriptL s = [] ∧ scriptB s = false := by simp [scriptL, scriptB, h]
theorem script_good {s : List UInt8} {a : List T3} (h : scriptActs s = some a) : scriptL s = linesOf a ∧ scriptB s = true := by simp [scriptL, scriptB, h]
theorem scriptActs_eq {s : List UInt8} {a : List T3} (h0 : s.length ≤ 20000) (h : scriptOf (cutNl s) = some a) : scriptActs s = if a.length ≤ 40 then some a else none := by
  simp [scriptActs, h0, h]
theorem gap_small {a b n : Int} (h : n ≤ 96) : -1 ≤ gap a b n ∧ gap a b n ≤ 96 := by
  unfold gap
  split
  · rename_i h1
    simp only [within, Bool.and_eq_true, decide_eq_true_eq] at h1
    omega
  · omega
theorem cmRow_range {c : Cyl} (hs : c.s ≤ 96) (i : Nat) : ∀ k b, -1 ≤ b → b ≤ 96 → -1 ≤ cmRow c i k b ∧ cmRow c i k b ≤ 96
  | 0, b, h0, h1 => ⟨h0, h1⟩
  | k + 1, b, h0, h1 => by
    have ih := cmRow_range hs i k b h0 h1
    unfold cmRow
    split
    · split
      · rename_i x y _ _ _
        have := gap_small (a := x.b) (b := y.b) hs
        omega
      · exact ih
    · exact ih
theorem cmTo_range {c : Cyl} (hs : c.s ≤ 96) (h0 : 0 ≤ c.s) : ∀ i, -1 ≤ cmTo c i ∧ cmTo c i ≤ 96
  | 0 => by simp only [cmTo]; omega
  | i + 1 => by
    have ih := cmTo_range hs h0 i
    exact cmRow_range hs i i _ ih.1 ih.2
theorem num_range (b : Bool) : 0 ≤ num b ∧ num b ≤ 1 := by cases b <;> simp [num]
theorem actN_range (w : Shop) (a : T3) : -1 ≤ actN w a ∧ actN w a ≤ 1000000 := by
  unfold actN
  split
  · rename_i hc
    simp only [canAct, Bool.and_eq_true] at hc
    have ha := actOk_kind hc.2
    split
    · have := num_range (putOk w ⟨a.b, a.c⟩); omega
    · split
      · have := num_range (removeOk w a.b); omega
      · split
        · have := num_range (backOk w); omega
        · split
          · split
            · unfold windBy
              split
              · rename_i h
                simp only [windOk, Bool.and_eq_true, within, decide_eq_true_eq] at h
                simp only [springOk, Bool.and_eq_true, within, decide_eq_true_eq] at h
                omega
              · omega
            · omega
          · split
            · have := num_range (canPlay w); omega
            · have hb := shop_bounds hc.1
              have hcy := cyl_bounds hb.1
              have := cmTo_range (c := w.bench.cyl) (by simpa [Shop.bench, Bench.cyl] using hcy.1.2) (by have h4 : 4 ≤ w.s := hcy.1.1; show (0 : Int) ≤ w.s; omega) w.bench.cyl.p.length
              unfold closest
              split <;> omega
  · omega
theorem runN_range (w : Shop) (l : List T3) : ∀ n ∈ runN' w l, -1 ≤ n ∧ n ≤ 1000000 := by
  have key : ∀ k, ∀ n ∈ (runTo w l k).2, -1 ≤ n ∧ n ≤ 1000000 := by
    intro k
    induction k with
    | zero => simp [runTo]
    | succ k ih =>
      unfold runTo
      split
      · intro n hn
        rcases List.mem_append.1 hn with hn | hn
        · exact ih n hn
        · simp only [List.mem_singleton] at hn; subst hn; exact actN_range _ _
      · exact ih
  intro n hn
  unfold runN' at hn
  split at hn
  · exact key _ n hn
  · simp at hn
theorem nums_succ {l : List Int} {k : Nat} (h : k < l.length) : nums (l.take (k + 1)) = nums (l.take k) ++ [itoa l[k]] := by
  rw [take_succ_get h]; simp only [nums, List.map_append, List.map_cons, List.map_nil]
end Go.Mw

namespace Go.Mw
open Go.Lib (itoa)
theorem laws_sameTexts_ok : ∀ ds outs, F_sameTexts ds = some outs → shL laws_sameTexts_L (qRet outs) ds := F_sameTexts_elim fun l m hp => by
  rw [laws_sameTexts_L_sh]
  simp only [P1_len, P1_neq, ifB_bool, bne_iff_ne, ne_eq, bne_eq_false_iff_eq, qRet_ret]
  refine ⟨fun h => ?_, fun h => ?_⟩
  · have : l ≠ m := fun e => h (by rw [e])
    simp [this]
  have hlm : l.length = m.length := by omega
  refine loop_upto l.length (fun i => [vL I1 vS l, vL I1 vS m, .int .i64 i]) (by intro i j _ _ h; simp at h; omega) (fun i => l.take i = m.take i) (by simp) (by simp) ?_
  intro i hi hP
  rw [laws_sameTexts_b0_sh]
  simp only [P1_len, P1_lss, ifB_bool, decide_eq_true_eq, decide_eq_false_iff_not]
  refine ⟨fun h => ?_, fun h => ?_⟩
  · have h1 : i < l.length := by omega
    have h2 : i < m.length := by omega
    have w2 : IntKind.i64.wrap ((i : Int) + 1) = ((i + 1 : Nat) : Int) := by rw [wrap_id (by omega) (by omega)]; omega
    simp only [P1_idxS, Int.toNat_natCast, List.getElem?_eq_getElem h1, List.getElem?_eq_getElem h2, Option.some.injEq, exists_eq_left', P1_neqS, ifB_bool, qRet_ret, P1_add, w2, qS_normal, qS_ret]
    refine ⟨by omega, by omega, fun he => ?_, fun he => ⟨by omega, trivial, ?_⟩⟩
    · have hne : l[i] ≠ m[i] := by simpa using he
      have : l ≠ m := fun e => hne (by simp [e])
      simp [this]
    · have he' : l[i] = m[i] := by simpa using he
      rw [take_succ_get h1, take_succ_get h2, hP, he']
  · obtain rfl : i = l.length := by omega
    have : l = m := by
      have := hP
      rwa [List.take_length, List.take_of_length_le (by omega)] at this
    simp [laws_sameTexts_r1_sh, this]

structure ScT where
  k : Nat
  l : List T3
theorem ScT.inj {b b' : Nat} {c c' : List T3} (h2 : (b : Int) = b') (h3 : c = c') : ScT.mk b c = ⟨b', c'⟩ := by
  obtain rfl : b = b' := by omega
  rw [h3]
theorem lineStep_blank {a : List T3} {s : List UInt8} (h : blankL s = true) : lineStep (some a) s = some a := by simp [lineStep, h]
theorem lineStep_act {a : List T3} {s : List UInt8} (h : blankL s = false) (h2 : parseB (fieldsOf s) = true) : lineStep (some a) s = some (a ++ [parseV (fieldsOf s)]) := by simp [lineStep, h, h2]
theorem lineStep_bad {a : List T3} {s : List UInt8} (h : blankL s = false) (h2 : parseB (fieldsOf s) = false) : lineStep (some a) s = none := by simp [lineStep, h, h2]
theorem blank_yes {s : List UInt8} (h : fieldsOk s = true) (h2 : ((fieldsOf s).length : Int) = 0) : blankL s = true := by
  have : fieldsOf s = [] := List.eq_nil_of_length_eq_zero (by omega)
  simp [blankL, h, this]
theorem blank_no1 {s : List UInt8} (h2 : ¬ ((fieldsOf s).length : Int) = 0) : blankL s = false := by
  have : fieldsOf s ≠ [] := fun e => h2 (by rw [e]; rfl)
  simp [blankL, this]
theorem blank_no2 {s : List UInt8} (h : fieldsOk s = false) : blankL s = false := by simp [blankL, h]
theorem sample_runs (a : List T3) : shopOk (openShop 16 [12, 12, 16, 19] 40) = true ∧ shopOk (runW (openShop 16 [12, 12, 16, 19] 40) a) = true := ⟨sample_ok, runW_ok sample_ok⟩

section
variable {s : List UInt8} (hs : s.length ≤ 20000)
include hs
theorem impl_script_end {Q : QT} {a : List T3} (h : scriptOf (cutNl s) = some a) (ha : a.length ≤ 20001) (hQ : ∀ e, e = [vL I1 vS (scriptL s), .bool (scriptB s)] → Q .ret e) : shL impl_RunScript_r1 Q [vL I3 v3 a] := by
  have he := scriptActs_eq hs h
  rw [impl_RunScript_r1_sh]
  simp only [P1_len, P1_gtr, ifB_bool, decide_eq_true_eq, decide_eq_false_iff_not]
  refine ⟨fun h1 => ?_, fun h1 => ?_⟩
  · rw [if_neg (by omega)] at he
    have hb := script_bad he
    exact hQ _ (by rw [hb.1, hb.2]; rfl)
  · rw [if_pos (by omega)] at he
    have hg := script_good he
    have hok := (sample_runs a).1
    have hok2 := (sample_runs a).2
    have hfit := (sSmall_of_ok hok).1
    have hfit2 := (sSmall_of_ok hok2).1
    have hN := runN_len (x := openShop 16 [12, 12, 16, 19] 40) (l := a)
    have hNr := runN_range (openShop 16 [12, 12, 16, 19] 40) a
    have hF := fmtShop_len (runW (openShop 16 [12, 12, 16, 19] 40) a)
    have hLn : scriptL s = nums (runN' (openShop 16 [12, 12, 16, 19] 40) a) ++ fmtShop (runW (openShop 16 [12, 12, 16, 19] 40) a) := hg.1
    rw [p_SampleWorkshop]
    generalize openShop 16 [12, 12, 16, 19] 40 = S at *
    rw [p_RunActs (x_p := S.p) (x_o := S.o) (x_c := S.c) ⟨hfit.1, hfit.2.1, hfit.2.2, by omega⟩]
    simp only [Shop.eta, P1_lst0, P1_len]
    generalize runW S a = W at *
    generalize runN' S a = N at *
    refine loop_upto N.length (fun k => [.int .i64 N.length, .int .i64 k, vL I1 vS (nums (N.take k)), vL I1 v1 N, vL I2 v2 W.p, vL IL2 vLL2 W.o, vL I1 v1 W.c, .int .i64 W.s, .int .i64 W.t, .int .i64 W.u, .int .i64 W.m, .int .i64 W.f, .int .i64 W.y, .int .i64 W.d]) (by intro i j _ _ h; simp at h; omega) (fun _ => True) (by simp [nums]) trivial ?_
    intro k hk _
    rw [impl_RunScript_b2_sh]
    simp only [P1_lss, ifB_bool, decide_eq_true_eq, decide_eq_false_iff_not]
    have hnl : (nums (N.take k)).length = k := by simp [nums]; omega
    refine ⟨fun h2 => ?_, fun h2 => ?_⟩
    · have hkn : k < N.length := by omega
      have hr := hNr N[k] (by simp)
      have w2 : IntKind.i64.wrap ((k : Int) + 1) = ((k + 1 : Nat) : Int) := by rw [wrap_id (by omega) (by omega)]; omega
      simp only [P1_idxI, Int.toNat_natCast, List.getElem?_eq_getElem hkn, Option.some.injEq, exists_eq_left']
      rw [p_FormatInt ⟨by omega, by omega⟩]
      simp only [P1_lstS1, P1_appS_, hnl, List.length_singleton, P1_add, w2, qS_normal]
      rw [nums_succ hkn]
      exact ⟨by omega, ⟨by omega, by omega⟩, by omega, rfl, trivial⟩
    · obtain rfl : k = N.length := by omega
      rw [List.take_length] at hnl
      simp only [List.take_length, qS_exit, qB_exit, if_true, qS_normal, impl_RunScript_r3_sh]
      rw [p_FormatWorkshop (x_p := W.p) (x_o := W.o) (x_c := W.c) hfit2]
      simp only [Shop.eta, P1_appS_, hnl]
      refine ⟨⟨by omega, by omega⟩, hQ _ ?_⟩
      rw [hLn, hg.2]
end
theorem impl_RunScript_ok : ∀ ds outs, F_RunScript ds = some outs → shL impl_RunScript_L (qRet outs) ds := F_RunScript_elim fun s hp => by
  rw [impl_RunScript_L_sh]
  simp only [P1_slen, P1_gtr, ifB_bool, decide_eq_true_eq, decide_eq_false_iff_not]
  refine ⟨fun h => ?_, fun h => ?_⟩
  · have hb := script_bad (s := s) (by unfold scriptActs; rw [if_neg (by omega)])
    rw [hb.1, hb.2]; simp
  have hs : s.length ≤ 20000 := by omega
  simp only [P1_lst0]
  rw [p_strings_Split ⟨by omega, by simp⟩, split_eq]
  simp only [P1_len]
  have hc := cut_len s
  have hbad : ∀ k, k ≤ (cutNl s).length → ((cutNl s).take k).foldl lineStep (some []) = none → scriptActs s = none := by
    intro k _ h0
    refine scriptActs_none ?_
    unfold scriptOf
    rw [← List.take_append_drop k (cutNl s), List.foldl_append, h0, fold_none]
  refine loop_st (σ := ScT) (fun x => [.int .i64 (cutNl s).length, .int .i64 x.k, vL I3 v3 x.l, vL I1 vS (cutNl s)]) (by rintro ⟨b, c⟩ ⟨b', c'⟩ h; simp at h; exact ScT.inj (by omega) h.2)
    (fun x => x.k ≤ (cutNl s).length ∧ ((cutNl s).take x.k).foldl lineStep (some []) = some x.l ∧ x.l.length ≤ x.k) (fun x => (cutNl s).length - x.k) ⟨0, []⟩ rfl ⟨Nat.zero_le _, rfl, Nat.le_refl _⟩ ?_
  rintro ⟨k, a⟩ ⟨hk, hf, ha⟩
  dsimp only at *
  rw [impl_RunScript_b0_sh]
  simp only [P1_lss, ifB_bool, decide_eq_true_eq, decide_eq_false_iff_not]
  refine ⟨fun h1 => ?_, fun h1 => ?_⟩
  · have hkn : k < (cutNl s).length := by omega
    have hx := hc.2 (cutNl s)[k] (List.getElem_mem hkn)
    have w2 : IntKind.i64.wrap ((k : Int) + 1) = ((k + 1 : Nat) : Int) := by rw [wrap_id (by omega) (by omega)]; omega
    have hstep : ((cutNl s).take (k + 1)).foldl lineStep (some []) = lineStep (some a) (cutNl s)[k] := by
      rw [take_succ_get hkn, List.foldl_append, hf]; rfl
    simp only [P1_idxS, Int.toNat_natCast, List.getElem?_eq_getElem hkn, Option.some.injEq, exists_eq_left']
    generalize (cutNl s)[k] = line at *
    have hl : line.length ≤ 1048576 := by omega
    rw [p_SplitFields hl]
    simp only [ifB_bool, P1_len, P1_eql, beq_iff_eq, beq_eq_false_iff_ne, ne_eq]
    refine ⟨by omega, fun hok => ⟨fun h0 => ?_, fun h0 => ?_⟩, fun hok => ?_⟩
    · have hbl := blank_yes hok h0
      simp only [P1_add, w2, qS_normal]
      exact ⟨⟨k + 1, a⟩, rfl, ⟨by dsimp only; omega, by rw [hstep, lineStep_blank hbl], by dsimp only; omega⟩, by dsimp only; omega⟩
    · have hbl := blank_no1 h0
      simp only [p_ParseAct hl, P1_not, ifB_bool, qRet_ret, qS_ret, qB_ret]
      refine ⟨fun hpb => ?_, fun hpb => ?_⟩
      · have hpb : parseB (fieldsOf line) = false := by simpa using hpb
        have hb := script_bad (hbad (k + 1) hkn (by rw [hstep, lineStep_bad hbl hpb]))
        rw [hb.1, hb.2]; rfl
      · have hpb : parseB (fieldsOf line) = true := by simpa using hpb
        simp only [P1_lst3, P1_app3_, List.length_singleton, P1_add, w2, qS_normal]
        exact ⟨⟨by omega, by omega⟩, ⟨k + 1, a ++ [parseV (fieldsOf line)]⟩, rfl, ⟨by dsimp only; omega, by rw [hstep, lineStep_act hbl hpb], by simp; omega⟩, by dsimp only; omega⟩
    · have hbl := blank_no2 hok
      simp only [p_ParseAct hl, P1_not, ifB_bool, qRet_ret, qS_ret, qB_ret]
      refine ⟨fun hpb => ?_, fun hpb => ?_⟩
      · have hpb : parseB (fieldsOf line) = false := by simpa using hpb
        have hb := script_bad (hbad (k + 1) hkn (by rw [hstep, lineStep_bad hbl hpb]))
        rw [hb.1, hb.2]; rfl
      · have hpb : parseB (fieldsOf line) = true := by simpa using hpb
        simp only [P1_lst3, P1_app3_, List.length_singleton, P1_add, w2, qS_normal]
        exact ⟨⟨by omega, by omega⟩, ⟨k + 1, a ++ [parseV (fieldsOf line)]⟩, rfl, ⟨by dsimp only; omega, by rw [hstep, lineStep_act hbl hpb], by simp; omega⟩, by dsimp only; omega⟩
  · obtain rfl : k = (cutNl s).length := by omega
    rw [List.take_length] at hf
    simp only [qS_exit, qB_exit, if_true, qS_normal]
    exact impl_script_end hs hf (by omega) fun e he => by rw [he]; simp
end Go.Mw

namespace Go.Mw
open Go.Lib (itoa)
structure SpS where
  a : Nat
  k : Nat
  l : List T3
theorem SpS.inj {a a' b b' : Nat} {c c' : List T3} (h1 : (a : Int) = a') (h2 : (b : Int) = b') (h3 : c = c') : SpS.mk a b c = ⟨a', b', c'⟩ := by
  obtain rfl : a = a' := by omega
  obtain rfl : b = b' := by omega
  rw [h3]
end Go.Mw

namespace Go.Mw
open Go.Lib (itoa)
theorem fieldsTo_pre (s t : List UInt8) : ∀ k, k ≤ s.length → fieldsTo (s ++ t) k = fieldsTo s k
  | 0, _ => rfl
  | k + 1, h => by
    have ih := fieldsTo_pre s t k (by omega)
    have e1 : (s ++ t)[k]? = s[k]? := List.getElem?_append_left (by omega)
    have e2 : (s ++ t).take k = s.take k := List.take_append_of_le_length (by omega)
    simp only [fieldsTo, e1, ih, e2]
theorem fieldsTo_last (s : List UInt8) : fieldsTo s (s.length + 1) = fieldsTo (s ++ [32]) (s.length + 1) := by
  have e1 : (s ++ [32])[s.length]? = some 32 := by simp
  have e2 : s[s.length]? = none := by simp
  have e3 : (s ++ [32]).take s.length = s.take s.length := List.take_append_of_le_length (Nat.le_refl _)
  have ih := fieldsTo_pre s [32] s.length (Nat.le_refl _)
  simp only [fieldsTo, e1, e2, ih, e3, if_true]
theorem fields_bare {a : T3} (h : actOk a = true) : fieldsOk (fmtAct a) = true ∧ fieldsOf (fmtAct a) = toks a := by
  obtain ⟨w, r, hw⟩ : ∃ w r, toks a = w :: r := ⟨_, _, rfl⟩
  obtain ⟨t1, t2, t3, t4⟩ := toks_in h hw
  have hne := toks_ne h
  rw [hw] at hne
  have lf := fmt_len a
  have h0 : fieldsTo (fmtAct a ++ [32]) 0 = ([], 0) := rfl
  have h3 := at_all (s := fmtAct a ++ [32]) r w 0 [] h0 (by rw [List.drop_zero, t4]) ⟨hne w (by simp), by rw [t1]; exact word32 _⟩ (fun x hx => ⟨hne x (by simp [hx]), (t3 x hx).1⟩)
  have hl : (fmtAct a ++ [32]).length = (fmtAct a).length + 1 := by simp
  rw [hl] at h3
  have h4 : (fieldsTo (fmtAct a) ((fmtAct a).length + 1)).1 = w :: r := by rw [fieldsTo_last, h3]; rfl
  have h5 : fieldsOk (fmtAct a) = true := by
    refine fieldsOk_yes (by omega) (plain_fmt a) ?_
    rw [h4, ← hw]
    have := toks_len a
    omega
  exact ⟨h5, by rw [fieldsOf, if_pos h5, h4, hw]⟩
theorem no10 (a : T3) : (10 : UInt8) ∉ fmtAct a := by
  intro h
  have := List.all_eq_true.1 (plain_fmt a) 10 h
  revert this; decide
theorem step_fmt {a : T3} (h : actOk a = true) (acc : List T3) : lineStep (some acc) (fmtAct a) = some (acc ++ [a]) := by
  obtain ⟨h1, h2⟩ := fields_bare h
  obtain ⟨e1, e2⟩ := parse_fit h rfl
  have hb : blankL (fmtAct a) = false := by
    have := toks_len a
    refine blank_no1 ?_
    rw [h2]; omega
  rw [lineStep_act hb (by rw [h2]; exact e2), h2, e1]
theorem blank_nil : blankL [] = true := by decide
theorem fold_fmt : ∀ (l acc : List T3), (∀ a ∈ l, actOk a = true) → (l.map fmtAct ++ [[]]).foldl lineStep (some acc) = some (acc ++ l)
  | [], acc, _ => by simp [lineStep_blank blank_nil]
  | a :: r, acc, h => by
    rw [List.map_cons, List.cons_append, List.foldl_cons, step_fmt (h a (by simp)), fold_fmt r _ (fun b hb => h b (by simp [hb]))]
    simp
theorem cut_fmt : ∀ l : List T3, cutNl (l.flatMap fun a => fmtAct a ++ [10]) = l.map fmtAct ++ [[]]
  | [] => rfl
  | a :: r => by
    rw [List.flatMap_cons, List.append_assoc, List.singleton_append, cut_at (no10 a), cut_fmt r]
    rfl
theorem scriptTo_flat (l : List T3) : ∀ k, k ≤ l.length → scriptTo l k = (l.take k).flatMap fun a => fmtAct a ++ [10]
  | 0, _ => by simp [scriptTo]
  | k + 1, h => by
    rw [scriptTo_succ (by omega), scriptTo_flat l k (by omega), take_succ_get (by omega), List.flatMap_append]
    simp
theorem script_acts {l : List T3} (h : ∀ a ∈ l, actOk a = true) (hl : l.length ≤ 40) : scriptOk l = true ∧ (script l).length ≤ 2000 ∧ scriptActs (script l) = some l := by
  have hok : scriptOk l = true := by
    simp only [scriptOk, Bool.and_eq_true, decide_eq_true_eq, List.all_eq_true]
    exact ⟨hl, h⟩
  have hs : script l = scriptTo l l.length := by rw [script, if_pos hok]
  have hlen := scriptTo_len l l.length
  refine ⟨hok, by rw [hs]; omega, ?_⟩
  have he : scriptOf (cutNl (script l)) = some l := by
    rw [hs, scriptTo_flat l l.length (Nat.le_refl _), List.take_length, cut_fmt]
    exact fold_fmt l [] h
  rw [scriptActs_eq (by rw [hs]; omega) he, if_pos hl]

theorem laws_FnScripts_ok : ∀ ds outs, F_FnScripts ds = some outs → shL laws_FnScripts_L (qRet outs) ds := F_FnScripts_elim fun l hp => by
  rw [laws_FnScripts_L_sh, p_big hp]
  simp only [ifB_bool, decide_eq_true_eq, decide_eq_false_iff_not]
  refine ⟨fun _ => by simp, fun hb => ?_⟩
  have hl : l.length ≤ 1048576 := by omega
  have hA := drawA_len l
  have hE := drawA_each l
  rw [p_DrawActs hl]
  generalize drawA l = A at *
  obtain ⟨s1, s2, s3⟩ := script_acts hE (by omega)
  have hg := script_good s3
  have hok := (sample_runs A).1
  have hok2 := (sample_runs A).2
  have hfit := (sSmall_of_ok hok).1
  have hfit2 := (sSmall_of_ok hok2).1
  have hN := runN_len (x := openShop 16 [12, 12, 16, 19] 40) (l := A)
  have hNr := runN_range (openShop 16 [12, 12, 16, 19] 40) A
  have hF := fmtShop_len (runW (openShop 16 [12, 12, 16, 19] 40) A)
  have hLn : scriptL (script A) = nums (runN' (openShop 16 [12, 12, 16, 19] 40) A) ++ fmtShop (runW (openShop 16 [12, 12, 16, 19] 40) A) := hg.1
  rw [p_ScriptText (by omega), p_RunScript (by omega), p_SampleWorkshop, hg.2, hLn, s1]
  generalize openShop 16 [12, 12, 16, 19] 40 = S at *
  rw [p_RunActs (x_p := S.p) (x_o := S.o) (x_c := S.c) ⟨hfit.1, hfit.2.1, hfit.2.2, by omega⟩]
  simp only [Shop.eta, P1_lst0]
  generalize runW S A = W at *
  generalize runN' S A = N at *
  refine loop_upto N.length (fun k => [.bool true, .bool true, .int .i64 k, vL I1 vS (nums N ++ fmtShop W), vL I1 v1 N, vL I1 vS (nums (N.take k)), vL I2 v2 W.p, vL IL2 vLL2 W.o, vL I1 v1 W.c, .int .i64 W.s, .int .i64 W.t, .int .i64 W.u, .int .i64 W.m, .int .i64 W.f, .int .i64 W.y, .int .i64 W.d]) (by intro i j _ _ h; simp at h; omega) (fun _ => True) (by simp [nums]) trivial ?_
  intro k hk _
  rw [laws_FnScripts_b0_sh]
  simp only [P1_len, P1_lss, ifB_bool, decide_eq_true_eq, decide_eq_false_iff_not]
  have hnl : (nums (N.take k)).length = k := by simp [nums]; omega
  refine ⟨fun h2 => ?_, fun h2 => ?_⟩
  · have hkn : k < N.length := by omega
    have hr := hNr N[k] (by simp)
    have w2 : IntKind.i64.wrap ((k : Int) + 1) = ((k + 1 : Nat) : Int) := by rw [wrap_id (by omega) (by omega)]; omega
    simp only [P1_idxI, Int.toNat_natCast, List.getElem?_eq_getElem hkn, Option.some.injEq, exists_eq_left']
    rw [p_FormatInt ⟨by omega, by omega⟩]
    simp only [P1_lstS1, P1_appS_, hnl, List.length_singleton, P1_add, w2, qS_normal]
    rw [nums_succ hkn]
    exact ⟨by omega, ⟨by omega, by omega⟩, by omega, rfl, trivial⟩
  · obtain rfl : k = N.length := by omega
    rw [List.take_length] at hnl
    simp only [List.take_length, qS_exit, qB_exit, if_true, qS_normal, laws_FnScripts_r1_sh]
    rw [p_FormatWorkshop (x_p := W.p) (x_o := W.o) (x_c := W.c) hfit2]
    simp only [Shop.eta, P1_appS_, hnl, P1_pick, if_true, ifB_bool, true_implies, Bool.true_eq_false, false_implies, and_true]
    refine ⟨⟨by omega, by omega⟩, ?_⟩
    rw [p_sameTexts ⟨by rw [List.length_append]; omega, by rw [List.length_append]; omega⟩]
    simp
end Go.Mw

