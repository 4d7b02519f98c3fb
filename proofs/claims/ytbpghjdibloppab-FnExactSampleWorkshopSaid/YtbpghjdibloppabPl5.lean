/- What functions of the program compute, as small pure programs, shown against plain Lean functions: no condition. -/
import Derived.KernelRfl
import Derived.Test.YtbpghjdibloppabPl4
/- Benches: memory. -/
namespace Go.Mw

theorem laws_szIntS_ok : ∀ ds outs, F_szIntS ds = some outs → shL laws_szIntS_L (qRet outs) ds := F_szIntS_elim fun l n hp => by
  rw [laws_szIntS_L_sh]
  simp (disch := omega) [wrap_id]
  grind

theorem laws_heldPinS_ok : ∀ ds outs, F_heldPinS ds = some outs → shL laws_heldPinS_L (qRet outs) ds := F_heldPinS_elim fun l k hp => by
  rw [laws_heldPinS_L_sh]
  refine loop_upto l.length (fun i => [vL I2 v2 l, .int .i64 (k + 2 * i), .int .i64 i]) (by intro i j _ _ h; simp at h; omega) (fun i => ∀ j (hj : j < l.length), j < i → l[j] = (markL2 l.length k)[j]'(by simp; omega)) (by simp) (by simp) ?_
  intro i hi hP
  rw [laws_heldPinS_b0_sh]
  simp
  refine ⟨fun h => ?_, fun h => ?_⟩
  · have hg : (markL2 l.length k)[i]'(by simp; omega) = ⟨k + 2 * (i : Int), k + 2 * (i : Int) + 1⟩ := by simp [markL2]
    have hno : l[i] ≠ (markL2 l.length k)[i]'(by simp; omega) → l ≠ markL2 l.length k := by
      intro hne he
      exact hne (by simp only [← he])
    have hstep : l[i] = (markL2 l.length k)[i]'(by simp; omega) → ∀ j (hj : j < l.length), j < i + 1 → l[j] = (markL2 l.length k)[j]'(by simp; omega) := by
      intro he j hj hji
      by_cases hjj : j = i
      · subst hjj; exact he
      · exact hP j hj (by omega)
    rw [hg] at hno hstep
    simp (disch := omega) only [h, List.getElem?_eq_getElem, Option.some.injEq, exists_eq_left', wrap_id, true_and]
    rcases hx : l[i] with ⟨xa, xb⟩
    simp only [hx, T2.mk.injEq] at hno hstep
    grind
  · obtain rfl : i = l.length := by omega
    have he : l = markL2 l.length k := List.ext_getElem (by simp) fun j h1 h2 => hP j h1 h1
    simp [laws_heldPinS_r1_sh]
    intro h; exact absurd he h

theorem sum2_succ {l : List (List T2)} {k : Nat} (h : k < l.length) : sum2 (l.take (k + 1)) = sum2 (l.take k) + l[k].length := by
  unfold sum2
  rw [take_succ_get h, List.map_append, List.sum_append_nat, List.map_cons, List.map_nil, List.sum_cons, List.sum_nil, Nat.add_zero]
theorem sum2_take (l : List (List T2)) (k : Nat) : sum2 (l.take k) ≤ sum2 l := by
  have : sum2 l = sum2 (l.take k) + sum2 (l.drop k) := by
    conv => lhs; rw [← List.take_append_drop k l]
    unfold sum2
    rw [List.map_append, List.sum_append_nat]
  omega
theorem tot2_eq (l : List (List T2)) : tot2 l = l.length + sum2 l := rfl
theorem fit_of_tot {l : List (List T2)} (h : tot2 l ≤ 1048576) : fitLL l := by
  refine ⟨by rw [tot2_eq] at h; omega, fun x hx => ?_⟩
  obtain ⟨k, hk, rfl⟩ := List.getElem_of_mem hx
  have h1 := sum2_succ hk
  have h2 := sum2_take l (k + 1)
  rw [tot2_eq] at h; omega
theorem laws_szPinSS_ok : ∀ ds outs, F_szPinSS ds = some outs → shL laws_szPinSS_L (qRet outs) ds := F_szPinSS_elim fun l n hp => by
  rw [laws_szPinSS_L_sh]
  have hsub : IntKind.i64.wrap (n - l.length) = n - l.length := by rw [wrap_id] <;> omega
  simp [hsub]
  refine ⟨fun h => ?_, fun h => ?_⟩
  · intro h2; rw [tot2_eq] at h2; omega
  refine loop_upto l.length (fun k => [vL IL2 vLL2 l, .int .i64 (n - l.length - sum2 (l.take k)), .int .i64 k]) (by intro i j _ _ h; simp at h; omega) (fun k => (sum2 (l.take k) : Int) ≤ n - l.length) (by simp [sum2]) (by simp [sum2]; omega) ?_
  intro k hk hP
  rw [laws_szPinSS_b0_sh]
  simp
  refine ⟨fun h3 => ?_, fun h3 => ?_⟩
  · have hx := hp.2.1 l[k] (by simp)
    have h4 := sum2_succ h3
    have h5 := sum2_take l (k + 1)
    simp only [List.getElem?_eq_getElem h3, Option.some.injEq, exists_eq_left']
    rw [p_szPinS ⟨hx, by omega, by omega⟩]
    by_cases h6 : (l[k].length : Int) ≤ n - l.length - sum2 (l.take k)
    · have h7 : IntKind.i64.wrap ((k : Int) + 1) = k + 1 := wrap_id (by omega) (by omega)
      simp [h6, h7, h3]
      omega
    · simp [h6]
      rw [tot2_eq]; omega
  · obtain rfl : k = l.length := by omega
    rw [List.take_length] at hP ⊢
    simp [laws_szPinSS_r1_sh]
    rw [tot2_eq]; push_cast
    rw [if_pos (by omega)]; omega
theorem laws_toPinSS_ok : ∀ ds outs, F_toPinSS ds = some outs → shL laws_toPinSS_L (qRet outs) ds := F_toPinSS_elim fun l hp => by
  rw [laws_toPinSS_L_sh]
  have hl := hp.1
  simp
  refine ⟨by omega, ?_⟩
  refine loop_upto l.length (fun k => [vL IL2 vLL2 l, .int .i64 k, vL IL2 vLL2 (l.take k ++ List.replicate (l.length - k) [])]) (by intro i j _ _ h; simp at h; omega) (fun _ => True) (by simp) trivial ?_
  intro k hk _
  rw [laws_toPinSS_b0_sh]
  simp
  refine ⟨fun h => ?_, fun h => ?_⟩
  · have hx := hp.2 l[k] (by simp)
    have hg : (l.take k ++ List.replicate (l.length - k) ([] : List T2))[k]? = some [] := fill_get h (by omega)
    simp (disch := omega) [h, fill_set h, wrap_id, p_toPinS hx, hg]
  · obtain rfl : k = l.length := by omega
    simp [laws_toPinSS_r1_sh]
theorem laws_eqPinSS_ok : ∀ ds outs, F_eqPinSS ds = some outs → shL laws_eqPinSS_L (qRet outs) ds := F_eqPinSS_elim fun l m hp => by
  rw [laws_eqPinSS_L_sh]
  have hl := hp.1.1
  simp
  refine ⟨fun h => ?_, fun hl => ?_⟩
  · rintro rfl; omega
  refine loop_upto l.length (fun k => [vL IL2 vLL2 l, vL IL2 vLL2 m, .int .i64 k]) (by intro i j _ _ h; simp at h; omega) (fun k => l.take k = m.take k) (by simp) (by simp) ?_
  intro k hk hP
  rw [laws_eqPinSS_b0_sh]
  simp
  refine ⟨fun h => ?_, fun h => ?_⟩
  · have h2 : k < m.length := by omega
    have hx := hp.1.2 l[k] (by simp)
    have hy := hp.2.2 m[k] (by simp)
    simp (disch := omega) [h, wrap_id, p_eqPinS ⟨hx, hy⟩]
    refine ⟨fun hne he => ?_, fun h3 => ?_⟩
    · subst he; exact hne rfl
    · rw [take_succ_get h, take_succ_get h2, hP, h3]
  · obtain rfl : k = l.length := by omega
    rw [List.take_length, List.take_of_length_le (by omega)] at hP
    simp [laws_eqPinSS_r1_sh, hP]
end Go.Mw

/- Benches: memory that is marked. -/
namespace Go.Mw

theorem callIn_run {F : List V → Option (List V)} {l l' : List T2} {L : List (List T2)} {k r : V} {κ : IntKind} {i : Nat} (hF : F [vL I2 v2 l, k] = some [r, vL I2 v2 l']) (h : i < L.length) :
    Prim.run (.callIn F 1 [.sl [.sc, .sc]] 0) [vL I2 v2 l, k, vL I2 v2 l, vL IL2 vLL2 L, .int κ i] = some [r, vL IL2 vLL2 (L.set i l')] := by
  simp only [vL] at hF ⊢
  simp only [Prim.run, List.length_cons, List.length_nil, List.take, List.drop, hF]
  simp [ksAll, AK.eqs_refl, aksOk, akOk, h, vLL2, vL, V.put, List.map_set, IL2]
theorem P2_inL2 {F : List V → Option (List V)} {l l' : List T2} {L : List (List T2)} {k r : V} {κ : IntKind} {i : Nat} {kk : V → V → Prop} (hF : F [vL I2 v2 l, k] = some [r, vL I2 v2 l']) (h : i < L.length) :
    P2 (.callIn F 1 [.sl [.sc, .sc]] 0) [vL I2 v2 l, k, vL I2 v2 l, vL IL2 vLL2 L, .int κ i] kk ↔ kk r (vL IL2 vLL2 (L.set i l')) :=
  P2_of (callIn_run hF h)

theorem markLL2_len : ∀ (l : List (List T2)) (k : Int), (markLL2 l k).length = l.length
  | [], _ => rfl
  | _ :: r, k => by simp [markLL2, markLL2_len r]
theorem markLL2_get : ∀ (l : List (List T2)) (k : Int) (i : Nat) (h : i < l.length), (markLL2 l k)[i]'(by rw [markLL2_len]; exact h) = markL2 l[i].length (k + 2 * sum2 (l.take i))
  | x :: r, k, 0, _ => by simp [markLL2, sum2]
  | x :: r, k, i + 1, h => by
    have := markLL2_get r (k + 2 * x.length) i (by simpa using h)
    simp only [markLL2, List.getElem_cons_succ, this, List.take_succ_cons]
    congr 1
    simp only [sum2, List.map_cons, List.sum_cons]; push_cast; omega
theorem laws_markPinSS_ok : ∀ ds outs, F_markPinSS ds = some outs → shL laws_markPinSS_L (qRet outs) ds := F_markPinSS_elim fun l k hp => by
  rw [laws_markPinSS_L_sh]
  refine loop_upto l.length (fun i => [.int .i64 (k + 2 * sum2 (l.take i)), .int .i64 i, vL IL2 vLL2 ((markLL2 l k).take i ++ l.drop i)]) (by intro i j _ _ h; simp at h; omega) (fun _ => True) (by simp [sum2]) trivial ?_
  intro i hi _
  have hl := hp.1.1
  have hml : (markLL2 l k).length = l.length := markLL2_len l k
  have hlen : ((markLL2 l k).take i ++ l.drop i).length = l.length := by simp [hml]; omega
  rw [laws_markPinSS_b0_sh]
  simp only [P1_len, P1_lss, ifB_bool, hlen, decide_eq_true_eq, decide_eq_false_iff_not]
  refine ⟨fun h => ?_, fun h => ?_⟩
  · replace h : i < l.length := by omega
    have hx := hp.1.2 l[i] (by simp)
    have h4 := sum2_succ h
    have h5 := sum2_take l (i + 1)
    have hg : ((markLL2 l k).take i ++ l.drop i)[i]? = some l[i] := mark_get hml h
    have hs := mark_set hml h
    rw [markLL2_get l k i h] at hs
    simp only [P1_idxL2, Int.toNat_natCast, hg, Option.some.injEq, exists_eq_left']
    rw [P2_inL2 (l' := markL2 l[i].length (k + 2 * sum2 (l.take i))) (r := .int .i64 (k + 2 * sum2 (l.take i) + 2 * l[i].length)) (by unfold F_markPinS; exact mkF_eq F_markPinS_inj (l[i], _) ⟨by omega, by omega, by omega⟩) (by omega)]
    simp (disch := omega) [hs, wrap_id, h4, h]
    omega
  · obtain rfl : i = l.length := by omega
    have e1 : List.take l.length (markLL2 l k) = markLL2 l k := List.take_of_length_le (by omega)
    simp [laws_markPinSS_r1_sh, e1]
end Go.Mw

/- Benches: memory; what is a fine bench. -/
namespace Go.Mw

theorem laws_heldCylinder_ok : ∀ ds outs, F_heldCylinder ds = some outs → shL laws_heldCylinder_L (qRet outs) ds := F_heldCylinder_elim fun x k hp => by
  rw [laws_heldCylinder_L_sh, p_heldPinS hp]
  by_cases h : x.p = markL2 x.p.length k
  · rw [if_pos h]; simp; omega
  · rw [if_neg h]; simp
theorem laws_heldPinSS_ok : ∀ ds outs, F_heldPinSS ds = some outs → shL laws_heldPinSS_L (qRet outs) ds := F_heldPinSS_elim fun l k hp => by
  rw [laws_heldPinSS_L_sh]
  have hl := hp.1.1
  have hml : (markLL2 l k).length = l.length := markLL2_len l k
  refine loop_upto l.length (fun i => [vL IL2 vLL2 l, .int .i64 (k + 2 * sum2 (l.take i)), .int .i64 i]) (by intro i j _ _ h; simp at h; omega) (fun i => ∀ j (hj : j < l.length), j < i → l[j] = (markLL2 l k)[j]'(by omega)) (by simp [sum2]) (by simp) ?_
  intro i hi hP
  rw [laws_heldPinSS_b0_sh]
  simp
  refine ⟨fun h => ?_, fun h => ?_⟩
  · have hx := hp.1.2 l[i] (by simp)
    have h4 := sum2_succ h
    have h5 := sum2_take l (i + 1)
    have hg := markLL2_get l k i h
    simp only [List.getElem?_eq_getElem h, Option.some.injEq, exists_eq_left']
    rw [p_heldPinS ⟨by omega, by omega, by omega⟩]
    by_cases h6 : l[i] = markL2 l[i].length (k + 2 * sum2 (l.take i))
    · have h7 : IntKind.i64.wrap ((i : Int) + 1) = i + 1 := wrap_id (by omega) (by omega)
      rw [if_pos h6]
      simp [h, h7]
      refine ⟨by omega, fun _ => ⟨by omega, fun j hj hji => ?_⟩⟩
      by_cases hjj : j = i
      · subst hjj; rw [hg]; exact h6
      · exact hP j hj (by omega)
    · rw [if_neg h6]
      simp
      intro he
      refine absurd ?_ h6
      rw [← hg]
      simp only [← he]
  · obtain rfl : i = l.length := by omega
    have he : l = markLL2 l k := List.ext_getElem (by omega) fun j h1 h2 => hP j h1 h1
    rw [List.take_length]
    simp [laws_heldPinSS_r1_sh]
    intro h; exact absurd he h
theorem laws_szBench_ok : ∀ ds outs, F_szBench ds = some outs → shL laws_szBench_L (qRet outs) ds := F_szBench_elim fun x n hp => by
  rw [laws_szBench_L_sh, p_szCylinder (x_p := x.p) ⟨hp.1, by omega, by omega⟩]
  by_cases h : (x.p.length : Int) ≤ n
  · have h2 : ¬ n - (x.p.length : Int) < 0 := by omega
    simp only [if_pos h, P1_lss, ifB_bool, decide_eq_true_eq, decide_eq_false_iff_not]
    refine ⟨fun h3 => absurd h3 h2, fun _ => ?_⟩
    rw [p_szPinSS ⟨hp.2.1, hp.2.2.1, by omega, by omega⟩]
    by_cases h3 : (tot2 x.o : Int) ≤ n - x.p.length
    · rw [if_pos h3]
      simp
      omega
    · rw [if_neg h3]
      simp
      omega
  · rw [if_neg h]
    simp
    omega
theorem laws_toBench_ok : ∀ ds outs, F_toBench ds = some outs → shL laws_toBench_L (qRet outs) ds := F_toBench_elim fun x hp => by
  rw [laws_toBench_L_sh]
  simp [p_toCylinder, p_toPinSS, hp]
theorem laws_eqBench_ok : ∀ ds outs, F_eqBench ds = some outs → shL laws_eqBench_L (qRet outs) ds := F_eqBench_elim fun x y hp => by
  rw [laws_eqBench_L_sh]
  simp [p_eqCylinder, p_eqPinSS, hp]
  grind
theorem laws_markBench_ok : ∀ ds outs, F_markBench ds = some outs → shL laws_markBench_L (qRet outs) ds := F_markBench_elim fun x k hp => by
  rw [laws_markBench_L_sh]
  rw [p_markCylinder (x_p := x.p) ⟨by show x.p.length ≤ 4194304; omega, by omega, by omega⟩, p_markPinSS ⟨hp.2.1, by show 0 ≤ k + 2 * (x.p.length : Int); omega, by show k + 2 * (x.p.length : Int) + 2 * (sum2 x.o : Int) ≤ _; omega⟩]
  simp
theorem laws_heldBench_ok : ∀ ds outs, F_heldBench ds = some outs → shL laws_heldBench_L (qRet outs) ds := F_heldBench_elim fun x k hp => by
  rw [laws_heldBench_L_sh]
  rw [p_heldCylinder (x_p := x.p) ⟨by show x.p.length ≤ 4194304; omega, by omega, by omega⟩]
  by_cases h : x.p = markL2 x.p.length k
  · have h2 : ¬ k + 2 * (x.p.length : Int) < 0 := by omega
    rw [if_pos h]
    simp only [P1_lss, ifB_bool, decide_eq_true_eq, decide_eq_false_iff_not]
    refine ⟨fun h3 => absurd h3 h2, fun _ => ?_⟩
    rw [p_heldPinSS ⟨hp.2.1, by omega, by omega⟩]
    by_cases h3 : x.o = markLL2 x.o (k + 2 * x.p.length)
    · rw [if_pos h3, if_pos ⟨h, h3⟩]
      simp
      omega
    · rw [if_neg h3, if_neg (fun hh => h3 hh.2)]
      simp
  · rw [if_neg h, if_neg (fun hh => h hh.1)]
    simp
theorem benchOk_iff (b : Bench) : benchOk b = true ↔ cylOk ⟨b.s, b.t, b.p⟩ = true ∧ b.o.length ≤ 30 ∧ ∀ p ∈ b.o, cylOk ⟨b.s, b.t, p⟩ = true := by
  simp [benchOk]
theorem spec_BenchOk_ok : ∀ ds outs, F_BenchOk ds = some outs → shL spec_BenchOk_L (qRet outs) ds := F_BenchOk_elim fun b hp => by
  rw [spec_BenchOk_L_sh]
  have hl := hp.2.1
  refine loop_upto b.o.length (fun k => [.int .i64 k, .int .i64 b.s, .int .i64 b.t, vL I2 v2 b.p, vL IL2 vLL2 b.o]) (by intro i j _ _ h; simp at h; omega) (fun k => ∀ p ∈ b.o.take k, cylOk ⟨b.s, b.t, p⟩ = true) (by simp) (by simp) ?_
  intro k hk hP
  rw [spec_BenchOk_b0_sh]
  simp
  refine ⟨fun h => ?_, fun h => ?_⟩
  · have hx := hp.2.2 b.o[k] (by simp)
    have hno : cylOk ⟨b.s, b.t, b.o[k]⟩ = false → benchOk b = false := by
      intro hf
      cases hc : benchOk b with
      | false => rfl
      | true => have := ((benchOk_iff b).1 hc).2.2 b.o[k] (by simp); simp [hf] at this
    simp (disch := omega) only [h, List.getElem?_eq_getElem, Option.some.injEq, exists_eq_left', wrap_id, all_take_succ h]
    rw [p_CylinderOk (x_p := b.o[k]) hx]
    cases h1 : cylOk ⟨b.s, b.t, b.o[k]⟩ <;> simp_all
  · obtain rfl : k = b.o.length := by omega
    rw [List.take_length] at hP
    rw [spec_BenchOk_r1_sh, p_CylinderOk (x_p := b.p) hp.1]
    cases h1 : cylOk ⟨b.s, b.t, b.p⟩ with
    | false => simp [benchOk, h1]
    | true =>
      have h2 : (b.o.all fun p => cylOk ⟨b.s, b.t, p⟩) = true := List.all_eq_true.2 hP
      simp [benchOk, h1, h2]
      omega
theorem impl_BenchOk_ok : ∀ ds outs, F_BenchOk ds = some outs → shL impl_BenchOk_L (qRet outs) ds := F_BenchOk_elim fun b hp => by
  rw [impl_BenchOk_L_sh]
  have hl := hp.2.1
  rw [p_CylinderOk (x_p := b.p) hp.1]
  cases h1 : cylOk ⟨b.s, b.t, b.p⟩ with
  | false => simp [benchOk, h1]
  | true =>
  simp
  refine ⟨fun h => by simp [benchOk]; intro _ h; omega, fun h9 => ?_⟩
  refine loop_upto b.o.length (fun k => [vL IL2 vLL2 b.o, .int .i64 b.o.length, .int .i64 k, .int .i64 b.s, .int .i64 b.t, vL I2 v2 b.p, vL IL2 vLL2 b.o]) (by intro i j _ _ h; simp at h; omega) (fun k => ∀ p ∈ b.o.take k, cylOk ⟨b.s, b.t, p⟩ = true) (by simp) (by simp) ?_
  intro k hk hP
  rw [impl_BenchOk_b0_sh]
  simp
  refine ⟨fun h => ?_, fun h => ?_⟩
  · have hx := hp.2.2 b.o[k] (by simp)
    have hno : cylOk ⟨b.s, b.t, b.o[k]⟩ = false → benchOk b = false := by
      intro hf
      cases hc : benchOk b with
      | false => rfl
      | true => have := ((benchOk_iff b).1 hc).2.2 b.o[k] (by simp); simp [hf] at this
    simp (disch := omega) only [h, List.getElem?_eq_getElem, Option.some.injEq, exists_eq_left', wrap_id, all_take_succ h]
    rw [p_CylinderOk (x_p := b.o[k]) hx]
    cases h1 : cylOk ⟨b.s, b.t, b.o[k]⟩ <;> simp_all
  · obtain rfl : k = b.o.length := by omega
    rw [List.take_length] at hP
    simp [impl_BenchOk_r1_sh]
    exact (benchOk_iff b).2 ⟨h1, by omega, hP⟩
end Go.Mw

/- Benches: laws, copies, changed pins. -/
namespace Go.Mw

theorem laws_FnExactBenchOk_ok : ∀ ds outs, F_FnExactBenchOk ds = some outs → shL laws_FnExactBenchOk_L (qRet outs) ds := F_FnExactBenchOk_elim fun x hp => by
  rw [laws_FnExactBenchOk_L_sh]
  have hw : x.o.length ≤ 9223372036854775807 ∧ ∀ y ∈ x.o, y.length ≤ 9223372036854775807 := ⟨hp.2.2.2.1, fun y hy => (hp.2.2.2.2 y hy).1⟩
  rw [p_szBench (x_p := x.p) (x_o := x.o) ⟨hp.2.2.1.1, hw.1, hw.2, by omega, by omega⟩]
  by_cases h : (x.p.length : Int) + tot2 x.o ≤ 1048576
  · have h1 : x.p.length ≤ 1048576 := by omega
    have h2 : fitLL x.o := fit_of_tot (by omega)
    have h3 : ¬ (1048576 - (x.p.length : Int) - tot2 x.o < 0) := by omega
    rw [if_pos h]
    simp only [P1_lss, ifB_bool, decide_eq_true_eq, decide_eq_false_iff_not]
    refine ⟨fun h4 => absurd h4 h3, fun _ => ?_⟩
    simp [h1, h2, p_toBench, p_BenchOk, p_eqBench]
  · rw [if_neg h]; simp
theorem fit_nil : fitLL [] := ⟨by simp, by simp⟩
theorem impl_NewBench_ok : ∀ ds outs, F_NewBench ds = some outs → shL impl_NewBench_L (qRet outs) ds := F_NewBench_elim fun s t => by
  rw [impl_NewBench_L_sh]
  have hb := p_BenchOk (x_s := s) (x_t := t) (x_p := []) (x_o := []) (nr_ := 1) (kk_ := fun v0 => P1 (.un .not) [v0] fun v1 => ifB v1 (qRet [.int .i64 (newBench s t).s, .int .i64 (newBench s t).t, vL I2 v2 (newBench s t).p, vL IL2 vLL2 (newBench s t).o, .bool (benchOk ⟨s, t, [], []⟩)] .ret [.int .i64 0, .int .i64 0, .list [.sc, .sc] [], .list [.sl [.sc, .sc]] [], .bool false]) (qRet [.int .i64 (newBench s t).s, .int .i64 (newBench s t).t, vL I2 v2 (newBench s t).p, vL IL2 vLL2 (newBench s t).o, .bool (benchOk ⟨s, t, [], []⟩)] .ret [.int .i64 s, .int .i64 t, .list [.sc, .sc] [], .list [.sl [.sc, .sc]] [], .bool true])) ⟨by simp, fit_nil⟩
  refine hb.2 ?_
  cases h : benchOk ⟨s, t, [], []⟩ <;> simp [newBench, h] <;> rfl
theorem spec_NewBench_ok : ∀ ds outs, F_NewBench ds = some outs → shL spec_NewBench_L (qRet outs) ds := F_NewBench_elim fun s t => by
  rw [spec_NewBench_L_sh]
  have hb := p_BenchOk (x_s := s) (x_t := t) (x_p := []) (x_o := []) (nr_ := 1) (kk_ := fun v0 => P1 (.un .not) [v0] fun v1 => ifB v1 (qRet [.int .i64 (newBench s t).s, .int .i64 (newBench s t).t, vL I2 v2 (newBench s t).p, vL IL2 vLL2 (newBench s t).o, .bool (benchOk ⟨s, t, [], []⟩)] .ret [.int .i64 0, .int .i64 0, .list [.sc, .sc] [], .list [.sl [.sc, .sc]] [], .bool false]) (qRet [.int .i64 (newBench s t).s, .int .i64 (newBench s t).t, vL I2 v2 (newBench s t).p, vL IL2 vLL2 (newBench s t).o, .bool (benchOk ⟨s, t, [], []⟩)] .ret [.int .i64 s, .int .i64 t, .list [.sc, .sc] [], .list [.sl [.sc, .sc]] [], .bool true])) ⟨by simp, fit_nil⟩
  refine hb.2 ?_
  cases h : benchOk ⟨s, t, [], []⟩ <;> simp [newBench, h] <;> rfl
theorem newBench_p (s t : Int) : (newBench s t).p = [] := by unfold newBench; split <;> rfl
theorem newBench_o (s t : Int) : (newBench s t).o = [] := by unfold newBench; split <;> rfl
theorem impl_copyPins_ok : ∀ ds outs, F_copyPins ds = some outs → shL impl_copyPins_L (qRet outs) ds := F_copyPins_elim fun l hp => by
  rw [impl_copyPins_L_sh]
  simp; omega
theorem spec_l06Copy_ok : ∀ ds outs, F_l06Copy ds = some outs → shL spec_l06Copy_L (qRet outs) ds := F_l06Copy_elim fun x hp => by
  rw [spec_l06Copy_L_sh]
  simp; omega
theorem impl_copyCylinder_ok : ∀ ds outs, F_copyCylinder ds = some outs → shL impl_copyCylinder_L (qRet outs) ds := F_copyCylinder_elim fun x hp => by
  rw [impl_copyCylinder_L_sh]
  simp [p_copyPins hp]
theorem impl_hasPin_ok : ∀ ds outs, F_hasPin ds = some outs → shL impl_hasPin_L (qRet outs) ds := F_hasPin_elim fun l x hp => by
  rw [impl_hasPin_L_sh]
  simp
  refine loop_upto l.length (fun k => [vL I2 v2 l, .int .i64 l.length, .int .i64 k, .int .i64 x.a, .int .i64 x.b]) (by intro i j _ _ h; simp at h; omega) (fun k => ∀ y ∈ l.take k, ¬ y = x) (by simp) (by simp) ?_
  intro k hk hP
  rw [impl_hasPin_b0_sh]
  simp
  refine ⟨fun h => ?_, fun h => ?_⟩
  · have he : (l[k].a = x.a ∧ l[k].b = x.b) ↔ l[k] = x := by cases hx : l[k]; cases x; simp
    have hw : IntKind.i64.wrap ((k : Int) + 1) = k + 1 := wrap_id (by omega) (by omega)
    simp only [h, List.getElem?_eq_getElem, Option.some.injEq, exists_eq_left', hw, all_take_succ h]
    refine ⟨fun h1 h2 => by rw [← he.1 ⟨h1, h2⟩]; simp, fun h1 => ⟨trivial, trivial, hP, fun hh => ?_⟩⟩
    exact h1 (he.2 hh).1 (he.2 hh).2
  · obtain rfl : k = l.length := by omega
    rw [List.take_length] at hP
    simp [impl_hasPin_r1_sh]
    exact fun hm => hP x hm rfl
theorem missing_succ {a b : List T2} {k : Nat} (h : k < a.length) : missing (a.take (k + 1)) b = missing (a.take k) b + (if a[k] ∈ b then 0 else 1) := by
  unfold missing
  rw [take_succ_get h, List.filter_append]
  by_cases h2 : a[k] ∈ b <;> simp [h2]
theorem missing_le (a b : List T2) : 0 ≤ missing a b ∧ missing a b ≤ a.length := by
  unfold missing
  have := List.length_filter_le (fun p => decide (p ∉ b)) a
  omega
theorem spec_l37Missing_ok : ∀ ds outs, F_l37Missing ds = some outs → shL spec_l37Missing_L (qRet outs) ds := F_l37Missing_elim fun l m hp => by
  rw [spec_l37Missing_L_sh]
  refine loop_upto l.length (fun k => [vL I2 v2 l, vL I2 v2 m, .int .i64 (missing (l.take k) m), .int .i64 k]) (by intro i j _ _ h; simp at h; omega) (fun _ => True) (by simp [missing]) trivial ?_
  intro k hk _
  have hb := missing_le (l.take k) m
  rw [spec_l37Missing_b0_sh]
  simp
  refine ⟨fun h => ?_, fun h => ?_⟩
  · refine loop_upto m.length (fun n => [vL I2 v2 l, vL I2 v2 m, .int .i64 (missing (l.take k) m), .int .i64 k, .bool (decide (l[k] ∈ m.take n)), .int .i64 n]) (by intro i j _ _ h; simp at h; omega) (fun _ => True) (by simp) trivial ?_
    intro n hn _
    rw [spec_l37Missing_b1_sh]
    simp
    refine ⟨fun h2 => ?_, fun h2 => ?_⟩
    · have hw : IntKind.i64.wrap ((n : Int) + 1) = n + 1 := wrap_id (by omega) (by omega)
      have he : (l[k].a = m[n].a ∧ l[k].b = m[n].b) ↔ l[k] = m[n] := by cases hx : l[k]; cases hy : m[n]; simp
      have hm : l[k] ∈ m.take (n + 1) ↔ l[k] ∈ m.take n ∨ l[k] = m[n] := by rw [take_succ_get h2, List.mem_append, List.mem_singleton]
      by_cases h5 : l[k] ∈ m.take n
      · simp [h5, hm, hw, h2]
      · simp [h5, hm, hw, h2, h]
        by_cases h6 : l[k] = m[n]
        · simp [h6]
        · simp [h6]
          intro h7 h8; exact h6 (he.1 ⟨h7, h8⟩)
    · obtain rfl : n = m.length := by omega
      have hw : IntKind.i64.wrap ((k : Int) + 1) = k + 1 := wrap_id (by omega) (by omega)
      have hl : (l.take k).length ≤ 1048576 := by simp; omega
      have hw2 : IntKind.i64.wrap (missing (l.take k) m + 1) = missing (l.take k) m + 1 := wrap_id (by omega) (by omega)
      rw [List.take_length]
      by_cases h5 : l[k] ∈ m <;> simp [spec_l37Missing_r2_sh, spec_l37Missing_r3_sh, spec_l37Missing_r4_sh, spec_l37Missing_r5_sh, missing_succ h, h5, hw, hw2, h]
  · obtain rfl : k = l.length := by omega
    simp [spec_l37Missing_r6_sh]
end Go.Mw

/- Benches: changed pins, copies, new benches. -/
namespace Go.Mw

theorem benchOk_len {b : Bench} (h : benchOk b = true) : b.p.length ≤ 100 ∧ ∀ q ∈ b.o, q.length ≤ 100 := by
  have h := (benchOk_iff b).1 h
  exact ⟨(cylOk_bounds h.1).2.2, fun q hq => (cylOk_bounds (h.2.2 q hq)).2.2⟩
theorem spec_ChangedPins_ok : ∀ ds outs, F_ChangedPins ds = some outs → shL spec_ChangedPins_L (qRet outs) ds := F_ChangedPins_elim fun b hp => by
  rw [spec_ChangedPins_L_sh, p_BenchOk (x_p := b.p) (x_o := b.o) hp]
  cases h : benchOk b with
  | false => simp [changedPins, h]
  | true =>
    have hb := benchOk_len h
    rcases ho : b.o with _ | ⟨q, r⟩
    · simp [changedPins, h, ho]
    · have hq : q.length ≤ 100 := hb.2 q (by simp [ho])
      have h1 := missing_le b.p q
      have h2 := missing_le q b.p
      have h3 : b.p.length ≤ 1048576 ∧ q.length ≤ 1048576 := by omega
      have hn : ¬ (((q :: r).length : Int) = 0) := by simp; omega
      simp [changedPins, h, ho, p_l37Missing h3, p_l37Missing h3.symm]
      refine ⟨fun hh => absurd hh (by omega), fun _ => wrap_id (by omega) (by omega)⟩
theorem impl_ChangedPins_ok : ∀ ds outs, F_ChangedPins ds = some outs → shL impl_ChangedPins_L (qRet outs) ds := F_ChangedPins_elim fun b hp => by
  rw [impl_ChangedPins_L_sh, p_BenchOk (x_p := b.p) (x_o := b.o) hp]
  cases h : benchOk b with
  | false => simp [changedPins, h]
  | true =>
    have hb := benchOk_len h
    rcases ho : b.o with _ | ⟨q, r⟩
    · simp [changedPins, h, ho]
    · have hq : q.length ≤ 100 := hb.2 q (by simp [ho])
      have hres : changedPins b = missing b.p q + missing q b.p := by simp [changedPins, h, ho]
      simp []
      refine ⟨fun hh => absurd hh (by omega), fun _ => ?_⟩
      refine loop_upto b.p.length (fun k => [.int .i64 (missing (b.p.take k) q), vL I2 v2 b.p, .int .i64 b.p.length, .int .i64 k, .int .i64 b.s, .int .i64 b.t, vL I2 v2 b.p, vL IL2 vLL2 (q :: r)]) (by intro i j _ _ h; simp at h; omega) (fun _ => True) (by simp [missing]) trivial ?_
      intro k hk _
      have h1 := missing_le (b.p.take k) q
      have hl1 : (b.p.take k).length ≤ 100 := by simp; omega
      rw [impl_ChangedPins_b0_sh]
      simp
      refine ⟨fun h3 => ?_, fun h3 => ?_⟩
      · have hw : IntKind.i64.wrap ((k : Int) + 1) = k + 1 := wrap_id (by omega) (by omega)
        have hw2 : IntKind.i64.wrap (missing (b.p.take k) q + 1) = missing (b.p.take k) q + 1 := wrap_id (by omega) (by omega)
        have hq2 : q.length ≤ 1048576 := by omega
        simp only [List.getElem?_eq_getElem h3, Option.some.injEq, exists_eq_left', p_hasPin hq2, missing_succ h3]
        by_cases h5 : b.p[k] ∈ q <;> simp [h5, hw, hw2, h3]
      · obtain rfl : k = b.p.length := by omega
        rw [List.take_length] at *
        rw [impl_ChangedPins_r1_sh]
        simp
        refine loop_upto q.length (fun n => [.int .i64 (missing b.p q + missing (q.take n) b.p), vL I2 v2 q, .int .i64 q.length, .int .i64 n, .int .i64 b.s, .int .i64 b.t, vL I2 v2 b.p, vL IL2 vLL2 (q :: r)]) (by intro i j _ _ h; simp at h; omega) (fun _ => True) (by simp [missing]) trivial ?_
        intro n hn _
        have h4 := missing_le (q.take n) b.p
        have hl2 : (q.take n).length ≤ 100 := by simp; omega
        rw [impl_ChangedPins_b2_sh]
        simp
        refine ⟨fun h6 => ?_, fun h6 => ?_⟩
        · have hw : IntKind.i64.wrap ((n : Int) + 1) = n + 1 := wrap_id (by omega) (by omega)
          have hw2 : IntKind.i64.wrap (missing b.p q + missing (q.take n) b.p + 1) = missing b.p q + (missing (q.take n) b.p + 1) := by rw [wrap_id] <;> omega
          have hp2 : b.p.length ≤ 1048576 := by omega
          simp only [List.getElem?_eq_getElem h6, Option.some.injEq, exists_eq_left', p_hasPin hp2, missing_succ h6]
          by_cases h5 : q[n] ∈ b.p <;> simp [h5, hw, hw2, h6]
        · obtain rfl : n = q.length := by omega
          rw [List.take_length]
          simp [impl_ChangedPins_r3_sh, hres]
theorem laws_FnExactChangedPins_ok : ∀ ds outs, F_FnExactChangedPins ds = some outs → shL laws_FnExactChangedPins_L (qRet outs) ds := F_FnExactChangedPins_elim fun x hp => by
  rw [laws_FnExactChangedPins_L_sh]
  have hw : x.o.length ≤ 9223372036854775807 ∧ ∀ y ∈ x.o, y.length ≤ 9223372036854775807 := ⟨hp.2.2.2.1, fun y hy => (hp.2.2.2.2 y hy).1⟩
  rw [p_szBench (x_p := x.p) (x_o := x.o) ⟨hp.2.2.1.1, hw.1, hw.2, by omega, by omega⟩]
  by_cases h : (x.p.length : Int) + tot2 x.o ≤ 1048576
  · have h1 : x.p.length ≤ 1048576 := by omega
    have h2 : fitLL x.o := fit_of_tot (by omega)
    have h3 : ¬ (1048576 - (x.p.length : Int) - tot2 x.o < 0) := by omega
    rw [if_pos h]
    simp only [P1_lss, ifB_bool, decide_eq_true_eq, decide_eq_false_iff_not]
    refine ⟨fun h4 => absurd h4 h3, fun _ => ?_⟩
    simp [h1, h2, p_toBench, p_ChangedPins, p_eqBench]
  · rw [if_neg h]; simp
end Go.Mw

/- New benches; combs, springs, workshops. -/
namespace Go.Mw

theorem markLL2_idem : ∀ (l : List (List T2)) (k j : Int), markLL2 (markLL2 l k) j = markLL2 l j
  | [], _, _ => rfl
  | x :: r, k, j => by simp [markLL2, markLL2_idem r]
theorem sum2_mark : ∀ (l : List (List T2)) (k : Int), sum2 (markLL2 l k) = sum2 l
  | [], _ => rfl
  | x :: r, k => by
    have := sum2_mark r (k + 2 * x.length)
    unfold sum2 at this ⊢
    simp only [markLL2, List.map_cons, List.sum_cons, markL2_len, this]
theorem fit_mark : ∀ {l : List (List T2)} (k : Int), fitLL l → fitLL (markLL2 l k) := by
  intro l k h
  refine ⟨by rw [markLL2_len]; exact h.1, fun x hx => ?_⟩
  obtain ⟨i, hi, rfl⟩ := List.getElem_of_mem hx
  rw [markLL2_len] at hi
  rw [markLL2_get l k i hi, markL2_len]
  exact h.2 _ (by simp)
@[simp] theorem P1_lstL2 {a : List T2} {k : V → Prop} : P1 (.lst [.sl [.sc, .sc]] false 1) [vL I2 v2 a] k ↔ k (vL IL2 vLL2 [a]) := P1_of (by simp [Prim.run, aksOk, akOk, chunk, V.pack, vL, vLL2, AK.eqs_refl, IL2]) k
theorem laws_FnExactNewBench_ok : ∀ ds outs, F_FnExactNewBench ds = some outs → shL laws_FnExactNewBench_L (qRet outs) ds := F_FnExactNewBench_elim fun s t hp => by
  rw [laws_FnExactNewBench_L_sh]
  have h1 : (newBench s t).p.length ≤ 1048576 := by rw [newBench_p]; simp
  have h2 : fitLL (newBench s t).o := by rw [newBench_o]; exact fit_nil
  have h3 : 1 + 2 * ((newBench s t).p.length : Int) + 2 * sum2 (newBench s t).o ≤ 1099511627776 := by rw [newBench_p, newBench_o]; simp [sum2]
  simp only [p_NewBench, laws_FnExactNewBench_r0_sh]
  have h4 : (0 : Int) ≤ 1 + 2 * ((newBench s t).p.length : Int) + 2 * sum2 (newBench s t).o := by omega
  generalize newBench s t = B at *
  have h5 := fit_mark (1 + 2 * (B.p.length : Int)) h2
  simp [p_eqBench, h1, h2, p_markBench, p_heldBench, h3, h4, h5, sum2_mark, markLL2_idem]
theorem impl_copyBench_ok : ∀ ds outs, F_copyBench ds = some outs → shL impl_copyBench_L (qRet outs) ds := F_copyBench_elim fun b hp => by
  rw [impl_copyBench_L_sh]
  have hl := hp.2.1
  rw [p_copyCylinder (x_p := b.p) (by show b.p.length ≤ _; omega)]
  simp
  refine loop_upto b.o.length (fun k => [vL IL2 vLL2 b.o, .int .i64 b.o.length, .int .i64 k, vL I2 v2 b.p, vL IL2 vLL2 (b.o.take k), .int .i64 0, .int .i64 0, .int .i64 b.s, .int .i64 b.t]) (by intro i j _ _ h; simp at h; omega) (fun _ => True) (by simp; rfl) trivial ?_
  intro k hk _
  rw [impl_copyBench_b0_sh]
  simp
  refine ⟨fun h => ?_, fun h => ?_⟩
  · have hx := hp.2.2 b.o[k] (by simp)
    have hw : IntKind.i64.wrap ((k : Int) + 1) = k + 1 := wrap_id (by omega) (by omega)
    simp only [List.getElem?_eq_getElem h, Option.some.injEq, exists_eq_left']
    rw [p_copyPins (by omega)]
    simp [h, hw]
    omega
  · obtain rfl : k = b.o.length := by omega
    simp [impl_copyBench_r1_sh]
theorem impl_SpringOk_ok : ∀ ds outs, F_SpringOk ds = some outs → shL impl_SpringOk_L (qRet outs) ds := F_SpringOk_elim fun x => by
  rw [impl_SpringOk_L_sh]; simp [springOk]; grind
theorem spec_SpringOk_ok : ∀ ds outs, F_SpringOk ds = some outs → shL spec_SpringOk_L (qRet outs) ds := F_SpringOk_elim fun x => by
  rw [spec_SpringOk_L_sh]; simp [springOk]; grind
theorem laws_toSpring_ok : ∀ ds outs, F_toSpring ds = some outs → shL laws_toSpring_L (qRet outs) ds := F_toSpring_elim fun x => by
  rw [laws_toSpring_L_sh]; simp
theorem laws_eqSpring_ok : ∀ ds outs, F_eqSpring ds = some outs → shL laws_eqSpring_L (qRet outs) ds := F_eqSpring_elim fun x y => by
  rw [laws_eqSpring_L_sh]
  cases x; cases y
  simp
  grind
end Go.Mw

/- Combs, workshops. -/
namespace Go.Mw

theorem upward_iff : ∀ l : List Int, upward l = true ↔ ∀ j (_ : j < l.length), 0 < j → l[j - 1] ≤ l[j]
  | [] => by simp [upward]
  | [a] => by simp [upward]
  | a :: b :: r => by
    simp only [upward, Bool.and_eq_true, upward_iff (b :: r), decide_eq_true_eq]
    constructor
    · rintro ⟨h1, h2⟩ j hj h0
      rcases j with _ | _ | j
      · omega
      · exact h1
      · exact h2 (j + 1) (by simp at hj ⊢; omega) (by omega)
    · intro h
      refine ⟨h 1 (by simp) (by omega), fun j hj h0 => ?_⟩
      have := h (j + 1) (by simp at hj ⊢; omega) (by omega)
      rcases j with _ | j
      · omega
      · exact this
def goodTooth (l : List Int) (j : Nat) (hj : j < l.length) : Prop := within l[j] 0 60 = true ∧ (0 < j → l[j - 1] ≤ l[j])
theorem combOk_iff (l : List Int) : combOk l = true ↔ within l.length 1 24 = true ∧ ∀ j (hj : j < l.length), goodTooth l j hj := by
  simp only [combOk, Bool.and_eq_true, upward_iff, List.all_eq_true, goodTooth]
  refine and_congr_right fun _ => ?_
  constructor
  · rintro ⟨h1, h2⟩ j hj
    exact ⟨h1 _ (List.getElem_mem hj), h2 j hj⟩
  · intro h
    refine ⟨fun p hp => ?_, fun j hj h0 => (h j hj).2 h0⟩
    obtain ⟨j, hj, rfl⟩ := List.getElem_of_mem hp
    exact (h j hj).1
theorem spec_CombOk_ok : ∀ ds outs, F_CombOk ds = some outs → shL spec_CombOk_L (qRet outs) ds := F_CombOk_elim fun l hp => by
  rw [spec_CombOk_L_sh]
  refine loop_upto l.length (fun k => [vL I1 v1 l, .int .i64 k]) (by intro i j _ _ h; simp at h; omega) (fun k => ∀ j (hj : j < l.length), j < k → goodTooth l j hj) (by simp) (by simp) ?_
  intro k hk hP
  rw [spec_CombOk_b0_sh]
  simp
  refine ⟨fun h => ?_, fun h => ?_⟩
  · have hbad : ¬ goodTooth l k h → combOk l = false := fun hn => by
      cases hcc : combOk l with
      | false => rfl
      | true => exact absurd (((combOk_iff l).1 hcc).2 k h) hn
    have hgood : goodTooth l k h → ∀ j (hj : j < l.length), j < k + 1 → goodTooth l j hj := fun hg j hj hjk => by
      by_cases hjk2 : j = k
      · subst hjk2; exact hg
      · exact hP j hj (by omega)
    have hw : IntKind.i64.wrap ((k : Int) + 1) = k + 1 := wrap_id (by omega) (by omega)
    have hw2 : IntKind.i64.wrap ((k : Int) - 1) = k - 1 := wrap_id (by omega) (by omega)
    have hk1 : ((k : Int) - 1).toNat = k - 1 := by omega
    have hk2 : k - 1 < l.length := by omega
    simp only [List.getElem?_eq_getElem h, Option.some.injEq, exists_eq_left', hw, hw2, hk1, List.getElem?_eq_getElem hk2]
    cases e1 : within l[k] 0 60 with
    | false => simp; exact hbad (by simp [goodTooth, e1])
    | true =>
    simp [h]
    refine ⟨fun hk0 => ⟨by omega, fun e3 => hbad (by simp [goodTooth, hk0]; intro _; omega), fun e3 => ?_⟩, fun hk0 => ?_⟩
    · exact hgood ⟨e1, fun _ => e3⟩
    · exact hgood ⟨e1, fun hh => by omega⟩
  · obtain rfl : k = l.length := by omega
    simp [spec_CombOk_r1_sh]
    have hall : ∀ j (hj : j < l.length), goodTooth l j hj := fun j hj => hP j hj hj
    cases hw : within l.length 1 24 with
    | false => cases hc : combOk l with
      | false => rfl
      | true => simp [((combOk_iff l).1 hc).1] at hw
    | true => exact ((combOk_iff l).2 ⟨hw, hall⟩).symm
theorem impl_CombOk_ok : ∀ ds outs, F_CombOk ds = some outs → shL impl_CombOk_L (qRet outs) ds := F_CombOk_elim fun l hp => by
  rw [impl_CombOk_L_sh]
  simp
  refine ⟨fun hh => ?_, fun h1 => ⟨fun hh => ?_, fun h24 => ?_⟩⟩
  · cases hc : combOk l with
    | false => rfl
    | true => have := ((combOk_iff l).1 hc).1; simp [within] at this; omega
  · cases hc : combOk l with
    | false => rfl
    | true => have := ((combOk_iff l).1 hc).1; simp [within] at this; omega
  refine loop_upto l.length (fun k => [vL I1 v1 l, vL I1 v1 l, .int .i64 l.length, .int .i64 k]) (by intro i j _ _ h; simp at h; omega) (fun k => ∀ j (hj : j < l.length), j < k → goodTooth l j hj) (by simp) (by simp) ?_
  intro k hk hP
  rw [impl_CombOk_b0_sh]
  simp
  refine ⟨fun h => ?_, fun h => ?_⟩
  · have hbad : ¬ goodTooth l k h → combOk l = false := fun hn => by
      cases hcc : combOk l with
      | false => rfl
      | true => exact absurd (((combOk_iff l).1 hcc).2 k h) hn
    have hgood : goodTooth l k h → ∀ j (hj : j < l.length), j < k + 1 → goodTooth l j hj := fun hg j hj hjk => by
      by_cases hjk2 : j = k
      · subst hjk2; exact hg
      · exact hP j hj (by omega)
    have hw : IntKind.i64.wrap ((k : Int) + 1) = k + 1 := wrap_id (by omega) (by omega)
    have hw2 : IntKind.i64.wrap ((k : Int) - 1) = k - 1 := wrap_id (by omega) (by omega)
    have hk1 : ((k : Int) - 1).toNat = k - 1 := by omega
    have hk2 : k - 1 < l.length := by omega
    simp only [List.getElem?_eq_getElem h, Option.some.injEq, exists_eq_left', hw, hw2, hk1, List.getElem?_eq_getElem hk2]
    cases e1 : within l[k] 0 60 with
    | false => simp; exact hbad (by simp [goodTooth, e1])
    | true =>
    simp [h]
    refine ⟨fun hk0 => ⟨by omega, fun e3 => hbad (by simp [goodTooth, hk0]; intro _; omega), fun e3 => ?_⟩, fun hk0 => ?_⟩
    · exact hgood ⟨e1, fun _ => e3⟩
    · exact hgood ⟨e1, fun hh => by omega⟩
  · obtain rfl : k = l.length := by omega
    simp [impl_CombOk_r1_sh]
    exact (combOk_iff l).2 ⟨by simp [within]; omega, fun j hj => hP j hj hj⟩
theorem laws_szWorkshop_ok : ∀ ds outs, F_szWorkshop ds = some outs → shL laws_szWorkshop_L (qRet outs) ds := F_szWorkshop_elim fun x n hp => by
  rw [laws_szWorkshop_L_sh]
  rw [p_szBench (x_p := x.p) (x_o := x.o) ⟨hp.1, hp.2.1, hp.2.2.1, by omega, by omega⟩]
  by_cases h : (x.p.length : Int) + tot2 x.o ≤ n
  · have h2 : ¬ n - (x.p.length : Int) - tot2 x.o < 0 := by omega
    rw [if_pos h]
    simp only [P1_lss, ifB_bool, decide_eq_true_eq, decide_eq_false_iff_not]
    refine ⟨fun h3 => absurd h3 h2, fun _ => ?_⟩
    rw [p_szIntS ⟨hp.2.2.2.1, by omega, by omega⟩]
    by_cases h3 : (x.c.length : Int) ≤ n - x.p.length - tot2 x.o
    · rw [if_pos h3]; simp; omega
    · rw [if_neg h3]; simp; omega
  · rw [if_neg h]; simp; omega
theorem laws_toWorkshop_ok : ∀ ds outs, F_toWorkshop ds = some outs → shL laws_toWorkshop_L (qRet outs) ds := F_toWorkshop_elim fun x hp => by
  rw [laws_toWorkshop_L_sh]
  simp [p_toBench, p_toIntS, hp]
end Go.Mw

/- Workshops. -/
namespace Go.Mw

theorem spec_WorkshopOk_ok : ∀ ds outs, F_WorkshopOk ds = some outs → shL spec_WorkshopOk_L (qRet outs) ds := F_WorkshopOk_elim fun x hp => by
  rw [spec_WorkshopOk_L_sh, p_BenchOk (x_p := x.p) (x_o := x.o) ⟨hp.1, hp.2.1⟩]
  simp only [shopOk, Shop.bench]
  cases h1 : benchOk ⟨x.s, x.t, x.p, x.o⟩ with
  | false => simp
  | true =>
  simp [p_CombOk hp.2.2]
  cases h2 : combOk x.c <;> cases h3 : springOk ⟨x.u, x.m, x.f⟩ <;> cases h5 : within x.y 0 1000000 <;> simp_all
theorem impl_WorkshopOk_ok : ∀ ds outs, F_WorkshopOk ds = some outs → shL impl_WorkshopOk_L (qRet outs) ds := F_WorkshopOk_elim fun x hp => by
  rw [impl_WorkshopOk_L_sh, p_BenchOk (x_p := x.p) (x_o := x.o) ⟨hp.1, hp.2.1⟩]
  simp only [shopOk, Shop.bench]
  cases h1 : benchOk ⟨x.s, x.t, x.p, x.o⟩ with
  | false => simp
  | true =>
  simp [p_CombOk hp.2.2, impl_WorkshopOk_r0_sh]
  cases h2 : combOk x.c <;> cases h3 : springOk ⟨x.u, x.m, x.f⟩ <;> cases h5 : within x.y 0 1000000 <;> simp_all
theorem laws_eqWorkshop_ok : ∀ ds outs, F_eqWorkshop ds = some outs → shL laws_eqWorkshop_L (qRet outs) ds := F_eqWorkshop_elim fun x y hp => by
  rw [laws_eqWorkshop_L_sh, p_eqBench (x_p := x.p) (x_o := x.o) (y_p := y.p) (y_o := y.o) ⟨hp.1, hp.2.1, hp.2.2.2.1, hp.2.2.2.2.1⟩]
  have h2 : x.c.length ≤ 1048576 ∧ y.c.length ≤ 1048576 := ⟨hp.2.2.1, hp.2.2.2.2.2⟩
  have hxy : x = y ↔ (x.s = y.s ∧ x.t = y.t ∧ x.p = y.p ∧ x.o = y.o) ∧ x.c = y.c ∧ (⟨x.u, x.m, x.f⟩ : T3) = ⟨y.u, y.m, y.f⟩ ∧ x.y = y.y ∧ x.d = y.d := by
    cases x; cases y; simp; grind
  have key : decide (x = y) = decide ((x.s = y.s ∧ x.t = y.t ∧ x.p = y.p ∧ x.o = y.o) ∧ x.c = y.c ∧ (⟨x.u, x.m, x.f⟩ : T3) = ⟨y.u, y.m, y.f⟩ ∧ x.y = y.y ∧ x.d = y.d) := by
    by_cases h : x = y <;> simp [h]
    simpa [hxy] using h
  simp only [p_eqIntS h2, p_eqSpring, P1_not, P1_neq, ifB_bool, key]
  by_cases hA : x.s = y.s ∧ x.t = y.t ∧ x.p = y.p ∧ x.o = y.o <;> by_cases hc : x.c = y.c <;> by_cases hs : (⟨x.u, x.m, x.f⟩ : T3) = ⟨y.u, y.m, y.f⟩ <;> by_cases hy : x.y = y.y <;> by_cases hd : x.d = y.d <;> simp only [hA, hc, hs, hy, hd] <;> simp [hy, hd]
end Go.Mw

/- Workshops: memory, opening. -/
namespace Go.Mw

theorem laws_markWorkshop_ok : ∀ ds outs, F_markWorkshop ds = some outs → shL laws_markWorkshop_L (qRet outs) ds := F_markWorkshop_elim fun x k hp => by
  rw [laws_markWorkshop_L_sh]
  rw [p_markBench (x_p := x.p) (x_o := x.o) ⟨hp.1, hp.2.1, hp.2.2.2.1, hp.2.2.2.2⟩]
  rw [p_markIntS ⟨by omega, by show 0 ≤ k + 2 * (x.p.length : Int) + 2 * (sum2 x.o : Int); omega, by show k + 2 * (x.p.length : Int) + 2 * (sum2 x.o : Int) ≤ _; omega⟩]
  simp
theorem laws_heldWorkshop_ok : ∀ ds outs, F_heldWorkshop ds = some outs → shL laws_heldWorkshop_L (qRet outs) ds := F_heldWorkshop_elim fun x k hp => by
  rw [laws_heldWorkshop_L_sh]
  rw [p_heldBench (x_p := x.p) (x_o := x.o) ⟨hp.1, hp.2.1, hp.2.2.2.1, hp.2.2.2.2⟩]
  by_cases h : x.p = markL2 x.p.length k ∧ x.o = markLL2 x.o (k + 2 * x.p.length)
  · have h2 : ¬ k + 2 * (x.p.length : Int) + 2 * sum2 x.o < 0 := by omega
    rw [if_pos h]
    simp only [P1_lss, ifB_bool, decide_eq_true_eq, decide_eq_false_iff_not]
    refine ⟨fun h3 => absurd h3 h2, fun _ => ?_⟩
    rw [p_heldIntS ⟨by omega, by omega, by omega⟩]
    by_cases h3 : x.c = markL1 x.c.length (k + 2 * x.p.length + 2 * sum2 x.o)
    · rw [if_pos h3, if_pos ⟨h.1, h.2, h3⟩]
      simp
      omega
    · rw [if_neg h3, if_neg (fun hh => h3 hh.2.2)]
      simp
  · rw [if_neg h, if_neg (fun hh => h ⟨hh.1, hh.2.1⟩)]
    simp
theorem laws_FnExactWorkshopOk_ok : ∀ ds outs, F_FnExactWorkshopOk ds = some outs → shL laws_FnExactWorkshopOk_L (qRet outs) ds := F_FnExactWorkshopOk_elim fun x hp => by
  rw [laws_FnExactWorkshopOk_L_sh]
  have hw : x.o.length ≤ 9223372036854775807 ∧ ∀ y ∈ x.o, y.length ≤ 9223372036854775807 := ⟨hp.2.2.2.1.1, fun y hy => (hp.2.2.2.1.2 y hy).1⟩
  rw [p_szWorkshop (x_p := x.p) (x_o := x.o) (x_c := x.c) ⟨hp.2.2.1.1, hw.1, hw.2, hp.2.2.2.2.1.1, by omega, by omega⟩]
  by_cases h : (x.p.length : Int) + tot2 x.o + x.c.length ≤ 1048576
  · have h1 : x.p.length ≤ 1048576 := by omega
    have h2 : fitLL x.o := fit_of_tot (by omega)
    have h4 : x.c.length ≤ 1048576 := by omega
    have h3 : ¬ (1048576 - (x.p.length : Int) - tot2 x.o - x.c.length < 0) := by omega
    rw [if_pos h]
    simp only [P1_lss, ifB_bool, decide_eq_true_eq, decide_eq_false_iff_not]
    refine ⟨fun h4 => absurd h4 h3, fun _ => ?_⟩
    simp [h1, h2, h4, p_toWorkshop, p_WorkshopOk, p_eqWorkshop]
  · rw [if_neg h]; simp
theorem newBench_ok (s t : Int) (h : benchOk ⟨s, t, [], []⟩ = false) : newBench s t = ⟨0, 0, [], []⟩ := by simp [newBench, h]
theorem opened_no {s : Int} {c : List Int} {m : Int} (h : benchOk ⟨s, c.length, [], []⟩ = false) : shopOk (opened s c m) = false := by
  have : benchOk (opened s c m).bench = false := by
    simp only [opened, Shop.bench, newBench_ok _ _ h]
    simp [benchOk, cylOk, within]
  simp [shopOk, this]
theorem impl_OpenWorkshop_ok : ∀ ds outs, F_OpenWorkshop ds = some outs → shL impl_OpenWorkshop_L (qRet outs) ds := F_OpenWorkshop_elim fun s l m hp => by
  rw [impl_OpenWorkshop_L_sh]
  have h1 := newBench_p s l.length
  have h2 := newBench_o s l.length
  have h3 : (newBench s l.length).p.length ≤ 1048576 := by rw [h1]; simp
  have h4 : fitLL (newBench s l.length).o := by rw [h2]; exact fit_nil
  have e : opened s l m = ⟨(newBench s l.length).s, (newBench s l.length).t, (newBench s l.length).p, (newBench s l.length).o, l, 0, 10, 100, m, 0⟩ := by rw [h1, h2]; rfl
  simp only [P1_len, p_NewBench]
  rw [p_copyInts (by omega)]
  rw [p_WorkshopOk ⟨h3, h4, hp⟩, ← e]
  cases h : shopOk (opened s l m) with
  | false => simp [openShop, h]; rfl
  | true => simp [openShop, h]; simp [e]
theorem spec_OpenWorkshop_ok : ∀ ds outs, F_OpenWorkshop ds = some outs → shL spec_OpenWorkshop_L (qRet outs) ds := F_OpenWorkshop_elim fun s l m hp => by
  rw [spec_OpenWorkshop_L_sh]
  have h1 := newBench_p s l.length
  have h2 := newBench_o s l.length
  have h3 : (newBench s l.length).p.length ≤ 1048576 := by rw [h1]; simp
  have h4 : fitLL (newBench s l.length).o := by rw [h2]; exact fit_nil
  have e : opened s l m = ⟨(newBench s l.length).s, (newBench s l.length).t, (newBench s l.length).p, (newBench s l.length).o, l, 0, 10, 100, m, 0⟩ := by rw [h1, h2]; rfl
  simp only [P1_len, p_NewBench, P1_lst0, P1_appI_0, P1_not, ifB_bool]
  refine ⟨by omega, fun hb => ?_, fun hb => ?_⟩
  · have hno := opened_no (m := m) (by simpa using hb)
    simp [openShop, hno]; rfl
  rw [p_WorkshopOk ⟨h3, h4, hp⟩, ← e]
  cases h : shopOk (opened s l m) with
  | false => simp [openShop, h]; rfl
  | true => simp [openShop, h]; simp [e]
@[simp] theorem P1_lst14 {a b c d : Int} {k : V → Prop} : P1 (.lst [.sc] false 4) [.int .i64 a, .int .i64 b, .int .i64 c, .int .i64 d] k ↔ k (vL I1 v1 [a, b, c, d]) := P1_of (by simp [Prim.run, aksOk, akOk, chunk, V.pack, vL, v1]) k
theorem impl_SampleWorkshop_ok : ∀ ds outs, F_SampleWorkshop ds = some outs → shL impl_SampleWorkshop_L (qRet outs) ds := F_SampleWorkshop_elim fun _ => by
  rw [impl_SampleWorkshop_L_sh]
  rw [P1_lst14, p_OpenWorkshop (by simp)]
  simp
theorem spec_SampleWorkshop_ok : ∀ ds outs, F_SampleWorkshop ds = some outs → shL spec_SampleWorkshop_L (qRet outs) ds := F_SampleWorkshop_elim fun _ => by
  rw [spec_SampleWorkshop_L_sh]
  rw [P1_lst14, p_OpenWorkshop (by simp)]
  simp
theorem openShop_fit {s : Int} {c : List Int} {m : Int} (h : c.length ≤ 1048576) : (openShop s c m).p = [] ∧ (openShop s c m).o = [] ∧ (openShop s c m).c.length ≤ 1048576 := by
  unfold openShop
  split
  · exact ⟨rfl, rfl, h⟩
  · exact ⟨rfl, rfl, by simp⟩
theorem laws_FnExactOpenWorkshop_ok : ∀ ds outs, F_FnExactOpenWorkshop ds = some outs → shL laws_FnExactOpenWorkshop_L (qRet outs) ds := F_FnExactOpenWorkshop_elim fun s l m hp => by
  rw [laws_FnExactOpenWorkshop_L_sh]
  by_cases h : (l.length : Int) ≤ 1048576
  · have h' : l.length ≤ 1048576 := by omega
    have h'' : l.length ≤ 4194304 := by omega
    obtain ⟨g1, g2, g3⟩ := openShop_fit (s := s) (m := m) h'
    have k1 : (openShop s l m).p.length ≤ 1048576 := by rw [g1]; simp
    have k2 : fitLL (openShop s l m).o := by rw [g2]; exact fit_nil
    have k3 : 1 + 2 * ((openShop s l m).p.length : Int) + 2 * sum2 (openShop s l m).o ≤ 1099511627776 := by rw [g1, g2]; simp [sum2]
    have k6 : (0 : Int) ≤ 1 + 2 * ((openShop s l m).p.length : Int) + 2 * sum2 (openShop s l m).o + (openShop s l m).c.length := by omega
    simp only [P1_len, P1_gtr, p_toIntS h', p_OpenWorkshop h', laws_FnExactOpenWorkshop_r0_sh, laws_FnExactOpenWorkshop_r1_sh]
    clear g1 g2
    generalize openShop s l m = W at *
    have k5 := fit_mark (1 + 2 * (W.p.length : Int)) k2
    have k7 : (0 : Int) ≤ 1 + l.length := by omega
    simp [h', p_eqWorkshop, k1, k2, g3, p_eqIntS, p_markIntS, h'', k7, p_markWorkshop, k3, p_heldWorkshop, k5, sum2_mark, markLL2_idem, k6]
  · simp
    intro hh; omega
end Go.Mw

/- The sample workshop: the law. -/
namespace Go.Mw
noncomputable section

def laws_FnExactSampleWorkshop_L : L := .seq (.rg []) (.seq (.rg [⟨[], .call F_SampleWorkshop 0 10, [], 10⟩]) (.seq (.rg [⟨[], .call F_SampleWorkshop 0 10, [], 10⟩]) (.seq (.seq (.rg [⟨[], .call F_eqWorkshop 0 1, [.v 10, .v 11, .v 12, .v 13, .v 14, .v 15, .v 16, .v 17, .v 18, .v 19, .v 0, .v 1, .v 2, .v 3, .v 4, .v 5, .v 6, .v 7, .v 8, .v 9], 1⟩, ⟨[], .un .not, [.v 20], 1⟩]) (.ite (.v 21) (.seq (.rg []) (.ret [.k (.bool false)])) (.skip))) (.seq (.rg []) (.seq (.rg [⟨[], .call F_markWorkshop 3 1, [.v 10, .v 11, .v 12, .v 13, .v 14, .v 15, .v 16, .v 17, .v 18, .v 19, .k (.int .i64 1), .v 12, .v 13, .v 14], 4⟩]) (.seq (.rg []) (.seq (.rg [⟨[], .call F_heldWorkshop 0 1, [.v 10, .v 11, .v 23, .v 24, .v 25, .v 15, .v 16, .v 17, .v 18, .v 19, .k (.int .i64 1)], 1⟩]) (.seq (.seq (.rg [⟨[], .bin .lss, [.v 26, .k (.int .i64 0)], 1⟩]) (.ite (.v 27) (.seq (.rg []) (.ret [.k (.bool false)])) (.skip))) (.seq (.seq (.rg [⟨[], .bin .neq, [.v 26, .v 22], 1⟩]) (.ite (.v 28) (.seq (.rg []) (.ret [.k (.bool false)])) (.skip))) (.seq (.rg [⟨[], .call F_SampleWorkshop 0 10, [], 10⟩]) (.seq (.seq (.rg [⟨[], .call F_eqWorkshop 0 1, [.v 29, .v 30, .v 31, .v 32, .v 33, .v 34, .v 35, .v 36, .v 37, .v 38, .v 0, .v 1, .v 2, .v 3, .v 4, .v 5, .v 6, .v 7, .v 8, .v 9], 1⟩, ⟨[], .un .not, [.v 39], 1⟩]) (.ite (.v 40) (.seq (.rg []) (.ret [.k (.bool false)])) (.skip))) (.seq (.rg []) (.seq (.rg [⟨[], .call F_heldWorkshop 0 1, [.v 10, .v 11, .v 23, .v 24, .v 25, .v 15, .v 16, .v 17, .v 18, .v 19, .k (.int .i64 1)], 1⟩]) (.seq (.seq (.rg [⟨[], .bin .lss, [.v 41, .k (.int .i64 0)], 1⟩]) (.ite (.v 42) (.seq (.rg []) (.ret [.k (.bool false)])) (.skip))) (.seq (.seq (.rg [⟨[], .bin .neq, [.v 41, .v 22], 1⟩]) (.ite (.v 43) (.seq (.rg []) (.ret [.k (.bool false)])) (.skip))) (.seq (.rg []) (.ret [.k (.bool true)])))))))))))))))))
theorem laws_FnExactSampleWorkshop_L_sh (Q : QT) : shL laws_FnExactSampleWorkshop_L Q [] = (
  P10 (.call F_SampleWorkshop 0 10) [] fun v0 v1 v2 v3 v4 v5 v6 v7 v8 v9 =>
  P10 (.call F_SampleWorkshop 0 10) [] fun v10 v11 v12 v13 v14 v15 v16 v17 v18 v19 =>
  P1 (.call F_eqWorkshop 0 1) [v10, v11, v12, v13, v14, v15, v16, v17, v18, v19, v0, v1, v2, v3, v4, v5, v6, v7, v8, v9] fun v20 =>
  P1 (.un .not) [v20] fun v21 =>
  ifB v21 (
    Q .ret [.bool false]) (
    P4 (.call F_markWorkshop 3 1) [v10, v11, v12, v13, v14, v15, v16, v17, v18, v19, .int .i64 1, v12, v13, v14] fun v22 v23 v24 v25 =>
    P1 (.call F_heldWorkshop 0 1) [v10, v11, v23, v24, v25, v15, v16, v17, v18, v19, .int .i64 1] fun v26 =>
    P1 (.bin .lss) [v26, .int .i64 0] fun v27 =>
    ifB v27 (
      Q .ret [.bool false]) (
      P1 (.bin .neq) [v26, v22] fun v28 =>
      ifB v28 (
        Q .ret [.bool false]) (
        P10 (.call F_SampleWorkshop 0 10) [] fun v29 v30 v31 v32 v33 v34 v35 v36 v37 v38 =>
        P1 (.call F_eqWorkshop 0 1) [v29, v30, v31, v32, v33, v34, v35, v36, v37, v38, v0, v1, v2, v3, v4, v5, v6, v7, v8, v9] fun v39 =>
        P1 (.un .not) [v39] fun v40 =>
        ifB v40 (
          Q .ret [.bool false]) (
          P1 (.call F_heldWorkshop 0 1) [v10, v11, v23, v24, v25, v15, v16, v17, v18, v19, .int .i64 1] fun v41 =>
          P1 (.bin .lss) [v41, .int .i64 0] fun v42 =>
          ifB v42 (
            Q .ret [.bool false]) (
            P1 (.bin .neq) [v41, v22] fun v43 =>
            ifB v43 (
              Q .ret [.bool false]) (
              Q .ret [.bool true]))))))) := by kernel_rfl
def laws_FnExactSampleWorkshop_S : Sig := ⟨[], [(false, [.sc])], F_FnExactSampleWorkshop⟩
def laws_FnExactSampleWorkshop_hs : List NF := []

end
theorem laws_FnExactSampleWorkshop_ok : ∀ ds outs, F_FnExactSampleWorkshop ds = some outs → shL laws_FnExactSampleWorkshop_L (qRet outs) ds := F_FnExactSampleWorkshop_elim fun _ => by
  rw [laws_FnExactSampleWorkshop_L_sh]
  obtain ⟨g1, g2, g3⟩ := openShop_fit (s := 16) (c := [12, 12, 16, 19]) (m := 40) (by simp)
  have k1 : (openShop 16 [12, 12, 16, 19] 40).p.length ≤ 1048576 := by rw [g1]; simp
  have k2 : fitLL (openShop 16 [12, 12, 16, 19] 40).o := by rw [g2]; exact fit_nil
  have k3 : 1 + 2 * ((openShop 16 [12, 12, 16, 19] 40).p.length : Int) + 2 * sum2 (openShop 16 [12, 12, 16, 19] 40).o ≤ 1099511627776 := by rw [g1, g2]; simp [sum2]
  have k6 : (0 : Int) ≤ 1 + 2 * ((openShop 16 [12, 12, 16, 19] 40).p.length : Int) + 2 * sum2 (openShop 16 [12, 12, 16, 19] 40).o + (openShop 16 [12, 12, 16, 19] 40).c.length := by omega
  simp only [p_SampleWorkshop]
  clear g1 g2
  generalize openShop 16 [12, 12, 16, 19] 40 = W at *
  have k5 := fit_mark (1 + 2 * (W.p.length : Int)) k2
  simp [p_eqWorkshop, k1, k2, g3, p_markWorkshop, k3, p_heldWorkshop, k5, sum2_mark, markLL2_idem, k6]
end Go.Mw

