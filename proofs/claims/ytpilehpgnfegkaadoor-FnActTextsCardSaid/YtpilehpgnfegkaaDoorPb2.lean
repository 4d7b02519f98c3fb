/- What functions of the program compute, as small pure programs, shown against plain Lean functions: no condition. -/
import Derived.Lib.ItoaMem
import Derived.Lib.ItoaLen
import Derived.Lib.AtoiAll
import Derived.Lib.Join
import Derived.Lib.Repeat
import Derived.Lib.Split
import Derived.KernelRfl
import Derived.Test.YtpilehpgnfegkaaDoorPb1
/- What functions compute, in plain terms: numbers and fields as texts. -/
namespace Go.Mw
/-! the library -/
def E_strconv_Itoa (n : Int) : List V := [.int .i64 n]
noncomputable def F_strconv_Itoa : List V → Option (List V) := mkF E_strconv_Itoa (fun n => -9223372036854775808 ≤ n ∧ n ≤ 9223372036854775807) (fun n => [.str (Go.Lib.itoa n)])
theorem F_strconv_Itoa_inj : ∀ x y, E_strconv_Itoa x = E_strconv_Itoa y → x = y := by
  rintro n n' h
  simpa [E_strconv_Itoa] using h
theorem p_strconv_Itoa {n : Int} {nr_ : Nat} {kk_ : V → Prop} (hp : -9223372036854775808 ≤ n ∧ n ≤ 9223372036854775807) : P1 (.call F_strconv_Itoa 0 nr_) [.int .i64 n] kk_ ↔ kk_ (.str (Go.Lib.itoa n)) :=
  P1_callF (by unfold F_strconv_Itoa; exact mkF_eq F_strconv_Itoa_inj (n) hp)

def atoiV (s : List UInt8) : Int := match Go.Lib.atoiAll s with
  | .ok v => v
  | .range => Go.Lib.atoiSat s
  | _ => 0
def atoiE (s : List UInt8) : Bool := match Go.Lib.atoiAll s with
  | .ok _ => false
  | _ => true
def E_strconv_Atoi (s : List UInt8) : List V := [.str s]
noncomputable def F_strconv_Atoi : List V → Option (List V) := mkF E_strconv_Atoi (fun s => s.length ≤ 281474976710656) (fun s => [.int .i64 (atoiV s), .err (atoiE s)])
theorem F_strconv_Atoi_inj : ∀ x y, E_strconv_Atoi x = E_strconv_Atoi y → x = y := by
  rintro s s' h
  simpa [E_strconv_Atoi] using h
theorem p_strconv_Atoi {s : List UInt8} {nr_ : Nat} {kk_ : V → V → Prop} (hp : s.length ≤ 281474976710656) : P2 (.call F_strconv_Atoi 0 nr_) [.str s] kk_ ↔ kk_ (.int .i64 (atoiV s)) (.err (atoiE s)) :=
  P2_callF (by unfold F_strconv_Atoi; exact mkF_eq F_strconv_Atoi_inj (s) hp)

def E_strings_Join : List (List UInt8) × List UInt8 → List V := fun (l, s) => [vL I1 vS l, .str s]
noncomputable def F_strings_Join : List V → Option (List V) := mkF E_strings_Join (fun (l, s) => l.length ≤ 140737488355328 ∧ (Go.Lib.join l s).length ≤ 140737488355328) (fun (l, s) => [.str (Go.Lib.join l s)])
theorem F_strings_Join_inj : ∀ x y, E_strings_Join x = E_strings_Join y → x = y := by
  rintro ⟨l, s⟩ ⟨l', s'⟩ h
  simpa [E_strings_Join] using h
theorem p_strings_Join {l : List (List UInt8)} {s : List UInt8} {nr_ : Nat} {kk_ : V → Prop} (hp : l.length ≤ 140737488355328 ∧ (Go.Lib.join l s).length ≤ 140737488355328) : P1 (.call F_strings_Join 0 nr_) [vL I1 vS l, .str s] kk_ ↔ kk_ (.str (Go.Lib.join l s)) :=
  P1_callF (by unfold F_strings_Join; exact mkF_eq F_strings_Join_inj (l, s) hp)

/-! numbers -/
def E_FormatInt (n : Int) : List V := [.int .i64 n]
noncomputable def F_FormatInt : List V → Option (List V) := mkF E_FormatInt (fun n => -9223372036854775808 ≤ n ∧ n ≤ 9223372036854775807) (fun n => [.str (Go.Lib.itoa n)])
theorem F_FormatInt_inj : ∀ x y, E_FormatInt x = E_FormatInt y → x = y := by
  rintro n n' h
  simpa [E_FormatInt] using h
theorem F_FormatInt_elim {P : List V → List V → Prop} (h : ∀ (n : Int), (-9223372036854775808 ≤ n ∧ n ≤ 9223372036854775807) → P [.int .i64 n] [.str (Go.Lib.itoa n)]) : ∀ ds outs, F_FormatInt ds = some outs → P ds outs := by
  intro ds outs hh
  obtain ⟨n, rfl, hp, rfl⟩ := mkF_inv hh
  exact h n hp
theorem p_FormatInt {n : Int} {nr_ : Nat} {kk_ : V → Prop} (hp : -9223372036854775808 ≤ n ∧ n ≤ 9223372036854775807) : P1 (.call F_FormatInt 0 nr_) [.int .i64 n] kk_ ↔ kk_ (.str (Go.Lib.itoa n)) :=
  P1_callF (by unfold F_FormatInt; exact mkF_eq F_FormatInt_inj (n) hp)

def E_l01Figure (n : Int) : List V := [.int .i64 n]
noncomputable def F_l01Figure : List V → Option (List V) := mkF E_l01Figure (fun n => 0 ≤ n ∧ n ≤ 9) (fun n => [.int .u8 ((UInt8.ofNat (48 + n.toNat))).toNat])
theorem F_l01Figure_inj : ∀ x y, E_l01Figure x = E_l01Figure y → x = y := by
  rintro n n' h
  simpa [E_l01Figure] using h
theorem F_l01Figure_elim {P : List V → List V → Prop} (h : ∀ (n : Int), (0 ≤ n ∧ n ≤ 9) → P [.int .i64 n] [.int .u8 ((UInt8.ofNat (48 + n.toNat))).toNat]) : ∀ ds outs, F_l01Figure ds = some outs → P ds outs := by
  intro ds outs hh
  obtain ⟨n, rfl, hp, rfl⟩ := mkF_inv hh
  exact h n hp
theorem p_l01Figure {n : Int} {nr_ : Nat} {kk_ : V → Prop} (hp : 0 ≤ n ∧ n ≤ 9) : P1 (.call F_l01Figure 0 nr_) [.int .i64 n] kk_ ↔ kk_ (.int .u8 ((UInt8.ofNat (48 + n.toNat))).toNat) :=
  P1_callF (by unfold F_l01Figure; exact mkF_eq F_l01Figure_inj (n) hp)

def isDig (b : UInt8) : Bool := decide (48 ≤ b.toNat) && decide (b.toNat ≤ 57)
/-- What digits spell. -/
def uval (s : List UInt8) : Nat := s.foldl (fun n b => 10 * n + (b.toNat - 48)) 0
def uOk (s : List UInt8) : Bool := decide (s.length ≤ 10) && (s.all isDig && (decide (uval s ≤ 1000000000) && decide (Go.Lib.itoa (uval s) = s)))
def uNum (s : List UInt8) : Int := if uOk s then uval s else 0
def E_ParseUint (s : List UInt8) : List V := [.str s]
noncomputable def F_ParseUint : List V → Option (List V) := mkF E_ParseUint (fun s => s.length ≤ 1048576) (fun s => [.int .i64 (uNum s), .bool (uOk s)])
theorem F_ParseUint_inj : ∀ x y, E_ParseUint x = E_ParseUint y → x = y := by
  rintro s s' h
  simpa [E_ParseUint] using h
theorem F_ParseUint_elim {P : List V → List V → Prop} (h : ∀ (s : List UInt8), (s.length ≤ 1048576) → P [.str s] [.int .i64 (uNum s), .bool (uOk s)]) : ∀ ds outs, F_ParseUint ds = some outs → P ds outs := by
  intro ds outs hh
  obtain ⟨s, rfl, hp, rfl⟩ := mkF_inv hh
  exact h s hp
theorem p_ParseUint {s : List UInt8} {nr_ : Nat} {kk_ : V → V → Prop} (hp : s.length ≤ 1048576) : P2 (.call F_ParseUint 0 nr_) [.str s] kk_ ↔ kk_ (.int .i64 (uNum s)) (.bool (uOk s)) :=
  P2_callF (by unfold F_ParseUint; exact mkF_eq F_ParseUint_inj (s) hp)


/-! fields -/
/-- The fields that end before the i-th byte, and where the next one begins. -/
def fieldsTo (s : List UInt8) : Nat → List (List UInt8) × Nat
  | 0 => ([], 0)
  | i + 1 => match s[i]? with
    | some b => if b = 32 then (if (fieldsTo s i).2 < i then (fieldsTo s i).1 ++ [(s.take i).drop (fieldsTo s i).2] else (fieldsTo s i).1, i + 1) else fieldsTo s i
    | none => (if (fieldsTo s i).2 < i then (fieldsTo s i).1 ++ [(s.take i).drop (fieldsTo s i).2] else (fieldsTo s i).1, i + 1)
def plainB (b : UInt8) : Bool := decide (32 ≤ b.toNat) && decide (b.toNat ≤ 126)
def fieldsOk (s : List UInt8) : Bool := decide (s.length ≤ 600) && (s.all plainB && decide ((fieldsTo s (s.length + 1)).1.length ≤ 24))
def fieldsOf (s : List UInt8) : List (List UInt8) := if fieldsOk s then (fieldsTo s (s.length + 1)).1 else []
def E_SplitFields (s : List UInt8) : List V := [.str s]
noncomputable def F_SplitFields : List V → Option (List V) := mkF E_SplitFields (fun s => s.length ≤ 1048576) (fun s => [vL I1 vS (fieldsOf s), .bool (fieldsOk s)])
theorem F_SplitFields_inj : ∀ x y, E_SplitFields x = E_SplitFields y → x = y := by
  rintro s s' h
  simpa [E_SplitFields] using h
theorem F_SplitFields_elim {P : List V → List V → Prop} (h : ∀ (s : List UInt8), (s.length ≤ 1048576) → P [.str s] [vL I1 vS (fieldsOf s), .bool (fieldsOk s)]) : ∀ ds outs, F_SplitFields ds = some outs → P ds outs := by
  intro ds outs hh
  obtain ⟨s, rfl, hp, rfl⟩ := mkF_inv hh
  exact h s hp
theorem p_SplitFields {s : List UInt8} {nr_ : Nat} {kk_ : V → V → Prop} (hp : s.length ≤ 1048576) : P2 (.call F_SplitFields 0 nr_) [.str s] kk_ ↔ kk_ (vL I1 vS (fieldsOf s)) (.bool (fieldsOk s)) :=
  P2_callF (by unfold F_SplitFields; exact mkF_eq F_SplitFields_inj (s) hp)


/-! acts -/
def actWord (k : Int) : List UInt8 := if k = 1 then [112, 105, 110] else if k = 2 then [112, 117, 108, 108] else if k = 3 then [98, 97, 99, 107] else if k = 4 then [119, 105, 110, 100] else if k = 5 then [112, 108, 97, 121] else [99, 108, 111, 115, 101]
def E_actWord (n : Int) : List V := [.int .i64 n]
noncomputable def F_actWord : List V → Option (List V) := mkF E_actWord (fun _ => True) (fun n => [.str (actWord n)])
theorem F_actWord_inj : ∀ x y, E_actWord x = E_actWord y → x = y := by
  rintro n n' h
  simpa [E_actWord] using h
theorem F_actWord_elim {P : List V → List V → Prop} (h : ∀ (n : Int), P [.int .i64 n] [.str (actWord n)]) : ∀ ds outs, F_actWord ds = some outs → P ds outs := by
  intro ds outs hh
  obtain ⟨n, rfl, -, rfl⟩ := mkF_inv hh
  exact h n
@[simp] theorem p_actWord {n : Int} {nr_ : Nat} {kk_ : V → Prop} : P1 (.call F_actWord 0 nr_) [.int .i64 n] kk_ ↔ kk_ (.str (actWord n)) :=
  P1_callF (by unfold F_actWord; exact mkF_eq F_actWord_inj (n) trivial)

def actNums (k : Int) : Nat := if k = 1 then 2 else if k = 2 ∨ k = 4 then 1 else 0
def E_actNumbers (n : Int) : List V := [.int .i64 n]
noncomputable def F_actNumbers : List V → Option (List V) := mkF E_actNumbers (fun _ => True) (fun n => [.int .i64 (actNums n)])
theorem F_actNumbers_inj : ∀ x y, E_actNumbers x = E_actNumbers y → x = y := by
  rintro n n' h
  simpa [E_actNumbers] using h
theorem F_actNumbers_elim {P : List V → List V → Prop} (h : ∀ (n : Int), P [.int .i64 n] [.int .i64 (actNums n)]) : ∀ ds outs, F_actNumbers ds = some outs → P ds outs := by
  intro ds outs hh
  obtain ⟨n, rfl, -, rfl⟩ := mkF_inv hh
  exact h n
@[simp] theorem p_actNumbers {n : Int} {nr_ : Nat} {kk_ : V → Prop} : P1 (.call F_actNumbers 0 nr_) [.int .i64 n] kk_ ↔ kk_ (.int .i64 (actNums n)) :=
  P1_callF (by unfold F_actNumbers; exact mkF_eq F_actNumbers_inj (n) trivial)

def fmtAct (a : T3) : List UInt8 := if actOk a then actWord a.a ++ (if actNums a.a = 2 then 32 :: (Go.Lib.itoa a.b ++ 32 :: Go.Lib.itoa a.c) else if actNums a.a = 1 then 32 :: Go.Lib.itoa a.b else []) else []
def E_FormatAct (x : T3) : List V := [.int .i64 x.a, .int .i64 x.b, .int .i64 x.c]
noncomputable def F_FormatAct : List V → Option (List V) := mkF E_FormatAct (fun _ => True) (fun x => [.str (fmtAct x), .bool (actOk x)])
theorem F_FormatAct_inj : ∀ x y, E_FormatAct x = E_FormatAct y → x = y := by
  rintro ⟨xa, xb, xc⟩ ⟨xa', xb', xc'⟩ h
  simpa [E_FormatAct] using h
theorem F_FormatAct_elim {P : List V → List V → Prop} (h : ∀ (x : T3), P [.int .i64 x.a, .int .i64 x.b, .int .i64 x.c] [.str (fmtAct x), .bool (actOk x)]) : ∀ ds outs, F_FormatAct ds = some outs → P ds outs := by
  intro ds outs hh
  obtain ⟨x, rfl, -, rfl⟩ := mkF_inv hh
  exact h x
@[simp] theorem p_FormatAct {x_a : Int} {x_b : Int} {x_c : Int} {nr_ : Nat} {kk_ : V → V → Prop} : P2 (.call F_FormatAct 0 nr_) [.int .i64 x_a, .int .i64 x_b, .int .i64 x_c] kk_ ↔ kk_ (.str (fmtAct (⟨x_a, x_b, x_c⟩ : T3))) (.bool (actOk (⟨x_a, x_b, x_c⟩ : T3))) :=
  P2_callF (by unfold F_FormatAct; exact mkF_eq F_FormatAct_inj ((⟨x_a, x_b, x_c⟩ : T3)) trivial)

end Go.Mw

/- Numerals, in plain terms. -/
namespace Go.Mw
open Go.Lib (decDigits)
theorem dec_small {u : Nat} (h : u < 10) : decDigits u = [UInt8.ofNat (48 + u)] := by rw [decDigits, dif_pos h]
theorem dec_big {u : Nat} (h : ¬ u < 10) : decDigits u = decDigits (u / 10) ++ [UInt8.ofNat (48 + u % 10)] := by rw [decDigits, dif_neg h]
/-- The digits of a number, none for 0. -/
def digs (u : Nat) : List UInt8 := if u = 0 then [] else decDigits u
theorem digs_step {u : Nat} (h : u ≠ 0) : digs u = digs (u / 10) ++ [UInt8.ofNat (48 + u % 10)] := by
  unfold digs
  rw [if_neg h]
  by_cases h2 : u < 10
  · rw [if_pos (by omega), dec_small h2, show u % 10 = u by omega]; rfl
  · rw [if_neg (by omega), dec_big h2]
theorem dig_nat {d : Nat} (h : d < 10) : (UInt8.ofNat (48 + d)).toNat = 48 + d := by
  simp; omega
theorem isDig_ofNat {d : Nat} (h : d < 10) : isDig (UInt8.ofNat (48 + d)) = true := by
  simp only [isDig, dig_nat h, Bool.and_eq_true, decide_eq_true_eq]; omega
theorem all_one {d : Nat} (h : d < 10) : ([UInt8.ofNat (48 + d)] : List UInt8).all isDig = true := by
  rw [List.all_cons, List.all_nil, Bool.and_true]; exact isDig_ofNat h
theorem dec_digs : ∀ (n u : Nat), u ≤ n → (decDigits u).all isDig = true ∧ decDigits u ≠ []
  | 0, u, h => by
    obtain rfl : u = 0 := by omega
    rw [dec_small (by omega)]
    exact ⟨all_one (by omega), by simp⟩
  | n + 1, u, h => by
    by_cases h2 : u < 10
    · rw [dec_small h2]; exact ⟨all_one h2, by simp⟩
    · rw [dec_big h2]
      have ih := dec_digs n (u / 10) (by omega)
      exact ⟨by rw [List.all_append, ih.1, all_one (by omega)]; rfl, by simp⟩
theorem dec_dig (u : Nat) : (decDigits u).all isDig = true := (dec_digs u u (Nat.le_refl _)).1
theorem dec_ne (u : Nat) : decDigits u ≠ [] := (dec_digs u u (Nat.le_refl _)).2
theorem uval_snoc (s : List UInt8) (b : UInt8) : uval (s ++ [b]) = 10 * uval s + (b.toNat - 48) := by simp [uval, List.foldl_append]
theorem uval_dec : ∀ (n u : Nat), u ≤ n → uval (decDigits u) = u
  | 0, u, h => by
    obtain rfl : u = 0 := by omega
    rw [dec_small (by omega)]
    simp [uval]
  | n + 1, u, h => by
    by_cases h2 : u < 10
    · rw [dec_small h2]
      show 10 * 0 + ((UInt8.ofNat (48 + u)).toNat - 48) = u
      rw [dig_nat h2]; omega
    · rw [dec_big h2, uval_snoc, uval_dec n (u / 10) (by omega), dig_nat (show u % 10 < 10 by omega)]; omega
theorem uval_decDigits (u : Nat) : uval (decDigits u) = u := uval_dec u u (Nat.le_refl _)
theorem dec_len : ∀ (k u : Nat), u < 10 ^ (k + 1) → (decDigits u).length ≤ k + 1
  | 0, u, h => by rw [dec_small (by simpa using h)]; simp
  | k + 1, u, h => by
    by_cases h2 : u < 10
    · rw [dec_small h2]; simp
    · rw [dec_big h2, List.length_append]
      have h3 : u < 10 * 10 ^ (k + 1) := by rw [Nat.mul_comm, ← Nat.pow_succ]; exact h
      have := dec_len k (u / 10) (by omega)
      simp only [List.length_singleton]; omega
theorem uval_lt : ∀ {s : List UInt8}, s.all isDig = true → uval s < 10 ^ s.length := by
  intro s
  suffices H : ∀ (r : List UInt8), r.reverse.all isDig = true → uval r.reverse < 10 ^ r.length from by
    intro h
    have := H s.reverse (by simpa using h)
    simpa using this
  intro r
  induction r with
  | nil => intro _; simp [uval]
  | cons b r ih =>
    intro h
    rw [List.reverse_cons] at h ⊢
    simp only [List.all_append, List.all_cons, List.all_nil, Bool.and_true, Bool.and_eq_true, isDig, decide_eq_true_eq] at h
    have h1 := ih (by simpa [isDig] using h.1)
    rw [uval_snoc, List.length_cons, Nat.pow_succ]
    omega
theorem itoa_pos (u : Nat) : Go.Lib.itoa (u : Int) = decDigits u := Go.Lib.itoa_nonneg u

/-! parsing -/
theorem parse_digits : ∀ {s : List UInt8} {acc : Nat}, s.all isDig = true → (acc + 1) * 10 ^ s.length ≤ 18446744073709551616 → Go.Lib.parseUint10 acc s = .ok (acc * 10 ^ s.length + uval s)
  | [], acc, _, _ => by simp [Go.Lib.parseUint10, uval]
  | b :: r, acc, h, hb => by
    simp only [List.all_cons, Bool.and_eq_true] at h
    have hd := h.1
    simp only [isDig, Bool.and_eq_true, decide_eq_true_eq] at hd
    have h10 : 1 ≤ 10 ^ r.length := Nat.pos_of_ne_zero (by simp)
    rw [List.length_cons, Nat.pow_succ] at hb
    have hb2 : (acc + 1) * 10 * 10 ^ r.length ≤ 18446744073709551616 := by
      rw [Nat.mul_assoc, Nat.mul_comm 10]; exact hb
    have hb3 : (acc * 10 + (b.toNat - 48) + 1) * 10 ^ r.length ≤ 18446744073709551616 :=
      Nat.le_trans (Nat.mul_le_mul_right _ (by omega)) hb2
    have hb4 : acc * 10 + (b.toNat - 48) + 1 ≤ 18446744073709551616 := Nat.le_trans (Nat.le_mul_of_pos_right _ h10) hb3
    have hb5 : (acc + 1) * 10 ≤ 18446744073709551616 := Nat.le_trans (Nat.le_mul_of_pos_right _ h10) hb2
    unfold Go.Lib.parseUint10
    rw [if_pos hd, if_neg (by omega), if_neg (by omega), parse_digits h.2 hb3]
    congr 1
    have e : uval (b :: r) = (b.toNat - 48) * 10 ^ r.length + uval r := by
      have key : ∀ (q : List UInt8) (a : Nat), q.foldl (fun n b => 10 * n + (b.toNat - 48)) a = a * 10 ^ q.length + uval q := by
        intro q
        induction q with
        | nil => intro a; simp [uval]
        | cons c q ih =>
          intro a
          rw [List.foldl_cons, ih, List.length_cons, Nat.pow_succ]
          have : uval (c :: q) = q.foldl (fun n b => 10 * n + (b.toNat - 48)) (10 * 0 + (c.toNat - 48)) := rfl
          rw [this, ih, Nat.add_mul, Nat.add_mul, Nat.add_assoc]
          congr 1
          · rw [Nat.mul_comm 10 a, Nat.mul_assoc, Nat.mul_comm 10]
          · simp
      have : uval (b :: r) = r.foldl (fun n b => 10 * n + (b.toNat - 48)) (10 * 0 + (b.toNat - 48)) := rfl
      rw [this, key]; simp
    rw [e, List.length_cons, Nat.pow_succ, Nat.add_mul, Nat.add_assoc]
    congr 1
    rw [Nat.mul_assoc, Nat.mul_comm 10]
/-- strconv.Atoi at a short row of digits. -/
theorem atoi_digits {s : List UInt8} (h : s.all isDig = true) (h0 : s ≠ []) (hl : s.length ≤ 18) : Go.Lib.atoiAll s = .ok (uval s : Int) := by
  match s, h0 with
  | c :: r, _ =>
    have hd := h
    simp only [List.all_cons, Bool.and_eq_true, isDig, decide_eq_true_eq] at hd
    have e2 : ¬ c.toNat = 45 := by omega
    have hlt := uval_lt h
    have hp : (10 : Nat) ^ (c :: r).length ≤ 10 ^ 18 := Nat.pow_le_pow_right (by omega) hl
    have hq := parse_digits (acc := 0) h (by rw [Nat.zero_add, Nat.one_mul]; exact Nat.le_trans hp (by decide))
    have hm : Go.Lib.parseMag (c :: r) = .ok (uval (c :: r)) := by
      unfold Go.Lib.parseMag
      rw [if_neg (by simp), hq]; simp
    have hb : uval (c :: r) < 1000000000000000000 := Nat.lt_of_lt_of_le hlt hp
    have e3 : ¬ (c.toNat = 43 ∨ False) := by rintro (h | h)
                                             · omega
                                             · exact h
    simp only [Go.Lib.atoiAll, e2, not_false_eq_true, true_and, false_and, if_false]
    rw [if_neg e3, hm]
    show (if 9223372036854775808 ≤ uval (c :: r) then Go.Lib.NumEnd.range else Go.Lib.NumEnd.ok (uval (c :: r) : Int)) = _
    rw [if_neg (Nat.not_le.mpr (Nat.lt_trans hb (by decide)))]
/-- What a number is parsed to, and when. -/
theorem atoi_back {s : List UInt8} : (atoiE s = false ∧ (0 ≤ atoiV s ∧ (atoiV s ≤ 1000000000 ∧ Go.Lib.itoa (atoiV s) = s))) ↔ uOk s = true := by
  constructor
  · rintro ⟨-, h1, h2, h3⟩
    obtain ⟨u, hu⟩ : ∃ u : Nat, atoiV s = u := ⟨(atoiV s).toNat, by omega⟩
    rw [hu, itoa_pos] at h3
    rw [hu] at h2
    have hv : uval s = u := by rw [← h3]; exact uval_decDigits u
    simp only [uOk, Bool.and_eq_true, decide_eq_true_eq]
    refine ⟨?_, ?_, by omega, by rw [hv, itoa_pos]; exact h3⟩
    · rw [← h3]; exact dec_len 9 u (by omega)
    · rw [← h3]; exact dec_dig u
  · intro h
    simp only [uOk, Bool.and_eq_true, decide_eq_true_eq] at h
    obtain ⟨h1, h2, h3, h4⟩ := h
    have h0 : s ≠ [] := by rw [← h4, itoa_pos]; exact dec_ne _
    have ha := atoi_digits h2 h0 (by omega)
    have hv : atoiV s = uval s := by simp [atoiV, ha]
    refine ⟨by simp [atoiE, ha], by omega, by omega, by rw [hv]; exact h4⟩
theorem atoi_num {s : List UInt8} (h : uOk s = true) : atoiV s = uval s := by
  simp only [uOk, Bool.and_eq_true, decide_eq_true_eq] at h
  obtain ⟨h1, h2, h3, h4⟩ := h
  have h0 : s ≠ [] := by rw [← h4, itoa_pos]; exact dec_ne _
  simp [atoiV, atoi_digits h2 h0 (by omega)]
theorem uOk_small {s : List UInt8} (h : uOk s = true) : uNum s = uval s ∧ 0 ≤ uNum s ∧ uNum s ≤ 1000000000 := by
  have h2 := h
  simp only [uOk, Bool.and_eq_true, decide_eq_true_eq] at h2
  unfold uNum
  rw [if_pos h]
  omega
end Go.Mw

/- Functions of the program, as small pure programs (printed by a program of ours). -/
namespace Go.Mw
noncomputable section
def spec_l01Figure_L : L := .seq (.rg []) (.seq (.seq (.rg [⟨[], .bin .lss, [.v 0, .k (.int .i64 10)], 1⟩]) (.ite (.v 1) (.seq (.rg [⟨[], .bin .add, [.k (.int .i64 48), .v 0], 1⟩, ⟨[], .conv .u8, [.v 2], 1⟩]) (.ret [.v 3])) (.skip))) (.seq (.rg [⟨[], .bin .add, [.k (.int .i64 97), .v 0], 1⟩, ⟨[], .bin .sub, [.v 2, .k (.int .i64 10)], 1⟩, ⟨[], .conv .u8, [.v 3], 1⟩]) (.ret [.v 4])))
theorem spec_l01Figure_L_sh (Q : QT) (x0 : V) : shL spec_l01Figure_L Q [x0] = (
  P1 (.bin .lss) [x0, .int .i64 10] fun v0 =>
  ifB v0 (
    P1 (.bin .add) [.int .i64 48, x0] fun v1 =>
    P1 (.conv .u8) [v1] fun v2 =>
    Q .ret [v2]) (
    P1 (.bin .add) [.int .i64 97, x0] fun v3 =>
    P1 (.bin .sub) [v3, .int .i64 10] fun v4 =>
    P1 (.conv .u8) [v4] fun v5 =>
    Q .ret [v5])) := by kernel_rfl
def spec_l01Figure_S : Sig := ⟨[.val false [.sc]], [(false, [.sc])], F_l01Figure⟩
def spec_l01Figure_hs : List NF := []

def spec_FormatInt_b0 : L := .seq (.seq (.seq (.rg [⟨[], .bin .neq, [.v 0, .k (.int .i64 0)], 1⟩]) (.ite (.v 3) (.skip) (.seq (.tup [.v 1, .v 2]) (.exit 0)))) (.block 1 (.seq (.seq (.rg [⟨[], .bin .rem, [.v 0, .k (.int .i64 10)], 1⟩]) (.seq (.seq (.rg [⟨[], .bin .lss, [.v 4, .k (.int .i64 0)], 1⟩]) (.ite (.v 5) (.seq (.rg [⟨[], .un .neg, [.v 4], 1⟩]) (.tup [.v 0, .v 1, .v 2, .v 6])) (.seq (.skip) (.tup [.v 0, .v 1, .v 2, .v 4])))) (.seq (.rg [⟨[], .call F_l01Figure 0 1, [.v 3], 1⟩, ⟨[], .lst [.sc] false 1, [.v 4], 1⟩, ⟨[], .b2s, [.v 5], 1⟩, ⟨[], .bin .add, [.v 6, .v 2], 1⟩]) (.rg [⟨[], .bin .quo, [.v 0, .k (.int .i64 10)], 1⟩])))) (.tup [.v 8, .v 1, .v 7])))) (.tup [.v 0, .v 1, .v 2])
theorem spec_FormatInt_b0_sh (Q : QT) (x0 x1 x2 : V) : shL spec_FormatInt_b0 Q [x0, x1, x2] = (
  P1 (.bin .neq) [x0, .int .i64 0] fun v0 =>
  ifB v0 (
    P1 (.bin .rem) [x0, .int .i64 10] fun v1 =>
    P1 (.bin .lss) [v1, .int .i64 0] fun v2 =>
    ifB v2 (
      P1 (.un .neg) [v1] fun v3 =>
      P1 (.call F_l01Figure 0 1) [v3] fun v4 =>
      P1 (.lst [.sc] false 1) [v4] fun v5 =>
      P1 (.b2s) [v5] fun v6 =>
      P1 (.bin .add) [v6, x2] fun v7 =>
      P1 (.bin .quo) [x0, .int .i64 10] fun v8 =>
      Q .normal [v8, x1, v7]) (
      P1 (.call F_l01Figure 0 1) [v1] fun v9 =>
      P1 (.lst [.sc] false 1) [v9] fun v10 =>
      P1 (.b2s) [v10] fun v11 =>
      P1 (.bin .add) [v11, x2] fun v12 =>
      P1 (.bin .quo) [x0, .int .i64 10] fun v13 =>
      Q .normal [v13, x1, v12])) (
    Q (.exit 0) [x1, x2])) := by kernel_rfl

def spec_FormatInt_r1 : L := .seq (.seq (.rg []) (.ite (.v 0) (.seq (.rg [⟨[], .bin .add, [.k (.str [45]), .v 1], 1⟩]) (.ret [.v 2])) (.skip))) (.seq (.rg []) (.ret [.v 1]))
theorem spec_FormatInt_r1_sh (Q : QT) (x0 x1 : V) : shL spec_FormatInt_r1 Q [x0, x1] = (
  ifB x0 (
    P1 (.bin .add) [.str [45], x1] fun v0 =>
    Q .ret [v0]) (
    Q .ret [x1])) := by kernel_rfl

def spec_FormatInt_L : L := .seq (.rg []) (.seq (.seq (.rg [⟨[], .bin .eql, [.v 0, .k (.int .i64 0)], 1⟩]) (.ite (.v 1) (.seq (.rg []) (.ret [.k (.str [48])])) (.skip))) (.seq (.rg [⟨[], .bin .lss, [.v 0, .k (.int .i64 0)], 1⟩]) (.seq (.rg []) (.seq (.block 0 (.seq (.tup [.v 0, .v 2, .k (.str [])]) (.loop (spec_FormatInt_b0)))) (spec_FormatInt_r1)))))
theorem spec_FormatInt_L_sh (Q : QT) (x0 : V) : shL spec_FormatInt_L Q [x0] = (
  P1 (.bin .eql) [x0, .int .i64 0] fun v0 =>
  ifB v0 (
    Q .ret [.str [48]]) (
    P1 (.bin .lss) [x0, .int .i64 0] fun v1 =>
    shL (.loop spec_FormatInt_b0) (qB 0 (qS (shL spec_FormatInt_r1 Q) Q)) [x0, v1, .str []])) := by kernel_rfl
def spec_FormatInt_S : Sig := ⟨[.val false [.sc]], [(false, [.sc])], F_FormatInt⟩
def spec_FormatInt_hs : List NF := [⟨[(3, .sc false [.sc]), (4, .sc false [.sc])], [], [], 64⟩, ⟨[(0, .sc false [.sc]), (3, .sc false [.sc]), (4, .sc false [.sc])], [], [], 64⟩, ⟨[(0, .sc false [.sc]), (3, .sc false [.sc]), (4, .sc false [.sc])], [], [], 64⟩, ⟨[(0, .sc false [.sc]), (3, .sc false [.sc]), (4, .sc false [.sc]), (5, .sc false [.sc])], [], [], 64⟩]

def spec_FormatAct_b0 : L := .seq (.seq (.seq (.rg [⟨[], .bin .lss, [.v 2, .v 1], 1⟩]) (.ite (.v 4) (.skip) (.seq (.tup [.v 0]) (.exit 0)))) (.seq (.block 1 (.seq (.rg [⟨[], .bin .add, [.v 0, .k (.str [32])], 1⟩, ⟨[], .idx [.sc], [.v 3, .v 2], 1⟩, ⟨[], .call F_FormatInt 0 1, [.v 6], 1⟩, ⟨[], .bin .add, [.v 5, .v 7], 1⟩]) (.tup [.v 8, .v 1, .v 2, .v 3]))) (.rg [⟨[], .bin .add, [.v 2, .k (.int .i64 1)], 1⟩]))) (.tup [.v 0, .v 1, .v 4, .v 3])
theorem spec_FormatAct_b0_sh (Q : QT) (x0 x1 x2 x3 : V) : shL spec_FormatAct_b0 Q [x0, x1, x2, x3] = (
  P1 (.bin .lss) [x2, x1] fun v0 =>
  ifB v0 (
    P1 (.bin .add) [x0, .str [32]] fun v1 =>
    P1 (.idx [.sc]) [x3, x2] fun v2 =>
    P1 (.call F_FormatInt 0 1) [v2] fun v3 =>
    P1 (.bin .add) [v1, v3] fun v4 =>
    P1 (.bin .add) [x2, .int .i64 1] fun v5 =>
    Q .normal [v4, x1, v5, x3]) (
    Q (.exit 0) [x0])) := by kernel_rfl

def spec_FormatAct_r1 : L := .seq (.rg []) (.ret [.v 0, .k (.bool true)])
theorem spec_FormatAct_r1_sh (Q : QT) (x0 : V) : shL spec_FormatAct_r1 Q [x0] = (
  Q .ret [x0, .bool true]) := by kernel_rfl

def spec_FormatAct_L : L := .seq (.rg []) (.seq (.seq (.rg [⟨[], .call F_ActOk 0 1, [.v 0, .v 1, .v 2], 1⟩, ⟨[], .un .not, [.v 3], 1⟩]) (.ite (.v 4) (.seq (.rg []) (.ret [.k (.str []), .k (.bool false)])) (.skip))) (.seq (.rg [⟨[], .lst [.sc] false 7, [.k (.str []), .k (.str [112, 105, 110]), .k (.str [112, 117, 108, 108]), .k (.str [98, 97, 99, 107]), .k (.str [119, 105, 110, 100]), .k (.str [112, 108, 97, 121]), .k (.str [99, 108, 111, 115, 101])], 1⟩, ⟨[], .idx [.sc], [.v 5, .v 0], 1⟩]) (.seq (.rg [⟨[], .lst [.sc] false 7, [.k (.int .i64 0), .k (.int .i64 2), .k (.int .i64 1), .k (.int .i64 0), .k (.int .i64 1), .k (.int .i64 0), .k (.int .i64 0)], 1⟩, ⟨[], .idx [.sc], [.v 7, .v 0], 1⟩]) (.seq (.rg [⟨[], .lst [.sc] false 2, [.v 1, .v 2], 1⟩]) (.seq (.seq (.rg []) (.block 0 (.seq (.tup [.v 6, .v 8, .k (.int .i64 0), .v 9]) (.loop (spec_FormatAct_b0))))) (spec_FormatAct_r1))))))
theorem spec_FormatAct_L_sh (Q : QT) (x0 x1 x2 : V) : shL spec_FormatAct_L Q [x0, x1, x2] = (
  P1 (.call F_ActOk 0 1) [x0, x1, x2] fun v0 =>
  P1 (.un .not) [v0] fun v1 =>
  ifB v1 (
    Q .ret [.str [], .bool false]) (
    P1 (.lst [.sc] false 7) [.str [], .str [112, 105, 110], .str [112, 117, 108, 108], .str [98, 97, 99, 107], .str [119, 105, 110, 100], .str [112, 108, 97, 121], .str [99, 108, 111, 115, 101]] fun v2 =>
    P1 (.idx [.sc]) [v2, x0] fun v3 =>
    P1 (.lst [.sc] false 7) [.int .i64 0, .int .i64 2, .int .i64 1, .int .i64 0, .int .i64 1, .int .i64 0, .int .i64 0] fun v4 =>
    P1 (.idx [.sc]) [v4, x0] fun v5 =>
    P1 (.lst [.sc] false 2) [x1, x2] fun v6 =>
    shL (.loop spec_FormatAct_b0) (qB 0 (qS (shL spec_FormatAct_r1 Q) Q)) [v3, v5, .int .i64 0, v6])) := by kernel_rfl
def spec_FormatAct_S : Sig := ⟨[.val true [.sc, .sc, .sc]], [(false, [.sc]), (false, [.sc])], F_FormatAct⟩
def spec_FormatAct_hs : List NF := [⟨[(4, .sc false [.sc])], [], [], 64⟩, ⟨[(4, .sc false [.sc]), (5, .sc false [.sc]), (6, .sc false [.own 64]), (7, .sc false [.sc])], [(64, true, [.sc])], [], 65⟩, ⟨[(4, .sc false [.sc]), (5, .sc false [.sc]), (6, .sc false [.own 64]), (7, .sc false [.sc])], [(64, true, [.sc])], [], 65⟩]

def impl_actWord_L : L := .seq (.rg []) (.seq (.seq (.rg []) (.block 0 (.seq (.seq (.rg [⟨[], .bin .eql, [.v 0, .k (.int .i64 1)], 1⟩]) (.ite (.v 1) (.seq (.rg []) (.ret [.k (.str [112, 105, 110])])) (.seq (.rg [⟨[], .bin .eql, [.v 0, .k (.int .i64 2)], 1⟩]) (.ite (.v 2) (.seq (.rg []) (.ret [.k (.str [112, 117, 108, 108])])) (.seq (.rg [⟨[], .bin .eql, [.v 0, .k (.int .i64 3)], 1⟩]) (.ite (.v 3) (.seq (.rg []) (.ret [.k (.str [98, 97, 99, 107])])) (.seq (.rg [⟨[], .bin .eql, [.v 0, .k (.int .i64 4)], 1⟩]) (.ite (.v 4) (.seq (.rg []) (.ret [.k (.str [119, 105, 110, 100])])) (.seq (.rg [⟨[], .bin .eql, [.v 0, .k (.int .i64 5)], 1⟩]) (.ite (.v 5) (.seq (.rg []) (.ret [.k (.str [112, 108, 97, 121])])) (.skip))))))))))) (.tup [])))) (.seq (.rg []) (.ret [.k (.str [99, 108, 111, 115, 101])])))
theorem impl_actWord_L_sh (Q : QT) (x0 : V) : shL impl_actWord_L Q [x0] = (
  P1 (.bin .eql) [x0, .int .i64 1] fun v0 =>
  ifB v0 (
    Q .ret [.str [112, 105, 110]]) (
    P1 (.bin .eql) [x0, .int .i64 2] fun v1 =>
    ifB v1 (
      Q .ret [.str [112, 117, 108, 108]]) (
      P1 (.bin .eql) [x0, .int .i64 3] fun v2 =>
      ifB v2 (
        Q .ret [.str [98, 97, 99, 107]]) (
        P1 (.bin .eql) [x0, .int .i64 4] fun v3 =>
        ifB v3 (
          Q .ret [.str [119, 105, 110, 100]]) (
          P1 (.bin .eql) [x0, .int .i64 5] fun v4 =>
          ifB v4 (
            Q .ret [.str [112, 108, 97, 121]]) (
            Q .ret [.str [99, 108, 111, 115, 101]])))))) := by kernel_rfl
def impl_actWord_S : Sig := ⟨[.val false [.sc]], [(false, [.sc])], F_actWord⟩
def impl_actWord_hs : List NF := [⟨[], [], [], 64⟩]

def impl_FormatInt_L : L := .seq (.rg []) (.seq (.rg [⟨[], .call F_strconv_Itoa 0 1, [.v 0], 1⟩]) (.ret [.v 1]))
theorem impl_FormatInt_L_sh (Q : QT) (x0 : V) : shL impl_FormatInt_L Q [x0] = (
  P1 (.call F_strconv_Itoa 0 1) [x0] fun v0 =>
  Q .ret [v0]) := by kernel_rfl
def impl_FormatInt_S : Sig := ⟨[.val false [.sc]], [(false, [.sc])], F_FormatInt⟩
def impl_FormatInt_hs : List NF := []

def impl_actNumbers_L : L := .seq (.rg []) (.seq (.seq (.rg []) (.block 0 (.seq (.seq (.rg [⟨[], .bin .eql, [.v 0, .k (.int .i64 1)], 1⟩]) (.ite (.v 1) (.seq (.rg []) (.ret [.k (.int .i64 2)])) (.seq (.seq (.rg [⟨[], .bin .eql, [.v 0, .k (.int .i64 2)], 1⟩]) (.ite (.v 2) (.seq (.skip) (.tup [.v 2])) (.seq (.rg [⟨[], .bin .eql, [.v 0, .k (.int .i64 4)], 1⟩]) (.tup [.v 3])))) (.ite (.v 0) (.seq (.rg []) (.ret [.k (.int .i64 1)])) (.skip))))) (.tup [])))) (.seq (.rg []) (.ret [.k (.int .i64 0)])))
theorem impl_actNumbers_L_sh (Q : QT) (x0 : V) : shL impl_actNumbers_L Q [x0] = (
  P1 (.bin .eql) [x0, .int .i64 1] fun v0 =>
  ifB v0 (
    Q .ret [.int .i64 2]) (
    P1 (.bin .eql) [x0, .int .i64 2] fun v1 =>
    ifB v1 (
      Q .ret [.int .i64 1]) (
      P1 (.bin .eql) [x0, .int .i64 4] fun v2 =>
      ifB v2 (
        Q .ret [.int .i64 1]) (
        Q .ret [.int .i64 0])))) := by kernel_rfl
def impl_actNumbers_S : Sig := ⟨[.val false [.sc]], [(false, [.sc])], F_actNumbers⟩
def impl_actNumbers_hs : List NF := [⟨[], [], [], 64⟩, ⟨[(6, .sc false [.sc])], [], [], 64⟩]

def impl_FormatAct_L : L := .seq (.rg []) (.seq (.seq (.rg [⟨[], .call F_ActOk 0 1, [.v 0, .v 1, .v 2], 1⟩, ⟨[], .un .not, [.v 3], 1⟩]) (.ite (.v 4) (.seq (.rg []) (.ret [.k (.str []), .k (.bool false)])) (.skip))) (.seq (.rg [⟨[], .call F_actWord 0 1, [.v 0], 1⟩, ⟨[], .call F_FormatInt 0 1, [.v 1], 1⟩, ⟨[], .call F_FormatInt 0 1, [.v 2], 1⟩, ⟨[], .lst [.sc] false 3, [.v 5, .v 6, .v 7], 1⟩]) (.seq (.rg [⟨[], .call F_actNumbers 0 1, [.v 0], 1⟩, ⟨[], .bin .add, [.k (.int .i64 1), .v 9], 1⟩, ⟨[], .lsub [.sc], [.v 8, .k (.int .i64 0), .v 10], 1⟩, ⟨[], .call F_strings_Join 0 1, [.v 11, .k (.str [32])], 1⟩]) (.ret [.v 12, .k (.bool true)]))))
theorem impl_FormatAct_L_sh (Q : QT) (x0 x1 x2 : V) : shL impl_FormatAct_L Q [x0, x1, x2] = (
  P1 (.call F_ActOk 0 1) [x0, x1, x2] fun v0 =>
  P1 (.un .not) [v0] fun v1 =>
  ifB v1 (
    Q .ret [.str [], .bool false]) (
    P1 (.call F_actWord 0 1) [x0] fun v2 =>
    P1 (.call F_FormatInt 0 1) [x1] fun v3 =>
    P1 (.call F_FormatInt 0 1) [x2] fun v4 =>
    P1 (.lst [.sc] false 3) [v2, v3, v4] fun v5 =>
    P1 (.call F_actNumbers 0 1) [x0] fun v6 =>
    P1 (.bin .add) [.int .i64 1, v6] fun v7 =>
    P1 (.lsub [.sc]) [v5, .int .i64 0, v7] fun v8 =>
    P1 (.call F_strings_Join 0 1) [v8, .str [32]] fun v9 =>
    Q .ret [v9, .bool true])) := by kernel_rfl
def impl_FormatAct_S : Sig := ⟨[.val true [.sc, .sc, .sc]], [(false, [.sc]), (false, [.sc])], F_FormatAct⟩
def impl_FormatAct_hs : List NF := []

end
end Go.Mw

/- Numbers and acts as texts. -/
namespace Go.Mw
open Go.Lib (decDigits itoa)
section
variable {k : V → Prop}
@[simp] theorem P1_addS {x y : List UInt8} : P1 (.bin .add) [.str x, .str y] k ↔ x.length + y.length ≤ 1073741824 ∧ k (.str (x ++ y)) := P1_opt (by simp [Prim.run, binV, binS]) k
@[simp] theorem P1_neqS {x y : List UInt8} : P1 (.bin .neq) [.str x, .str y] k ↔ k (.bool (!(x == y))) := P1_of (by simp [Prim.run, binV, binS]) k
@[simp] theorem P1_eqlS {x y : List UInt8} : P1 (.bin .eql) [.str x, .str y] k ↔ k (.bool (x == y)) := P1_of (by simp [Prim.run, binV, binS]) k
@[simp] theorem P1_lstY1 {b : UInt8} : P1 (.lst [.sc] false 1) [.int .u8 b.toNat] k ↔ k (vL I1 vY [b]) := P1_of (by simp [Prim.run, aksOk, akOk, chunk, V.pack, vL, vY]) k
@[simp] theorem P1_lstS3 {a b c : List UInt8} : P1 (.lst [.sc] false 3) [.str a, .str b, .str c] k ↔ k (vL I1 vS [a, b, c]) := P1_of (by simp [Prim.run, aksOk, akOk, chunk, V.pack, vL, vS]) k
@[simp] theorem P1_lstS7 {a b c d e f g : List UInt8} : P1 (.lst [.sc] false 7) [.str a, .str b, .str c, .str d, .str e, .str f, .str g] k ↔ k (vL I1 vS [a, b, c, d, e, f, g]) := P1_of (by simp [Prim.run, aksOk, akOk, chunk, V.pack, vL, vS]) k
@[simp] theorem P1_lstI7 {a b c d e f g : Int} : P1 (.lst [.sc] false 7) [.int .i64 a, .int .i64 b, .int .i64 c, .int .i64 d, .int .i64 e, .int .i64 f, .int .i64 g] k ↔ k (vL I1 v1 [a, b, c, d, e, f, g]) := P1_of (by simp [Prim.run, aksOk, akOk, chunk, V.pack, vL, v1]) k
theorem bytesV_map : ∀ l : List UInt8, bytesV (l.map vY) = some l
  | [] => rfl
  | b :: r => by
    have ih := bytesV_map r
    simp only [List.map_cons, vY, bytesV, Option.map_eq_some_iff]
    exact ⟨r, ih, by simp⟩
@[simp] theorem P1_b2s {l : List UInt8} : P1 .b2s [vL I1 vY l] k ↔ k (.str l) := P1_of (by simp [Prim.run, vL, bytesV_map]) k
end
theorem wrap_u8 {x : Int} (h0 : 0 ≤ x) (h1 : x < 256) : IntKind.u8.wrap x = x := by
  simp [IntKind.wrap, IntKind.bits, IntKind.signed]; omega

theorem spec_l01Figure_ok : ∀ ds outs, F_l01Figure ds = some outs → shL spec_l01Figure_L (qRet outs) ds := F_l01Figure_elim fun n hp => by
  rw [spec_l01Figure_L_sh]
  have w1 : IntKind.i64.wrap (48 + n) = 48 + n := wrap_id (by omega) (by omega)
  have w2 : IntKind.u8.wrap (48 + n) = ((48 + n.toNat : Nat) : Int) := by rw [wrap_u8 (by omega) (by omega)]; omega
  have e : ((UInt8.ofNat (48 + n.toNat)).toNat : Int) = ((48 + n.toNat : Nat) : Int) := by rw [dig_nat (by omega)]
  simp only [P1_lss, ifB_bool, P1_add, P1_conv, w1, w2, e, decide_eq_true_eq, decide_eq_false_iff_not]
  exact ⟨fun _ => by simp, fun h => absurd hp.2 (by omega)⟩
theorem digs_len (u : Nat) (h : u < 10 ^ 20) : (digs u).length ≤ 20 := by
  unfold digs
  split
  · simp
  · exact dec_len 19 u h
theorem spec_FormatInt_ok : ∀ ds outs, F_FormatInt ds = some outs → shL spec_FormatInt_L (qRet outs) ds := F_FormatInt_elim fun n hp => by
  rw [spec_FormatInt_L_sh]
  simp only [P1_eql, ifB_bool, P1_lss, beq_iff_eq, beq_eq_false_iff_ne]
  refine ⟨fun h => by subst h; simp [itoa, dec_small (show 0 < 10 by omega)], fun hn => ?_⟩
  have hL := digs_len n.natAbs (by omega)
  refine loop_st (σ := Int × List UInt8) (fun s => [.int .i64 s.1, .bool (decide (n < 0)), .str s.2]) (fun a b h => by simpa [Prod.ext_iff] using h)
    (fun s => (-9223372036854775808 ≤ s.1 ∧ s.1 ≤ 9223372036854775807) ∧ digs s.1.natAbs ++ s.2 = digs n.natAbs) (fun s => s.1.natAbs) (n, []) rfl ⟨hp, by simp⟩ ?_
  rintro ⟨m, s⟩ ⟨hm, hs⟩
  simp only at hm hs ⊢
  have hsl : s.length ≤ 20 := by have := congrArg List.length hs; rw [List.length_append] at this; omega
  rw [spec_FormatInt_b0_sh]
  simp only [P1_neq, ifB_bool, bne_iff_ne, ne_eq]
  refine ⟨fun h => ?_, fun h => ?_⟩
  · have hd1 : (m.tmod 10).natAbs = m.natAbs % 10 := Int.natAbs_tmod m 10
    have hq1 : (m.tdiv 10).natAbs = m.natAbs / 10 := Int.natAbs_tdiv m 10
    have hu : m.natAbs ≠ 0 := by omega
    have hstep := digs_step hu
    have wq : IntKind.i64.wrap (m.tdiv 10) = m.tdiv 10 := wrap_id (by omega) (by omega)
    have hinv : digs (m.tdiv 10).natAbs ++ (UInt8.ofNat (48 + m.natAbs % 10) :: s) = digs n.natAbs := by
      rw [hq1, ← hs, hstep, List.append_assoc]; rfl
    have hlt : (m.tdiv 10).natAbs < m.natAbs := by rw [hq1]; omega
    simp only [P1_rem, P1_lss, ifB_bool, decide_eq_true_eq, decide_eq_false_iff_not, P1_neg]
    refine ⟨by decide, fun hneg => ?_, fun hneg => ?_⟩
    · have w1 : IntKind.i64.wrap (0 - m.tmod 10) = ((m.natAbs % 10 : Nat) : Int) := by rw [wrap_id (by omega) (by omega)]; omega
      rw [w1, p_l01Figure (by omega)]
      simp only [P1_lstY1, P1_b2s, P1_addS, P1_quo, wq, Int.toNat_natCast, qS_normal, List.length_singleton]
      refine ⟨by omega, by decide, (m.tdiv 10, UInt8.ofNat (48 + m.natAbs % 10) :: s), rfl, ⟨by omega, hinv⟩, hlt⟩
    · have w1 : m.tmod 10 = ((m.natAbs % 10 : Nat) : Int) := by omega
      rw [w1, p_l01Figure (by omega)]
      simp only [P1_lstY1, P1_b2s, P1_addS, P1_quo, wq, Int.toNat_natCast, qS_normal, List.length_singleton]
      refine ⟨by omega, by decide, (m.tdiv 10, UInt8.ofNat (48 + m.natAbs % 10) :: s), rfl, ⟨by omega, hinv⟩, hlt⟩
  · have h0 : m = 0 := by simpa using h
    subst h0
    have hs' : s = decDigits n.natAbs := by
      rw [← List.nil_append s]
      have : digs n.natAbs = decDigits n.natAbs := by unfold digs; rw [if_neg (by omega)]
      rw [← this, ← hs]; rfl
    simp only [qS_exit, qB_exit, if_true, qS_normal, spec_FormatInt_r1_sh, ifB_bool, decide_eq_true_eq, decide_eq_false_iff_not, P1_addS]
    refine ⟨fun hneg => ⟨by simp only [List.length_singleton]; omega, ?_⟩, fun hneg => ?_⟩
    · simp [itoa, hneg, hs']
    · have : n.toNat = n.natAbs := by omega
      simp [itoa, hneg, hs', this]
theorem impl_FormatInt_ok : ∀ ds outs, F_FormatInt ds = some outs → shL impl_FormatInt_L (qRet outs) ds := F_FormatInt_elim fun n hp => by
  rw [impl_FormatInt_L_sh, p_strconv_Itoa hp]
  simp
theorem impl_actWord_ok : ∀ ds outs, F_actWord ds = some outs → shL impl_actWord_L (qRet outs) ds := F_actWord_elim fun n => by
  rw [impl_actWord_L_sh]
  simp only [P1_eql, ifB_bool, beq_iff_eq, beq_eq_false_iff_ne, qRet_ret, actWord]
  refine ⟨fun h => by simp [h], fun h1 => ⟨fun h => by simp [h], fun h2 => ⟨fun h => by simp [h], fun h3 => ⟨fun h => by simp [h], fun h4 => ⟨fun h => by simp [h], fun h5 => ?_⟩⟩⟩⟩⟩
  rw [if_neg h1, if_neg h2, if_neg h3, if_neg h4, if_neg h5]
theorem impl_actNumbers_ok : ∀ ds outs, F_actNumbers ds = some outs → shL impl_actNumbers_L (qRet outs) ds := F_actNumbers_elim fun n => by
  rw [impl_actNumbers_L_sh]
  simp only [P1_eql, ifB_bool, beq_iff_eq, beq_eq_false_iff_ne, qRet_ret, actNums]
  refine ⟨fun h => by simp [h], fun h1 => ⟨fun h => by simp [h], fun h2 => ⟨fun h => by simp [h], fun h3 => ?_⟩⟩⟩
  simp [h1, h2, h3]

/-! acts -/
theorem actOk_kind {a : T3} (h : actOk a = true) : 1 ≤ a.a ∧ a.a ≤ 6 ∧ (0 ≤ a.b ∧ a.b ≤ 100) ∧ 0 ≤ a.c ∧ a.c ≤ 100 := by
  unfold actOk within at h
  split at h
  · simp at h; omega
  · split at h
    · simp at h; omega
    · split at h
      · simp at h; omega
      · split at h
        · simp at h; omega
        · cases h
theorem itoa_len {n : Int} (h0 : 0 ≤ n) (h1 : n ≤ 100) : (itoa n).length ≤ 21 := Go.Lib.itoa_length_le n (by omega) (by omega)
theorem actWord_len (n : Int) : (actWord n).length ≤ 5 := by
  unfold actWord
  split
  · simp
  · split
    · simp
    · split
      · simp
      · split
        · simp
        · split <;> simp
theorem actNums_le (n : Int) : actNums n ≤ 2 := by
  unfold actNums
  split
  · omega
  · split <;> omega
/-- The act's text by the first numbers. -/
def fmtTo (a : T3) (k : Nat) : List UInt8 := actWord a.a ++ (if k = 0 then [] else if k = 1 then 32 :: itoa a.b else 32 :: (itoa a.b ++ 32 :: itoa a.c))
theorem fmt_to {a : T3} (h : actOk a = true) : fmtAct a = fmtTo a (actNums a.a) := by
  unfold fmtAct fmtTo
  rw [if_pos h]
  congr 1
  unfold actNums
  split
  · rfl
  · split <;> rfl
theorem spec_FormatAct_ok : ∀ ds outs, F_FormatAct ds = some outs → shL spec_FormatAct_L (qRet outs) ds := F_FormatAct_elim fun a => by
  rw [spec_FormatAct_L_sh]
  simp only [p_ActOk, P1_not, ifB_bool, Bool.not_eq_true', Bool.not_eq_false', qRet_ret]
  refine ⟨fun h => by simp [fmtAct, h], fun h => ?_⟩
  have h : actOk a = true := h
  obtain ⟨k1, k6, ⟨b0, b1⟩, c0, c1⟩ := actOk_kind h
  have w1 : ([[], [112, 105, 110], [112, 117, 108, 108], [98, 97, 99, 107], [119, 105, 110, 100], [112, 108, 97, 121], [99, 108, 111, 115, 101]] : List (List UInt8))[a.a.toNat]? = some (actWord a.a) := by
    obtain e | e | e | e | e | e : a.a = 1 ∨ a.a = 2 ∨ a.a = 3 ∨ a.a = 4 ∨ a.a = 5 ∨ a.a = 6 := by omega
    all_goals rw [e]; rfl
  have w2 : ([0, 2, 1, 0, 1, 0, 0] : List Int)[a.a.toNat]? = some (actNums a.a : Int) := by
    obtain e | e | e | e | e | e : a.a = 1 ∨ a.a = 2 ∨ a.a = 3 ∨ a.a = 4 ∨ a.a = 5 ∨ a.a = 6 := by omega
    all_goals rw [e]; rfl
  have hl2 := actNums_le a.a
  have lw := actWord_len a.a
  have lb := itoa_len b0 b1
  have lc := itoa_len c0 c1
  simp only [P1_lstS7, P1_idxS, w1, w2, P1_lstI7, P1_idxI, P1_lstI2, Option.some.injEq, exists_eq_left']
  refine ⟨by omega, by omega, ?_⟩
  refine loop_upto (actNums a.a) (fun k => [.str (fmtTo a k), .int .i64 (actNums a.a), .int .i64 k, vL I1 v1 [a.b, a.c]]) (fun i j _ _ e => by simp at e; omega) (fun _ => True) (by simp [fmtTo]) trivial ?_
  intro k hk _
  rw [spec_FormatAct_b0_sh]
  simp only [P1_lss, ifB_bool, decide_eq_true_eq, decide_eq_false_iff_not]
  refine ⟨fun h2 => ?_, fun h2 => ?_⟩
  · have hk2 : k < actNums a.a := by omega
    obtain rfl | rfl : k = 0 ∨ k = 1 := by omega
    · simp only [P1_addS, P1_idxI]
      refine ⟨by simp [fmtTo]; omega, by simp, a.b, rfl, ?_⟩
      rw [p_FormatInt (by omega)]
      simp only [P1_addS, P1_add, qS_normal]
      exact ⟨by simp [fmtTo]; omega, hk2, by simp [fmtTo, wrap_id], trivial⟩
    · simp only [P1_addS, P1_idxI]
      refine ⟨by simp [fmtTo]; omega, by simp, a.c, rfl, ?_⟩
      rw [p_FormatInt (by omega)]
      simp only [P1_addS, P1_add, qS_normal]
      exact ⟨by simp [fmtTo]; omega, hk2, by simp [fmtTo, wrap_id], trivial⟩
  · have e : k = actNums a.a := by omega
    subst e
    simp [spec_FormatAct_r1_sh, fmt_to h, h]
theorem impl_FormatAct_ok : ∀ ds outs, F_FormatAct ds = some outs → shL impl_FormatAct_L (qRet outs) ds := F_FormatAct_elim fun a => by
  rw [impl_FormatAct_L_sh]
  simp only [p_ActOk, P1_not, ifB_bool, Bool.not_eq_true', Bool.not_eq_false', qRet_ret]
  refine ⟨fun h => by simp [fmtAct, h], fun h => ?_⟩
  have h : actOk a = true := h
  obtain ⟨k1, k6, ⟨b0, b1⟩, c0, c1⟩ := actOk_kind h
  have hl2 := actNums_le a.a
  have lw := actWord_len a.a
  have lb := itoa_len b0 b1
  have lc := itoa_len c0 c1
  rw [p_actWord, p_FormatInt (by omega), p_FormatInt (by omega)]
  simp only [P1_lstS3, p_actNumbers, P1_add]
  have w1 : IntKind.i64.wrap (1 + (actNums a.a : Int)) = ((1 + actNums a.a : Nat) : Int) := by rw [wrap_id (by omega) (by omega)]; omega
  rw [w1, P1_lsubS_2]
  refine ⟨⟨by omega, by omega, by simp only [List.length_cons, List.length_nil]; omega⟩, ?_⟩
  have ej : Go.Lib.join (([actWord a.a, itoa a.b, itoa a.c].take (1 + actNums a.a))) [32] = fmtAct a := by
    rw [fmt_to h]
    obtain e | e | e : actNums a.a = 0 ∨ actNums a.a = 1 ∨ actNums a.a = 2 := by omega
    all_goals rw [e]; simp [fmtTo, Go.Lib.join, List.intercalate, List.intersperse]
  have el : (fmtAct a).length ≤ 140737488355328 := by
    rw [fmt_to h]
    unfold fmtTo
    split
    · simp; omega
    · split
      · simp; omega
      · simp; omega
  simp only [Int.toNat_natCast, Int.toNat_zero, List.drop_zero]
  rw [p_strings_Join ⟨by simp; omega, by rw [ej]; exact el⟩, ej]
  simp [h]
end Go.Mw

/- Scripts as texts. -/
namespace Go.Mw
open Go.Lib (decDigits itoa)
@[simp] theorem P1_apps {l y : List UInt8} {b : Nat} {k : V → Prop} : P1 (.apps b) [vL I1 vY l, .str y] k ↔ ((l.length + y.length) * b ≤ 140737488355328 ∧ l.length + y.length ≤ 140737488355328) ∧ k (vL I1 vY (l ++ y)) :=
  P1_opt (by simp [Prim.run, vL, I1, show AK.eqs [.sc] [.sc] = true from rfl]; rfl) k
@[simp] theorem P1_apps0 {y : List UInt8} {b : Nat} {k : V → Prop} : P1 (.apps b) [.list [.sc] [], .str y] k ↔ ((([] : List UInt8).length + y.length) * b ≤ 140737488355328 ∧ ([] : List UInt8).length + y.length ≤ 140737488355328) ∧ k (vL I1 vY ([] ++ y)) := P1_apps (l := [])
theorem fmt_len (a : T3) : (fmtAct a).length ≤ 49 := by
  by_cases h : actOk a = true
  · obtain ⟨k1, k6, ⟨b0, b1⟩, c0, c1⟩ := actOk_kind h
    have lw := actWord_len a.a
    have lb := itoa_len b0 b1
    have lc := itoa_len c0 c1
    rw [fmt_to h]
    unfold fmtTo
    split
    · simp; omega
    · split
      · simp; omega
      · simp; omega
  · unfold fmtAct; rw [if_neg h]; simp
end Go.Mw

/- What functions compute, in plain terms: a workshop's summary. -/
namespace Go.Mw
/-! marks -/
def markT (n : Int) : List UInt8 := if n ≤ 0 then [109, 48] else 109 :: Go.Lib.decDigits n.toNat
def markLS (n : Nat) (k : Int) : List (List UInt8) := (List.range n).map fun i : Nat => markT (k + (i : Int))
end Go.Mw

/- Functions of the program, as small pure programs (printed by a program of ours). -/
namespace Go.Mw
noncomputable section
end
end Go.Mw

/- A workshop's summary. -/
namespace Go.Mw
open Go.Lib (decDigits itoa)
section
variable {k : V → Prop} {κ : IntKind} {i : Int}
@[simp] theorem P1_lstDot : P1 (.lst [.sc] false 1) [.int .u8 46] k ↔ k (vL I1 vY [46]) := P1_lstY1 (b := 46)
@[simp] theorem P1_setX {l : List UInt8} : P1 (.set [.sc] 0) [vL I1 vY l, .int κ i, .int .u8 120] k ↔ 0 ≤ i ∧ ∃ x, l[i.toNat]? = some x ∧ k (vL I1 vY (l.set i.toNat 120)) :=
  P1_set (news := [.int .u8 120]) (by simp [aksOk, akOk]) (fun _ => 120) (fun x => rfl)
@[simp] theorem P1_lstS1 {a : List UInt8} : P1 (.lst [.sc] false 1) [.str a] k ↔ k (vL I1 vS [a]) := P1_of (by simp [Prim.run, aksOk, akOk, chunk, V.pack, vL, vS]) k
@[simp] theorem P1_lstS2 {a b : List UInt8} : P1 (.lst [.sc] false 2) [.str a, .str b] k ↔ k (vL I1 vS [a, b]) := P1_of (by simp [Prim.run, aksOk, akOk, chunk, V.pack, vL, vS]) k
@[simp] theorem P1_s2b {y : List UInt8} {b : Nat} : P1 (.s2b b) [.str y] k ↔ (y.length * b ≤ 140737488355328 ∧ y.length ≤ 140737488355328) ∧ k (vL I1 vY y) := P1_opt (by simp [Prim.run]; rfl) k
end
/-! the grid -/
end Go.Mw

/- A workshop's summary; marks on texts. -/
namespace Go.Mw
open Go.Lib (decDigits itoa)
/-! marks on texts -/
@[simp] theorem markLS_len {n : Nat} {k : Int} : (markLS n k).length = n := by simp [markLS]
end Go.Mw

/- The law on a workshop's summary. -/
namespace Go.Mw
end Go.Mw

/- The law on drawn workshops' summaries. -/
namespace Go.Mw
end Go.Mw

/- What functions compute, in plain terms: acts read from texts. -/
namespace Go.Mw
open Go.Lib (itoa)
def l40N (s : List UInt8) : Int := if 1 < s.length ∧ s[0]? = some 45 then -(uNum (s.drop 1)) else uNum s
def E_l40Number (s : List UInt8) : List V := [.str s]
noncomputable def F_l40Number : List V → Option (List V) := mkF E_l40Number (fun s => s.length ≤ 1048576) (fun s => [.int .i64 (l40N s)])
theorem F_l40Number_inj : ∀ x y, E_l40Number x = E_l40Number y → x = y := by
  rintro s s' h
  simpa [E_l40Number] using h
theorem F_l40Number_elim {P : List V → List V → Prop} (h : ∀ (s : List UInt8), (s.length ≤ 1048576) → P [.str s] [.int .i64 (l40N s)]) : ∀ ds outs, F_l40Number ds = some outs → P ds outs := by
  intro ds outs hh
  obtain ⟨s, rfl, hp, rfl⟩ := mkF_inv hh
  exact h s hp
theorem p_l40Number {s : List UInt8} {nr_ : Nat} {kk_ : V → Prop} (hp : s.length ≤ 1048576) : P1 (.call F_l40Number 0 nr_) [.str s] kk_ ↔ kk_ (.int .i64 (l40N s)) :=
  P1_callF (by unfold F_l40Number; exact mkF_eq F_l40Number_inj (s) hp)

/-- The fields of an act's text. -/
def toks (a : T3) : List (List UInt8) := actWord a.a :: (if actNums a.a = 2 then [itoa a.b, itoa a.c] else if actNums a.a = 1 then [itoa a.b] else [])
def fits (f : List (List UInt8)) : Prop := ∃ a, actOk a = true ∧ toks a = f
noncomputable def parseV (f : List (List UInt8)) : T3 := @dite _ (fits f) (Classical.propDecidable _) (fun h => h.choose) (fun _ => ⟨0, 0, 0⟩)
noncomputable def parseB (f : List (List UInt8)) : Bool := @decide (fits f) (Classical.propDecidable _)
def E_ParseAct (s : List UInt8) : List V := [.str s]
noncomputable def F_ParseAct : List V → Option (List V) := mkF E_ParseAct (fun s => s.length ≤ 1048576) (fun s => [.int .i64 (parseV (fieldsOf s)).a, .int .i64 (parseV (fieldsOf s)).b, .int .i64 (parseV (fieldsOf s)).c, .bool (parseB (fieldsOf s))])
theorem F_ParseAct_inj : ∀ x y, E_ParseAct x = E_ParseAct y → x = y := by
  rintro s s' h
  simpa [E_ParseAct] using h
theorem F_ParseAct_elim {P : List V → List V → Prop} (h : ∀ (s : List UInt8), (s.length ≤ 1048576) → P [.str s] [.int .i64 (parseV (fieldsOf s)).a, .int .i64 (parseV (fieldsOf s)).b, .int .i64 (parseV (fieldsOf s)).c, .bool (parseB (fieldsOf s))]) : ∀ ds outs, F_ParseAct ds = some outs → P ds outs := by
  intro ds outs hh
  obtain ⟨s, rfl, hp, rfl⟩ := mkF_inv hh
  exact h s hp
theorem p_ParseAct {s : List UInt8} {nr_ : Nat} {kk_ : V → V → V → V → Prop} (hp : s.length ≤ 1048576) : P4 (.call F_ParseAct 0 nr_) [.str s] kk_ ↔ kk_ (.int .i64 (parseV (fieldsOf s)).a) (.int .i64 (parseV (fieldsOf s)).b) (.int .i64 (parseV (fieldsOf s)).c) (.bool (parseB (fieldsOf s))) :=
  P4_callF (by unfold F_ParseAct; exact mkF_eq F_ParseAct_inj (s) hp)

def E_FnExactParseAct (s : List UInt8) : List V := [.str s]
noncomputable def F_FnExactParseAct : List V → Option (List V) := mkF E_FnExactParseAct (fun s => wfS s) (fun _ => [.bool true])
theorem F_FnExactParseAct_inj : ∀ x y, E_FnExactParseAct x = E_FnExactParseAct y → x = y := by
  rintro s s' h
  simpa [E_FnExactParseAct] using h
theorem F_FnExactParseAct_elim {P : List V → List V → Prop} (h : ∀ (s : List UInt8), (wfS s) → P [.str s] [.bool true]) : ∀ ds outs, F_FnExactParseAct ds = some outs → P ds outs := by
  intro ds outs hh
  obtain ⟨s, rfl, hp, rfl⟩ := mkF_inv hh
  exact h s hp
theorem F_FnExactParseAct_law : ∀ ds, okTKs [.str] ds → F_FnExactParseAct ds = some [.bool true] := by
  intro ds g0
  obtain ⟨_, _, rfl, h0, g1⟩ := okTKs_cons g0
  obtain ⟨s, rfl, r0⟩ := dec_S h0
  obtain rfl := okTKs_nil g1
  exact mkF_eq F_FnExactParseAct_inj (s) r0

def E_FnActTexts (l : List UInt8) : List V := [vL I1 vY l]
noncomputable def F_FnActTexts : List V → Option (List V) := mkF E_FnActTexts (fun l => wfLY l) (fun _ => [.bool true])
theorem F_FnActTexts_inj : ∀ x y, E_FnActTexts x = E_FnActTexts y → x = y := by
  rintro l l' h
  simpa [E_FnActTexts] using h
theorem F_FnActTexts_elim {P : List V → List V → Prop} (h : ∀ (l : List UInt8), (wfLY l) → P [vL I1 vY l] [.bool true]) : ∀ ds outs, F_FnActTexts ds = some outs → P ds outs := by
  intro ds outs hh
  obtain ⟨l, rfl, hp, rfl⟩ := mkF_inv hh
  exact h l hp
theorem F_FnActTexts_law : ∀ ds, okTKs [.list false [.int .u8]] ds → F_FnActTexts ds = some [.bool true] := by
  intro ds g0
  obtain ⟨_, _, rfl, h0, g1⟩ := okTKs_cons g0
  obtain ⟨l, rfl, r0⟩ := dec_LY h0
  obtain rfl := okTKs_nil g1
  exact mkF_eq F_FnActTexts_inj (l) r0


end Go.Mw

/- Functions of the program, as small pure programs (printed by a program of ours). -/
namespace Go.Mw
noncomputable section
def spec_SplitFields_r1 : L := .seq (.seq (.rg [⟨[], .slen, [.v 0], 1⟩, ⟨[], .bin .lss, [.v 2, .v 14], 1⟩, ⟨[(.v 15, true)], .sidx, [.v 0, .v 2], 1⟩, ⟨[(.v 15, true)], .bin .neq, [.v 16, .k (.int .u8 32)], 1⟩, ⟨[], .pick, [.v 15, .v 17, .k (.bool false)], 1⟩]) (.ite (.v 18) (.seq (.tup [.v 0, .v 1, .v 2, .v 3]) (.exit 1)) (.skip))) (.seq (.seq (.rg [⟨[], .bin .lss, [.v 1, .v 2], 1⟩]) (.ite (.v 19) (.seq (.rg [⟨[], .ssub, [.v 0, .v 1, .v 2], 1⟩, ⟨[], .lst [.sc] false 1, [.v 20], 1⟩, ⟨[], .app [.sc] 16, [.v 3, .v 21], 1⟩]) (.tup [.v 0, .v 2, .v 22])) (.seq (.skip) (.tup [.v 0, .v 2, .v 3])))) (.rg [⟨[], .bin .add, [.v 1, .k (.int .i64 1)], 1⟩]))
theorem spec_SplitFields_r1_sh (Q : QT) (x0 x1 x2 x3 x4 x5 x6 x7 x8 x9 x10 x11 x12 x13 : V) : shL spec_SplitFields_r1 Q [x0, x1, x2, x3, x4, x5, x6, x7, x8, x9, x10, x11, x12, x13] = (
  P1 (.slen) [x0] fun v0 =>
  P1 (.bin .lss) [x2, v0] fun v1 =>
  ifB v1 (
    P1 (.sidx) [x0, x2] fun v2 =>
    P1 (.bin .neq) [v2, .int .u8 32] fun v3 =>
    ifB v3 (
      Q (.exit 1) [x0, x1, x2, x3]) (
      P1 (.bin .lss) [x1, x2] fun v4 =>
      ifB v4 (
        P1 (.ssub) [x0, x1, x2] fun v5 =>
        P1 (.lst [.sc] false 1) [v5] fun v6 =>
        P1 (.app [.sc] 16) [x3, v6] fun v7 =>
        P1 (.bin .add) [x2, .int .i64 1] fun v8 =>
        Q .normal [x0, x2, v7, v8]) (
        P1 (.bin .add) [x2, .int .i64 1] fun v9 =>
        Q .normal [x0, x2, x3, v9]))) (
    P1 (.bin .lss) [x1, x2] fun v10 =>
    ifB v10 (
      P1 (.ssub) [x0, x1, x2] fun v11 =>
      P1 (.lst [.sc] false 1) [v11] fun v12 =>
      P1 (.app [.sc] 16) [x3, v12] fun v13 =>
      P1 (.bin .add) [x2, .int .i64 1] fun v14 =>
      Q .normal [x0, x2, v13, v14]) (
      P1 (.bin .add) [x2, .int .i64 1] fun v15 =>
      Q .normal [x0, x2, x3, v15]))) := by kernel_rfl

def spec_SplitFields_r2 : L := .tup [.v 0, .v 3, .v 1, .v 2]
theorem spec_SplitFields_r2_sh (Q : QT) (x0 x1 x2 x3 : V) : shL spec_SplitFields_r2 Q [x0, x1, x2, x3] = (
  Q .normal [x0, x3, x1, x2]) := by kernel_rfl

def spec_SplitFields_r3 : L := .rg [⟨[], .bin .add, [.v 2, .k (.int .i64 1)], 1⟩]
theorem spec_SplitFields_r3_sh (Q : QT) (x0 x1 x2 x3 : V) : shL spec_SplitFields_r3 Q [x0, x1, x2, x3] = (
  P1 (.bin .add) [x2, .int .i64 1] fun v0 =>
  Q .normal [x0, x1, x2, x3, v0]) := by kernel_rfl

def spec_SplitFields_r4 : L := .tup [.v 0, .v 1, .v 4, .v 3]
theorem spec_SplitFields_r4_sh (Q : QT) (x0 x1 x2 x3 x4 : V) : shL spec_SplitFields_r4 Q [x0, x1, x2, x3, x4] = (
  Q .normal [x0, x1, x4, x3]) := by kernel_rfl

def spec_SplitFields_b0 : L := .seq (.seq (.seq (.rg [⟨[], .slen, [.v 0], 1⟩, ⟨[], .bin .leq, [.v 2, .v 4], 1⟩]) (.ite (.v 5) (.skip) (.seq (.tup [.v 3]) (.exit 0)))) (.seq (.block 1 (.seq (.seq (.seq (.rg [⟨[], .slen, [.v 0], 1⟩, ⟨[], .bin .lss, [.v 2, .v 6], 1⟩, ⟨[(.v 7, true)], .sidx, [.v 0, .v 2], 1⟩, ⟨[(.v 7, true)], .bin .lss, [.v 8, .k (.int .u8 32)], 1⟩, ⟨[(.v 7, true), (.v 9, false)], .sidx, [.v 0, .v 2], 1⟩, ⟨[(.v 7, true), (.v 9, false)], .bin .gtr, [.v 10, .k (.int .u8 126)], 1⟩, ⟨[(.v 7, true)], .pick, [.v 9, .k (.bool true), .v 11], 1⟩, ⟨[], .pick, [.v 7, .v 12, .k (.bool false)], 1⟩]) (.ite (.v 13) (.seq (.rg [⟨[], .lst [.sc] false 0, [], 1⟩]) (.ret [.v 14, .k (.bool false)])) (.skip))) (spec_SplitFields_r1)) (spec_SplitFields_r2))) (spec_SplitFields_r3))) (spec_SplitFields_r4)
theorem spec_SplitFields_b0_sh (Q : QT) (x0 x1 x2 x3 : V) : shL spec_SplitFields_b0 Q [x0, x1, x2, x3] = (
  P1 (.slen) [x0] fun v0 =>
  P1 (.bin .leq) [x2, v0] fun v1 =>
  ifB v1 (
    P1 (.slen) [x0] fun v2 =>
    P1 (.bin .lss) [x2, v2] fun v3 =>
    ifB v3 (
      P1 (.sidx) [x0, x2] fun v4 =>
      P1 (.bin .lss) [v4, .int .u8 32] fun v5 =>
      ifB v5 (
        P1 (.lst [.sc] false 0) [] fun v6 =>
        Q .ret [v6, .bool false]) (
        P1 (.sidx) [x0, x2] fun v7 =>
        P1 (.bin .gtr) [v7, .int .u8 126] fun v8 =>
        ifB v8 (
          P1 (.lst [.sc] false 0) [] fun v9 =>
          Q .ret [v9, .bool false]) (
          shL spec_SplitFields_r1 (qS (shL spec_SplitFields_r2 (qB 1 (qS (shL spec_SplitFields_r3 (qS (shL spec_SplitFields_r4 Q) Q)) (qS (shL spec_SplitFields_r4 Q) Q)))) (qB 1 (qS (shL spec_SplitFields_r3 (qS (shL spec_SplitFields_r4 Q) Q)) (qS (shL spec_SplitFields_r4 Q) Q)))) [x0, x1, x2, x3, v0, .bool true, v2, .bool true, v4, .bool false, v7, v8, v8, .bool false]))) (
      shL spec_SplitFields_r1 (qS (shL spec_SplitFields_r2 (qB 1 (qS (shL spec_SplitFields_r3 (qS (shL spec_SplitFields_r4 Q) Q)) (qS (shL spec_SplitFields_r4 Q) Q)))) (qB 1 (qS (shL spec_SplitFields_r3 (qS (shL spec_SplitFields_r4 Q) Q)) (qS (shL spec_SplitFields_r4 Q) Q)))) [x0, x1, x2, x3, v0, .bool true, v2, .bool false, .list [] [], .list [] [], .list [] [], .list [] [], .list [] [], .bool false])) (
    Q (.exit 0) [x3])) := by kernel_rfl

def spec_SplitFields_r5 : L := .seq (.seq (.rg [⟨[], .len, [.v 0], 1⟩, ⟨[], .bin .gtr, [.v 1, .k (.int .i64 24)], 1⟩]) (.ite (.v 2) (.seq (.rg [⟨[], .lst [.sc] false 0, [], 1⟩]) (.ret [.v 3, .k (.bool false)])) (.skip))) (.seq (.rg []) (.ret [.v 0, .k (.bool true)]))
theorem spec_SplitFields_r5_sh (Q : QT) (x0 : V) : shL spec_SplitFields_r5 Q [x0] = (
  P1 (.len) [x0] fun v0 =>
  P1 (.bin .gtr) [v0, .int .i64 24] fun v1 =>
  ifB v1 (
    P1 (.lst [.sc] false 0) [] fun v2 =>
    Q .ret [v2, .bool false]) (
    Q .ret [x0, .bool true])) := by kernel_rfl

def spec_SplitFields_L : L := .seq (.rg []) (.seq (.rg [⟨[], .lst [.sc] false 0, [], 1⟩]) (.seq (.seq (.rg [⟨[], .slen, [.v 0], 1⟩, ⟨[], .bin .gtr, [.v 2, .k (.int .i64 600)], 1⟩]) (.ite (.v 3) (.seq (.rg []) (.ret [.v 1, .k (.bool false)])) (.skip))) (.seq (.rg []) (.seq (.seq (.rg []) (.block 0 (.seq (.tup [.v 0, .k (.int .i64 0), .k (.int .i64 0), .v 1]) (.loop (spec_SplitFields_b0))))) (spec_SplitFields_r5)))))
theorem spec_SplitFields_L_sh (Q : QT) (x0 : V) : shL spec_SplitFields_L Q [x0] = (
  P1 (.lst [.sc] false 0) [] fun v0 =>
  P1 (.slen) [x0] fun v1 =>
  P1 (.bin .gtr) [v1, .int .i64 600] fun v2 =>
  ifB v2 (
    Q .ret [v0, .bool false]) (
    shL (.loop spec_SplitFields_b0) (qB 0 (qS (shL spec_SplitFields_r5 Q) Q)) [x0, .int .i64 0, .int .i64 0, v0])) := by kernel_rfl
def spec_SplitFields_S : Sig := ⟨[.val false [.sc]], [(false, [.sl [.sc]]), (false, [.sc])], F_SplitFields⟩
def spec_SplitFields_hs : List NF := [⟨[(4, .sc false [.own 64])], [(64, true, [.sc])], [], 65⟩, ⟨[(0, .sc false [.sc]), (4, .sc false [.own 64]), (5, .sc false [.sc]), (6, .sc false [.sc])], [(64, true, [.sc])], [], 65⟩, ⟨[(0, .sc false [.sc]), (4, .sc false [.own 64]), (5, .sc false [.sc]), (6, .sc false [.sc])], [(64, true, [.sc])], [], 65⟩, ⟨[(0, .sc false [.sc]), (4, .sc false [.own 64]), (6, .sc false [.sc])], [(64, true, [.sc])], [], 65⟩]

def spec_ParseUint_b0 : L := .seq (.seq (.seq (.rg [⟨[], .slen, [.v 0], 1⟩, ⟨[], .bin .lss, [.v 2, .v 3], 1⟩]) (.ite (.v 4) (.skip) (.seq (.tup [.v 0, .v 1]) (.exit 0)))) (.seq (.block 1 (.seq (.seq (.seq (.rg [⟨[], .sidx, [.v 0, .v 2], 1⟩, ⟨[], .bin .lss, [.v 5, .k (.int .u8 48)], 1⟩, ⟨[(.v 6, false)], .sidx, [.v 0, .v 2], 1⟩, ⟨[(.v 6, false)], .bin .gtr, [.v 7, .k (.int .u8 57)], 1⟩, ⟨[], .pick, [.v 6, .k (.bool true), .v 8], 1⟩]) (.ite (.v 9) (.seq (.rg []) (.ret [.k (.int .i64 0), .k (.bool false)])) (.skip))) (.rg [⟨[], .bin .mul, [.k (.int .i64 10), .v 1], 1⟩, ⟨[], .sidx, [.v 0, .v 2], 1⟩, ⟨[], .conv .i64, [.v 11], 1⟩, ⟨[], .bin .add, [.v 10, .v 12], 1⟩, ⟨[], .bin .sub, [.v 13, .k (.int .i64 48)], 1⟩])) (.tup [.v 0, .v 14, .v 2]))) (.rg [⟨[], .bin .add, [.v 2, .k (.int .i64 1)], 1⟩]))) (.tup [.v 0, .v 1, .v 3])
theorem spec_ParseUint_b0_sh (Q : QT) (x0 x1 x2 : V) : shL spec_ParseUint_b0 Q [x0, x1, x2] = (
  P1 (.slen) [x0] fun v0 =>
  P1 (.bin .lss) [x2, v0] fun v1 =>
  ifB v1 (
    P1 (.sidx) [x0, x2] fun v2 =>
    P1 (.bin .lss) [v2, .int .u8 48] fun v3 =>
    ifB v3 (
      Q .ret [.int .i64 0, .bool false]) (
      P1 (.sidx) [x0, x2] fun v4 =>
      P1 (.bin .gtr) [v4, .int .u8 57] fun v5 =>
      ifB v5 (
        Q .ret [.int .i64 0, .bool false]) (
        P1 (.bin .mul) [.int .i64 10, x1] fun v6 =>
        P1 (.sidx) [x0, x2] fun v7 =>
        P1 (.conv .i64) [v7] fun v8 =>
        P1 (.bin .add) [v6, v8] fun v9 =>
        P1 (.bin .sub) [v9, .int .i64 48] fun v10 =>
        P1 (.bin .add) [x2, .int .i64 1] fun v11 =>
        Q .normal [x0, v10, v11]))) (
    Q (.exit 0) [x0, x1])) := by kernel_rfl

def spec_ParseUint_r1 : L := .seq (.seq (.rg [⟨[], .bin .gtr, [.v 1, .k (.int .i64 1000000000)], 1⟩, ⟨[(.v 2, false)], .call F_FormatInt 0 1, [.v 1], 1⟩, ⟨[(.v 2, false)], .bin .neq, [.v 3, .v 0], 1⟩, ⟨[], .pick, [.v 2, .k (.bool true), .v 4], 1⟩]) (.ite (.v 5) (.seq (.rg []) (.ret [.k (.int .i64 0), .k (.bool false)])) (.skip))) (.seq (.rg []) (.ret [.v 1, .k (.bool true)]))
theorem spec_ParseUint_r1_sh (Q : QT) (x0 x1 : V) : shL spec_ParseUint_r1 Q [x0, x1] = (
  P1 (.bin .gtr) [x1, .int .i64 1000000000] fun v0 =>
  ifB v0 (
    Q .ret [.int .i64 0, .bool false]) (
    P1 (.call F_FormatInt 0 1) [x1] fun v1 =>
    P1 (.bin .neq) [v1, x0] fun v2 =>
    ifB v2 (
      Q .ret [.int .i64 0, .bool false]) (
      Q .ret [x1, .bool true]))) := by kernel_rfl

def spec_ParseUint_L : L := .seq (.rg []) (.seq (.seq (.rg [⟨[], .slen, [.v 0], 1⟩, ⟨[], .bin .gtr, [.v 1, .k (.int .i64 10)], 1⟩]) (.ite (.v 2) (.seq (.rg []) (.ret [.k (.int .i64 0), .k (.bool false)])) (.skip))) (.seq (.rg []) (.seq (.seq (.rg []) (.block 0 (.seq (.tup [.v 0, .k (.int .i64 0), .k (.int .i64 0)]) (.loop (spec_ParseUint_b0))))) (spec_ParseUint_r1))))
theorem spec_ParseUint_L_sh (Q : QT) (x0 : V) : shL spec_ParseUint_L Q [x0] = (
  P1 (.slen) [x0] fun v0 =>
  P1 (.bin .gtr) [v0, .int .i64 10] fun v1 =>
  ifB v1 (
    Q .ret [.int .i64 0, .bool false]) (
    shL (.loop spec_ParseUint_b0) (qB 0 (qS (shL spec_ParseUint_r1 Q) Q)) [x0, .int .i64 0, .int .i64 0])) := by kernel_rfl
def spec_ParseUint_S : Sig := ⟨[.val false [.sc]], [(false, [.sc]), (false, [.sc])], F_ParseUint⟩
def spec_ParseUint_hs : List NF := [⟨[(0, .sc false [.sc]), (4, .sc false [.sc])], [], [], 64⟩, ⟨[(0, .sc false [.sc]), (4, .sc false [.sc]), (5, .sc false [.sc])], [], [], 64⟩, ⟨[(0, .sc false [.sc]), (4, .sc false [.sc]), (5, .sc false [.sc])], [], [], 64⟩]

def spec_l40Number_L : L := .seq (.rg []) (.seq (.seq (.rg [⟨[], .slen, [.v 0], 1⟩, ⟨[], .bin .gtr, [.v 1, .k (.int .i64 1)], 1⟩, ⟨[(.v 2, true)], .sidx, [.v 0, .k (.int .i64 0)], 1⟩, ⟨[(.v 2, true)], .bin .eql, [.v 3, .k (.int .u8 45)], 1⟩, ⟨[], .pick, [.v 2, .v 4, .k (.bool false)], 1⟩]) (.ite (.v 5) (.seq (.rg [⟨[], .ssub, [.v 0, .k (.int .i64 1)], 1⟩, ⟨[], .call F_ParseUint 0 2, [.v 6], 2⟩]) (.seq (.rg [⟨[], .un .neg, [.v 7], 1⟩]) (.ret [.v 9]))) (.skip))) (.seq (.rg [⟨[], .call F_ParseUint 0 2, [.v 0], 2⟩]) (.seq (.rg []) (.ret [.v 6]))))
theorem spec_l40Number_L_sh (Q : QT) (x0 : V) : shL spec_l40Number_L Q [x0] = (
  P1 (.slen) [x0] fun v0 =>
  P1 (.bin .gtr) [v0, .int .i64 1] fun v1 =>
  ifB v1 (
    P1 (.sidx) [x0, .int .i64 0] fun v2 =>
    P1 (.bin .eql) [v2, .int .u8 45] fun v3 =>
    ifB v3 (
      P1 (.ssub) [x0, .int .i64 1] fun v4 =>
      P2 (.call F_ParseUint 0 2) [v4] fun v5 _ =>
      P1 (.un .neg) [v5] fun v7 =>
      Q .ret [v7]) (
      P2 (.call F_ParseUint 0 2) [x0] fun v8 _ =>
      Q .ret [v8])) (
    P2 (.call F_ParseUint 0 2) [x0] fun v10 _ =>
    Q .ret [v10])) := by kernel_rfl
def spec_l40Number_S : Sig := ⟨[.val false [.sc]], [(false, [.sc])], F_l40Number⟩
def spec_l40Number_hs : List NF := []

def spec_ParseAct_b0 : L := .seq (.seq (.seq (.rg [⟨[], .len, [.v 2], 1⟩, ⟨[], .bin .lss, [.v 1, .v 7], 1⟩]) (.ite (.v 8) (.skip) (.seq (.tup [.v 0, .v 3, .v 4, .v 5, .v 6]) (.exit 0)))) (.seq (.block 1 (.seq (.seq (.rg [⟨[], .bin .add, [.v 0, .k (.str [32])], 1⟩, ⟨[], .idx [.sc], [.v 2, .v 1], 1⟩, ⟨[], .bin .add, [.v 9, .v 10], 1⟩]) (.rg [⟨[], .idx [.sc], [.v 2, .v 1], 1⟩, ⟨[], .call F_l40Number 0 1, [.v 12], 1⟩, ⟨[], .lst [.sc] false 1, [.v 13], 1⟩, ⟨[], .app [.sc] 8, [.v 3, .v 14], 1⟩])) (.tup [.v 11, .v 1, .v 2, .v 15, .v 4, .v 5, .v 6]))) (.rg [⟨[], .bin .add, [.v 1, .k (.int .i64 1)], 1⟩]))) (.tup [.v 0, .v 7, .v 2, .v 3, .v 4, .v 5, .v 6])
theorem spec_ParseAct_b0_sh (Q : QT) (x0 x1 x2 x3 x4 x5 x6 : V) : shL spec_ParseAct_b0 Q [x0, x1, x2, x3, x4, x5, x6] = (
  P1 (.len) [x2] fun v0 =>
  P1 (.bin .lss) [x1, v0] fun v1 =>
  ifB v1 (
    P1 (.bin .add) [x0, .str [32]] fun v2 =>
    P1 (.idx [.sc]) [x2, x1] fun v3 =>
    P1 (.bin .add) [v2, v3] fun v4 =>
    P1 (.idx [.sc]) [x2, x1] fun v5 =>
    P1 (.call F_l40Number 0 1) [v5] fun v6 =>
    P1 (.lst [.sc] false 1) [v6] fun v7 =>
    P1 (.app [.sc] 8) [x3, v7] fun v8 =>
    P1 (.bin .add) [x1, .int .i64 1] fun v9 =>
    Q .normal [v4, v9, x2, v8, x4, x5, x6]) (
    Q (.exit 0) [x0, x3, x4, x5, x6])) := by kernel_rfl

def spec_ParseAct_b2 : L := .seq (.seq (.seq (.rg [⟨[], .bin .leq, [.v 1, .k (.int .i64 6)], 1⟩]) (.ite (.v 6) (.skip) (.seq (.tup [.v 3, .v 4, .v 5]) (.exit 2)))) (.seq (.block 3 (.seq (.seq (.rg [⟨[], .idx [.sc], [.v 2, .k (.int .i64 0)], 1⟩, ⟨[], .idx [.sc], [.v 2, .k (.int .i64 1)], 1⟩]) (.seq (.rg [⟨[], .call F_FormatAct 0 2, [.v 1, .v 7, .v 8], 2⟩]) (.seq (.rg [⟨[(.v 10, true)], .bin .eql, [.v 9, .v 0], 1⟩, ⟨[], .pick, [.v 10, .v 11, .k (.bool false)], 1⟩]) (.ite (.v 12) (.seq (.rg []) (.ret [.v 1, .v 7, .v 8, .k (.bool true)])) (.skip))))) (.tup [.v 0, .v 1, .v 2, .v 3, .v 4, .v 5]))) (.rg [⟨[], .bin .add, [.v 1, .k (.int .i64 1)], 1⟩]))) (.tup [.v 0, .v 6, .v 2, .v 3, .v 4, .v 5])
theorem spec_ParseAct_b2_sh (Q : QT) (x0 x1 x2 x3 x4 x5 : V) : shL spec_ParseAct_b2 Q [x0, x1, x2, x3, x4, x5] = (
  P1 (.bin .leq) [x1, .int .i64 6] fun v0 =>
  ifB v0 (
    P1 (.idx [.sc]) [x2, .int .i64 0] fun v1 =>
    P1 (.idx [.sc]) [x2, .int .i64 1] fun v2 =>
    P2 (.call F_FormatAct 0 2) [x1, v1, v2] fun v3 v4 =>
    ifB v4 (
      P1 (.bin .eql) [v3, x0] fun v5 =>
      ifB v5 (
        Q .ret [x1, v1, v2, .bool true]) (
        P1 (.bin .add) [x1, .int .i64 1] fun v6 =>
        Q .normal [x0, v6, x2, x3, x4, x5])) (
      P1 (.bin .add) [x1, .int .i64 1] fun v7 =>
      Q .normal [x0, v7, x2, x3, x4, x5])) (
    Q (.exit 2) [x3, x4, x5])) := by kernel_rfl

def spec_ParseAct_r3 : L := .seq (.rg []) (.ret [.k (.int .i64 0), .k (.int .i64 0), .k (.int .i64 0), .k (.bool false)])
theorem spec_ParseAct_r3_sh (Q : QT) (x0 x1 x2 : V) : shL spec_ParseAct_r3 Q [x0, x1, x2] = (
  Q .ret [.int .i64 0, .int .i64 0, .int .i64 0, .bool false]) := by kernel_rfl

def spec_ParseAct_r1 : L := .seq (.rg [⟨[], .lst [.sc] false 2, [.k (.int .i64 0), .k (.int .i64 0)], 1⟩, ⟨[], .app [.sc] 8, [.v 1, .v 5], 1⟩]) (.seq (.seq (.rg []) (.block 2 (.seq (.tup [.v 0, .k (.int .i64 1), .v 6, .v 2, .v 3, .v 4]) (.loop (spec_ParseAct_b2))))) (spec_ParseAct_r3))
theorem spec_ParseAct_r1_sh (Q : QT) (x0 x1 x2 x3 x4 : V) : shL spec_ParseAct_r1 Q [x0, x1, x2, x3, x4] = (
  P1 (.lst [.sc] false 2) [.int .i64 0, .int .i64 0] fun v0 =>
  P1 (.app [.sc] 8) [x1, v0] fun v1 =>
  shL (.loop spec_ParseAct_b2) (qB 2 (qS (shL spec_ParseAct_r3 Q) Q)) [x0, .int .i64 1, v1, x2, x3, x4]) := by kernel_rfl

def spec_ParseAct_L : L := .seq (.rg []) (.seq (.rg [⟨[], .call F_SplitFields 0 2, [.v 0], 2⟩]) (.seq (.seq (.rg [⟨[], .un .not, [.v 2], 1⟩, ⟨[(.v 3, false)], .len, [.v 1], 1⟩, ⟨[(.v 3, false)], .call F_l01In 0 1, [.v 4, .k (.int .i64 1), .k (.int .i64 3)], 1⟩, ⟨[(.v 3, false)], .un .not, [.v 5], 1⟩, ⟨[], .pick, [.v 3, .k (.bool true), .v 6], 1⟩]) (.ite (.v 7) (.seq (.rg []) (.ret [.k (.int .i64 0), .k (.int .i64 0), .k (.int .i64 0), .k (.bool false)])) (.skip))) (.seq (.rg [⟨[], .idx [.sc], [.v 1, .k (.int .i64 0)], 1⟩]) (.seq (.rg [⟨[], .lst [.sc] false 0, [], 1⟩]) (.seq (.seq (.rg []) (.block 0 (.seq (.tup [.v 8, .k (.int .i64 1), .v 1, .v 9, .k (.int .i64 0), .k (.int .i64 0), .k (.int .i64 0)]) (.loop (spec_ParseAct_b0))))) (spec_ParseAct_r1))))))
theorem spec_ParseAct_L_sh (Q : QT) (x0 : V) : shL spec_ParseAct_L Q [x0] = (
  P2 (.call F_SplitFields 0 2) [x0] fun v0 v1 =>
  P1 (.un .not) [v1] fun v2 =>
  ifB v2 (
    Q .ret [.int .i64 0, .int .i64 0, .int .i64 0, .bool false]) (
    P1 (.len) [v0] fun v3 =>
    P1 (.call F_l01In 0 1) [v3, .int .i64 1, .int .i64 3] fun v4 =>
    P1 (.un .not) [v4] fun v5 =>
    ifB v5 (
      Q .ret [.int .i64 0, .int .i64 0, .int .i64 0, .bool false]) (
      P1 (.idx [.sc]) [v0, .int .i64 0] fun v6 =>
      P1 (.lst [.sc] false 0) [] fun v7 =>
      shL (.loop spec_ParseAct_b0) (qB 0 (qS (shL spec_ParseAct_r1 Q) Q)) [v6, .int .i64 1, v0, v7, .int .i64 0, .int .i64 0, .int .i64 0]))) := by kernel_rfl
def spec_ParseAct_S : Sig := ⟨[.val false [.sc]], [(true, [.sc, .sc, .sc]), (false, [.sc])], F_ParseAct⟩
def spec_ParseAct_hs : List NF := [⟨[(2, .ptr 64 0), (6, .sc false [.sc]), (7, .sc false [.own 65])], [(65, true, [.sc])], [(64, [.sc, .sc, .sc])], 66⟩, ⟨[(2, .ptr 64 0), (4, .sc false [.own 65]), (6, .sc false [.sc]), (7, .sc false [.own 66]), (8, .sc false [.sc])], [(65, true, [.sc]), (66, true, [.sc])], [(64, [.sc, .sc, .sc])], 67⟩, ⟨[(2, .ptr 64 0), (4, .sc false [.own 65]), (6, .sc false [.sc]), (7, .sc false [.own 66]), (8, .sc false [.sc])], [(65, true, [.sc]), (66, true, [.sc])], [(64, [.sc, .sc, .sc])], 67⟩, ⟨[(2, .ptr 64 0)], [], [(64, [.sc, .sc, .sc])], 65⟩, ⟨[(2, .ptr 64 0), (6, .sc false [.sc]), (7, .sc false [.own 65]), (9, .sc false [.sc])], [(65, true, [.sc])], [(64, [.sc, .sc, .sc])], 66⟩, ⟨[(2, .ptr 64 0), (6, .sc false [.sc]), (7, .sc false [.own 65]), (9, .sc false [.sc])], [(65, true, [.sc])], [(64, [.sc, .sc, .sc])], 66⟩]

def impl_SplitFields_r1 : L := .seq (.rg [⟨[], .slen, [.v 0], 1⟩, ⟨[], .bin .eql, [.v 2, .v 14], 1⟩, ⟨[(.v 15, false)], .sidx, [.v 0, .v 2], 1⟩, ⟨[(.v 15, false)], .bin .eql, [.v 16, .k (.int .u8 32)], 1⟩, ⟨[], .pick, [.v 15, .k (.bool true), .v 17], 1⟩]) (.ite (.v 18) (.seq (.seq (.seq (.rg [⟨[], .bin .gtr, [.v 2, .v 1], 1⟩]) (.ite (.v 19) (.seq (.rg [⟨[], .ssub, [.v 0, .v 1, .v 2], 1⟩, ⟨[], .lst [.sc] false 1, [.v 20], 1⟩, ⟨[], .app [.sc] 16, [.v 3, .v 21], 1⟩]) (.tup [.v 0, .v 2, .v 22])) (.seq (.skip) (.tup [.v 0, .v 2, .v 3])))) (.rg [⟨[], .bin .add, [.v 1, .k (.int .i64 1)], 1⟩])) (.tup [.v 0, .v 3, .v 1, .v 2])) (.seq (.skip) (.tup [.v 0, .v 1, .v 2, .v 3])))
theorem impl_SplitFields_r1_sh (Q : QT) (x0 x1 x2 x3 x4 x5 x6 x7 x8 x9 x10 x11 x12 x13 : V) : shL impl_SplitFields_r1 Q [x0, x1, x2, x3, x4, x5, x6, x7, x8, x9, x10, x11, x12, x13] = (
  P1 (.slen) [x0] fun v0 =>
  P1 (.bin .eql) [x2, v0] fun v1 =>
  ifB v1 (
    P1 (.bin .gtr) [x2, x1] fun v2 =>
    ifB v2 (
      P1 (.ssub) [x0, x1, x2] fun v3 =>
      P1 (.lst [.sc] false 1) [v3] fun v4 =>
      P1 (.app [.sc] 16) [x3, v4] fun v5 =>
      P1 (.bin .add) [x2, .int .i64 1] fun v6 =>
      Q .normal [x0, v6, x2, v5]) (
      P1 (.bin .add) [x2, .int .i64 1] fun v7 =>
      Q .normal [x0, v7, x2, x3])) (
    P1 (.sidx) [x0, x2] fun v8 =>
    P1 (.bin .eql) [v8, .int .u8 32] fun v9 =>
    ifB v9 (
      P1 (.bin .gtr) [x2, x1] fun v10 =>
      ifB v10 (
        P1 (.ssub) [x0, x1, x2] fun v11 =>
        P1 (.lst [.sc] false 1) [v11] fun v12 =>
        P1 (.app [.sc] 16) [x3, v12] fun v13 =>
        P1 (.bin .add) [x2, .int .i64 1] fun v14 =>
        Q .normal [x0, v14, x2, v13]) (
        P1 (.bin .add) [x2, .int .i64 1] fun v15 =>
        Q .normal [x0, v15, x2, x3])) (
      Q .normal [x0, x1, x2, x3]))) := by kernel_rfl

def impl_SplitFields_r2 : L := .tup [.v 0, .v 1, .v 2, .v 3]
theorem impl_SplitFields_r2_sh (Q : QT) (x0 x1 x2 x3 : V) : shL impl_SplitFields_r2 Q [x0, x1, x2, x3] = (
  Q .normal [x0, x1, x2, x3]) := by kernel_rfl

def impl_SplitFields_r3 : L := .rg [⟨[], .bin .add, [.v 2, .k (.int .i64 1)], 1⟩]
theorem impl_SplitFields_r3_sh (Q : QT) (x0 x1 x2 x3 : V) : shL impl_SplitFields_r3 Q [x0, x1, x2, x3] = (
  P1 (.bin .add) [x2, .int .i64 1] fun v0 =>
  Q .normal [x0, x1, x2, x3, v0]) := by kernel_rfl

def impl_SplitFields_r4 : L := .tup [.v 0, .v 1, .v 4, .v 3]
theorem impl_SplitFields_r4_sh (Q : QT) (x0 x1 x2 x3 x4 : V) : shL impl_SplitFields_r4 Q [x0, x1, x2, x3, x4] = (
  Q .normal [x0, x1, x4, x3]) := by kernel_rfl

def impl_SplitFields_b0 : L := .seq (.seq (.seq (.rg [⟨[], .slen, [.v 0], 1⟩, ⟨[], .bin .leq, [.v 2, .v 4], 1⟩]) (.ite (.v 5) (.skip) (.seq (.tup [.v 3]) (.exit 0)))) (.seq (.block 1 (.seq (.seq (.seq (.rg [⟨[], .slen, [.v 0], 1⟩, ⟨[], .bin .lss, [.v 2, .v 6], 1⟩, ⟨[(.v 7, true)], .sidx, [.v 0, .v 2], 1⟩, ⟨[(.v 7, true)], .bin .lss, [.v 8, .k (.int .u8 32)], 1⟩, ⟨[(.v 7, true), (.v 9, false)], .sidx, [.v 0, .v 2], 1⟩, ⟨[(.v 7, true), (.v 9, false)], .bin .gtr, [.v 10, .k (.int .u8 126)], 1⟩, ⟨[(.v 7, true)], .pick, [.v 9, .k (.bool true), .v 11], 1⟩, ⟨[], .pick, [.v 7, .v 12, .k (.bool false)], 1⟩]) (.ite (.v 13) (.seq (.rg []) (.ret [.k (.list [.sc] []), .k (.bool false)])) (.skip))) (impl_SplitFields_r1)) (impl_SplitFields_r2))) (impl_SplitFields_r3))) (impl_SplitFields_r4)
theorem impl_SplitFields_b0_sh (Q : QT) (x0 x1 x2 x3 : V) : shL impl_SplitFields_b0 Q [x0, x1, x2, x3] = (
  P1 (.slen) [x0] fun v0 =>
  P1 (.bin .leq) [x2, v0] fun v1 =>
  ifB v1 (
    P1 (.slen) [x0] fun v2 =>
    P1 (.bin .lss) [x2, v2] fun v3 =>
    ifB v3 (
      P1 (.sidx) [x0, x2] fun v4 =>
      P1 (.bin .lss) [v4, .int .u8 32] fun v5 =>
      ifB v5 (
        Q .ret [.list [.sc] [], .bool false]) (
        P1 (.sidx) [x0, x2] fun v6 =>
        P1 (.bin .gtr) [v6, .int .u8 126] fun v7 =>
        ifB v7 (
          Q .ret [.list [.sc] [], .bool false]) (
          shL impl_SplitFields_r1 (qS (shL impl_SplitFields_r2 (qB 1 (qS (shL impl_SplitFields_r3 (qS (shL impl_SplitFields_r4 Q) Q)) (qS (shL impl_SplitFields_r4 Q) Q)))) (qB 1 (qS (shL impl_SplitFields_r3 (qS (shL impl_SplitFields_r4 Q) Q)) (qS (shL impl_SplitFields_r4 Q) Q)))) [x0, x1, x2, x3, v0, .bool true, v2, .bool true, v4, .bool false, v6, v7, v7, .bool false]))) (
      shL impl_SplitFields_r1 (qS (shL impl_SplitFields_r2 (qB 1 (qS (shL impl_SplitFields_r3 (qS (shL impl_SplitFields_r4 Q) Q)) (qS (shL impl_SplitFields_r4 Q) Q)))) (qB 1 (qS (shL impl_SplitFields_r3 (qS (shL impl_SplitFields_r4 Q) Q)) (qS (shL impl_SplitFields_r4 Q) Q)))) [x0, x1, x2, x3, v0, .bool true, v2, .bool false, .list [] [], .list [] [], .list [] [], .list [] [], .list [] [], .bool false])) (
    Q (.exit 0) [x3])) := by kernel_rfl

def impl_SplitFields_r5 : L := .seq (.seq (.rg [⟨[], .len, [.v 0], 1⟩, ⟨[], .bin .gtr, [.v 1, .k (.int .i64 24)], 1⟩]) (.ite (.v 2) (.seq (.rg []) (.ret [.k (.list [.sc] []), .k (.bool false)])) (.skip))) (.seq (.rg []) (.ret [.v 0, .k (.bool true)]))
theorem impl_SplitFields_r5_sh (Q : QT) (x0 : V) : shL impl_SplitFields_r5 Q [x0] = (
  P1 (.len) [x0] fun v0 =>
  P1 (.bin .gtr) [v0, .int .i64 24] fun v1 =>
  ifB v1 (
    Q .ret [.list [.sc] [], .bool false]) (
    Q .ret [x0, .bool true])) := by kernel_rfl

def impl_SplitFields_L : L := .seq (.rg []) (.seq (.seq (.rg [⟨[], .slen, [.v 0], 1⟩, ⟨[], .bin .gtr, [.v 1, .k (.int .i64 600)], 1⟩]) (.ite (.v 2) (.seq (.rg []) (.ret [.k (.list [.sc] []), .k (.bool false)])) (.skip))) (.seq (.rg [⟨[], .lst [.sc] false 0, [], 1⟩]) (.seq (.rg []) (.seq (.seq (.rg []) (.block 0 (.seq (.tup [.v 0, .k (.int .i64 0), .k (.int .i64 0), .v 3]) (.loop (impl_SplitFields_b0))))) (impl_SplitFields_r5)))))
theorem impl_SplitFields_L_sh (Q : QT) (x0 : V) : shL impl_SplitFields_L Q [x0] = (
  P1 (.slen) [x0] fun v0 =>
  P1 (.bin .gtr) [v0, .int .i64 600] fun v1 =>
  ifB v1 (
    Q .ret [.list [.sc] [], .bool false]) (
    P1 (.lst [.sc] false 0) [] fun v2 =>
    shL (.loop impl_SplitFields_b0) (qB 0 (qS (shL impl_SplitFields_r5 Q) Q)) [x0, .int .i64 0, .int .i64 0, v2])) := by kernel_rfl
def impl_SplitFields_S : Sig := ⟨[.val false [.sc]], [(false, [.sl [.sc]]), (false, [.sc])], F_SplitFields⟩
def impl_SplitFields_hs : List NF := [⟨[(4, .sc false [.own 64])], [(64, true, [.sc])], [], 65⟩, ⟨[(0, .sc false [.sc]), (4, .sc false [.own 64]), (5, .sc false [.sc]), (6, .sc false [.sc])], [(64, true, [.sc])], [], 65⟩, ⟨[(0, .sc false [.sc]), (4, .sc false [.own 64]), (5, .sc false [.sc]), (6, .sc false [.sc])], [(64, true, [.sc])], [], 65⟩, ⟨[(0, .sc false [.sc]), (4, .sc false [.own 64]), (6, .sc false [.sc])], [(64, true, [.sc])], [], 65⟩, ⟨[(0, .sc false [.sc]), (4, .sc false [.own 64]), (5, .sc false [.sc]), (6, .sc false [.sc])], [(64, true, [.sc])], [], 65⟩]

def impl_ParseUint_L : L := .seq (.rg []) (.seq (.rg [⟨[], .call F_strconv_Atoi 0 2, [.v 0], 2⟩]) (.seq (.seq (.rg [⟨[], .isNil true, [.v 2], 1⟩, ⟨[(.v 3, false)], .bin .lss, [.v 1, .k (.int .i64 0)], 1⟩, ⟨[], .pick, [.v 3, .k (.bool true), .v 4], 1⟩, ⟨[(.v 5, false)], .bin .gtr, [.v 1, .k (.int .i64 1000000000)], 1⟩, ⟨[], .pick, [.v 5, .k (.bool true), .v 6], 1⟩, ⟨[(.v 7, false)], .call F_FormatInt 0 1, [.v 1], 1⟩, ⟨[(.v 7, false)], .bin .neq, [.v 8, .v 0], 1⟩, ⟨[], .pick, [.v 7, .k (.bool true), .v 9], 1⟩]) (.ite (.v 10) (.seq (.rg []) (.ret [.k (.int .i64 0), .k (.bool false)])) (.skip))) (.seq (.rg []) (.ret [.v 1, .k (.bool true)]))))
theorem impl_ParseUint_L_sh (Q : QT) (x0 : V) : shL impl_ParseUint_L Q [x0] = (
  P2 (.call F_strconv_Atoi 0 2) [x0] fun v0 v1 =>
  P1 (.isNil true) [v1] fun v2 =>
  ifB v2 (
    Q .ret [.int .i64 0, .bool false]) (
    P1 (.bin .lss) [v0, .int .i64 0] fun v3 =>
    ifB v3 (
      Q .ret [.int .i64 0, .bool false]) (
      P1 (.bin .gtr) [v0, .int .i64 1000000000] fun v4 =>
      ifB v4 (
        Q .ret [.int .i64 0, .bool false]) (
        P1 (.call F_FormatInt 0 1) [v0] fun v5 =>
        P1 (.bin .neq) [v5, x0] fun v6 =>
        ifB v6 (
          Q .ret [.int .i64 0, .bool false]) (
          Q .ret [v0, .bool true]))))) := by kernel_rfl
def impl_ParseUint_S : Sig := ⟨[.val false [.sc]], [(false, [.sc]), (false, [.sc])], F_ParseUint⟩
def impl_ParseUint_hs : List NF := []

def impl_ParseAct_b0 : L := .seq (.seq (.rg [⟨[], .bin .lss, [.v 2, .v 1], 1⟩]) (.seq (.ite (.v 8) (.skip) (.seq (.tup [.v 3, .v 4, .v 5, .v 6, .v 7]) (.exit 0))) (.seq (.block 1 (.seq (.seq (.rg [⟨[], .idx [.sc], [.v 0, .v 2], 1⟩]) (.seq (.rg [⟨[], .call F_ParseUint 0 2, [.v 9], 2⟩]) (.seq (.seq (.rg [⟨[], .un .not, [.v 11], 1⟩]) (.ite (.v 12) (.seq (.rg []) (.ret [.k (.int .i64 0), .k (.int .i64 0), .k (.int .i64 0), .k (.bool false)])) (.skip))) (.rg [⟨[], .lst [.sc] false 1, [.v 10], 1⟩, ⟨[], .app [.sc] 8, [.v 4, .v 13], 1⟩])))) (.tup [.v 0, .v 1, .v 2, .v 3, .v 14, .v 5, .v 6, .v 7]))) (.rg [⟨[], .bin .add, [.v 2, .k (.int .i64 1)], 1⟩])))) (.tup [.v 0, .v 1, .v 8, .v 3, .v 4, .v 5, .v 6, .v 7])
theorem impl_ParseAct_b0_sh (Q : QT) (x0 x1 x2 x3 x4 x5 x6 x7 : V) : shL impl_ParseAct_b0 Q [x0, x1, x2, x3, x4, x5, x6, x7] = (
  P1 (.bin .lss) [x2, x1] fun v0 =>
  ifB v0 (
    P1 (.idx [.sc]) [x0, x2] fun v1 =>
    P2 (.call F_ParseUint 0 2) [v1] fun v2 v3 =>
    P1 (.un .not) [v3] fun v4 =>
    ifB v4 (
      Q .ret [.int .i64 0, .int .i64 0, .int .i64 0, .bool false]) (
      P1 (.lst [.sc] false 1) [v2] fun v5 =>
      P1 (.app [.sc] 8) [x4, v5] fun v6 =>
      P1 (.bin .add) [x2, .int .i64 1] fun v7 =>
      Q .normal [x0, x1, v7, x3, v6, x5, x6, x7])) (
    Q (.exit 0) [x3, x4, x5, x6, x7])) := by kernel_rfl

def impl_ParseAct_b2 : L := .seq (.seq (.seq (.rg [⟨[], .bin .leq, [.v 0, .k (.int .i64 6)], 1⟩]) (.ite (.v 6) (.skip) (.seq (.tup [.v 3, .v 4, .v 5]) (.exit 2)))) (.seq (.block 3 (.seq (.seq (.rg [⟨[], .idx [.sc], [.v 1, .k (.int .i64 0)], 1⟩, ⟨[], .call F_actWord 0 1, [.v 0], 1⟩, ⟨[], .bin .neq, [.v 7, .v 8], 1⟩, ⟨[(.v 9, false)], .len, [.v 2], 1⟩, ⟨[(.v 9, false)], .call F_actNumbers 0 1, [.v 0], 1⟩, ⟨[(.v 9, false)], .bin .neq, [.v 10, .v 11], 1⟩, ⟨[], .pick, [.v 9, .k (.bool true), .v 12], 1⟩]) (.ite (.v 13) (.seq (.tup [.v 0, .v 1, .v 2, .v 3, .v 4, .v 5]) (.exit 3)) (.skip))) (.seq (.rg [⟨[], .lst [.sc] false 2, [.k (.int .i64 0), .k (.int .i64 0)], 1⟩, ⟨[], .app [.sc] 8, [.v 2, .v 14], 1⟩]) (.seq (.rg [⟨[], .idx [.sc], [.v 15, .k (.int .i64 0)], 1⟩, ⟨[], .idx [.sc], [.v 15, .k (.int .i64 1)], 1⟩]) (.seq (.seq (.rg [⟨[], .call F_ActOk 0 1, [.v 0, .v 16, .v 17], 1⟩, ⟨[], .un .not, [.v 18], 1⟩]) (.ite (.v 19) (.seq (.rg []) (.ret [.k (.int .i64 0), .k (.int .i64 0), .k (.int .i64 0), .k (.bool false)])) (.skip))) (.seq (.rg []) (.ret [.v 0, .v 16, .v 17, .k (.bool true)]))))))) (.rg [⟨[], .bin .add, [.v 0, .k (.int .i64 1)], 1⟩]))) (.tup [.v 6, .v 1, .v 2, .v 3, .v 4, .v 5])
theorem impl_ParseAct_b2_sh (Q : QT) (x0 x1 x2 x3 x4 x5 : V) : shL impl_ParseAct_b2 Q [x0, x1, x2, x3, x4, x5] = (
  P1 (.bin .leq) [x0, .int .i64 6] fun v0 =>
  ifB v0 (
    P1 (.idx [.sc]) [x1, .int .i64 0] fun v1 =>
    P1 (.call F_actWord 0 1) [x0] fun v2 =>
    P1 (.bin .neq) [v1, v2] fun v3 =>
    ifB v3 (
      P1 (.bin .add) [x0, .int .i64 1] fun v4 =>
      Q .normal [v4, x1, x2, x3, x4, x5]) (
      P1 (.len) [x2] fun v5 =>
      P1 (.call F_actNumbers 0 1) [x0] fun v6 =>
      P1 (.bin .neq) [v5, v6] fun v7 =>
      ifB v7 (
        P1 (.bin .add) [x0, .int .i64 1] fun v8 =>
        Q .normal [v8, x1, x2, x3, x4, x5]) (
        P1 (.lst [.sc] false 2) [.int .i64 0, .int .i64 0] fun v9 =>
        P1 (.app [.sc] 8) [x2, v9] fun v10 =>
        P1 (.idx [.sc]) [v10, .int .i64 0] fun v11 =>
        P1 (.idx [.sc]) [v10, .int .i64 1] fun v12 =>
        P1 (.call F_ActOk 0 1) [x0, v11, v12] fun v13 =>
        P1 (.un .not) [v13] fun v14 =>
        ifB v14 (
          Q .ret [.int .i64 0, .int .i64 0, .int .i64 0, .bool false]) (
          Q .ret [x0, v11, v12, .bool true])))) (
    Q (.exit 2) [x3, x4, x5])) := by kernel_rfl

def impl_ParseAct_r3 : L := .seq (.rg []) (.ret [.k (.int .i64 0), .k (.int .i64 0), .k (.int .i64 0), .k (.bool false)])
theorem impl_ParseAct_r3_sh (Q : QT) (x0 x1 x2 : V) : shL impl_ParseAct_r3 Q [x0, x1, x2] = (
  Q .ret [.int .i64 0, .int .i64 0, .int .i64 0, .bool false]) := by kernel_rfl

def impl_ParseAct_r1 : L := .seq (.seq (.rg []) (.block 2 (.seq (.tup [.k (.int .i64 1), .v 0, .v 1, .v 2, .v 3, .v 4]) (.loop (impl_ParseAct_b2))))) (impl_ParseAct_r3)
theorem impl_ParseAct_r1_sh (Q : QT) (x0 x1 x2 x3 x4 : V) : shL impl_ParseAct_r1 Q [x0, x1, x2, x3, x4] = (
  shL (.loop impl_ParseAct_b2) (qB 2 (qS (shL impl_ParseAct_r3 Q) Q)) [.int .i64 1, x0, x1, x2, x3, x4]) := by kernel_rfl

def impl_ParseAct_L : L := .seq (.rg []) (.seq (.rg [⟨[], .call F_SplitFields 0 2, [.v 0], 2⟩]) (.seq (.seq (.rg [⟨[], .un .not, [.v 2], 1⟩, ⟨[(.v 3, false)], .len, [.v 1], 1⟩, ⟨[(.v 3, false)], .bin .eql, [.v 4, .k (.int .i64 0)], 1⟩, ⟨[], .pick, [.v 3, .k (.bool true), .v 5], 1⟩]) (.ite (.v 6) (.seq (.rg []) (.ret [.k (.int .i64 0), .k (.int .i64 0), .k (.int .i64 0), .k (.bool false)])) (.skip))) (.seq (.rg [⟨[], .lst [.sc] false 0, [], 1⟩]) (.seq (.seq (.rg [⟨[], .lsub [.sc], [.v 1, .k (.int .i64 1)], 1⟩, ⟨[], .len, [.v 8], 1⟩]) (.block 0 (.seq (.tup [.v 8, .v 9, .k (.int .i64 0), .v 1, .v 7, .k (.int .i64 0), .k (.int .i64 0), .k (.int .i64 0)]) (.loop (impl_ParseAct_b0))))) (impl_ParseAct_r1)))))
theorem impl_ParseAct_L_sh (Q : QT) (x0 : V) : shL impl_ParseAct_L Q [x0] = (
  P2 (.call F_SplitFields 0 2) [x0] fun v0 v1 =>
  P1 (.un .not) [v1] fun v2 =>
  ifB v2 (
    Q .ret [.int .i64 0, .int .i64 0, .int .i64 0, .bool false]) (
    P1 (.len) [v0] fun v3 =>
    P1 (.bin .eql) [v3, .int .i64 0] fun v4 =>
    ifB v4 (
      Q .ret [.int .i64 0, .int .i64 0, .int .i64 0, .bool false]) (
      P1 (.lst [.sc] false 0) [] fun v5 =>
      P1 (.lsub [.sc]) [v0, .int .i64 1] fun v6 =>
      P1 (.len) [v6] fun v7 =>
      shL (.loop impl_ParseAct_b0) (qB 0 (qS (shL impl_ParseAct_r1 Q) Q)) [v6, v7, .int .i64 0, v0, v5, .int .i64 0, .int .i64 0, .int .i64 0]))) := by kernel_rfl
def impl_ParseAct_S : Sig := ⟨[.val false [.sc]], [(true, [.sc, .sc, .sc]), (false, [.sc])], F_ParseAct⟩
def impl_ParseAct_hs : List NF := [⟨[(2, .ptr 64 0), (4, .sc false [.own 65]), (6, .sc false [.own 66])], [(65, true, [.sc]), (66, true, [.sc])], [(64, [.sc, .sc, .sc])], 67⟩, ⟨[(2, .ptr 64 0), (4, .sc false [.own 65]), (6, .sc false [.own 66]), (28, .sc false [.inn 65 [.sc]]), (29, .sc false [.sc]), (30, .sc false [.sc])], [(65, true, [.sc]), (66, true, [.sc])], [(64, [.sc, .sc, .sc])], 67⟩, ⟨[(2, .ptr 64 0), (4, .sc false [.own 65]), (6, .sc false [.own 66]), (28, .sc false [.inn 65 [.sc]]), (29, .sc false [.sc]), (30, .sc false [.sc])], [(65, true, [.sc]), (66, true, [.sc])], [(64, [.sc, .sc, .sc])], 67⟩, ⟨[(2, .ptr 64 0)], [], [(64, [.sc, .sc, .sc])], 65⟩, ⟨[(2, .ptr 64 0), (4, .sc false [.own 65]), (6, .sc false [.own 66]), (11, .sc false [.sc])], [(65, true, [.sc]), (66, true, [.sc])], [(64, [.sc, .sc, .sc])], 67⟩, ⟨[(2, .ptr 64 0), (4, .sc false [.own 65]), (6, .sc false [.own 66]), (11, .sc false [.sc])], [(65, true, [.sc]), (66, true, [.sc])], [(64, [.sc, .sc, .sc])], 67⟩]

def laws_FnExactParseAct_L : L := .seq (.rg []) (.seq (.seq (.rg [⟨[], .slen, [.v 0], 1⟩, ⟨[], .bin .gtr, [.v 1, .k (.int .i64 1048576)], 1⟩]) (.ite (.v 2) (.seq (.rg []) (.ret [.k (.bool true)])) (.skip))) (.seq (.rg [⟨[], .call F_ParseAct 0 4, [.v 0], 4⟩]) (.seq (.rg [⟨[], .call F_ParseAct 0 4, [.v 0], 4⟩]) (.seq (.seq (.rg [⟨[], .call F_eqAct 0 1, [.v 7, .v 8, .v 9, .v 3, .v 4, .v 5], 1⟩, ⟨[], .un .not, [.v 11], 1⟩, ⟨[(.v 12, false)], .binb .neq, [.v 10, .v 6], 1⟩, ⟨[], .pick, [.v 12, .k (.bool true), .v 13], 1⟩]) (.ite (.v 14) (.seq (.rg []) (.ret [.k (.bool false)])) (.skip))) (.seq (.rg []) (.ret [.k (.bool true)]))))))
theorem laws_FnExactParseAct_L_sh (Q : QT) (x0 : V) : shL laws_FnExactParseAct_L Q [x0] = (
  P1 (.slen) [x0] fun v0 =>
  P1 (.bin .gtr) [v0, .int .i64 1048576] fun v1 =>
  ifB v1 (
    Q .ret [.bool true]) (
    P4 (.call F_ParseAct 0 4) [x0] fun v2 v3 v4 v5 =>
    P4 (.call F_ParseAct 0 4) [x0] fun v6 v7 v8 v9 =>
    P1 (.call F_eqAct 0 1) [v6, v7, v8, v2, v3, v4] fun v10 =>
    P1 (.un .not) [v10] fun v11 =>
    ifB v11 (
      Q .ret [.bool false]) (
      P1 (.binb .neq) [v9, v5] fun v12 =>
      ifB v12 (
        Q .ret [.bool false]) (
        Q .ret [.bool true])))) := by kernel_rfl
def laws_FnExactParseAct_S : Sig := ⟨[.val false [.sc]], [(false, [.sc])], F_FnExactParseAct⟩
def laws_FnExactParseAct_hs : List NF := []

def laws_FnActTexts_b0 : L := .seq (.seq (.seq (.rg [⟨[], .len, [.v 1], 1⟩, ⟨[], .bin .lss, [.v 0, .v 2], 1⟩]) (.ite (.v 3) (.skip) (.seq (.tup []) (.exit 0)))) (.seq (.block 1 (.seq (.seq (.rg [⟨[], .idx [.sc, .sc, .sc], [.v 1, .v 0], 3⟩, ⟨[], .call F_FormatAct 0 2, [.v 4, .v 5, .v 6], 2⟩]) (.seq (.rg [⟨[], .bin .add, [.k (.str [32, 32]), .v 7], 1⟩, ⟨[], .bin .add, [.v 9, .k (.str [32])], 1⟩, ⟨[], .call F_ParseAct 0 4, [.v 10], 4⟩]) (.seq (.rg [⟨[], .un .not, [.v 8], 1⟩, ⟨[(.v 15, false)], .un .not, [.v 14], 1⟩, ⟨[], .pick, [.v 15, .k (.bool true), .v 16], 1⟩, ⟨[(.v 17, false)], .idx [.sc, .sc, .sc], [.v 1, .v 0], 3⟩, ⟨[(.v 17, false)], .eqa true [.i, .i, .i], [.v 11, .v 12, .v 13, .v 18, .v 19, .v 20], 1⟩, ⟨[], .pick, [.v 17, .k (.bool true), .v 21], 1⟩]) (.ite (.v 22) (.seq (.rg []) (.ret [.k (.bool false)])) (.skip))))) (.tup [.v 0, .v 1]))) (.rg [⟨[], .bin .add, [.v 0, .k (.int .i64 1)], 1⟩]))) (.tup [.v 2, .v 1])
theorem laws_FnActTexts_b0_sh (Q : QT) (x0 x1 : V) : shL laws_FnActTexts_b0 Q [x0, x1] = (
  P1 (.len) [x1] fun v0 =>
  P1 (.bin .lss) [x0, v0] fun v1 =>
  ifB v1 (
    P3 (.idx [.sc, .sc, .sc]) [x1, x0] fun v2 v3 v4 =>
    P2 (.call F_FormatAct 0 2) [v2, v3, v4] fun v5 v6 =>
    P1 (.bin .add) [.str [32, 32], v5] fun v7 =>
    P1 (.bin .add) [v7, .str [32]] fun v8 =>
    P4 (.call F_ParseAct 0 4) [v8] fun v9 v10 v11 v12 =>
    P1 (.un .not) [v6] fun v13 =>
    ifB v13 (
      Q .ret [.bool false]) (
      P1 (.un .not) [v12] fun v14 =>
      ifB v14 (
        Q .ret [.bool false]) (
        P3 (.idx [.sc, .sc, .sc]) [x1, x0] fun v15 v16 v17 =>
        P1 (.eqa true [.i, .i, .i]) [v9, v10, v11, v15, v16, v17] fun v18 =>
        ifB v18 (
          Q .ret [.bool false]) (
          P1 (.bin .add) [x0, .int .i64 1] fun v19 =>
          Q .normal [v19, x1])))) (
    Q (.exit 0) [])) := by kernel_rfl

def laws_FnActTexts_r1 : L := .seq (.rg []) (.ret [.k (.bool true)])
theorem laws_FnActTexts_r1_sh (Q : QT) : shL laws_FnActTexts_r1 Q [] = (
  Q .ret [.bool true]) := by kernel_rfl

def laws_FnActTexts_L : L := .seq (.rg []) (.seq (.seq (.rg [⟨[], .call F_big 0 1, [.v 0], 1⟩]) (.ite (.v 1) (.seq (.rg []) (.ret [.k (.bool true)])) (.skip))) (.seq (.rg [⟨[], .call F_DrawActs 0 11, [.v 0], 11⟩]) (.seq (.seq (.rg []) (.block 0 (.seq (.tup [.k (.int .i64 0), .v 12]) (.loop (laws_FnActTexts_b0))))) (laws_FnActTexts_r1))))
theorem laws_FnActTexts_L_sh (Q : QT) (x0 : V) : shL laws_FnActTexts_L Q [x0] = (
  P1 (.call F_big 0 1) [x0] fun v0 =>
  ifB v0 (
    Q .ret [.bool true]) (
    P11 (.call F_DrawActs 0 11) [x0] fun _ _ _ _ _ _ _ _ _ _ v11 =>
    shL (.loop laws_FnActTexts_b0) (qB 0 (qS (shL laws_FnActTexts_r1 Q) Q)) [.int .i64 0, v11])) := by kernel_rfl
def laws_FnActTexts_S : Sig := ⟨[.val false [.sl [.sc]]], [(false, [.sc])], F_FnActTexts⟩
def laws_FnActTexts_hs : List NF := [⟨[], [], [], 64⟩, ⟨[(4, .sc false [.own 64]), (5, .sc false [.sc])], [(64, true, [.sc, .sc, .sc])], [], 65⟩, ⟨[(4, .sc false [.own 64]), (5, .sc false [.sc])], [(64, true, [.sc, .sc, .sc])], [], 65⟩]

end
end Go.Mw

/- Numbers and fields read from texts. -/
namespace Go.Mw
open Go.Lib (decDigits itoa)
section
variable {k : V → Prop} {κ κ' : IntKind} {i j : Int} {l : List UInt8}
@[simp] theorem P1_slen : P1 .slen [.str l] k ↔ k (.int .i64 l.length) := P1_of (by simp [Prim.run]) k
@[simp] theorem P1_sidx : P1 .sidx [.str l, .int κ i] k ↔ 0 ≤ i ∧ ∃ b, l[i.toNat]? = some b ∧ k (.int .u8 b.toNat) := by
  by_cases h : 0 ≤ i
  · cases hb : l[i.toNat]? with
    | some b => rw [P1_of (v := .int .u8 b.toNat) (by simp [Prim.run, h, hb])]; simp [h]
    | none =>
      constructor
      · rintro ⟨a, e, _⟩
        simp [Prim.run, h, hb] at e
      · rintro ⟨_, b, e, _⟩; cases e
  · constructor
    · rintro ⟨a, e, _⟩
      simp [Prim.run, h] at e
    · intro ⟨h1, _⟩; exact absurd h1 h
@[simp] theorem P1_ssub2 : P1 .ssub [.str l, .int κ i, .int κ' j] k ↔ (0 ≤ i ∧ i ≤ j ∧ j ≤ l.length) ∧ k (.str ((l.take j.toNat).drop i.toNat)) := P1_opt (by simp [Prim.run, subB]) k
@[simp] theorem P1_ssub1 : P1 .ssub [.str l, .int κ i] k ↔ (0 ≤ i ∧ i ≤ l.length) ∧ k (.str (l.drop i.toNat)) := P1_opt (by simp [Prim.run, subB]) k
@[simp] theorem P1_notNil {b : Bool} : P1 (.isNil true) [.err b] k ↔ k (.bool b) := P1_of (by simp [Prim.run]) k
end
/-! numbers -/
theorem all_snoc {s : List UInt8} {k : Nat} {p : UInt8 → Bool} (h : k < s.length) : (s.take (k + 1)).all p = ((s.take k).all p && p s[k]) := by
  rw [take_succ_get h, List.all_append]; simp
theorem uNum_no {s : List UInt8} (h : uOk s = false) : uNum s = 0 := by simp [uNum, h]
theorem uOk_nodig {s : List UInt8} {k : Nat} (h : k < s.length) (h2 : isDig s[k] = false) : uOk s = false := by
  have : s.all isDig = false := by
    rw [List.all_eq_false]
    exact ⟨s[k], List.getElem_mem h, by simp [h2]⟩
  simp [uOk, this]
theorem spec_ParseUint_ok : ∀ ds outs, F_ParseUint ds = some outs → shL spec_ParseUint_L (qRet outs) ds := F_ParseUint_elim fun s hp => by
  rw [spec_ParseUint_L_sh]
  simp only [P1_slen, P1_gtr, ifB_bool, decide_eq_true_eq, decide_eq_false_iff_not, qRet_ret]
  refine ⟨fun h => ?_, fun h => ?_⟩
  · have h4 : uOk s = false := by simp [uOk]; omega
    simp [uNum_no h4, h4]
  have hl : s.length ≤ 10 := by omega
  refine loop_upto s.length (fun k => [.str s, .int .i64 (uval (s.take k)), .int .i64 k]) (fun i j _ _ e => by simp at e; omega) (fun k => (s.take k).all isDig = true) (by simp [uval]) (by simp) ?_
  intro k hk ha
  rw [spec_ParseUint_b0_sh]
  have hlt := uval_lt ha
  have h10 : (10 : Nat) ^ (s.take k).length ≤ 10 ^ 10 := Nat.pow_le_pow_right (by omega) (by rw [List.length_take]; omega)
  have hb : uval (s.take k) < 10000000000 := Nat.lt_of_lt_of_le hlt h10
  clear hlt h10
  simp only [P1_slen, P1_lss, ifB_bool, decide_eq_true_eq, decide_eq_false_iff_not]
  refine ⟨fun h => ?_, fun h => ?_⟩
  · have h2 : k < s.length := by omega
    simp only [P1_sidx, Int.toNat_natCast, List.getElem?_eq_getElem h2, Option.some.injEq, exists_eq_left', P1_lss, ifB_bool, decide_eq_true_eq, decide_eq_false_iff_not]
    refine ⟨by omega, fun h3 => ?_, fun h3 => ⟨by omega, ?_⟩⟩
    · have h4 := uOk_nodig h2 (by simp only [isDig, Bool.and_eq_false_iff, decide_eq_false_iff_not]; omega)
      simp [uNum_no h4, h4]
    · simp only [P1_gtr, ifB_bool, decide_eq_true_eq, decide_eq_false_iff_not]
      refine ⟨fun h5 => ?_, fun h5 => ?_⟩
      · have h4 := uOk_nodig h2 (by simp only [isDig, Bool.and_eq_false_iff, decide_eq_false_iff_not]; omega)
        simp [uNum_no h4, h4]
      · have w1 : IntKind.i64.wrap (10 * (uval (s.take k) : Int)) = 10 * (uval (s.take k) : Int) := wrap_id (by omega) (by omega)
        have w2 : IntKind.i64.wrap (s[k].toNat : Int) = s[k].toNat := wrap_id (by omega) (by omega)
        have w3 : IntKind.i64.wrap (10 * (uval (s.take k) : Int) + s[k].toNat) = 10 * (uval (s.take k) : Int) + s[k].toNat := wrap_id (by omega) (by omega)
        have w4 : IntKind.i64.wrap (10 * (uval (s.take k) : Int) + s[k].toNat - 48) = ((10 * uval (s.take k) + (s[k].toNat - 48) : Nat) : Int) := by rw [wrap_id (by omega) (by omega)]; omega
        have w5 : IntKind.i64.wrap ((k : Int) + 1) = ((k + 1 : Nat) : Int) := by rw [wrap_id (by omega) (by omega)]; omega
        simp only [P1_mul, w1, P1_conv, w2, P1_add, w3, P1_sub, w4, w5, qS_normal]
        refine ⟨by omega, h2, ?_, ?_⟩
        · rw [take_succ_get h2, uval_snoc]
        · rw [all_snoc h2, ha]
          simp only [isDig, Bool.true_and, Bool.and_eq_true, decide_eq_true_eq]; omega
  · have e : k = s.length := by omega
    subst e
    rw [List.take_length] at ha hb
    simp only [qS_exit, qB_exit, if_true, qS_normal, spec_ParseUint_r1_sh, P1_gtr, ifB_bool, decide_eq_true_eq, decide_eq_false_iff_not, List.take_length, qRet_ret]
    refine ⟨fun h3 => ?_, fun h3 => ?_⟩
    · have h4 : uOk s = false := by simp [uOk]; intro _ _; omega
      simp [uNum_no h4, h4]
    · rw [p_FormatInt (by omega)]
      simp only [P1_neqS, ifB_bool, Bool.not_eq_true', Bool.not_eq_false', beq_eq_false_iff_ne, beq_iff_eq]
      refine ⟨fun h5 => ?_, fun h5 => ?_⟩
      · have h4 : uOk s = false := by
          simp only [uOk, h5, decide_false, Bool.and_false]
        simp [uNum_no h4, h4]
      · have h4 : uOk s = true := by
          simp only [uOk, Bool.and_eq_true, decide_eq_true_eq]
          exact ⟨hl, ha, by omega, h5⟩
        simp [uNum, h4]
theorem impl_ParseUint_ok : ∀ ds outs, F_ParseUint ds = some outs → shL impl_ParseUint_L (qRet outs) ds := F_ParseUint_elim fun s hp => by
  rw [impl_ParseUint_L_sh, p_strconv_Atoi (by omega)]
  have hi := atoi_back (s := s)
  simp only [P1_notNil, ifB_bool, P1_lss, P1_gtr, decide_eq_true_eq, decide_eq_false_iff_not, qRet_ret]
  have hno : ¬ (atoiE s = false ∧ (0 ≤ atoiV s ∧ (atoiV s ≤ 1000000000 ∧ itoa (atoiV s) = s))) → [V.int .i64 0, V.bool false] = [V.int .i64 (uNum s), V.bool (uOk s)] := by
    intro h
    have h4 : uOk s = false := by
      cases h5 : uOk s with
      | false => rfl
      | true => exact absurd (hi.2 h5) h
    simp [uNum_no h4, h4]
  refine ⟨fun h => hno (by simp [h]), fun h1 => ⟨fun h => hno (by omega), fun h2 => ⟨fun h => hno (by omega), fun h3 => ?_⟩⟩⟩
  rw [p_FormatInt (by omega)]
  simp only [P1_neqS, ifB_bool, Bool.not_eq_true', Bool.not_eq_false', beq_eq_false_iff_ne, beq_iff_eq]
  refine ⟨fun h => hno (fun h5 => h h5.2.2.2), fun h4 => ?_⟩
  have h5 := hi.1 ⟨h1, by omega, by omega, h4⟩
  have h6 := atoi_num h5
  simp [uNum, h5, h6]
theorem spec_l40Number_ok : ∀ ds outs, F_l40Number ds = some outs → shL spec_l40Number_L (qRet outs) ds := F_l40Number_elim fun s hp => by
  rw [spec_l40Number_L_sh]
  simp only [P1_slen, P1_gtr, ifB_bool, decide_eq_true_eq, decide_eq_false_iff_not]
  have b1 := fun (t : List UInt8) => show 0 ≤ uNum t ∧ uNum t ≤ 1000000000 from by
    cases h : uOk t with
    | true => exact (uOk_small h).2
    | false => rw [uNum_no h]; omega
  refine ⟨fun h => ?_, fun h => ?_⟩
  · have h0 : 0 < s.length := by omega
    simp only [P1_sidx, Int.toNat_zero, List.getElem?_eq_getElem h0, Option.some.injEq, exists_eq_left', P1_eql, ifB_bool, beq_iff_eq, beq_eq_false_iff_ne, ne_eq]
    refine ⟨by omega, fun h2 => ?_, fun h2 => ?_⟩
    · have e : s[0] = 45 := UInt8.toNat_inj.1 (by have : (s[0].toNat : Int) = 45 := h2; show s[0].toNat = 45; omega)
      simp only [P1_ssub1]
      refine ⟨by omega, ?_⟩
      have hb := b1 (s.drop 1)
      rw [p_ParseUint (by rw [List.length_drop]; omega)]
      simp only [P1_neg]
      have w : IntKind.i64.wrap (0 - uNum (s.drop (1 : Int).toNat)) = -(uNum (s.drop 1)) := by
        show IntKind.i64.wrap (0 - uNum (s.drop 1)) = _
        rw [wrap_id (by omega) (by omega)]; omega
      rw [w]
      have : l40N s = -(uNum (s.drop 1)) := by
        unfold l40N
        rw [if_pos ⟨by omega, by rw [List.getElem?_eq_getElem h0, e]⟩]
      simp [this]
    · rw [p_ParseUint hp]
      have : l40N s = uNum s := by
        unfold l40N
        rw [if_neg]
        rintro ⟨_, h3⟩
        rw [List.getElem?_eq_getElem h0, Option.some.injEq] at h3
        rw [h3] at h2
        exact h2 rfl
      simp [this]
  · rw [p_ParseUint hp]
    have : l40N s = uNum s := by
      unfold l40N
      rw [if_neg]
      rintro ⟨h3, _⟩; omega
    simp [this]

/-! fields -/
theorem fieldsTo_le (s : List UInt8) : ∀ i, (fieldsTo s i).2 ≤ i ∧ (fieldsTo s i).1.length ≤ i
  | 0 => by simp [fieldsTo]
  | i + 1 => by
    have ih := fieldsTo_le s i
    unfold fieldsTo
    split
    · split
      · refine ⟨Nat.le_refl _, ?_⟩
        simp only
        split
        · rw [List.length_append, List.length_singleton]; omega
        · omega
      · omega
    · refine ⟨Nat.le_refl _, ?_⟩
      simp only
      split
      · rw [List.length_append, List.length_singleton]; omega
      · omega
theorem fieldsOk_bad {s : List UInt8} {k : Nat} (h : k < s.length) (h2 : plainB s[k] = false) : fieldsOk s = false := by
  have : s.all plainB = false := by
    rw [List.all_eq_false]
    exact ⟨s[k], List.getElem_mem h, by simp [h2]⟩
  simp [fieldsOk, this]
theorem fieldsOf_no {s : List UInt8} (h : fieldsOk s = false) : fieldsOf s = [] := by simp [fieldsOf, h]
theorem fieldsTo_end {s : List UInt8} : fieldsTo s (s.length + 1) = (if (fieldsTo s s.length).2 < s.length then (fieldsTo s s.length).1 ++ [(s.take s.length).drop (fieldsTo s s.length).2] else (fieldsTo s s.length).1, s.length + 1) := by
  rw [fieldsTo, List.getElem?_eq_none (Nat.le_refl _)]
theorem fieldsTo_space {s : List UInt8} {k : Nat} (h : k < s.length) (e : s[k] = 32) : fieldsTo s (k + 1) = (if (fieldsTo s k).2 < k then (fieldsTo s k).1 ++ [(s.take k).drop (fieldsTo s k).2] else (fieldsTo s k).1, k + 1) := by
  rw [fieldsTo, List.getElem?_eq_getElem h]; simp only [if_pos e]
theorem fieldsTo_other {s : List UInt8} {k : Nat} (h : k < s.length) (e : ¬ s[k] = 32) : fieldsTo s (k + 1) = fieldsTo s k := by
  rw [fieldsTo, List.getElem?_eq_getElem h]; simp only [if_neg e]
theorem is32 {b : UInt8} : (b.toNat : Int) = 32 ↔ b = 32 := by
  constructor
  · intro h
    exact UInt8.toNat_inj.1 (by show b.toNat = 32; omega)
  · rintro rfl; rfl
end Go.Mw

/- Fields of texts. -/
namespace Go.Mw
open Go.Lib (decDigits itoa)
theorem plainB_no1 {b : UInt8} (h : (b.toNat : Int) < 32) : plainB b = false := by
  simp only [plainB, Bool.and_eq_false_iff, decide_eq_false_iff_not]; omega
theorem plainB_no2 {b : UInt8} (h : (126 : Int) < b.toNat) : plainB b = false := by
  simp only [plainB, Bool.and_eq_false_iff, decide_eq_false_iff_not]; omega
theorem plainB_yes {b : UInt8} (h : ¬ (b.toNat : Int) < 32) (h2 : ¬ (126 : Int) < b.toNat) : plainB b = true := by
  simp only [plainB, Bool.and_eq_true, decide_eq_true_eq]; omega
theorem fieldsOk_long {s : List UInt8} (h : 600 < s.length) : fieldsOk s = false := by simp [fieldsOk]; omega
theorem fieldsOk_many {s : List UInt8} (h : 24 < (fieldsTo s (s.length + 1)).1.length) : fieldsOk s = false := by
  have : decide ((fieldsTo s (s.length + 1)).1.length ≤ 24) = false := by simp; omega
  simp [fieldsOk, this]
theorem fieldsOk_yes {s : List UInt8} (h : s.length ≤ 600) (h2 : s.all plainB = true) (h3 : (fieldsTo s (s.length + 1)).1.length ≤ 24) : fieldsOk s = true := by
  simp only [fieldsOk, Bool.and_eq_true, decide_eq_true_eq]; exact ⟨h, h2, h3⟩
theorem fieldsTo_grow {s : List UInt8} {k : Nat} (h : k < s.length → s[k]? = some 32) (hk : k ≤ s.length) : fieldsTo s (k + 1) = (if (fieldsTo s k).2 < k then (fieldsTo s k).1 ++ [(s.take k).drop (fieldsTo s k).2] else (fieldsTo s k).1, k + 1) := by
  rcases Nat.lt_or_ge k s.length with h1 | h1
  · have := h h1
    rw [List.getElem?_eq_getElem h1, Option.some.injEq] at this
    exact fieldsTo_space h1 this
  · obtain rfl : k = s.length := by omega
    exact fieldsTo_end

theorem spec_SplitFields_ok : ∀ ds outs, F_SplitFields ds = some outs → shL spec_SplitFields_L (qRet outs) ds := F_SplitFields_elim fun s hp => by
  rw [spec_SplitFields_L_sh]
  simp only [P1_lst0, P1_slen, P1_gtr, ifB_bool, decide_eq_true_eq, decide_eq_false_iff_not, qRet_ret]
  refine ⟨fun h => ?_, fun h => ?_⟩
  · have h4 := fieldsOk_long (s := s) (by omega)
    simp [fieldsOf_no h4, h4]
  have hl : s.length ≤ 600 := by omega
  refine loop_upto (s.length + 1) (fun k => [.str s, .int .i64 (fieldsTo s k).2, .int .i64 k, vL I1 vS (fieldsTo s k).1]) (fun i j _ _ e => by simp at e; omega) (fun k => (s.take k).all plainB = true) (by simp [fieldsTo]) (by simp) ?_
  intro k hk ha
  obtain ⟨g1, g2⟩ := fieldsTo_le s k
  have w5 : IntKind.i64.wrap ((k : Int) + 1) = ((k + 1 : Nat) : Int) := by rw [wrap_id (by omega) (by omega)]; omega
  rw [spec_SplitFields_b0_sh]
  simp only [P1_slen, P1_leq, P1_lss, ifB_bool, decide_eq_true_eq, decide_eq_false_iff_not]
  refine ⟨fun hk2 => ⟨fun h1 => ?_, fun h1 => ?_⟩, fun hk2 => ?_⟩
  · have h2 : k < s.length := by omega
    simp only [P1_sidx, Int.toNat_natCast, List.getElem?_eq_getElem h2, Option.some.injEq, exists_eq_left', P1_lss, ifB_bool, decide_eq_true_eq, decide_eq_false_iff_not, P1_lst0]
    refine ⟨by omega, fun h3 => ?_, fun h3 => ⟨by omega, ?_⟩⟩
    · have h4 := fieldsOk_bad h2 (plainB_no1 h3)
      simp [fieldsOf_no h4, h4]
    simp only [P1_gtr, ifB_bool, decide_eq_true_eq, decide_eq_false_iff_not]
    refine ⟨fun h5 => ?_, fun h5 => ?_⟩
    · have h4 := fieldsOk_bad h2 (plainB_no2 h5)
      simp [fieldsOf_no h4, h4]
    have hP : (s.take (k + 1)).all plainB = true := by rw [all_snoc h2, ha, plainB_yes h3 h5]; rfl
    rw [spec_SplitFields_r1_sh]
    simp only [P1_slen, P1_lss, ifB_bool, decide_eq_true_eq, decide_eq_false_iff_not, P1_sidx, Int.toNat_natCast, List.getElem?_eq_getElem h2, Option.some.injEq, exists_eq_left', P1_neq, bne_iff_ne, ne_eq, bne_eq_false_iff_eq]
    refine ⟨fun _ => ⟨by omega, fun h6 => ?_, fun h6 => ?_⟩, fun h9 => absurd h1 h9⟩
    · have e := fieldsTo_other h2 (fun h7 => h6 (is32.2 h7))
      simp only [qS_exit, qB_exit, if_true, qS_normal, spec_SplitFields_r3_sh, spec_SplitFields_r4_sh, P1_add, w5, e]
      exact ⟨by omega, trivial, hP⟩
    · have e := fieldsTo_grow (s := s) (k := k) (fun _ => by rw [List.getElem?_eq_getElem h2, is32.1 h6]) (by omega)
      refine ⟨fun h7 => ?_, fun h7 => ?_⟩
      · rw [if_pos (by omega)] at e
        simp only [P1_ssub2, P1_lstS1, P1_appS_, P1_add, w5, List.length_singleton, qS_normal, qB_normal, spec_SplitFields_r2_sh, spec_SplitFields_r3_sh, spec_SplitFields_r4_sh, e, Int.toNat_natCast]
        exact ⟨by omega, ⟨by omega, by omega⟩, by omega, trivial, hP⟩
      · rw [if_neg (by omega)] at e
        simp only [P1_add, w5, qS_normal, qB_normal, spec_SplitFields_r2_sh, spec_SplitFields_r3_sh, spec_SplitFields_r4_sh, e]
        exact ⟨by omega, trivial, hP⟩
  · have h2 : k = s.length := by omega
    have hP : (s.take (k + 1)).all plainB = true := by
      rw [List.take_of_length_le (by omega)]
      rw [List.take_of_length_le (by omega)] at ha
      exact ha
    have e := fieldsTo_grow (s := s) (k := k) (fun h9 => by omega) (by omega)
    rw [spec_SplitFields_r1_sh]
    simp only [P1_slen, P1_lss, ifB_bool, decide_eq_true_eq, decide_eq_false_iff_not]
    refine ⟨fun h9 => absurd h9 h1, fun _ => ⟨fun h7 => ?_, fun h7 => ?_⟩⟩
    · rw [if_pos (by omega)] at e
      simp only [P1_ssub2, P1_lstS1, P1_appS_, P1_add, w5, List.length_singleton, qS_normal, qB_normal, spec_SplitFields_r2_sh, spec_SplitFields_r3_sh, spec_SplitFields_r4_sh, e, Int.toNat_natCast]
      exact ⟨by omega, ⟨by omega, by omega⟩, by omega, trivial, hP⟩
    · rw [if_neg (by omega)] at e
      simp only [P1_add, w5, qS_normal, qB_normal, spec_SplitFields_r2_sh, spec_SplitFields_r3_sh, spec_SplitFields_r4_sh, e]
      exact ⟨by omega, trivial, hP⟩
  · have e : k = s.length + 1 := by omega
    subst e
    rw [List.take_of_length_le (by omega)] at ha
    simp only [qS_exit, qB_exit, if_true, qS_normal, spec_SplitFields_r5_sh, P1_len, P1_gtr, ifB_bool, decide_eq_true_eq, decide_eq_false_iff_not, P1_lst0, qRet_ret]
    refine ⟨fun h3 => ?_, fun h3 => ?_⟩
    · have h4 := fieldsOk_many (s := s) (by omega)
      simp [fieldsOf_no h4, h4]
    · have h4 := fieldsOk_yes hl ha (by omega)
      simp [fieldsOf, h4]
theorem impl_SplitFields_ok : ∀ ds outs, F_SplitFields ds = some outs → shL impl_SplitFields_L (qRet outs) ds := F_SplitFields_elim fun s hp => by
  rw [impl_SplitFields_L_sh]
  simp only [P1_lst0, P1_slen, P1_gtr, ifB_bool, decide_eq_true_eq, decide_eq_false_iff_not, qRet_ret]
  refine ⟨fun h => ?_, fun h => ?_⟩
  · have h4 := fieldsOk_long (s := s) (by omega)
    simp [fieldsOf_no h4, h4]
  have hl : s.length ≤ 600 := by omega
  refine loop_upto (s.length + 1) (fun k => [.str s, .int .i64 (fieldsTo s k).2, .int .i64 k, vL I1 vS (fieldsTo s k).1]) (fun i j _ _ e => by simp at e; omega) (fun k => (s.take k).all plainB = true) (by simp [fieldsTo]) (by simp) ?_
  intro k hk ha
  obtain ⟨g1, g2⟩ := fieldsTo_le s k
  have w5 : IntKind.i64.wrap ((k : Int) + 1) = ((k + 1 : Nat) : Int) := by rw [wrap_id (by omega) (by omega)]; omega
  rw [impl_SplitFields_b0_sh]
  simp only [P1_slen, P1_leq, P1_lss, ifB_bool, decide_eq_true_eq, decide_eq_false_iff_not]
  refine ⟨fun hk2 => ⟨fun h1 => ?_, fun h1 => ?_⟩, fun hk2 => ?_⟩
  · have h2 : k < s.length := by omega
    simp only [P1_sidx, Int.toNat_natCast, List.getElem?_eq_getElem h2, Option.some.injEq, exists_eq_left', P1_lss, ifB_bool, decide_eq_true_eq, decide_eq_false_iff_not]
    refine ⟨by omega, fun h3 => ?_, fun h3 => ⟨by omega, ?_⟩⟩
    · have h4 := fieldsOk_bad h2 (plainB_no1 h3)
      simp [fieldsOf_no h4, h4]
    simp only [P1_gtr, ifB_bool, decide_eq_true_eq, decide_eq_false_iff_not]
    refine ⟨fun h5 => ?_, fun h5 => ?_⟩
    · have h4 := fieldsOk_bad h2 (plainB_no2 h5)
      simp [fieldsOf_no h4, h4]
    have hP : (s.take (k + 1)).all plainB = true := by rw [all_snoc h2, ha, plainB_yes h3 h5]; rfl
    rw [impl_SplitFields_r1_sh]
    simp only [P1_slen, P1_eql, P1_gtr, ifB_bool, decide_eq_true_eq, decide_eq_false_iff_not, P1_sidx, Int.toNat_natCast, List.getElem?_eq_getElem h2, Option.some.injEq, exists_eq_left', beq_iff_eq, beq_eq_false_iff_ne, ne_eq]
    refine ⟨fun h9 => by omega, fun _ => ⟨by omega, fun h6 => ?_, fun h6 => ?_⟩⟩
    · have e := fieldsTo_grow (s := s) (k := k) (fun _ => by rw [List.getElem?_eq_getElem h2, is32.1 h6]) (by omega)
      refine ⟨fun h7 => ?_, fun h7 => ?_⟩
      · rw [if_pos (by omega)] at e
        simp only [P1_ssub2, P1_lstS1, P1_appS_, P1_add, w5, List.length_singleton, qS_normal, qB_normal, impl_SplitFields_r2_sh, impl_SplitFields_r3_sh, impl_SplitFields_r4_sh, e, Int.toNat_natCast]
        exact ⟨by omega, ⟨by omega, by omega⟩, by omega, trivial, hP⟩
      · rw [if_neg (by omega)] at e
        simp only [P1_add, w5, qS_normal, qB_normal, impl_SplitFields_r2_sh, impl_SplitFields_r3_sh, impl_SplitFields_r4_sh, e]
        exact ⟨by omega, trivial, hP⟩
    · have e := fieldsTo_other h2 (fun h7 => h6 (is32.2 h7))
      simp only [qS_normal, qB_normal, impl_SplitFields_r2_sh, impl_SplitFields_r3_sh, impl_SplitFields_r4_sh, P1_add, w5, e]
      exact ⟨by omega, trivial, hP⟩
  · have h2 : k = s.length := by omega
    have hP : (s.take (k + 1)).all plainB = true := by
      rw [List.take_of_length_le (by omega)]
      rw [List.take_of_length_le (by omega)] at ha
      exact ha
    have e := fieldsTo_grow (s := s) (k := k) (fun h9 => by omega) (by omega)
    rw [impl_SplitFields_r1_sh]
    simp only [P1_slen, P1_eql, P1_gtr, ifB_bool, decide_eq_true_eq, decide_eq_false_iff_not, beq_iff_eq, beq_eq_false_iff_ne, ne_eq]
    refine ⟨fun _ => ⟨fun h7 => ?_, fun h7 => ?_⟩, fun h9 => absurd (by omega) h9⟩
    · rw [if_pos (by omega)] at e
      simp only [P1_ssub2, P1_lstS1, P1_appS_, P1_add, w5, List.length_singleton, qS_normal, qB_normal, impl_SplitFields_r2_sh, impl_SplitFields_r3_sh, impl_SplitFields_r4_sh, e, Int.toNat_natCast]
      exact ⟨by omega, ⟨by omega, by omega⟩, by omega, trivial, hP⟩
    · rw [if_neg (by omega)] at e
      simp only [P1_add, w5, qS_normal, qB_normal, impl_SplitFields_r2_sh, impl_SplitFields_r3_sh, impl_SplitFields_r4_sh, e]
      exact ⟨by omega, trivial, hP⟩
  · have e : k = s.length + 1 := by omega
    subst e
    rw [List.take_of_length_le (by omega)] at ha
    simp only [qS_exit, qB_exit, if_true, qS_normal, impl_SplitFields_r5_sh, P1_len, P1_gtr, ifB_bool, decide_eq_true_eq, decide_eq_false_iff_not, qRet_ret]
    refine ⟨fun h3 => ?_, fun h3 => ?_⟩
    · have h4 := fieldsOk_many (s := s) (by omega)
      simp [fieldsOf_no h4, h4]
    · have h4 := fieldsOk_yes hl ha (by omega)
      simp [fieldsOf, h4]
end Go.Mw

/- Which texts are an act's, in plain terms. -/
namespace Go.Mw
open Go.Lib (decDigits itoa)
theorem fields_in (s : List UInt8) : ∀ k, k ≤ s.length + 1 → (∀ x ∈ (fieldsTo s k).1, x ≠ [] ∧ 32 ∉ x ∧ x.length ≤ s.length) ∧ ∀ j, (fieldsTo s k).2 ≤ j → j < k → s[j]? ≠ some 32
  | 0, _ => ⟨by simp [fieldsTo], fun j _ h => by omega⟩
  | k + 1, hk => by
    obtain ⟨ih1, ih2⟩ := fields_in s k (by omega)
    have g := (fieldsTo_le s k).1
    by_cases h : k < s.length → s[k]? = some 32
    · rw [fieldsTo_grow h (by omega)]
      refine ⟨?_, fun j h1 h2 => by simp only at h1; omega⟩
      simp only
      split
      · rename_i h3
        intro x hx
        rcases List.mem_append.1 hx with hx | hx
        · exact ih1 x hx
        · rw [List.mem_singleton] at hx
          subst hx
          refine ⟨fun e => ?_, fun e => ?_, by rw [List.length_drop, List.length_take]; omega⟩
          · have := congrArg List.length e
            rw [List.length_drop, List.length_take, List.length_nil] at this
            omega
          · obtain ⟨j, hj⟩ := List.mem_iff_getElem?.1 e
            rw [List.getElem?_drop, List.getElem?_take] at hj
            split at hj
            · exact ih2 _ (by omega) (by omega) hj
            · cases hj
      · exact ih1
    · have h1 : k < s.length := by
        rcases Nat.lt_or_ge k s.length with h1 | h1
        · exact h1
        · exact absurd (fun h2 => by omega) h
      have h2 : ¬ s[k] = 32 := fun e => h (fun _ => by rw [List.getElem?_eq_getElem h1, e])
      rw [fieldsTo_other h1 h2]
      refine ⟨ih1, fun j h3 h4 => ?_⟩
      by_cases e : j = k
      · subst e
        rw [List.getElem?_eq_getElem h1]
        intro e2
        exact h2 (Option.some.inj e2)
      · exact ih2 j h3 (by omega)
theorem fieldsOf_in {s : List UInt8} (h : fieldsOk s = true) : (fieldsOf s).length ≤ 24 ∧ ∀ x ∈ fieldsOf s, x ≠ [] ∧ 32 ∉ x ∧ x.length ≤ 600 := by
  have h2 := h
  simp only [fieldsOk, Bool.and_eq_true, decide_eq_true_eq] at h2
  rw [fieldsOf, if_pos h]
  refine ⟨h2.2.2, fun x hx => ?_⟩
  have := (fields_in s (s.length + 1) (Nat.le_refl _)).1 x hx
  exact ⟨this.1, this.2.1, by omega⟩

/-! joined texts -/
def accR (w : List UInt8) (r : List (List UInt8)) : List UInt8 := w ++ (r.map (32 :: ·)).flatten
theorem accR_nil (w : List UInt8) : accR w [] = w := by simp [accR]
theorem accR_cons (w x : List UInt8) (r : List (List UInt8)) : accR w (x :: r) = w ++ 32 :: accR x r := by simp [accR]
theorem accR_snoc (w : List UInt8) (r : List (List UInt8)) (x : List UInt8) : accR w (r ++ [x]) = accR w r ++ [32] ++ x := by simp [accR]
theorem split_uniq : ∀ {a b x y : List UInt8}, 32 ∉ a → 32 ∉ b → a ++ 32 :: x = b ++ 32 :: y → a = b ∧ x = y
  | [], [], x, y, _, _, h => by simpa using h
  | [], c :: b, x, y, _, hb, h => by
    simp only [List.nil_append, List.cons_append, List.cons.injEq] at h
    exact absurd h.1 (fun e => hb (by simp [e]))
  | c :: a, [], x, y, ha, _, h => by
    simp only [List.nil_append, List.cons_append, List.cons.injEq] at h
    exact absurd h.1 (fun e => ha (by simp [e]))
  | c :: a, d :: b, x, y, ha, hb, h => by
    simp only [List.cons_append, List.cons.injEq] at h
    obtain ⟨e1, e2⟩ := split_uniq (a := a) (b := b) (fun q => ha (by simp [q])) (fun q => hb (by simp [q])) h.2
    exact ⟨by rw [h.1, e1], e2⟩
theorem accR_inj : ∀ {r r' : List (List UInt8)} {w w' : List UInt8}, 32 ∉ w → 32 ∉ w' → (∀ x ∈ r, 32 ∉ x) → (∀ x ∈ r', 32 ∉ x) → accR w r = accR w' r' → w = w' ∧ r = r'
  | [], [], w, w', _, _, _, _, h => by rw [accR_nil, accR_nil] at h; exact ⟨h, rfl⟩
  | [], y :: t', w, w', hw, _, _, _, h => by
    rw [accR_nil, accR_cons] at h
    exact absurd (show (32 : UInt8) ∈ w by rw [h]; simp) hw
  | x :: t, [], w, w', _, hw', _, _, h => by
    rw [accR_nil, accR_cons] at h
    exact absurd (show (32 : UInt8) ∈ w' by rw [← h]; simp) hw'
  | x :: t, y :: t', w, w', hw, hw', hr, hr', h => by
    rw [accR_cons, accR_cons] at h
    obtain ⟨e1, e2⟩ := split_uniq hw hw' h
    obtain ⟨e3, e4⟩ := accR_inj (hr x (by simp)) (hr' y (by simp)) (fun z hz => hr z (by simp [hz])) (fun z hz => hr' z (by simp [hz])) e2
    exact ⟨e1, by rw [e3, e4]⟩

/-! words and numerals -/
theorem dig32 {s : List UInt8} (h : s.all isDig = true) : 32 ∉ s := by
  intro h2
  have := (List.all_eq_true.1 h) 32 h2
  simp [isDig] at this
theorem word32 (k : Int) : 32 ∉ actWord k := by
  unfold actWord
  split
  · decide
  · split
    · decide
    · split
      · decide
      · split
        · decide
        · split <;> decide
theorem word_inj {j k : Int} (j1 : 1 ≤ j) (j6 : j ≤ 6) (k1 : 1 ≤ k) (k6 : k ≤ 6) (h : actWord j = actWord k) : j = k := by
  obtain e | e | e | e | e | e : j = 1 ∨ j = 2 ∨ j = 3 ∨ j = 4 ∨ j = 5 ∨ j = 6 := by omega
  all_goals
    obtain e2 | e2 | e2 | e2 | e2 | e2 : k = 1 ∨ k = 2 ∨ k = 3 ∨ k = 4 ∨ k = 5 ∨ k = 6 := by omega
    all_goals
      subst e
      subst e2
      first | rfl | (simp [actWord] at h)
theorem itoa_nat {n : Int} (h : 0 ≤ n) : itoa n = decDigits n.toNat := by
  have e : ((n.toNat : Nat) : Int) = n := by omega
  rw [← itoa_pos, e]
theorem itoa32 {n : Int} (h : 0 ≤ n) : 32 ∉ itoa n := by rw [itoa_nat h]; exact dig32 (dec_dig _)
theorem uOk_itoa {n : Int} (h : 0 ≤ n) (h2 : n ≤ 1000000000) : uOk (itoa n) = true ∧ uNum (itoa n) = n := by
  have e : ((n.toNat : Nat) : Int) = n := by omega
  have hv : uval (itoa n) = n.toNat := by rw [itoa_nat h]; exact uval_decDigits _
  have ho : uOk (itoa n) = true := by
    simp only [uOk, Bool.and_eq_true, decide_eq_true_eq]
    refine ⟨?_, ?_, by omega, by rw [hv, e]⟩
    · rw [itoa_nat h]; exact dec_len 9 _ (by omega)
    · rw [itoa_nat h]; exact dec_dig _
  exact ⟨ho, by rw [uNum, if_pos ho, hv, e]⟩
theorem l40_uOk {s : List UInt8} (h : uOk s = true) : l40N s = uNum s := by
  unfold l40N
  rw [if_neg]
  rintro ⟨h1, h2⟩
  simp only [uOk, Bool.and_eq_true, decide_eq_true_eq] at h
  have := (List.all_eq_true.1 h.2.1) 45 (List.mem_of_getElem? h2)
  simp [isDig] at this
theorem uOk_back {s : List UInt8} (h : uOk s = true) : itoa (uNum s) = s := by
  have h2 := h
  simp only [uOk, Bool.and_eq_true, decide_eq_true_eq] at h2
  rw [uNum, if_pos h]
  exact h2.2.2.2

/-! acts' texts -/
theorem actOk_zero {a : T3} (h : actOk a = true) : (actNums a.a ≠ 2 → a.c = 0) ∧ (actNums a.a = 0 → a.b = 0) := by
  unfold actOk at h
  unfold actNums
  split at h
  · rename_i e; rw [if_pos e]; exact ⟨fun h => absurd rfl h, fun h => by omega⟩
  · rename_i e; rw [if_neg e]
    split at h
    · rename_i e2
      rw [if_pos (.inl e2)]
      simp at h
      exact ⟨fun _ => h.2, fun h => by omega⟩
    · rename_i e2
      split at h
      · rename_i e3
        rw [if_pos (.inr e3)]
        simp at h
        exact ⟨fun _ => h.2, fun h => by omega⟩
      · split at h
        · simp at h
          exact ⟨fun _ => h.2, fun _ => h.1⟩
        · cases h
theorem nums_three (k : Int) : actNums k = 0 ∨ actNums k = 1 ∨ actNums k = 2 := by
  have := actNums_le k; omega
theorem toks_in {a : T3} (h : actOk a = true) {w : List UInt8} {r : List (List UInt8)} (e : toks a = w :: r) : w = actWord a.a ∧ r.length = actNums a.a ∧ (∀ x ∈ r, 32 ∉ x ∧ uOk x = true) ∧ fmtAct a = accR w r := by
  obtain ⟨k1, k6, ⟨b0, b1⟩, c0, c1⟩ := actOk_kind h
  have ub := uOk_itoa b0 (by omega)
  have uc := uOk_itoa c0 (by omega)
  have sb := itoa32 b0
  have sc := itoa32 c0
  rw [fmt_to h]
  obtain q | q | q := nums_three a.a
  all_goals
    simp [toks, q] at e
    obtain ⟨rfl, rfl⟩ := e
    simp [fmtTo, q, accR, ub, uc, sb, sc]
theorem toks_nums {a : T3} (h : actOk a = true) {w : List UInt8} {r : List (List UInt8)} (e : toks a = w :: r) (g : List UInt8 → Int) (hg : ∀ n, 0 ≤ n → n ≤ 100 → g (itoa n) = n) {n1 n2 : Int} {q : List Int} (hq : r.map g ++ [0, 0] = n1 :: n2 :: q) : a = ⟨a.a, n1, n2⟩ := by
  obtain ⟨k1, k6, ⟨b0, b1⟩, c0, c1⟩ := actOk_kind h
  obtain ⟨z1, z2⟩ := actOk_zero h
  have gb := hg a.b b0 b1
  have gc := hg a.c c0 c1
  obtain ⟨x, y, z⟩ := a
  simp only at *
  obtain t | t | t := nums_three x
  all_goals
    simp [toks, t] at e
    obtain ⟨rfl, rfl⟩ := e
    simp [t] at z1 z2
    simp [gb, gc] at hq
    obtain ⟨rfl, rfl, -⟩ := hq
    first | rfl | (simp [z1, z2])
theorem toks_inj {a b : T3} (ha : actOk a = true) (hb : actOk b = true) (e : toks a = toks b) : a = b := by
  obtain ⟨w, r, hw⟩ : ∃ w r, toks a = w :: r := ⟨_, _, rfl⟩
  have hw2 : toks b = w :: r := by rw [← e, hw]
  have i1 := toks_in ha hw
  have i2 := toks_in hb hw2
  obtain ⟨k1, k6, -⟩ := actOk_kind ha
  obtain ⟨j1, j6, -⟩ := actOk_kind hb
  have ek := word_inj k1 k6 j1 j6 (i1.1.symm.trans i2.1)
  obtain ⟨n1, n2, q, hq⟩ : ∃ n1 n2 q, r.map uNum ++ [0, 0] = n1 :: n2 :: q := by
    match r with
    | [] => exact ⟨0, 0, [], rfl⟩
    | [x] => exact ⟨uNum x, 0, [0], rfl⟩
    | x :: y :: t => exact ⟨uNum x, uNum y, t.map uNum ++ [0, 0], rfl⟩
  have hg : ∀ n, 0 ≤ n → n ≤ 100 → uNum (itoa n) = n := fun n h0 h1 => (uOk_itoa h0 (by omega)).2
  rw [toks_nums ha hw uNum hg hq, toks_nums hb hw2 uNum hg hq, ek]
theorem parse_fit {f : List (List UInt8)} {a : T3} (h : actOk a = true) (e : toks a = f) : parseV f = a ∧ parseB f = true := by
  have hf : fits f := ⟨a, h, e⟩
  refine ⟨?_, by simp [parseB, hf]⟩
  rw [parseV, dif_pos hf]
  have := hf.choose_spec
  exact toks_inj this.1 h (this.2.trans e.symm)
theorem parse_no {f : List (List UInt8)} (h : ¬ fits f) : parseV f = ⟨0, 0, 0⟩ ∧ parseB f = false := ⟨by rw [parseV, dif_neg h], by simp [parseB, h]⟩
theorem fits_nil : ¬ fits [] := by
  rintro ⟨a, -, e⟩
  simp [toks] at e
theorem toks_len (a : T3) : 1 ≤ (toks a).length ∧ (toks a).length ≤ 3 := by
  unfold toks
  split
  · simp
  · split <;> simp
end Go.Mw

/- Acts read from texts. -/
namespace Go.Mw
open Go.Lib (decDigits itoa)
theorem pad_two (l : List Int) : ∃ n1 n2 q, l ++ [0, 0] = n1 :: n2 :: q := by
  match l with
  | [] => exact ⟨0, 0, [], rfl⟩
  | [x] => exact ⟨x, 0, [0], rfl⟩
  | x :: y :: t => exact ⟨x, y, t ++ [0, 0], rfl⟩
theorem accR_len {w : List UInt8} {r : List (List UInt8)} (hw : w.length ≤ 600) (hr : ∀ x ∈ r, x.length ≤ 600) : (accR w r).length ≤ 600 + 601 * r.length := by
  revert w
  induction r with
  | nil => intro w hw; rw [accR_nil]; simp; omega
  | cons x t ih =>
    intro w hw
    have := ih (fun y hy => hr y (by simp [hy])) (hr x (by simp))
    rw [accR_cons, List.length_append, List.length_cons, List.length_cons]
    omega
theorem spec_ParseAct_ok : ∀ ds outs, F_ParseAct ds = some outs → shL spec_ParseAct_L (qRet outs) ds := F_ParseAct_elim fun s hp => by
  rw [spec_ParseAct_L_sh, p_SplitFields hp]
  simp only [P1_not, ifB_bool, Bool.not_eq_true', Bool.not_eq_false', qRet_ret]
  refine ⟨fun h => ?_, fun h => ?_⟩
  · rw [fieldsOf_no h]
    obtain ⟨e1, e2⟩ := parse_no fits_nil
    rw [e1, e2]
  obtain ⟨hn, hf⟩ := fieldsOf_in h
  generalize fieldsOf s = f at *
  simp only [P1_len, p_within, P1_not, ifB_bool, Bool.not_eq_true', Bool.not_eq_false']
  refine ⟨fun h2 => ?_, fun h2 => ?_⟩
  · have hno : ¬ fits f := by
      rintro ⟨a, -, rfl⟩
      have := toks_len a
      simp [within] at h2
      omega
    obtain ⟨e1, e2⟩ := parse_no hno
    rw [e1, e2]
  have h3 : 1 ≤ f.length ∧ f.length ≤ 3 := by
    simp [within] at h2; omega
  obtain ⟨w, r, rfl⟩ : ∃ w r, f = w :: r := by
    cases f with
    | nil => simp at h3
    | cons w r => exact ⟨w, r, rfl⟩
  have hw := hf w (by simp)
  have hr : ∀ x ∈ r, x ≠ [] ∧ 32 ∉ x ∧ x.length ≤ 600 := fun x hx => hf x (by simp [hx])
  have hrl : r.length ≤ 2 := by simp at h3; omega
  simp only [P1_idxS, Int.toNat_zero, List.getElem?_cons_zero, Option.some.injEq, exists_eq_left', P1_lst0]
  refine ⟨by omega, ?_⟩
  refine loop_upto r.length (fun k => [.str (accR w (r.take k)), .int .i64 ((k : Int) + 1), vL I1 vS (w :: r), vL I1 v1 ((r.take k).map l40N), .int .i64 0, .int .i64 0, .int .i64 0]) (fun i j _ _ e => by simp at e; omega) (fun _ => True) (by simp [accR]) trivial ?_
  intro k hk _
  rw [spec_ParseAct_b0_sh]
  simp only [P1_len, P1_lss, ifB_bool, decide_eq_true_eq, decide_eq_false_iff_not, List.length_cons]
  have hal := accR_len (w := w) (r := r.take k) hw.2.2 (fun x hx => (hr x (List.mem_of_mem_take hx)).2.2)
  rw [List.length_take] at hal
  refine ⟨fun h4 => ?_, fun h4 => ?_⟩
  · have h5 : k < r.length := by omega
    have et : ((k : Int) + 1).toNat = k + 1 := by omega
    have hx := hr r[k] (List.getElem_mem h5)
    have w5 : IntKind.i64.wrap ((k : Int) + 1 + 1) = ((k + 1 : Nat) : Int) + 1 := by rw [wrap_id (by omega) (by omega)]; omega
    simp only [P1_addS, P1_idxS, et, List.getElem?_cons_succ, List.getElem?_eq_getElem h5, Option.some.injEq, exists_eq_left', List.length_append, List.length_singleton]
    refine ⟨by omega, by omega, by omega, by omega, ?_⟩
    rw [p_l40Number (by omega)]
    simp only [P1_lst1, P1_appI_, List.length_map, List.length_take, List.length_singleton, P1_add, w5, qS_normal]
    refine ⟨by omega, h5, ?_, trivial⟩
    rw [take_succ_get h5, accR_snoc, List.map_append]
    rfl
  · have e : k = r.length := by omega
    subst e
    obtain ⟨n1, n2, q, hq⟩ := pad_two (r.map l40N)
    simp only [qS_exit, qB_exit, if_true, qS_normal, spec_ParseAct_r1_sh, P1_lstI2, P1_appI_, List.length_map, List.take_length, List.length_cons, List.length_nil, hq]
    refine ⟨by omega, ?_⟩
    have hg : ∀ n, 0 ≤ n → n ≤ 100 → l40N (itoa n) = n := fun n h0 h1 => by
      have := uOk_itoa h0 (show n ≤ 1000000000 by omega)
      rw [l40_uOk this.1, this.2]
    refine loop_upto 6 (fun i => [.str (accR w r), .int .i64 ((i : Int) + 1), vL I1 v1 (n1 :: n2 :: q), .int .i64 0, .int .i64 0, .int .i64 0]) (fun i j _ _ e => by simp at e; omega) (fun i => ∀ k : Int, 1 ≤ k → k ≤ i → ¬ (actOk ⟨k, n1, n2⟩ = true ∧ fmtAct ⟨k, n1, n2⟩ = accR w r)) (by simp) (fun k h0 h1 => by omega) ?_
    intro i hi hP
    rw [spec_ParseAct_b2_sh]
    have w5 : IntKind.i64.wrap ((i : Int) + 1 + 1) = ((i + 1 : Nat) : Int) + 1 := by rw [wrap_id (by omega) (by omega)]; omega
    simp only [P1_leq, ifB_bool, decide_eq_true_eq, decide_eq_false_iff_not]
    refine ⟨fun h5 => ?_, fun h5 => ?_⟩
    · simp only [P1_idxI, Int.toNat_zero, Int.toNat_one, List.getElem?_cons_zero, List.getElem?_cons_succ, Option.some.injEq, exists_eq_left', p_FormatAct, ifB_bool, P1_eqlS, beq_iff_eq, beq_eq_false_iff_ne, ne_eq, P1_add, w5, qS_normal]
      have hstep : ¬ (actOk ⟨(i : Int) + 1, n1, n2⟩ = true ∧ fmtAct ⟨(i : Int) + 1, n1, n2⟩ = accR w r) → ∀ k : Int, 1 ≤ k → k ≤ ((i + 1 : Nat) : Int) → ¬ (actOk ⟨k, n1, n2⟩ = true ∧ fmtAct ⟨k, n1, n2⟩ = accR w r) := by
        intro hno k h0 h1
        by_cases e : k = (i : Int) + 1
        · subst e; exact hno
        · exact hP k h0 (by omega)
      refine ⟨by omega, by omega, fun h6 => ⟨fun h7 => ?_, fun h7 => ?_⟩, fun h6 => ?_⟩
      · obtain ⟨w', r', hw'⟩ : ∃ w' r', toks ⟨(i : Int) + 1, n1, n2⟩ = w' :: r' := ⟨_, _, rfl⟩
        obtain ⟨t1, t2, t3, t4⟩ := toks_in h6 hw'
        obtain ⟨u1, u2⟩ := accR_inj (by rw [t1]; exact word32 _) hw.2.1 (fun x hx => (t3 x hx).1) (fun x hx => (hr x hx).2.1) (t4.symm.trans h7)
        obtain ⟨e1, e2⟩ := parse_fit (f := w :: r) h6 (by rw [hw', u1, u2])
        rw [e1, e2]
        simp
      · exact ⟨by omega, trivial, hstep (fun h8 => h7 h8.2)⟩
      · exact ⟨by omega, trivial, hstep (fun h8 => by rw [h6] at h8; exact absurd h8.1 (by simp))⟩
    · have e : i = 6 := by omega
      subst e
      have hno : ¬ fits (w :: r) := by
        rintro ⟨a, h6, h7⟩
        obtain ⟨k1, k6, -⟩ := actOk_kind h6
        have h8 := toks_nums h6 h7 l40N hg hq
        refine hP a.a k1 (by omega) ⟨by rw [← h8]; exact h6, by rw [← h8]; exact (toks_in h6 h7).2.2.2⟩
      obtain ⟨e1, e2⟩ := parse_no hno
      simp only [qS_exit, qB_exit, if_true, qS_normal, spec_ParseAct_r3_sh, qRet_ret, e1, e2]
theorem impl_ParseAct_ok : ∀ ds outs, F_ParseAct ds = some outs → shL impl_ParseAct_L (qRet outs) ds := F_ParseAct_elim fun s hp => by
  rw [impl_ParseAct_L_sh, p_SplitFields hp]
  simp only [P1_not, ifB_bool, Bool.not_eq_true', Bool.not_eq_false', qRet_ret]
  refine ⟨fun h => ?_, fun h => ?_⟩
  · rw [fieldsOf_no h]
    obtain ⟨e1, e2⟩ := parse_no fits_nil
    rw [e1, e2]
  obtain ⟨hn, hf⟩ := fieldsOf_in h
  generalize fieldsOf s = f at *
  simp only [P1_len, P1_eql, ifB_bool, beq_iff_eq, beq_eq_false_iff_ne, ne_eq]
  refine ⟨fun h2 => ?_, fun h2 => ?_⟩
  · obtain rfl : f = [] := List.length_eq_zero_iff.1 (by omega)
    obtain ⟨e1, e2⟩ := parse_no fits_nil
    rw [e1, e2]
  obtain ⟨w, r, rfl⟩ : ∃ w r, f = w :: r := by
    cases f with
    | nil => simp at h2
    | cons w r => exact ⟨w, r, rfl⟩
  have hr : ∀ x ∈ r, x ≠ [] ∧ 32 ∉ x ∧ x.length ≤ 600 := fun x hx => hf x (by simp [hx])
  have hrl : r.length ≤ 24 := by simp at hn; omega
  simp only [P1_lst0, P1_lsubS_1, Int.toNat_one, List.drop_succ_cons, List.drop_zero, P1_len, List.length_cons]
  refine ⟨by omega, ?_⟩
  refine loop_upto r.length (fun k => [vL I1 vS r, .int .i64 r.length, .int .i64 k, vL I1 vS (w :: r), vL I1 v1 ((r.take k).map uNum), .int .i64 0, .int .i64 0, .int .i64 0]) (fun i j _ _ e => by simp at e; omega) (fun k => ∀ x ∈ r.take k, uOk x = true) (by simp) (by simp) ?_
  intro k hk ha
  rw [impl_ParseAct_b0_sh]
  simp only [P1_lss, ifB_bool, decide_eq_true_eq, decide_eq_false_iff_not]
  refine ⟨fun h4 => ?_, fun h4 => ?_⟩
  · have h5 : k < r.length := by omega
    have hx := hr r[k] (List.getElem_mem h5)
    have w5 : IntKind.i64.wrap ((k : Int) + 1) = ((k + 1 : Nat) : Int) := by rw [wrap_id (by omega) (by omega)]; omega
    simp only [P1_idxS, Int.toNat_natCast, List.getElem?_eq_getElem h5, Option.some.injEq, exists_eq_left']
    refine ⟨by omega, ?_⟩
    rw [p_ParseUint (by omega)]
    simp only [P1_not, ifB_bool, Bool.not_eq_true', Bool.not_eq_false', P1_lst1, P1_appI_, List.length_map, List.length_take, List.length_singleton, P1_add, w5, qS_normal]
    refine ⟨fun h6 => ?_, fun h6 => ⟨by omega, h5, ?_, ?_⟩⟩
    · have hno : ¬ fits (w :: r) := by
        rintro ⟨a, h7, h8⟩
        have := ((toks_in h7 h8).2.2.1 _ (List.getElem_mem h5)).2
        rw [h6] at this
        cases this
      obtain ⟨e1, e2⟩ := parse_no hno
      rw [e1, e2]
      simp
    · rw [take_succ_get h5, List.map_append]
      rfl
    · rw [all_take_succ h5]
      exact ⟨ha, h6⟩
  · have e : k = r.length := by omega
    subst e
    rw [List.take_length] at ha
    obtain ⟨n1, n2, q, hq⟩ := pad_two (r.map uNum)
    have hg : ∀ n, 0 ≤ n → n ≤ 100 → uNum (itoa n) = n := fun n h0 h1 => (uOk_itoa h0 (by omega)).2
    simp only [qS_exit, qB_exit, if_true, qS_normal, impl_ParseAct_r1_sh, List.take_length]
    refine loop_upto 6 (fun i => [.int .i64 ((i : Int) + 1), vL I1 vS (w :: r), vL I1 v1 (r.map uNum), .int .i64 0, .int .i64 0, .int .i64 0]) (fun i j _ _ e => by simp at e; omega) (fun i => ∀ k : Int, 1 ≤ k → k ≤ i → ¬ (w = actWord k ∧ r.length = actNums k)) (by simp) (fun k h0 h1 => by omega) ?_
    intro i hi hP
    rw [impl_ParseAct_b2_sh]
    have w5 : IntKind.i64.wrap ((i : Int) + 1 + 1) = ((i + 1 : Nat) : Int) + 1 := by rw [wrap_id (by omega) (by omega)]; omega
    simp only [P1_leq, ifB_bool, decide_eq_true_eq, decide_eq_false_iff_not]
    refine ⟨fun h5 => ?_, fun h5 => ?_⟩
    · have hstep : ¬ (w = actWord ((i : Int) + 1) ∧ r.length = actNums ((i : Int) + 1)) → ∀ k : Int, 1 ≤ k → k ≤ ((i + 1 : Nat) : Int) → ¬ (w = actWord k ∧ r.length = actNums k) := by
        intro hno k h0 h1
        by_cases e : k = (i : Int) + 1
        · subst e; exact hno
        · exact hP k h0 (by omega)
      simp only [P1_idxS, Int.toNat_zero, List.getElem?_cons_zero, Option.some.injEq, exists_eq_left', p_actWord, P1_neqS, ifB_bool, Bool.not_eq_true', Bool.not_eq_false', beq_iff_eq, beq_eq_false_iff_ne, ne_eq, P1_add, w5, qS_normal, P1_len, List.length_map, p_actNumbers, P1_neq, bne_iff_ne, bne_eq_false_iff_eq]
      refine ⟨by omega, fun h6 => ⟨by omega, trivial, hstep (fun h7 => h6 h7.1)⟩, fun h6 => ⟨fun h7 => ⟨by omega, trivial, hstep (fun h8 => h7 (by rw [h8.2]))⟩, fun h7 => ?_⟩⟩
      have h8 : r.length = actNums ((i : Int) + 1) := by omega
      simp only [P1_lstI2, P1_appI_, List.length_map, List.length_cons, List.length_nil, hq, P1_idxI, Int.toNat_zero, Int.toNat_one, List.getElem?_cons_zero, List.getElem?_cons_succ, Option.some.injEq, exists_eq_left', p_ActOk, P1_not, ifB_bool, Bool.not_eq_true', Bool.not_eq_false']
      refine ⟨by omega, by omega, by omega, fun h9 => ?_, fun h9 => ?_⟩
      · have hno : ¬ fits (w :: r) := by
          rintro ⟨a, m1, m2⟩
          obtain ⟨k1, k6, -⟩ := actOk_kind m1
          have m3 := toks_nums m1 m2 uNum hg hq
          have m4 := word_inj k1 k6 (show (1 : Int) ≤ (i : Int) + 1 by omega) (by omega) ((toks_in m1 m2).1.symm.trans h6)
          rw [m3, m4, h9] at m1
          cases m1
        obtain ⟨e1, e2⟩ := parse_no hno
        rw [e1, e2]
        simp
      · have m5 : toks ⟨(i : Int) + 1, n1, n2⟩ = w :: r := by
          have hb : ∀ x ∈ r, itoa (uNum x) = x := fun x hx => uOk_back (ha x hx)
          unfold toks
          simp only
          rw [← h6, ← h8]
          match r, hq, hb with
          | [], _, _ => simp
          | [x], hq, hb =>
            simp at hq
            have := hb x (by simp)
            simp [← hq.1, this]
          | [x, y], hq, hb =>
            simp at hq
            have e3 := hb x (by simp)
            have e4 := hb y (by simp)
            simp [← hq.1, ← hq.2.1, e3, e4]
          | x :: y :: z :: t, _, _ =>
            have := actNums_le ((i : Int) + 1)
            simp at h8
            omega
        obtain ⟨e1, e2⟩ := parse_fit (f := w :: r) h9 m5
        rw [e1, e2]
        simp
    · have e : i = 6 := by omega
      subst e
      have hno : ¬ fits (w :: r) := by
        rintro ⟨a, h6, h7⟩
        obtain ⟨k1, k6, -⟩ := actOk_kind h6
        obtain ⟨t1, t2, -⟩ := toks_in h6 h7
        exact hP a.a k1 (by omega) ⟨t1, t2⟩
      obtain ⟨e1, e2⟩ := parse_no hno
      simp only [qS_exit, qB_exit, if_true, qS_normal, impl_ParseAct_r3_sh, qRet_ret, e1, e2]
theorem laws_FnExactParseAct_ok : ∀ ds outs, F_FnExactParseAct ds = some outs → shL laws_FnExactParseAct_L (qRet outs) ds := F_FnExactParseAct_elim fun s hp => by
  rw [laws_FnExactParseAct_L_sh]
  simp only [P1_slen, P1_gtr, ifB_bool, decide_eq_true_eq, decide_eq_false_iff_not]
  refine ⟨fun _ => by simp, fun h => ?_⟩
  have hl : s.length ≤ 1048576 := by omega
  simp only [p_ParseAct hl]
  simp
end Go.Mw

/- The law on drawn acts' texts. -/
namespace Go.Mw
open Go.Lib (decDigits itoa)
theorem at_space {s : List UInt8} {m : Nat} {F : List (List UInt8)} (h : fieldsTo s m = (F, m)) (hm : m < s.length) (h2 : s[m]? = some 32) : fieldsTo s (m + 1) = (F, m + 1) := by
  rw [fieldsTo_grow (fun _ => h2) (by omega), h]
  simp
theorem at_tok {s tok rest : List UInt8} {m : Nat} {F : List (List UInt8)} (h : fieldsTo s m = (F, m)) (hd : s.drop m = tok ++ 32 :: rest) (h0 : tok ≠ []) (h32 : 32 ∉ tok) :
    fieldsTo s (m + tok.length + 1) = (F ++ [tok], m + tok.length + 1) ∧ m + tok.length < s.length ∧ s.drop (m + tok.length + 1) = rest := by
  have hlen := congrArg List.length hd
  rw [List.length_drop, List.length_append, List.length_cons] at hlen
  have hpos : 0 < tok.length := List.length_pos_iff.2 h0
  have hget : ∀ i, s[m + i]? = (tok ++ 32 :: rest)[i]? := fun i => by rw [← hd, List.getElem?_drop]
  have run : ∀ i, i ≤ tok.length → fieldsTo s (m + i) = (F, m) := by
    intro i
    induction i with
    | zero => intro _; exact h
    | succ i ih =>
      intro hi
      have h1 : m + i < s.length := by omega
      have h2 : ¬ s[m + i] = 32 := by
        intro e
        have := hget i
        rw [List.getElem?_eq_getElem h1, e, List.getElem?_append_left (by omega)] at this
        exact h32 (List.mem_of_getElem? this.symm)
      rw [← Nat.add_assoc, fieldsTo_other h1 h2, ih (by omega)]
  refine ⟨?_, by omega, ?_⟩
  · have h1 : m + tok.length < s.length := by omega
    have h2 : s[m + tok.length]? = some 32 := by
      rw [hget, List.getElem?_append_right (Nat.le_refl _)]; simp
    rw [fieldsTo_grow (fun _ => h2) (by omega), run _ (Nat.le_refl _)]
    have e : (s.take (m + tok.length)).drop m = tok := by
      rw [List.drop_take, hd]
      simp
    simp only [e]
    rw [if_pos (by omega)]
  · have : s.drop (m + tok.length + 1) = (s.drop m).drop (tok.length + 1) := by rw [List.drop_drop, Nat.add_assoc]
    rw [this, hd]
    simp
theorem at_all {s : List UInt8} : ∀ (r : List (List UInt8)) (w : List UInt8) (m : Nat) (F : List (List UInt8)), fieldsTo s m = (F, m) → s.drop m = accR w r ++ [32] → (w ≠ [] ∧ 32 ∉ w) → (∀ x ∈ r, x ≠ [] ∧ 32 ∉ x) → fieldsTo s s.length = (F ++ w :: r, s.length)
  | [], w, m, F, h, hd, hw, _ => by
    rw [accR_nil] at hd
    obtain ⟨h1, h2, h3⟩ := at_tok h hd hw.1 hw.2
    have : m + w.length + 1 = s.length := by
      have := congrArg List.length h3
      rw [List.length_drop, List.length_nil] at this
      omega
    rw [this] at h1
    exact h1
  | x :: t, w, m, F, h, hd, hw, hr => by
    rw [accR_cons, List.append_assoc, List.cons_append] at hd
    obtain ⟨h1, h2, h3⟩ := at_tok h hd hw.1 hw.2
    have := at_all t x _ _ h1 h3 (hr x (by simp)) (fun y hy => hr y (by simp [hy]))
    rw [this]
    simp
theorem plain_dig {s : List UInt8} (h : s.all isDig = true) : s.all plainB = true := by
  rw [List.all_eq_true] at h ⊢
  intro x hx
  have := h x hx
  simp only [isDig, plainB, Bool.and_eq_true, decide_eq_true_eq] at this ⊢
  omega
theorem plain_word (k : Int) : (actWord k).all plainB = true := by
  unfold actWord
  split
  · decide
  · split
    · decide
    · split
      · decide
      · split
        · decide
        · split <;> decide
theorem plain_itoa {n : Int} (h : 0 ≤ n) : (itoa n).all plainB = true := by rw [itoa_nat h]; exact plain_dig (dec_dig _)
theorem plain_fmt (a : T3) : (fmtAct a).all plainB = true := by
  by_cases h : actOk a = true
  · obtain ⟨k1, k6, ⟨b0, b1⟩, c0, c1⟩ := actOk_kind h
    have pb := plain_itoa b0
    have pc := plain_itoa c0
    have pw := plain_word a.a
    have p32 : plainB 32 = true := by decide
    rw [fmt_to h]
    unfold fmtTo
    split
    · simp only [List.all_append, pw, List.all_nil, Bool.and_self]
    · split
      · simp only [List.all_append, List.all_cons, pw, pb, p32, Bool.and_self]
      · simp only [List.all_append, List.all_cons, pw, pb, pc, p32, Bool.and_self]
  · unfold fmtAct; rw [if_neg h]; rfl
theorem word_ne (k : Int) : actWord k ≠ [] := by
  unfold actWord
  split
  · decide
  · split
    · decide
    · split
      · decide
      · split
        · decide
        · split <;> decide
theorem toks_ne {a : T3} (h : actOk a = true) : ∀ x ∈ toks a, x ≠ [] := by
  obtain ⟨k1, k6, ⟨b0, b1⟩, c0, c1⟩ := actOk_kind h
  have hb : itoa a.b ≠ [] := by rw [itoa_nat b0]; exact dec_ne _
  have hc : itoa a.c ≠ [] := by rw [itoa_nat c0]; exact dec_ne _
  intro x hx
  unfold toks at hx
  rcases List.mem_cons.1 hx with rfl | hx
  · exact word_ne _
  · split at hx
    · simp at hx
      rcases hx with rfl | rfl
      · exact hb
      · exact hc
    · split at hx
      · simp at hx
        subst hx
        exact hb
      · cases hx
/-- The fields of an act's text with spaces about it. -/
theorem fields_act {a : T3} (h : actOk a = true) : fieldsOf ([32, 32] ++ fmtAct a ++ [32]) = toks a := by
  obtain ⟨w, r, hw⟩ : ∃ w r, toks a = w :: r := ⟨_, _, rfl⟩
  obtain ⟨t1, t2, t3, t4⟩ := toks_in h hw
  have hne := toks_ne h
  rw [hw] at hne
  have lf := fmt_len a
  generalize hs : [32, 32] ++ fmtAct a ++ [32] = s
  have hsl : s.length = (fmtAct a).length + 3 := by rw [← hs]; simp
  have h0 : fieldsTo s 0 = ([], 0) := rfl
  have h1 := at_space h0 (by omega) (by rw [← hs]; rfl)
  have h2 := at_space h1 (by omega) (by rw [← hs]; rfl)
  have hd : s.drop 2 = accR w r ++ [32] := by rw [← hs, ← t4]; rfl
  have h3 := at_all r w 2 [] h2 hd ⟨hne w (by simp), by rw [t1]; exact word32 _⟩ (fun x hx => ⟨hne x (by simp [hx]), (t3 x hx).1⟩)
  have h4 : (fieldsTo s (s.length + 1)).1 = w :: r := by
    rw [fieldsTo_end, h3]
    simp
  have h5 : fieldsOk s = true := by
    refine fieldsOk_yes (by omega) ?_ ?_
    · rw [← hs, List.all_append, List.all_append, plain_fmt]
      decide
    · rw [h4, ← hw]
      have := toks_len a
      omega
  rw [fieldsOf, if_pos h5, h4, hw]
theorem actTo_each (x : Cur) : ∀ k, ∀ a ∈ (actTo x k).1, actOk a = true
  | 0 => by simp [actTo]
  | k + 1 => by
    intro a ha
    rw [actTo] at ha
    rcases List.mem_append.1 ha with h | h
    · exact actTo_each x k a h
    · rw [List.mem_singleton] at h
      subst h
      exact actDraw_ok _
theorem drawA_each (l : List UInt8) : ∀ a ∈ drawA l, actOk a = true := actTo_each _ _
theorem laws_FnActTexts_ok : ∀ ds outs, F_FnActTexts ds = some outs → shL laws_FnActTexts_L (qRet outs) ds := F_FnActTexts_elim fun l hp => by
  rw [laws_FnActTexts_L_sh, p_big hp]
  simp only [ifB_bool, decide_eq_true_eq, decide_eq_false_iff_not]
  refine ⟨fun _ => by simp, fun hb => ?_⟩
  have hl : l.length ≤ 1048576 := by omega
  have hA := drawA_len l
  have ho := drawA_each l
  rw [p_DrawActs hl]
  generalize drawA l = A at *
  refine loop_upto A.length (fun k => [.int .i64 k, vL I3 v3 A]) (fun i j _ _ e => by simp at e; omega) (fun _ => True) (by simp) trivial ?_
  intro k hk _
  rw [laws_FnActTexts_b0_sh]
  simp only [P1_len, P1_lss, ifB_bool, decide_eq_true_eq, decide_eq_false_iff_not]
  refine ⟨fun h => ?_, fun h => ?_⟩
  · have h2 : k < A.length := by omega
    have h3 := ho A[k] (List.getElem_mem h2)
    have h3' : actOk ⟨A[k].a, A[k].b, A[k].c⟩ = true := h3
    have lf : (fmtAct ⟨A[k].a, A[k].b, A[k].c⟩).length ≤ 49 := fmt_len A[k]
    have e : fieldsOf ([32, 32] ++ fmtAct ⟨A[k].a, A[k].b, A[k].c⟩ ++ [32]) = toks A[k] := fields_act h3
    obtain ⟨e1, e2⟩ := parse_fit h3 rfl
    have w5 : IntKind.i64.wrap ((k : Int) + 1) = ((k + 1 : Nat) : Int) := by rw [wrap_id (by omega) (by omega)]; omega
    simp only [P3_idxI, Int.toNat_natCast, List.getElem?_eq_getElem h2, Option.some.injEq, exists_eq_left', p_FormatAct, P1_addS, List.length_append, List.length_cons, List.length_nil]
    refine ⟨by omega, by omega, by omega, ?_⟩
    rw [p_ParseAct (by simp only [List.length_append, List.length_cons, List.length_nil]; omega), e, e1, e2, h3']
    simp only [P1_not, ifB_bool, Bool.not_true, Bool.false_eq_true, false_implies, true_and, true_implies, P1_eqa33r, P1_add, w5, qS_normal]
    exact ⟨by omega, h2, trivial⟩
  · simp [laws_FnActTexts_r1_sh]
end Go.Mw

