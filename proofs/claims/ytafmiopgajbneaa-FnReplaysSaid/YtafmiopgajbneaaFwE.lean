/- A part of the framework that turns Go code into small pure programs and shows that they are sound: no condition. -/
import Derived.Deep.LoopGhost
import Derived.Test.YtafmiopgajbneaaFwD
/- What a state keeps when less is said of it, when a draw is made, and when the environment grows. -/
namespace Go.Mw
open Go.RowKit

theorem Keep.heap {c : Cx} {w w' : World} (h : Keep c w) (h1 : w'.heap = w.heap) (h2 : w'.os = w.os) (h3 : w'.tape = w.tape) (h4 : w'.output = w.output) (h5 : w.drawn ≤ w'.drawn := by first | exact Nat.le_refl _ | exact Nat.le_succ _) : Keep c w' :=
  ⟨by rw [h2]; exact h.os, by rw [h3]; exact h.tape, by rw [h4]; exact h.output, by rw [h1]; exact h.size, by rw [h1]; exact h.block, by rw [h1]; exact h.sz, Nat.le_trans h.dr h5⟩

/-- A world of the same heap. -/
theorem Rel.heap {c : Cx} {nt : Nat} {M : Mp} {env : List V} {A : FS} {a : Act} {w w' : World} (h : Rel c nt M env A a w) (h1 : w'.heap = w.heap) (h2 : w'.os = w.os) (h3 : w'.tape = w.tape) (h4 : w'.output = w.output) (h5 : w.drawn ≤ w'.drawn := by first | exact Nat.le_refl _ | exact Nat.le_succ _) :
    Rel c nt M env A a w' := by
  have E : Ext c (fun _ => False) M A.ob w M A.ob w' := ⟨fun r ver l app _ ho => ⟨ver, l, app, ho, rfl, Nat.le_refl _, fun _ => ⟨rfl, fun b hb _ => ⟨hb, by rw [h1]⟩⟩⟩, fun id cells _ ho => ⟨⟨cells, ho⟩, rfl⟩, fun _ _ _ => by rw [h1]⟩
  refine ⟨h.size, h.defs, fun s gs sv hs => ?_, fun r ver l app hr => ?_, fun id cells hb => ?_, h.dBB, h.dRR, h.dBR, h.keep.heap h1 h2 h3 h4 h5⟩
  · obtain ⟨g1, g2, g3⟩ := h.slots s gs sv hs
    exact ⟨g1, fun hg => RelSV.ext E (fun _ _ => id) (g2 hg), g3⟩
  · obtain ⟨⟨S, g1, g2, g3⟩, g4, g5⟩ := h.rows r ver l app hr
    refine ⟨⟨S, g1.frame fun b _ => by rw [h1], g2, fun b hb => ⟨(g3 b hb).1, (g3 b hb).2.of_eq (by rw [h1])⟩⟩, fun b hb => by rw [h1]; exact g4 b hb, fun e => ⟨(g5.1 e).1.frame g1 fun b _ => by rw [h1], (g5.1 e).2⟩, g5.2⟩
  · obtain ⟨us, E', g1, g2, g3⟩ := h.boxes id cells hb
    exact ⟨us, E', by rw [h1]; exact g1, RelAts.ext E (fun _ _ => _root_.id) g2, g3⟩

/-! ### the environment grows -/

def Lf.lt (n : Nat) : Lf → Bool
  | .v i => i < n
  | .k _ => true

theorem Lf.ev_ext {env env' : List V} {l : Lf} (h : l.lt env.length = true) (he : ∀ i, i < env.length → env'[i]? = env[i]?) : l.ev env' = l.ev env := by
  cases l with
  | v i => simp only [Lf.lt, decide_eq_true_eq] at h; simp only [Lf.ev, List.getD_eq_getElem?_getD, he i h]
  | k c => rfl

def pthLt (n : Nat) : Option Pth → Bool
  | none => true
  | some (.pre ll hi) => ll.lt n && hi.lt n
  | some (.elm q) => q.ll.lt n && q.ix.lt n && decide (q.el + q.ks.length ≤ n)

def At.lt (n : Nat) : At → Bool
  | .sc l => l.lt n
  | .ro l => l.lt n
  | .inn _ _ l p => l.lt n && pthLt n p
  | _ => true

def atsLt (n : Nat) : List At → Bool
  | [] => true
  | a :: as => a.lt n && atsLt n as

def SV.lt (n : Nat) : SV → Bool
  | .sc c => atsLt n c.cs
  | .ptr _ _ => true
  | .elem b _ ll ix el _ ks => b.lt n && ll.lt n && ix.lt n && el + ks.length ≤ n
  | .tup cs => cs.all fun c => atsLt n c.cs

def gsLt (n : Nat) : Gs → Bool
  | [] => true
  | p :: gs => p.1.lt n && gsLt n gs

theorem gsLt_mem {n : Nat} : ∀ {gs : Gs}, gsLt n gs = true → ∀ p ∈ gs, p.1.lt n = true
  | [], _, _, hp => by cases hp
  | q :: gs, h, p, hp => by
    simp only [gsLt, Bool.and_eq_true] at h
    rcases List.mem_cons.1 hp with rfl | hp
    · exact h.1
    · exact gsLt_mem h.2 p hp

def SO.lt (n : Nat) : SO → Bool
  | .box cells => atsLt n cells
  | .row _ l _ => l.lt n

structure Scoped (A : FS) (n : Nat) : Prop where
  sl : ∀ s gs sv, A.sl s = some (gs, sv) → gsLt n gs = true ∧ sv.lt n = true
  ob : ∀ i x, A.ob i = some x → x.lt n = true

section
variable {c : Cx} {M : Mp} {env env' : List V} {w : World} {ob : Nat → Option SO} (he : ∀ i, i < env.length → env'[i]? = env[i]?)
include he

theorem GH.ext_iff {gs : Gs} (h : gsLt env.length gs = true) : GH env' gs ↔ GH env gs := by
  have : ∀ p ∈ gs, p.1.ev env' = p.1.ev env := fun p hp => Lf.ev_ext (gsLt_mem h p hp) he
  exact ⟨fun g p hp => by rw [← this p hp]; exact g p hp, fun g p hp => by rw [this p hp]; exact g p hp⟩

variable (hob : ∀ i x, ob i = some x → x.lt env.length = true)

include hob in
theorem RelPth.grow {p : Option Pth} {r ver : Nat} {l : Lf} {v : Value} (hll0 : l.lt env.length = true) (hl : pthLt env.length p = true) (h : RelPth M env w ob p r ver l v) : RelPth M env' w ob p r ver l v := by
  cases p with
  | none => trivial
  | some q =>
  cases q with
  | pre ll hi =>
    simp only [pthLt, Bool.and_eq_true] at hl
    obtain ⟨hll, hhi⟩ := hl
    obtain ⟨u, ⟨ks, es, k, m, xx, cap, h1, h2, h3, h4, h5, h6, h7⟩, h8⟩ := h
    refine ⟨u, ⟨ks, es, k, m, xx, cap, by rw [Lf.ev_ext hll he]; exact h1, by rw [Lf.ev_ext hhi he]; exact h2, h3, h4, by rw [Lf.ev_ext hll0 he]; exact h5, h6, h7⟩, fun ver' l' app e2 e3 => ?_⟩
    have hl' := hob _ _ e2
    simp only [SO.lt] at hl'
    obtain ⟨g1, g2⟩ := h8 _ _ _ e2 e3
    exact ⟨by rw [Lf.ev_ext hll he, Lf.ev_ext hl' he]; exact g1, g2⟩
  | elm q =>
    simp only [pthLt, Bool.and_eq_true, decide_eq_true_eq] at hl
    obtain ⟨⟨hll, hix⟩, hel⟩ := hl
    obtain ⟨u, b, o, h0, ⟨b', o', n, cap, es, i, kk, e, h3, h4, h5, h6, h7, h8, h9, h10⟩, h2⟩ := h
    refine ⟨u, b, o, h0, ⟨b', o', n, cap, es, i, kk, e, h3, by rw [Lf.ev_ext hll he]; exact h4, by rw [Lf.ev_ext hix he]; exact h5, h6, h7, h8, fun j hj => by rw [he _ (by omega)]; exact h9 j hj, h10⟩, fun ver' l' app e2 e3 => ?_⟩
    have hl' := hob _ _ e2
    simp only [SO.lt] at hl'
    obtain ⟨g1, g2⟩ := h2 _ _ _ e2 e3
    exact ⟨by rw [Lf.ev_ext hll he, Lf.ev_ext hl' he]; exact g1, g2⟩

include hob in
theorem RelAt.grow {a : At} {v : Value} (hl : a.lt env.length = true) (h : RelAt c M env w ob a v) : RelAt c M env' w ob a v := by
  refine ⟨h.1, ?_⟩
  have h2 := h.2
  cases a with
  | sc l => simp only [At.lt] at hl; simp only [Lf.ev_ext hl he]; exact h2
  | ro l => simp only [At.lt] at hl; simp only [Lf.ev_ext hl he]; exact h2
  | inn r ver l p =>
    simp only [At.lt, Bool.and_eq_true] at hl
    refine ⟨?_, RelPth.grow he hob hl.1 hl.2 h2.2⟩
    simp only [Lf.ev_ext hl.1 he]; exact h2.1
  | _ => exact h2

include hob in
theorem RelAts.grow : ∀ {as : List At} {vs : List Value}, atsLt env.length as = true → RelAts c M env w ob as vs → RelAts c M env' w ob as vs
  | [], [], _, _ => trivial
  | [], _ :: _, _, h => h.elim
  | _ :: _, [], _, h => h.elim
  | _ :: _, _ :: _, hl, h => by
    simp only [atsLt, Bool.and_eq_true] at hl
    exact ⟨RelAt.grow he hob hl.1 h.1, RelAts.grow hl.2 h.2⟩

include hob in
theorem RelSCs.grow : ∀ {as : List SC} {vs : List Value}, (as.all fun c => atsLt env.length c.cs) = true → RelSCs c M env w ob as vs → RelSCs c M env' w ob as vs
  | [], [], _, _ => trivial
  | [], _ :: _, _, h => h.elim
  | _ :: _, [], _, h => h.elim
  | _ :: _, _ :: _, hl, h => by
    simp only [List.all_cons, Bool.and_eq_true] at hl
    obtain ⟨⟨vs, h1, h2⟩, h3⟩ := h
    exact ⟨⟨vs, RelAts.grow he hob hl.1 h1, h2⟩, RelSCs.grow hl.2 h3⟩

include hob in
theorem RelSV.grow {s : SV} {v : Value} (hl : s.lt env.length = true) (h : RelSV c M env w ob s v) : RelSV c M env' w ob s v := by
  cases s with
  | sc x => obtain ⟨vs, h1, h2⟩ := h; exact ⟨vs, RelAts.grow he hob hl h1, h2⟩
  | ptr id off => exact h
  | elem b ver ll ix el off ks =>
    simp only [SV.lt, Bool.and_eq_true, decide_eq_true_eq] at hl
    obtain ⟨⟨⟨hb, hll⟩, hix⟩, hel⟩ := hl
    obtain ⟨u, h1, b', o, n, cap, es, i, kk, e, h3, h4, h5, h6, h7, h8, h9, h10⟩ := h
    refine ⟨u, ?_, b', o, n, cap, es, i, kk, e, h3, by rw [Lf.ev_ext hll he]; exact h4, by rw [Lf.ev_ext hix he]; exact h5, h6, h7, h8, fun j hj => by rw [he _ (by omega)]; exact h9 j hj, h10⟩
    cases b with
    | ro l => simp only [RelBase, Lf.ev_ext hll he] at h1 ⊢; exact h1
    | own r =>
      intro ver' l' app e
      have hl' := hob _ _ e
      simp only [SO.lt] at hl'
      rw [Lf.ev_ext hll he, Lf.ev_ext hl' he]
      exact h1 _ _ _ e
    | inn r _ _ _ => simp only [RelBase, Lf.ev_ext hll he] at h1 ⊢; exact h1
    | _ => exact h1
  | tup cs => obtain ⟨vs, h1, h2⟩ := h; exact ⟨vs, h1, RelSCs.grow he hob hl h2⟩

end

/-- A state whose leaves lie in the old environment holds in a longer one. -/
theorem Rel.grow {c : Cx} {nt : Nat} {M : Mp} {env env' : List V} {A : FS} {a : Act} {w : World} (h : Rel c nt M env A a w) (hA : Scoped A env.length) (he : ∀ i, i < env.length → env'[i]? = env[i]?) : Rel c nt M env' A a w where
  size := h.size
  defs := h.defs
  slots := fun s gs sv e => by
    obtain ⟨h1, h2, h3⟩ := h.slots s gs sv e
    obtain ⟨g1, g2⟩ := hA.sl s gs sv e
    have := GH.ext_iff he g1
    exact ⟨h1, fun hg => RelSV.grow he hA.ob g2 (h2 (this.1 hg)), fun hg => h3 fun h => hg (this.2 h)⟩
  rows := fun r ver l app e => by
    have hl := hA.ob _ _ e
    simp only [SO.lt] at hl
    have := h.rows r ver l app e
    simp only [RowOk, Lf.ev_ext hl he]
    exact this
  boxes := fun id cells e => by
    obtain ⟨us, E, h1, h2, h3⟩ := h.boxes id cells e
    exact ⟨us, E, h1, RelAts.grow he hA.ob (hA.ob _ _ e) h2, h3⟩
  dBB := h.dBB
  dRR := h.dRR
  dBR := h.dBR
  keep := h.keep

end Go.Mw

/- A region's operations, done in any order that the region allows: the state is the fold, in the text's order, of what the done ones put. -/
namespace Go.Mw
open Go.RowKit

structure En where
  o : Oper
  gs : Gs
  out : Out
  fid : Nat
  nv : Nat

def En.nxt (e : En) : Nat := e.fid + e.nv + e.out.outs + 1

def En.up (A : FS) (e : En) : FS := ⟨upSl A.sl e.o.dst (e.out.sv.map fun s => (e.gs, s)), upOb A.ob e.out.obs⟩

def stD : FS → List En → (Nat → Bool) → FS
  | A, [], _ => A
  | A, e :: r, D => stD (if D 0 then e.up A else A) r (fun k => D (k + 1))

def setD (D : Nat → Bool) (i : Nat) : Nat → Bool := fun k => if k = i then true else D k

/-- Two entries that may change places: other slots, other ids. -/
def En.apart (e e' : En) : Bool :=
  (match e.o.dst with
   | none => true
   | some d => e'.o.dst != some d) && e.out.obs.all fun x => e'.out.obs.all fun y => x.1 != y.1

theorem upOb_ne {ob : Nat → Option SO} : ∀ {l : List (Nat × Option SO)} {i : Nat}, (∀ x ∈ l, x.1 ≠ i) → upOb ob l i = ob i := by
  intro l
  induction l generalizing ob with
  | nil => intro i _; rfl
  | cons x l ih =>
    obtain ⟨j, y⟩ := x
    intro i h
    simp only [upOb]
    rw [ih fun x hx => h x (by simp [hx])]
    have := h (j, y) (by simp)
    simp [Ne.symm this]

theorem upOb_key {ob ob' : Nat → Option SO} : ∀ {l : List (Nat × Option SO)} {i : Nat}, ob i = ob' i → upOb ob l i = upOb ob' l i := by
  intro l
  induction l generalizing ob ob' with
  | nil => intro i h; exact h
  | cons x l ih =>
    obtain ⟨j, y⟩ := x
    intro i h
    simp only [upOb]
    refine ih ?_
    show (if i = j then y else ob i) = (if i = j then y else ob' i)
    rw [h]

theorem upOb_mem {ob ob' : Nat → Option SO} : ∀ {l : List (Nat × Option SO)} {i : Nat}, (∃ x ∈ l, x.1 = i) → upOb ob l i = upOb ob' l i := by
  intro l
  induction l generalizing ob ob' with
  | nil => rintro i ⟨x, hx, _⟩; cases hx
  | cons x l ih =>
    obtain ⟨j, y⟩ := x
    intro i h
    simp only [upOb]
    by_cases hij : i = j
    · exact upOb_key (by simp [hij])
    · refine ih ?_
      obtain ⟨x, hx, h1⟩ := h
      rcases List.mem_cons.1 hx with rfl | hx
      · exact absurd h1.symm hij
      · exact ⟨x, hx, h1⟩

theorem En.up_comm {e e' : En} (h : e.apart e' = true) (A : FS) : e'.up (e.up A) = e.up (e'.up A) := by
  simp only [En.apart, Bool.and_eq_true, List.all_eq_true, bne_iff_ne, ne_eq] at h
  obtain ⟨h1, h2⟩ := h
  simp only [En.up, FS.mk.injEq]
  constructor
  · cases hd : e.o.dst with
    | none => simp [upSl]
    | some d =>
      rw [hd] at h1
      cases hd' : e'.o.dst with
      | none => simp [upSl]
      | some d' =>
        simp only [hd', bne_iff_ne, ne_eq, Option.some.injEq] at h1
        funext s
        simp only [upSl]
        by_cases a : s = d
        · have : ¬ s = d' := fun b => h1 (b.symm.trans a)
          simp [a, Ne.symm h1]
        · simp [a]
  · funext i
    by_cases a : ∃ x ∈ e.out.obs, x.1 = i
    · have b : ∀ y ∈ e'.out.obs, y.1 ≠ i := fun y hy h => by
        obtain ⟨x, hx, hxi⟩ := a
        exact h2 x hx y hy (hxi.trans h.symm)
      rw [upOb_ne b]; exact upOb_mem a
    · have a' : ∀ x ∈ e.out.obs, x.1 ≠ i := fun x hx h => a ⟨x, hx, h⟩
      rw [upOb_ne a', upOb_key (upOb_ne a')]

theorem stD_up {e : En} : ∀ {r : List En} {A : FS} {D : Nat → Bool}, (∀ k e', r[k]? = some e' → D k = true → e.apart e' = true) → stD (e.up A) r D = e.up (stD A r D)
  | [], _, _, _ => rfl
  | e' :: r, A, D, h => by
    simp only [stD]
    by_cases hD : D 0 = true
    · rw [if_pos hD, if_pos hD, En.up_comm (h 0 e' rfl hD)]
      exact stD_up fun k e'' h1 h2 => h (k + 1) e'' h1 h2
    · rw [if_neg hD, if_neg hD]
      exact stD_up fun k e'' h1 h2 => h (k + 1) e'' h1 h2

theorem stD_congr : ∀ {es : List En} {A : FS} {D D' : Nat → Bool}, (∀ k, k < es.length → D k = D' k) → stD A es D = stD A es D'
  | [], _, _, _, _ => rfl
  | e :: r, A, D, D', h => by
    simp only [stD, h 0 (by simp)]
    exact stD_congr fun k hk => h (k + 1) (by simp; omega)

theorem stD_set : ∀ {es : List En} {A : FS} {D : Nat → Bool} {i : Nat} {e : En}, es[i]? = some e → D i = false → (∀ k e', i < k → es[k]? = some e' → D k = true → e.apart e' = true) →
    stD A es (setD D i) = e.up (stD A es D)
  | [], _, _, _, _, h, _, _ => by simp at h
  | e0 :: r, A, D, 0, e, h, hD, hk => by
    simp only [List.getElem?_cons_zero, Option.some.injEq] at h
    subst h
    simp only [stD, setD, if_true, hD, Bool.false_eq_true, if_false]
    exact stD_up fun k e' h1 h2 => hk (k + 1) e' (by omega) h1 h2
  | e0 :: r, A, D, i + 1, e, h, hD, hk => by
    simp only [List.getElem?_cons_succ] at h
    have h0 : setD D (i + 1) 0 = D 0 := by simp [setD]
    simp only [stD, h0]
    rw [stD_congr (D' := setD (fun k => D (k + 1)) i) (fun k _ => by simp [setD])]
    exact stD_set h hD fun k e' h1 h2 h3 => hk (k + 1) e' (by omega) h2 h3

/-- A slot that only alike-done entries put. -/
theorem stD_sl {s : Nat} : ∀ {es : List En} {A A' : FS} {D D' : Nat → Bool}, A.sl s = A'.sl s → (∀ k e, es[k]? = some e → D k ≠ D' k → e.o.dst ≠ some s) → (stD A es D).sl s = (stD A' es D').sl s
  | [], _, _, _, _, h, _ => h
  | e :: r, A, A', D, D', h, hk => by
    simp only [stD]
    refine stD_sl ?_ fun k e' h1 h2 => hk (k + 1) e' h1 h2
    have hne : e.o.dst ≠ some s → ∀ B : FS, (e.up B).sl s = B.sl s := by
      intro hn B
      simp only [En.up]
      cases hd : e.o.dst with
      | none => rfl
      | some d => simp only [upSl]; rw [if_neg (fun h => hn (by rw [hd, h]))]
    by_cases hD : D 0 = D' 0
    · rw [hD]
      split
      · simp only [En.up]
        cases hd : e.o.dst with
        | none => exact h
        | some d =>
          simp only [upSl]
          split
          · rfl
          · exact h
      · exact h
    · have := hne (hk 0 e rfl hD)
      by_cases h1 : D 0 = true <;> by_cases h2 : D' 0 = true <;> simp only [h1, h2, if_true, this] <;> exact h

theorem stD_ob {i : Nat} : ∀ {es : List En} {A A' : FS} {D D' : Nat → Bool}, A.ob i = A'.ob i → (∀ k e, es[k]? = some e → D k ≠ D' k → ∀ x ∈ e.out.obs, x.1 ≠ i) → (stD A es D).ob i = (stD A' es D').ob i
  | [], _, _, _, _, h, _ => h
  | e :: r, A, A', D, D', h, hk => by
    simp only [stD]
    refine stD_ob ?_ fun k e' h1 h2 => hk (k + 1) e' h1 h2
    have hne : (∀ x ∈ e.out.obs, x.1 ≠ i) → ∀ B : FS, (e.up B).ob i = B.ob i := fun hn B => upOb_ne hn
    by_cases hD : D 0 = D' 0
    · rw [hD]
      split
      · exact upOb_key h
      · exact h
    · have := hne (hk 0 e rfl hD)
      by_cases h1 : D 0 = true <;> by_cases h2 : D' 0 = true <;> simp only [h1, h2, if_true, this] <;> exact h

theorem stD_none : ∀ {es : List En} {A : FS} {D : Nat → Bool}, (∀ k, k < es.length → D k = false) → stD A es D = A
  | [], _, _, _ => rfl
  | e :: r, A, D, h => by
    simp only [stD, h 0 (by simp), Bool.false_eq_true, if_false]
    exact stD_none fun k hk => h (k + 1) (by simp; omega)

theorem stD_take : ∀ {es : List En} {A : FS} {i : Nat}, stD A es (fun k => decide (k < i)) = (es.take i).foldl En.up A
  | [], _, _ => by simp [stD]
  | e :: r, A, 0 => by simp [stD, stD_none]
  | e :: r, A, i + 1 => by
    simp only [stD, Nat.zero_lt_succ, decide_true, if_true, List.take_succ_cons, List.foldl_cons]
    rw [stD_congr (D' := fun k => decide (k < i)) (fun k _ => by simp)]
    exact stD_take

/-! ### the ids of which an entry speaks -/

def At.ids : At → List Nat
  | .own r => [r]
  | .inn r _ _ _ => [r]
  | _ => []

def atsIds : List At → List Nat
  | [] => []
  | a :: as => a.ids ++ atsIds as

def SV.ids : SV → List Nat
  | .sc c => atsIds c.cs
  | .ptr id _ => [id]
  | .elem b _ _ _ _ _ _ => b.ids
  | .tup cs => cs.flatMap fun c => atsIds c.cs

def SO.ids : SO → List Nat
  | .box cells => atsIds cells
  | .row _ _ _ => []

def obsIds : List (Nat × Option SO) → List Nat
  | [] => []
  | (i, x) :: r => i :: ((x.map SO.ids).getD [] ++ obsIds r)

def Out.ids (o : Out) : List Nat := (o.sv.map SV.ids).getD [] ++ obsIds o.obs

theorem At.men_ids {a : At} {x : Nat} (h : a.men x) : x ∈ a.ids := by
  cases a <;> simp_all [At.men, At.ids]

theorem atsMen_ids : ∀ {as : List At} {x : Nat}, atsMen as x → x ∈ atsIds as
  | [], _, ⟨_, h, _⟩ => by cases h
  | a :: as, x, ⟨b, hb, hx⟩ => by
    simp only [atsIds, List.mem_append]
    rcases List.mem_cons.1 hb with rfl | hb
    · exact .inl (At.men_ids hx)
    · exact .inr (atsMen_ids ⟨b, hb, hx⟩)

theorem SV.men_ids {s : SV} {x : Nat} (h : s.men x) : x ∈ s.ids := by
  cases s with
  | sc c => exact atsMen_ids h
  | ptr id off => simp only [SV.men] at h; simp [SV.ids, h]
  | elem b _ _ _ _ _ _ => exact At.men_ids h
  | tup cs =>
    obtain ⟨c, hc, hx⟩ := h
    simp only [SV.ids, List.mem_flatMap]
    exact ⟨c, hc, atsMen_ids hx⟩

theorem obsIds_key : ∀ {l : List (Nat × Option SO)} {x : Nat × Option SO}, x ∈ l → x.1 ∈ obsIds l
  | [], _, h => by cases h
  | (i, y) :: r, x, h => by
    simp only [obsIds, List.mem_cons, List.mem_append]
    rcases List.mem_cons.1 h with rfl | h
    · exact .inl rfl
    · exact .inr (.inr (obsIds_key h))

theorem obsIds_box : ∀ {l : List (Nat × Option SO)} {i : Nat} {cells : List At} {x : Nat}, (i, some (SO.box cells)) ∈ l → x ∈ atsIds cells → x ∈ obsIds l
  | [], _, _, _, h, _ => by cases h
  | (i, y) :: r, j, cells, x, h, hx => by
    simp only [obsIds, List.mem_cons, List.mem_append]
    rcases List.mem_cons.1 h with h | h
    · cases h; exact .inr (.inl (by simpa [SO.ids] using hx))
    · exact .inr (.inr (obsIds_box h hx))

theorem upOb_get {ob : Nat → Option SO} : ∀ {l : List (Nat × Option SO)} {i : Nat}, upOb ob l i = ob i ∨ ∃ y, (i, y) ∈ l ∧ upOb ob l i = y := by
  intro l
  induction l generalizing ob with
  | nil => intro i; exact .inl rfl
  | cons x l ih =>
    obtain ⟨j, y⟩ := x
    intro i
    simp only [upOb]
    rcases @ih (fun k => if k = j then y else ob k) i with h | ⟨z, h1, h2⟩
    · rw [h]
      by_cases hij : i = j
      · subst hij; exact .inr ⟨y, by simp, by simp⟩
      · exact .inl (by simp [hij])
    · exact .inr ⟨z, by simp [h1], h2⟩

theorem Fresh.up {A : FS} {fr : Nat → Prop} (h : Fresh A fr) {e : En} (he : ∀ x ∈ e.out.ids, ¬ fr x) : Fresh (e.up A) fr := by
  refine ⟨fun s gs sv hs x hx => ?_, fun id cells hb x hx => ?_, fun x hx => ?_⟩
  · have : A.sl s = some (gs, sv) ∨ e.out.sv = some sv := by
      simp only [En.up] at hs
      cases hd : e.o.dst with
      | none => rw [hd] at hs; exact .inl hs
      | some d =>
        rw [hd] at hs
        simp only [upSl] at hs
        split at hs
        · simp only [Option.map_eq_some_iff, Prod.mk.injEq] at hs
          obtain ⟨s', h1, _, h2⟩ := hs
          exact .inr (by rw [h1, h2])
        · exact .inl hs
    rcases this with h1 | h1
    · exact h.1 s gs sv h1 x hx
    · exact he x (by simp only [Out.ids, h1, Option.map_some, Option.getD_some, List.mem_append]; exact .inl (SV.men_ids hx))
  · simp only [En.up] at hb
    rcases @upOb_get A.ob e.out.obs id with h1 | ⟨y, h1, h2⟩
    · rw [h1] at hb; exact h.2.1 id cells hb x hx
    · rw [h2] at hb; subst hb
      exact he x (by simp only [Out.ids, List.mem_append]; exact .inr (obsIds_box h1 (atsMen_ids hx)))
  · simp only [En.up]
    rw [upOb_ne fun y hy hyx => he x (by simp only [Out.ids, List.mem_append]; exact .inr (hyx ▸ obsIds_key hy)) hx]
    exact h.2.2 x hx

theorem Fresh.stD {fr : Nat → Prop} : ∀ {es : List En} {A : FS} {D : Nat → Bool}, Fresh A fr → (∀ k e, es[k]? = some e → D k = true → ∀ x ∈ e.out.ids, ¬ fr x) → Fresh (Mw.stD A es D) fr
  | [], _, _, h, _ => h
  | e :: r, A, D, h, hk => by
    simp only [Mw.stD]
    refine Fresh.stD ?_ fun k e' h1 h2 => hk (k + 1) e' h1 h2
    split
    · rename_i hD; exact h.up (hk 0 e rfl hD)
    · exact h

/-! ### an operation that is not wanted -/

def skipOk (fid nxt nv outs : Nat) : List (Nat × Option SO) → Bool
  | [] => true
  | (_, none) :: r => skipOk fid nxt nv outs r
  | (id, some (.row 0 (.v j) true)) :: r => (fid ≤ id && id < nxt && nv ≤ j && j < nv + outs) && !(r.any fun x => x.1 == id) && skipOk fid nxt nv outs r
  | _ => false

theorem skipOk_none {fid nxt nv outs id : Nat} {r : List (Nat × Option SO)} (h : skipOk fid nxt nv outs ((id, none) :: r) = true) : skipOk fid nxt nv outs r = true := by
  simpa [skipOk] using h

theorem Rel.skip0 {c : Cx} {nt : Nat} {env : List V} {a : Act} {w : World} {gs : Gs} {dst : Option Nat} {fid nxt nv outs : Nat} (hd : ∀ d, dst = some d → d < nt) (hg : ¬ GH env gs)
    (hdef : ∀ j, j < outs → env[nv + j]? = some (.list [] [])) (sv : Option SV) : ∀ {obs : List (Nat × Option SO)} {M : Mp} {A : FS}, skipOk fid nxt nv outs obs = true → Fresh A (fun x => ∃ y, (x, some y) ∈ obs) →
    Rel c nt M env A a w → ∃ M', Rel c nt M' env ⟨upSl A.sl dst (sv.map fun s => (gs, s)), upOb A.ob obs⟩ (a.put dst undef) w := by
  have base : ∀ {M : Mp} {A : FS}, Rel c nt M env A a w → ∃ M', Rel c nt M' env ⟨upSl A.sl dst (sv.map fun s => (gs, s)), A.ob⟩ (a.put dst undef) w := by
    intro M A hR
    refine ⟨M, ?_⟩
    cases sv with
    | some s => exact hR.put hd fun _ => ⟨fun h => absurd h hg, fun _ => rfl⟩
    | none =>
      have := hR.put (gs := gs) (sv := .sc ⟨false, []⟩) hd (v := undef) fun _ => ⟨fun h => absurd h hg, fun _ => rfl⟩
      refine this.sub (fun s x h => ?_) fun _ _ h => h
      cases dst with
      | none => exact h
      | some d =>
        simp only [upSl, Option.map_none] at h ⊢
        split at h
        · cases h
        · rename_i hne; rw [if_neg hne]; exact h
  intro obs
  induction obs with
  | nil => exact fun _ _ hR => base hR
  | cons x obs ih =>
    obtain ⟨id, y⟩ := x
    intro M A hs hf hR
    have hf' : Fresh A (fun x => ∃ y, (x, some y) ∈ obs) := hf.mono fun x ⟨z, hz⟩ => ⟨z, List.mem_cons_of_mem _ hz⟩
    cases y with
    | none =>
      have hR' := hR.sub (A' := ⟨A.sl, fun j => if j = id then none else A.ob j⟩) (fun _ _ h => h) (fun i x h => by
        simp only at h
        split at h
        · cases h
        · exact h)
      refine ih (A := ⟨A.sl, fun j => if j = id then none else A.ob j⟩) (skipOk_none hs) ⟨hf'.1, fun i cells h => ?_, fun x hx => ?_⟩ hR'
      · simp only at h
        split at h
        · cases h
        · exact hf'.2.1 i cells h
      · simp only
        split
        · rfl
        · exact hf'.2.2 x hx
    | some z =>
      match z, hs with
      | .row 0 (.v j) true, hs =>
        simp only [skipOk, Bool.and_eq_true, decide_eq_true_eq, Bool.not_eq_true'] at hs
        obtain ⟨⟨⟨⟨⟨h1, h2⟩, h3⟩, h4⟩, hni⟩, hs⟩ := hs
        replace hf : Fresh A fun x => ∃ y, (x, some y) ∈ (id, some (SO.row 0 (.v j) true)) :: obs := hf
        have hev : (Lf.v j).ev env = .list [] [] := by
          have := hdef (j - nv) (by omega)
          rw [show nv + (j - nv) = j by omega] at this
          simp [Lf.ev, this]
        have hin : ∃ y, (id, some y) ∈ (id, some (SO.row 0 (.v j) true)) :: obs := ⟨_, List.mem_cons_self⟩
        have hf1 : Fresh A (· = id) := ⟨fun s gs sv h x hx e => hf.1 s gs sv h x hx (by subst e; exact hin), fun i cells h x hx e => hf.2.1 i cells h x hx (by subst e; exact hin), fun x e => hf.2.2 x (by subst e; exact hin)⟩
        have hrep : Rep w [.slice none 0 0] [(Lf.v j).ev env] [] := by rw [hev]; exact .atom (.nil _) .nil
        obtain ⟨hR', _⟩ := hR.add_row hf1 hrep .nil (fun b hb => by cases hb) ⟨.inl rfl, Inn.nil⟩ (fun b hb => by cases hb)
        have hne : ∀ x, (∃ y, (x, some y) ∈ obs) → x ≠ id := by
          rintro x ⟨y, hy⟩ e
          subst e
          have : (obs.any fun q => q.1 == x) = true := List.any_eq_true.2 ⟨_, hy, by simp⟩
          rw [hni] at this; cases this
        have hup : ∀ i, i ≠ id → upOb A.ob [(id, some (SO.row 0 (.v j) true))] i = A.ob i := fun i hi => by simp [upOb, hi]
        refine ih (A := ⟨A.sl, upOb A.ob [(id, some (SO.row 0 (.v j) true))]⟩) hs ⟨hf'.1, fun i cells h => ?_, fun x hx => ?_⟩ hR'
        · have hi : i ≠ id := by
            rintro rfl
            simp [upOb] at h
          have h2 := h
          simp only at h2
          rw [hup i hi] at h2
          exact hf'.2.1 i cells h2
        · simp only
          rw [hup x (hne x hx)]
          exact hf'.2.2 x hx
      | .row 0 (.v _) false, hs => simp [skipOk] at hs
      | .row 0 (.k _) _, hs => simp [skipOk] at hs
      | .row (_ + 1) _ _, hs => simp [skipOk] at hs
      | .box _, hs => simp [skipOk] at hs

theorem skipOk_ids {fid nxt nv outs : Nat} : ∀ {obs : List (Nat × Option SO)}, skipOk fid nxt nv outs obs = true → ∀ x, (∃ y, (x, some y) ∈ obs) → fid ≤ x ∧ x < nxt
  | [], _, x, ⟨y, h⟩ => by cases h
  | (id, none) :: r, hs, x, ⟨y, h⟩ => by
    rcases List.mem_cons.1 h with h | h
    · cases h
    · exact skipOk_ids (skipOk_none hs) x ⟨y, h⟩
  | (id, some z) :: r, hs, x, ⟨y, h⟩ => by
    match z, hs with
    | .row 0 (.v j) true, hs =>
      simp only [skipOk, Bool.and_eq_true, decide_eq_true_eq] at hs
      rcases List.mem_cons.1 h with h | h
      · cases h; exact hs.1.1.1.1
      · exact skipOk_ids hs.2 x ⟨y, h⟩
    | .row 0 (.v _) false, hs => simp [skipOk] at hs
    | .row 0 (.k _) _, hs => simp [skipOk] at hs
    | .row (_ + 1) _ _, hs => simp [skipOk] at hs
    | .box _, hs => simp [skipOk] at hs

theorem Rel.skip {c : Cx} {nt : Nat} {env : List V} {a : Act} {w : World} {gs : Gs} {dst : Option Nat} {fid nxt nv outs : Nat} (hd : ∀ d, dst = some d → d < nt) (hg : ¬ GH env gs)
    (hdef : ∀ j, j < outs → env[nv + j]? = some (.list [] [])) (sv : Option SV) {obs : List (Nat × Option SO)} {M : Mp} {A : FS} (hs : skipOk fid nxt nv outs obs = true) (hf : Fresh A (fun x => fid ≤ x ∧ x < nxt))
    (hR : Rel c nt M env A a w) : ∃ M', Rel c nt M' env ⟨upSl A.sl dst (sv.map fun s => (gs, s)), upOb A.ob obs⟩ (a.put dst undef) w :=
  Rel.skip0 hd hg hdef sv hs (hf.mono (skipOk_ids hs)) hR

end Go.Mw

/- One operation of a region, where the ones that must come before it are done. -/
namespace Go.Mw
open Go.RowKit

structure In where
  gs : Gs
  p : Prim
  ls : List Lf
  outs : Nat

def gsOk (env : List V) : Gs → Bool
  | [] => true
  | p :: gs => (match p.1.ev env with
    | .bool b => b == p.2
    | _ => false) && gsOk env gs

theorem gsOk_iff {env : List V} : ∀ {gs : Gs}, gsOk env gs = true ↔ GH env gs
  | [] => by simp [gsOk, GH]
  | p :: gs => by
    simp only [gsOk, Bool.and_eq_true, gsOk_iff (gs := gs)]
    constructor
    · rintro ⟨h1, h2⟩ q hq
      rcases List.mem_cons.1 hq with rfl | hq
      · split at h1
        · rename_i b e; rw [e]; simp only [beq_iff_eq] at h1; rw [h1]
        · cases h1
      · exact h2 q hq
    · intro h
      refine ⟨?_, fun q hq => h q (by simp [hq])⟩
      rw [h p (by simp)]; simp

def guardOf (ops : Array Oper) (A : FS) (o : Oper) : Option Gs :=
  match o.guard with
  | none => some []
  | some (j, want) =>
    match (ops[j]?).bind (·.dst) with
    | some d =>
      match A.sl d with
      | some (gs, sv) =>
        match sv.scl with
        | some l => some (gs ++ [(l, want)])
        | none => none
      | none => none
    | none => none

def insOk (nv : Nat) (o : Out) : Bool :=
  match o.ins with
  | some (_, ls) => ls.all (Lf.lt nv)
  | none => o.outs == 0

def svLt (n : Nat) : Option SV → Bool
  | some s => s.lt n
  | none => true

def obsLt (n : Nat) : List (Nat × Option SO) → Bool
  | [] => true
  | (_, some x) :: r => x.lt n && obsLt n r
  | (_, none) :: r => obsLt n r

def En.ok (nt : Nat) (e : En) : Bool :=
  (match e.o.dst with
   | some d => d < nt
   | none => true) && e.out.ids.all (· < e.nxt) && insOk e.nv e.out && gsLt e.nv e.gs && svLt (e.nv + e.out.outs) e.out.sv && obsLt (e.nv + e.out.outs) e.out.obs &&
  (e.o.guard.isNone || skipOk e.fid e.nxt e.nv e.out.outs e.out.obs)

/-- The entries of a region, in the text's order. -/
def SeqOk (P : Program) (sg : List (Nat × Sig)) (nt : Nat) (ops : Array Oper) : FS → Nat → Nat → List En → Prop
  | _, _, _, [] => True
  | A, fid, nv, e :: r => e.fid = fid ∧ e.nv = nv ∧ guardOf ops A e.o = some e.gs ∧ core P sg (look A.sl e.gs) A.ob fid nv e.o = some e.out ∧ e.ok nt = true ∧
    SeqOk P sg nt ops (e.up A) e.nxt (nv + e.out.outs) r

section
variable {P : Program} {sg : List (Nat × Sig)} {nt : Nat} {ops : Array Oper}

theorem SeqOk.get : ∀ {es : List En} {A : FS} {fid nv i : Nat} {e : En}, SeqOk P sg nt ops A fid nv es → es[i]? = some e →
    guardOf ops (stD A es (fun k => decide (k < i))) e.o = some e.gs ∧ core P sg (look (stD A es (fun k => decide (k < i))).sl e.gs) (stD A es (fun k => decide (k < i))).ob e.fid e.nv e.o = some e.out ∧ e.ok nt = true ∧
      fid ≤ e.fid ∧ nv ≤ e.nv ∧ ∀ k e', k < i → es[k]? = some e' → e'.nxt ≤ e.fid
  | [], _, _, _, _, _, _, h => by simp at h
  | e0 :: r, A, fid, nv, 0, e, h, he => by
    simp only [List.getElem?_cons_zero, Option.some.injEq] at he
    subst he
    obtain ⟨h1, h2, h3, h4, h5, h6⟩ := h
    rw [stD_none (by simp)]
    exact ⟨h3, h1 ▸ h2 ▸ h4, h5, by omega, by omega, fun k _ hk => by omega⟩
  | e0 :: r, A, fid, nv, i + 1, e, h, he => by
    simp only [List.getElem?_cons_succ] at he
    obtain ⟨h1, h2, h3, h4, h5, h6⟩ := h
    have := SeqOk.get h6 he
    have e1 : stD A (e0 :: r) (fun k => decide (k < i + 1)) = stD (e0.up A) r (fun k => decide (k < i)) := by
      simp only [stD, Nat.zero_lt_succ, decide_true, if_true]
      exact stD_congr fun k _ => by simp
    rw [e1]
    obtain ⟨g1, g2, g3, g4, g5, g6⟩ := this
    refine ⟨g1, g2, g3, by simp only [En.nxt] at g4; omega, by omega, fun k e' hk he' => ?_⟩
    cases k with
    | zero => simp only [List.getElem?_cons_zero, Option.some.injEq] at he'; subst he'; exact g4
    | succ k => exact g6 k e' (by omega) (by simpa using he')

def others (es : List En) (prec : Nat → Nat → Bool) (i : Nat) : List En :=
  (List.range es.length).filterMap fun k => if k != i && !prec k i && !prec i k then es[k]? else none

def cut (A : FS) (os : List En) : FS :=
  ⟨fun s => if os.any (fun e => e.o.dst == some s) then none else A.sl s, fun i => if os.any (fun e => e.out.obs.any fun x => x.1 == i) then none else A.ob i⟩

/-- What must hold of an entry for the ones that are not ordered with it. -/
def AnyOk (P : Program) (sg : List (Nat × Sig)) (ops : Array Oper) (A : FS) (es : List En) (prec : Nat → Nat → Bool) : Prop :=
  ∀ (i : Nat) (e : En), es[i]? = some e → (∀ e' ∈ others es prec i, e.apart e' = true ∧ ∀ x ∈ e'.out.ids, ¬ (e.fid ≤ x ∧ x < e.nxt)) ∧
    (∃ y, guardOf ops (cut (stD A es (fun k => decide (k < i))) (others es prec i)) e.o = some y) ∧
    ∃ y, core P sg (look (cut (stD A es (fun k => decide (k < i))) (others es prec i)).sl e.gs) (cut (stD A es (fun k => decide (k < i))) (others es prec i)).ob e.fid e.nv e.o = some y

theorem guardOf_mono {A A' : FS} (h : ∀ s x, A.sl s = some x → A'.sl s = some x) {o : Oper} {gs : Gs} (hg : guardOf ops A o = some gs) : guardOf ops A' o = some gs := by
  unfold guardOf at hg ⊢
  split at hg
  · exact hg
  · split at hg
    · split at hg
      · rename_i e
        simp only [h _ _ e]
        exact hg
      · cases hg
    · cases hg

theorem look_mono {sl sl' : Nat → Option (Gs × SV)} (h : ∀ s x, sl s = some x → sl' s = some x) {gs ex : Gs} {x : Operand} {sv : SV} (hl : look sl gs ex x = some sv) : look sl' gs ex x = some sv := by
  unfold look at hl ⊢
  split at hl
  · exact hl
  · split at hl
    · rename_i e
      simp only [h _ _ e]
      exact hl
    · cases hl
  · exact hl
  · cases hl

variable {c : Cx} {env : List V} {a : Act} {w : World}

/-- Whether an operation is wanted. -/
theorem wanted_iff {M : Mp} {A : FS} (hR : Rel c nt M env A a w) {o : Oper} {gs : Gs} (hg : guardOf ops A o = some gs) : Region.wanted o (yielded ops a.tmps) = true ↔ GH env gs := by
  unfold guardOf at hg
  unfold Region.wanted
  split at hg
  · rename_i h
    simp only [h, Option.some.injEq] at hg ⊢
    subst hg
    simp [GH]
  · rename_i j want h
    simp only [h]
    split at hg
    · rename_i d hd
      split at hg
      · rename_i gs' sv hs
        split at hg
        · rename_i l hl
          simp only [Option.some.injEq] at hg
          subst hg
          obtain ⟨h1, h2, h3⟩ := hR.slots d gs' sv hs
          have hsz : d < a.tmps.size := by rw [hR.size]; exact h1
          have hv : a.tmps[d]? = some (a.tmps.getD d undef) := by simp [hsz]
          have hy : yielded ops a.tmps j = match a.tmps.getD d undef with
              | .bool b => some b
              | _ => none := by
            unfold yielded
            rw [hd, Option.bind_some, hv]
            split
            · rename_i b e; simp only [Option.some.injEq] at e; rw [e]
            · rename_i hne
              split
              · rename_i b e; exact absurd (by rw [e]) (hne b)
              · rfl
          rw [hy]
          by_cases hgg : GH env gs'
          · have hr := (h2 hgg).scl hl
            have hat := hr.atom_of
            have hiff : GH env (gs' ++ [(l, want)]) ↔ l.ev env = .bool want := ⟨fun h => h (l, want) (by simp), fun h => hgg.snoc h⟩
            rw [hiff]
            generalize a.tmps.getD d undef = v at hat ⊢
            generalize l.ev env = dd at hat ⊢
            cases hat <;> simp
          · rw [h3 hgg]
            have : ¬ GH env (gs' ++ [(l, want)]) := fun h => hgg fun p hp => h p (by simp [hp])
            simp only [this, iff_false]
            simp [undef]
        · cases hg
      · cases hg
    · cases hg

/-- The environment holds what the region's entries add. -/
def EnvOk (env : List V) (es : List En) : Prop :=
  ∀ (i : Nat) (e : En), es[i]? = some e → (GH env e.gs → Holds env e.nv e.out) ∧ (¬ GH env e.gs → ∀ j, j < e.out.outs → env[e.nv + j]? = some (.list [] []))

theorem mem_others {es : List En} {prec : Nat → Nat → Bool} {i k : Nat} {e : En} (h : es[k]? = some e) (h1 : k ≠ i) (h2 : prec k i = false) (h3 : prec i k = false) : e ∈ others es prec i := by
  simp only [others, List.mem_filterMap, List.mem_range]
  exact ⟨k, (List.getElem?_eq_some_iff.1 h).1, by simp [h1, h2, h3, h]⟩

theorem region_step {Q : Exit → Act → World → Prop} (hsg : ∀ f s, sg.lookup f = some s → Contract P f s) {A : FS} {fid nv : Nat} {es : List En} {prec : Nat → Nat → Bool} (hops : ops.toList = es.map (·.o))
    (hseq : SeqOk P sg nt ops A fid nv es) (hany : AnyOk P sg ops A es prec) (hlt : ∀ k i, prec k i = true → k < i) (hA : Fresh A (fun x => fid ≤ x)) (hpb : ∀ x, npK ≤ x → c.parB x = none ∧ c.par x = none) (hnp : npK ≤ fid) (henv : EnvOk env es)
    {D : Nat → Bool} {i : Nat} {M : Mp} (hR : Rel c nt M env (stD A es D) a w) (hi : i < ops.size) (hDi : D i = false) (hpre : ∀ k, prec k i = true → D k = true) (hpost : ∀ k, D k = true → prec i k = false)
    {K : Act → World → Prop} (hK : ∀ M' a' w', Rel c nt M' env (stD A es (setD D i)) a' w' → K a' w') : wpOp P ops Q i K a w := by
  have hlen : es.length = ops.size := by rw [← Array.length_toList, hops, List.length_map]
  obtain ⟨e, he⟩ : ∃ e, es[i]? = some e := ⟨es[i]'(by omega), by simp [hlen, hi]⟩
  have ho : ops[i]? = some e.o := by
    rw [← Array.getElem?_toList, hops, List.getElem?_map, he]; rfl
  obtain ⟨s1, s2, s3, s4, s5, s6⟩ := hseq.get he
  obtain ⟨a1, ⟨y1, a2⟩, ⟨y2, a3⟩⟩ := hany i e he
  -- what may be done, though it is not ordered, or was to be done, and is not
  have hoth : ∀ k e', es[k]? = some e' → D k ≠ decide (k < i) → e' ∈ others es prec i := by
    intro k e' hk hne
    have hki : k ≠ i := by rintro rfl; simp [hDi] at hne
    refine mem_others hk hki ?_ ?_
    · cases h : prec k i with
      | false => rfl
      | true => have := hlt _ _ h; have := hpre _ h; simp_all
    · cases h : prec i k with
      | false => rfl
      | true =>
        have h1 := hlt _ _ h
        cases h2 : D k with
        | false => rw [h2] at hne; exact absurd (by simp; omega) hne
        | true => rw [hpost k h2] at h; cases h
  have hsl : ∀ s x, (cut (stD A es (fun k => decide (k < i))) (others es prec i)).sl s = some x → (stD A es D).sl s = some x := by
    intro s x h
    simp only [cut] at h
    split at h
    · cases h
    · rename_i hn
      rw [← h]
      refine stD_sl rfl fun k e' hk hne hd => hn ?_
      exact List.any_eq_true.2 ⟨e', hoth k e' hk hne, by simp [hd]⟩
  have hob : ∀ j x, (cut (stD A es (fun k => decide (k < i))) (others es prec i)).ob j = some x → (stD A es D).ob j = some x := by
    intro j x h
    simp only [cut] at h
    split at h
    · cases h
    · rename_i hn
      rw [← h]
      refine stD_ob rfl fun k e' hk hne y hy hd => hn ?_
      exact List.any_eq_true.2 ⟨e', hoth k e' hk hne, List.any_eq_true.2 ⟨y, hy, by simp [hd]⟩⟩
  have hsl' : ∀ s x, (cut (stD A es (fun k => decide (k < i))) (others es prec i)).sl s = some x → (stD A es (fun k => decide (k < i))).sl s = some x := fun s x h => by
    simp only [cut] at h; split at h
    · cases h
    · exact h
  have hob' : ∀ s x, (cut (stD A es (fun k => decide (k < i))) (others es prec i)).ob s = some x → (stD A es (fun k => decide (k < i))).ob s = some x := fun s x h => by
    simp only [cut] at h; split at h
    · cases h
    · exact h
  have hy1 : y1 = e.gs := by have := guardOf_mono hsl' a2; rw [s1] at this; exact (Option.some.inj this).symm
  have hy2 : y2 = e.out := by
    have := core_mono (ρ' := look (stD A es (fun k => decide (k < i))).sl e.gs) (fun ex x s => look_mono hsl') hob' a3
    rw [s2] at this; exact (Option.some.inj this).symm
  subst hy1 hy2
  have hguard := guardOf_mono hsl a2
  have hcore := core_mono (ρ' := look (stD A es D).sl e.gs) (fun ex x s => look_mono hsl) hob a3
  have hup : stD A es (setD D i) = e.up (stD A es D) := by
    refine stD_set he hDi fun k e' hik hk hD => ?_
    exact (a1 e' (hoth k e' hk (by rw [hD]; simp; omega))).1
  have hfresh : Fresh (stD A es D) (fun x => e.fid ≤ x ∧ x < e.nxt) := by
    refine Fresh.stD (hA.mono fun x hx => Nat.le_trans s4 hx.1) fun k e' hk hD x hx hq => ?_
    rcases Nat.lt_trichotomy k i with h | rfl | h
    · have := s6 k e' h hk
      have ok := (hseq.get hk).2.2.1
      simp only [En.ok, Bool.and_eq_true, List.all_eq_true, decide_eq_true_eq] at ok
      have := ok.1.1.1.1.1.2 x hx
      omega
    · rw [hDi] at hD; cases hD
    · exact (a1 e' (hoth k e' hk (by rw [hD]; simp; omega))).2 x hx hq
  simp only [En.ok, Bool.and_eq_true, List.all_eq_true, decide_eq_true_eq] at s3
  have hd : ∀ d, e.o.dst = some d → d < nt := by
    intro d hd
    have := s3.1.1.1.1.1.1
    rw [hd] at this
    simpa using this
  have hw := wanted_iff hR hguard
  unfold wpOp
  simp only [ho]
  by_cases hg : GH env e.gs
  · rw [if_pos (hw.2 hg)]
    refine .inl (op_sound hsg hR hg hd hfresh hpb (Nat.le_trans hnp s4) ((henv i e he).1 hg) ?_ hcore)
    intro M' w' v hR'
    refine hK M' _ _ ?_
    rw [hup]; exact hR'
  · rw [if_neg (fun h => hg (hw.1 h))]
    have hsk : skipOk e.fid e.nxt e.nv e.out.outs e.out.obs = true := by
      have := s3.2
      simp only [Bool.or_eq_true] at this
      rcases this with h | h
      · exfalso
        simp only [Option.isNone_iff_eq_none] at h
        simp only [guardOf, h, Option.some.injEq] at s1
        exact hg (by rw [← s1]; simp [GH])
      · exact h
    obtain ⟨M', hR'⟩ := hR.skip hd hg ((henv i e he).2 hg) e.out.sv hsk hfresh
    refine hK M' _ _ ?_
    rw [hup]; exact hR'

end

end Go.Mw

/- A region, run in the text's order or in any order that its edges allow. -/
namespace Go.Mw
open Go.RowKit

/-! ### the pure run -/

def In.run (env : List V) (i : In) : Option (List V) :=
  if gsOk env i.gs then
    match i.p.run (i.ls.map (Lf.ev env)) with
    | some vs => if vs.length == i.outs then some vs else none
    | none => none
  else some (List.replicate i.outs (.list [] []))

def runIns : List In → List V → Option (List V)
  | [], env => some env
  | i :: r, env =>
    match i.run env with
    | some vs => runIns r (env ++ vs)
    | none => none

def En.ins (e : En) : Option In := e.out.ins.map fun p => ⟨e.gs, p.1, p.2, e.out.outs⟩

def outSum (es : List En) : Nat := (es.map fun e => e.out.outs).sum

theorem ev_map_eq {env env' : List V} {ls : List Lf} (hl : ls.all (Lf.lt env.length) = true) (he : ∀ i, i < env.length → env'[i]? = env[i]?) : ls.map (Lf.ev env') = ls.map (Lf.ev env) := by
  refine List.map_congr_left fun l h => Lf.ev_ext (List.all_eq_true.1 hl l h) he

theorem envOk_of_run {P : Program} {sg : List (Nat × Sig)} {nt : Nat} {ops : Array Oper} : ∀ {es : List En} {A : FS} {fid nv : Nat} {env0 env : List V}, SeqOk P sg nt ops A fid nv es → env0.length = nv →
    runIns (es.filterMap En.ins) env0 = some env → EnvOk env es ∧ (∀ i, i < nv → env[i]? = env0[i]?) ∧ env.length = nv + outSum es
  | [], A, fid, nv, env0, env, _, hl, h => by
    simp only [List.filterMap_nil, runIns, Option.some.injEq] at h
    subst h
    exact ⟨fun i e h => by simp at h, fun _ _ => rfl, by simp [outSum, hl]⟩
  | e :: r, A, fid, nv, env0, env, hs, hl, h => by
    obtain ⟨h1, h2, h3, h4, h5, h6⟩ := hs
    simp only [En.ok, Bool.and_eq_true] at h5
    obtain ⟨⟨⟨⟨⟨⟨o1, o2⟩, o3⟩, o4⟩, o5⟩, o6⟩, o7⟩ := h5
    simp only [insOk] at o3
    cases hi : e.out.ins with
    | none =>
      have : e.ins = none := by simp [En.ins, hi]
      rw [List.filterMap_cons_none this] at h
      rw [hi] at o3
      simp only [beq_iff_eq] at o3
      rw [o3] at h6
      obtain ⟨g1, g2, g3⟩ := envOk_of_run h6 hl h
      refine ⟨fun i e' he => ?_, g2, by simp only [outSum, List.map_cons, List.sum_cons, o3] at g3 ⊢; omega⟩
      cases i with
      | zero =>
        simp only [List.getElem?_cons_zero, Option.some.injEq] at he
        subst he
        exact ⟨fun _ => by simp [Holds, hi], fun _ j hj => by omega⟩
      | succ i => exact g1 i e' (by simpa using he)
    | some pl =>
      obtain ⟨p, ls⟩ := pl
      have : e.ins = some ⟨e.gs, p, ls, e.out.outs⟩ := by simp [En.ins, hi]
      rw [List.filterMap_cons_some this] at h
      rw [hi] at o3
      simp only [runIns] at h
      split at h
      · rename_i vs hv
        have hvl : vs.length = e.out.outs := by
          simp only [In.run] at hv
          split at hv
          · split at hv
            · split at hv
              · rename_i hq; simp only [Option.some.injEq] at hv; subst hv; simpa using hq
              · cases hv
            · cases hv
          · simp only [Option.some.injEq] at hv; subst hv; simp
        have hl' : (env0 ++ vs).length = nv + e.out.outs := by simp [hl, hvl]
        obtain ⟨g1, g2, g3⟩ := envOk_of_run h6 hl' h
        have hold : ∀ i, i < env0.length → env[i]? = env0[i]? := fun i hi => by
          rw [g2 i (by omega), List.getElem?_append_left hi]
        have hnew : ∀ j, j < e.out.outs → env[e.nv + j]? = vs[j]? := fun j hj => by
          rw [g2 _ (by omega), List.getElem?_append_right (by omega)]
          congr 1; omega
        refine ⟨fun i e' he => ?_, fun i hi => hold i (by omega), by simp only [outSum, List.map_cons, List.sum_cons] at g3 ⊢; omega⟩
        cases i with
        | zero =>
          simp only [List.getElem?_cons_zero, Option.some.injEq] at he
          subst he
          have hg : GH env e.gs ↔ GH env0 e.gs := GH.ext_iff hold (by rw [hl, ← h2]; exact o4)
          rw [hg]
          have hls : ls.map (Lf.ev env) = ls.map (Lf.ev env0) := ev_map_eq (by rw [hl, ← h2]; exact o3) hold
          refine ⟨fun hgh => ?_, fun hgh => ?_⟩
          · simp only [In.run, gsOk_iff.2 hgh, if_true] at hv
            split at hv
            · rename_i vs' hrun
              split at hv
              · simp only [Option.some.injEq] at hv
                subst hv
                simp only [Holds, hi, hls]
                exact ⟨_, hrun, hvl, hnew⟩
              · cases hv
            · cases hv
          · have hgs : ¬ gsOk env0 e.gs = true := fun h => hgh (gsOk_iff.1 h)
            simp only [In.run, hgs, if_false, Option.some.injEq, Bool.false_eq_true] at hv
            intro j hj
            rw [hnew j hj, ← hv]
            simp [hj]
        | succ i => exact g1 i e' (by simpa using he)
      · cases h

/-! ### what the entries keep -/

theorem Scoped.up {A : FS} {n : Nat} (h : Scoped A n) {e : En} {nt : Nat} (he : e.ok nt = true) (hn : e.nv = n) : Scoped (e.up A) (n + e.out.outs) := by
  subst hn
  simp only [En.ok, Bool.and_eq_true] at he
  obtain ⟨⟨⟨⟨⟨⟨o1, o2⟩, o3⟩, o4⟩, o5⟩, o6⟩, o7⟩ := he
  have lm : ∀ {l : Lf} {m k : Nat}, l.lt m = true → m ≤ k → l.lt k = true := by
    intro l m k h hk
    cases l with
    | v i => simp only [Lf.lt, decide_eq_true_eq] at h ⊢; omega
    | k c => rfl
  have am : ∀ {a : At} {m k : Nat}, a.lt m = true → m ≤ k → a.lt k = true := by
    intro a m k h hk
    cases a with
    | sc l => exact lm h hk
    | ro l => exact lm h hk
    | nil => rfl
    | own r => rfl
    | inn r ver l p =>
      simp only [At.lt, Bool.and_eq_true] at h ⊢
      refine ⟨lm h.1 hk, ?_⟩
      cases p with
      | none => rfl
      | some q =>
        cases q with
        | pre ll hi =>
          simp only [pthLt, Bool.and_eq_true] at h ⊢
          exact ⟨lm h.2.1 hk, lm h.2.2 hk⟩
        | elm q =>
          simp only [pthLt, Bool.and_eq_true, decide_eq_true_eq] at h ⊢
          exact ⟨⟨lm h.2.1.1 hk, lm h.2.1.2 hk⟩, by omega⟩
  have asm : ∀ {as : List At} {m k : Nat}, atsLt m as = true → m ≤ k → atsLt k as = true := by
    intro as
    induction as with
    | nil => intros; rfl
    | cons a as ih => intro m k h hk; simp only [atsLt, Bool.and_eq_true] at h ⊢; exact ⟨am h.1 hk, ih h.2 hk⟩
  have gm : ∀ {gs : Gs} {m k : Nat}, gsLt m gs = true → m ≤ k → gsLt k gs = true := by
    intro gs
    induction gs with
    | nil => intros; rfl
    | cons a as ih => intro m k h hk; simp only [gsLt, Bool.and_eq_true] at h ⊢; exact ⟨lm h.1 hk, ih h.2 hk⟩
  have sm : ∀ {s : SV} {m k : Nat}, s.lt m = true → m ≤ k → s.lt k = true := by
    intro s m k h hk
    cases s with
    | sc c => exact asm h hk
    | ptr => rfl
    | elem b _ ll ix el _ ks =>
      simp only [SV.lt, Bool.and_eq_true, decide_eq_true_eq] at h ⊢
      exact ⟨⟨⟨am h.1.1.1 hk, lm h.1.1.2 hk⟩, lm h.1.2 hk⟩, by omega⟩
    | tup cs =>
      simp only [SV.lt, List.all_eq_true] at h ⊢
      exact fun c hc => asm (h c hc) hk
  have om : ∀ {x : SO} {m k : Nat}, x.lt m = true → m ≤ k → x.lt k = true := by
    intro x m k h hk
    cases x with
    | box cells => exact asm h hk
    | row _ l _ => exact lm h hk
  refine ⟨fun s gs sv hs => ?_, fun i x hx => ?_⟩
  · have old : A.sl s = some (gs, sv) → gsLt (e.nv + e.out.outs) gs = true ∧ sv.lt (e.nv + e.out.outs) = true := fun h1 =>
      ⟨gm (h.sl s gs sv h1).1 (by omega), sm (h.sl s gs sv h1).2 (by omega)⟩
    simp only [En.up] at hs
    cases hd : e.o.dst with
    | none => rw [hd] at hs; exact old hs
    | some d =>
      rw [hd] at hs
      simp only [upSl] at hs
      split at hs
      · simp only [Option.map_eq_some_iff, Prod.mk.injEq] at hs
        obtain ⟨s', h1, h2, h3⟩ := hs
        subst h2 h3
        rw [h1] at o5
        exact ⟨gm o4 (by omega), o5⟩
      · exact old hs
  · simp only [En.up] at hx
    rcases @upOb_get A.ob e.out.obs i with h1 | ⟨y, h1, h2⟩
    · rw [h1] at hx; exact om (h.ob i x hx) (by omega)
    · rw [h2] at hx; subst hx
      have : ∀ {l : List (Nat × Option SO)}, obsLt (e.nv + e.out.outs) l = true → ∀ i x, (i, some x) ∈ l → x.lt (e.nv + e.out.outs) = true := by
        intro l
        induction l with
        | nil => intro _ i x h; cases h
        | cons y l ih =>
          obtain ⟨j, z⟩ := y
          intro h i x hm
          cases z with
          | none =>
            simp only [obsLt] at h
            rcases List.mem_cons.1 hm with hm | hm
            · cases hm
            · exact ih h i x hm
          | some z =>
            simp only [obsLt, Bool.and_eq_true] at h
            rcases List.mem_cons.1 hm with hm | hm
            · cases hm; exact h.1
            · exact ih h.2 i x hm
      exact this o6 i x h1

def endFid : Nat → List En → Nat
  | fid, [] => fid
  | _, e :: r => endFid e.nxt r

theorem SeqOk.end {P : Program} {sg : List (Nat × Sig)} {nt : Nat} {ops : Array Oper} : ∀ {es : List En} {A : FS} {fid nv : Nat}, SeqOk P sg nt ops A fid nv es → Scoped A nv → Fresh A (fun x => fid ≤ x) →
    Scoped (es.foldl En.up A) (nv + outSum es) ∧ Fresh (es.foldl En.up A) (fun x => endFid fid es ≤ x)
  | [], A, fid, nv, _, h1, h2 => ⟨by simpa [outSum] using h1, h2⟩
  | e :: r, A, fid, nv, hs, h1, h2 => by
    obtain ⟨g1, g2, g3, g4, g5, g6⟩ := hs
    have f : Fresh (e.up A) (fun x => e.nxt ≤ x) := by
      refine (h2.mono fun x hx => by simp only [En.nxt] at hx; omega).up fun x hx hq => ?_
      simp only [En.ok, Bool.and_eq_true, List.all_eq_true, decide_eq_true_eq] at g5
      have := g5.1.1.1.1.1.2 x hx
      omega
    have := SeqOk.end g6 (h1.up g5 g2) f
    simp only [List.foldl_cons, outSum, List.map_cons, List.sum_cons, endFid] at this ⊢
    rw [← Nat.add_assoc]
    exact this

/-! ### the two schedules -/

section
variable {P : Program} {ops : Array Oper} {Q : Exit → Act → World → Prop}

theorem wpOps_range {I : Nat → Act → World → Prop} (hstep : ∀ i a w, i < ops.size → I i a w → ∀ K : Act → World → Prop, (∀ a' w', I (i + 1) a' w' → K a' w') → wpOp P ops Q i K a w)
    (hend : ∀ a w, I ops.size a w → Q .normal a w) : ∀ (m i : Nat) (a : Act) (w : World), i + m = ops.size → I i a w → wpOps P ops Q (List.range' i m) a w
  | 0, i, a, w, h, hI => by
    simp only [Nat.add_zero] at h
    subst h
    simpa [wpOps] using hend a w hI
  | m + 1, i, a, w, h, hI => by
    rw [List.range'_succ, wpOps_cons]
    exact hstep i a w (by omega) hI _ fun a' w' h' => wpOps_range hstep hend m (i + 1) a' w' (by omega) h'

theorem count_set {l : Array Bool} {i : Nat} (h : l.getD i true = false) : (l.setIfInBounds i true).toList.count false + 1 = l.toList.count false := by
  have hi : i < l.size := by
    rcases Nat.lt_or_ge i l.size with h' | h'
    · exact h'
    · simp [Array.getElem?_eq_none h'] at h
  have h2 : l.toList[i]'(by simpa using hi) = false := by simpa [hi] using h
  have := List.count_set (a := true) (b := false) (l := l.toList) (i := i) (by simpa using hi)
  simp only [h2] at this
  rw [Array.toList_setIfInBounds, this]
  have : 0 < List.count false l.toList := List.count_pos_iff.2 (by rw [← h2]; exact List.getElem_mem _)
  rw [show (true == false) = false from rfl, show (false == false) = true from rfl]
  simp only [if_true, Bool.false_eq_true, if_false]
  omega

theorem wpAny_inv {I : (Nat → Bool) → Act → World → Prop} (hcongr : ∀ D D' a w, (∀ k, k < ops.size → D k = D' k) → I D a w → I D' a w)
    (hedge : ∀ (i : Nat) (o : Oper), ops[i]? = some o → ∀ e ∈ o.after, Region.binds .any e = true → e.on < i)
    (hstep : ∀ D i o a w, ops[i]? = some o → D i = false → (∀ e ∈ o.after, Region.binds .any e = true → D e.on = true) → I D a w → ∀ K : Act → World → Prop, (∀ a' w', I (setD D i) a' w' → K a' w') → wpOp P ops Q i K a w)
    (hend : ∀ D a w, (∀ k, k < ops.size → D k = true) → I D a w → Q .normal a w) :
    ∀ (fuel : Nat) (listed : Array Bool) (a : Act) (w : World), listed.size = ops.size → listed.toList.count false ≤ fuel → I (fun k => listed.getD k false) a w → wpAny P .any ops Q fuel listed a w := by
  have hall : ∀ (listed : Array Bool), listed.size = ops.size → Region.ready .any ops listed = [] → ∀ k, k < ops.size → listed.getD k false = true := by
    intro listed hsz hr k
    induction k using Nat.strongRecOn with
    | _ k ih =>
      intro hk
      cases hl : listed.getD k false with
      | true => rfl
      | false =>
        exfalso
        have : k ∈ Region.ready .any ops listed := by
          refine mem_ready.2 ⟨by simpa [hsz, hk] using hl, ops[k], by simp [hk], fun e he hb => ?_⟩
          have hlt := hedge k ops[k] (by simp [hk]) e he hb
          exact ih _ hlt (by omega)
        rw [hr] at this; cases this
  intro fuel
  induction fuel with
  | zero =>
    intro listed a w hsz hc hI
    have hnil : Region.ready .any ops listed = [] := by
      cases h : Region.ready .any ops listed with
      | nil => rfl
      | cons i r =>
        have := (mem_ready.1 (by rw [h]; simp : i ∈ Region.ready .any ops listed)).1
        have := count_set this
        omega
    exact ⟨hnil, hend _ a w (hall listed hsz hnil) hI⟩
  | succ fuel ih =>
    intro listed a w hsz hc hI
    refine ⟨fun hnil => hend _ a w (hall listed hsz hnil) hI, fun i hi => ?_⟩
    obtain ⟨h0, o, ho, hall'⟩ := mem_ready.1 hi
    have hisz : i < listed.size := by rw [hsz]; exact (Array.getElem?_eq_some_iff.1 ho).1
    have h0' : listed.getD i false = false := by simpa [hisz] using h0
    refine hstep _ i o a w ho h0' hall' hI _ fun a' w' h' => ih _ a' w' (by simp [hsz]) (by have := count_set h0; omega) (hcongr _ _ a' w' (fun k hk => ?_) h')
    simp only [setD]
    by_cases hki : k = i
    · subst hki; simp [hisz]
    · rw [if_neg hki, getD_set_ne false (Ne.symm hki)]

end

end Go.Mw

/- A region is sound. -/
namespace Go.Mw
open Go.RowKit

def maskOne (ms : List Nat) : List Edge → Nat
  | [] => 0
  | e :: r => if Region.binds .any e then (2 ^ e.on ||| ms.getD e.on 0) ||| maskOne ms r else maskOne ms r

def masksGo : List Oper → List Nat → List Nat
  | [], acc => acc
  | o :: r, acc => masksGo r (acc ++ [maskOne acc o.after.toList])

def precM (ms : List Nat) (k i : Nat) : Bool := (ms.getD i 0).testBit k

def masksOk (ms : List Nat) : List Oper → Nat → Bool
  | [], i => ms.length ≤ i
  | o :: r, i => o.after.toList.all (fun e => !Region.binds .any e || e.on < i) && maskOne ms o.after.toList == ms.getD i 0 && masksOk ms r (i + 1)

theorem maskOne_bit {ms : List Nat} {k : Nat} : ∀ {l : List Edge}, (maskOne ms l).testBit k = true → ∃ e ∈ l, Region.binds .any e = true ∧ (k = e.on ∨ precM ms k e.on = true)
  | [], h => by simp [maskOne] at h
  | e :: r, h => by
    simp only [maskOne] at h
    split at h
    · rename_i hb
      simp only [Nat.testBit_or, Bool.or_eq_true, Nat.testBit_two_pow, decide_eq_true_eq] at h
      rcases h with (h | h) | h
      · exact ⟨e, by simp, hb, .inl h.symm⟩
      · exact ⟨e, by simp, hb, .inr h⟩
      · obtain ⟨e', h1, h2⟩ := maskOne_bit h
        exact ⟨e', by simp [h1], h2⟩
    · obtain ⟨e', h1, h2⟩ := maskOne_bit h
      exact ⟨e', by simp [h1], h2⟩

theorem masksOk_get {ms : List Nat} : ∀ {l : List Oper} {b i : Nat} {o : Oper}, masksOk ms l b = true → l[i]? = some o →
    (∀ e ∈ o.after, Region.binds .any e = true → e.on < b + i) ∧ maskOne ms o.after.toList = ms.getD (b + i) 0
  | [], _, _, _, _, h => by simp at h
  | o' :: r, b, 0, o, h, ho => by
    simp only [List.getElem?_cons_zero, Option.some.injEq] at ho
    subst ho
    simp only [masksOk, Bool.and_eq_true, List.all_eq_true, Bool.or_eq_true, Bool.not_eq_true', decide_eq_true_eq, beq_iff_eq] at h
    exact ⟨fun e he hb => (h.1.1 e (by simpa using he)).resolve_left (by simp [hb]), h.1.2⟩
  | o' :: r, b, i + 1, o, h, ho => by
    simp only [masksOk, Bool.and_eq_true] at h
    have := masksOk_get h.2 (by simpa using ho : r[i]? = some o)
    rw [show b + 1 + i = b + (i + 1) by omega] at this
    exact this

theorem masksOk_len {ms : List Nat} : ∀ {l : List Oper} {b : Nat}, masksOk ms l b = true → ms.length ≤ b + l.length
  | [], b, h => by simpa [masksOk] using h
  | o :: r, b, h => by
    simp only [masksOk, Bool.and_eq_true] at h
    have := masksOk_len h.2
    simp only [List.length_cons]; omega

def rgGo (P : Program) (sg : List (Nat × Sig)) (nt : Nat) (ops : Array Oper) : List Oper → FS → Nat → Nat → Option (List En)
  | [], _, _, _ => some []
  | o :: r, A, fid, nv =>
    match guardOf ops A o with
    | none => none
    | some gs =>
      match core P sg (look A.sl gs) A.ob fid nv o with
      | none => none
      | some out =>
        if (En.mk o gs out fid nv).ok nt then
          match rgGo P sg nt ops r ((En.mk o gs out fid nv).up A) (En.mk o gs out fid nv).nxt (nv + out.outs) with
          | some es => some (⟨o, gs, out, fid, nv⟩ :: es)
          | none => none
        else none

theorem rgGo_ok {P : Program} {sg : List (Nat × Sig)} {nt : Nat} {ops : Array Oper} : ∀ {l : List Oper} {A : FS} {fid nv : Nat} {es : List En}, rgGo P sg nt ops l A fid nv = some es →
    SeqOk P sg nt ops A fid nv es ∧ l = es.map (·.o)
  | [], A, fid, nv, es, h => by simp only [rgGo, Option.some.injEq] at h; subst h; exact ⟨trivial, rfl⟩
  | o :: r, A, fid, nv, es, h => by
    simp only [rgGo] at h
    split at h
    · cases h
    · rename_i gs hg
      split at h
      · cases h
      · rename_i out hc
        split at h
        · rename_i hok
          split at h
          · rename_i es' hr
            simp only [Option.some.injEq] at h
            subst h
            obtain ⟨h1, h2⟩ := rgGo_ok hr
            exact ⟨⟨rfl, rfl, hg, hc, hok, h1⟩, by simp [h2]⟩
          · cases h
        · cases h

def anyOne (P : Program) (sg : List (Nat × Sig)) (ops : Array Oper) (A : FS) (os : List En) (e : En) : Bool :=
  os.all (fun e' => e.apart e' && e'.out.ids.all fun x => x < e.fid || e.nxt ≤ x) && (guardOf ops (cut A os) e.o).isSome && (core P sg (look (cut A os).sl e.gs) (cut A os).ob e.fid e.nv e.o).isSome

def anyGo (P : Program) (sg : List (Nat × Sig)) (ops : Array Oper) (all : List En) (prec : Nat → Nat → Bool) : List En → Nat → FS → Bool
  | [], _, _ => true
  | e :: r, i, A => anyOne P sg ops A (others all prec i) e && anyGo P sg ops all prec r (i + 1) (e.up A)

theorem anyGo_get {P : Program} {sg : List (Nat × Sig)} {ops : Array Oper} {all : List En} {prec : Nat → Nat → Bool} : ∀ {r : List En} {b : Nat} {A : FS} {j : Nat} {e : En}, anyGo P sg ops all prec r b A = true → r[j]? = some e →
    anyOne P sg ops (stD A r (fun k => decide (k < j))) (others all prec (b + j)) e = true
  | [], _, _, _, _, _, h => by simp at h
  | e0 :: r, b, A, 0, e, h, he => by
    simp only [List.getElem?_cons_zero, Option.some.injEq] at he
    subst he
    simp only [anyGo, Bool.and_eq_true] at h
    rw [stD_none (by simp)]
    exact h.1
  | e0 :: r, b, A, j + 1, e, h, he => by
    simp only [anyGo, Bool.and_eq_true] at h
    have := anyGo_get h.2 (by simpa using he : r[j]? = some e)
    have e1 : stD A (e0 :: r) (fun k => decide (k < j + 1)) = stD (e0.up A) r (fun k => decide (k < j)) := by
      simp only [stD, Nat.zero_lt_succ, decide_true, if_true]
      exact stD_congr fun k _ => by simp
    rw [e1, show b + (j + 1) = b + 1 + j by omega]
    exact this

def rgn (P : Program) (sg : List (Nat × Sig)) (nt : Nat) (ops : Array Oper) (draw : Bool) (A : FS) (fid nv : Nat) : Option (List En) :=
  match rgGo P sg nt ops ops.toList A fid nv with
  | some es => if !draw || (masksOk (masksGo ops.toList []) ops.toList 0 && anyGo P sg ops es (precM (masksGo ops.toList [])) es 0 A) then some es else none
  | none => none

theorem stD_all {es : List En} {A : FS} {D : Nat → Bool} (h : ∀ k, k < es.length → D k = true) : stD A es D = es.foldl En.up A := by
  rw [stD_congr (D' := fun k => decide (k < es.length)) (fun k hk => by simp [h k hk, hk]), stD_take, List.take_length]

theorem region_sound {P : Program} {sg : List (Nat × Sig)} {nt id : Nat} {ops : Array Oper} {draw : Bool} {Q : Exit → Act → World → Prop} (hm : P.follows .mixedOrders = true) (hsg : ∀ f s, sg.lookup f = some s → Contract P f s)
    {A : FS} {fid nv : Nat} {es : List En} (hrg : rgn P sg nt ops draw A fid nv = some es) (hA : Scoped A nv) (hF : Fresh A (fun x => fid ≤ x)) {env0 env : List V} (hl : env0.length = nv)
    (hrun : runIns (es.filterMap En.ins) env0 = some env) {c : Cx} (hpb : ∀ x, npK ≤ x → c.parB x = none ∧ c.par x = none) (hnp : npK ≤ fid) {M : Mp} {a : Act} {w : World} (hR : Rel c nt M env0 A a w)
    (hK : ∀ M' a' w', Rel c nt M' env (es.foldl En.up A) a' w' → Q .normal a' w') : (Code.region id ops draw).wp P Q a w := by
  unfold rgn at hrg
  split at hrg
  · rename_i es' hgo
    split at hrg
    · rename_i hcond
      simp only [Option.some.injEq] at hrg
      subst hrg
      obtain ⟨hseq, hops⟩ := rgGo_ok hgo
      have hlen : es'.length = ops.size := by rw [← Array.length_toList, hops, List.length_map]
      obtain ⟨henv, hold, hlen'⟩ := envOk_of_run hseq hl hrun
      have hR0 : Rel c nt M env A a w := hR.grow (by rw [hl]; exact hA) (by rw [hl]; exact hold)
      cases draw with
      | false =>
        refine wp_region ?_
        rw [List.range_eq_range']
        have hothers : ∀ i, others es' (fun k i => decide (k < i)) i = [] := by
          intro i
          simp only [others, List.filterMap_eq_nil_iff, List.mem_range]
          intro k hk
          rw [if_neg]
          simp only [Bool.and_eq_true, bne_iff_ne, ne_eq, Bool.not_eq_true', decide_eq_false_iff_not]
          omega
        have hany : AnyOk P sg ops A es' (fun k i => decide (k < i)) := by
          intro i e he
          obtain ⟨s1, s2, _⟩ := hseq.get he
          rw [hothers i]
          refine ⟨by simp, ⟨e.gs, ?_⟩, ⟨e.out, ?_⟩⟩
          · exact guardOf_mono (fun s x h => by simpa [cut] using h) s1
          · exact core_mono (fun ex x s => look_mono (fun s x h => by simpa [cut] using h)) (fun i x h => by simpa [cut] using h) s2
        refine wpOps_range (I := fun i a w => ∃ M, Rel c nt M env (stD A es' (fun k => decide (k < i))) a w) ?_ ?_ ops.size 0 a w (by omega) ⟨M, by rw [stD_none (by simp)]; exact hR0⟩
        · rintro i a w hi ⟨M, hR⟩ K hK
          refine region_step hsg hops hseq hany (fun k i h => by simpa using h) hF hpb hnp henv hR hi (by simp) (fun k h => h) (fun k h => ?_) fun M' a' w' hR' => hK a' w' ⟨M', ?_⟩
          · simp only [decide_eq_true_eq, decide_eq_false_iff_not] at h ⊢; omega
          · rw [stD_congr (D' := setD (fun k => decide (k < i)) i) (fun k _ => by
              simp only [setD]
              by_cases h : k = i
              · subst h; simp
              · rw [if_neg h]; congr 1; simp; omega)]
            exact hR'
        · rintro a w ⟨M, hR⟩
          refine hK M a w ?_
          rw [← stD_all (D := fun k => decide (k < ops.size)) (fun k hk => by simp; omega)]
          exact hR
      | true =>
        simp only [Bool.not_true, Bool.false_or, Bool.and_eq_true] at hcond
        obtain ⟨hmk, hgo'⟩ := hcond
        generalize masksGo ops.toList [] = ms at hmk hgo'
        have hR1 := hR0.heap (w' := { w with drawn := w.drawn + 1 }) rfl rfl rfl rfl
        have hget : ∀ (i : Nat) (o : Oper), ops[i]? = some o → (∀ e ∈ o.after, Region.binds .any e = true → e.on < i) ∧ maskOne ms o.after.toList = ms.getD i 0 := by
          intro i o ho
          have := masksOk_get hmk (by rw [Array.getElem?_toList]; exact ho : ops.toList[i]? = some o)
          simpa using this
        have hmlen : ms.length ≤ ops.size := by have := masksOk_len hmk; simpa using this
        have hbit : ∀ k i, precM ms k i = true → ∃ o, ops[i]? = some o ∧ ∃ e ∈ o.after, Region.binds .any e = true ∧ e.on < i ∧ (k = e.on ∨ precM ms k e.on = true) := by
          intro k i h
          rcases Nat.lt_or_ge i ops.size with hi | hi
          · have hq := hget i ops[i] (by simp [hi])
            simp only [precM, ← hq.2] at h
            obtain ⟨e, h1, h2, h3⟩ := maskOne_bit h
            exact ⟨ops[i], by simp [hi], e, by simpa using h1, h2, hq.1 e (by simpa using h1) h2, h3⟩
          · simp only [precM, List.getD_eq_getElem?_getD, List.getElem?_eq_none (Nat.le_trans hmlen hi)] at h
            simp at h
        have hlt : ∀ k i, precM ms k i = true → k < i := by
          intro k i
          induction i using Nat.strongRecOn with
          | _ i ih =>
            intro h
            obtain ⟨o, _, e, _, _, h3, h4⟩ := hbit k i h
            rcases h4 with rfl | h4
            · exact h3
            · exact Nat.lt_trans (ih _ h3 h4) h3
        have hany : AnyOk P sg ops A es' (precM ms) := by
          intro i e he
          have := anyGo_get hgo' he
          simp only [anyOne, Bool.and_eq_true, List.all_eq_true, Nat.zero_add, Option.isSome_iff_exists, Bool.or_eq_true, decide_eq_true_eq] at this
          obtain ⟨⟨h1, h2⟩, h3⟩ := this
          exact ⟨fun e' he' => ⟨(h1 e' he').1, fun x hx hq => by have := (h1 e' he').2 x hx; omega⟩, h2, h3⟩
        refine wp_region_any hm ?_
        refine wpAny_inv (I := fun D a w => (∃ M, Rel c nt M env (stD A es' D) a w) ∧ ∀ k i, i < ops.size → precM ms k i = true → D i = true → D k = true) ?_ (fun i o ho => (hget i o ho).1) ?_ ?_ _ _ _ _ (by simp) (by simp []) ?_
        · rintro D D' a w hDD ⟨⟨M, hR⟩, hcl⟩
          refine ⟨⟨M, by rw [← stD_congr (fun k hk => hDD k (by omega))]; exact hR⟩, fun k i hi hp hD => ?_⟩
          rw [← hDD k (Nat.lt_trans (hlt _ _ hp) hi)]
          exact hcl k i hi hp (by rw [hDD i hi]; exact hD)
        · rintro D i o a w ho hDi hready ⟨⟨M, hR⟩, hcl⟩ K hK
          have hi : i < ops.size := (Array.getElem?_eq_some_iff.1 ho).1
          have hpre : ∀ k, precM ms k i = true → D k = true := by
            intro k h
            obtain ⟨o', ho', e, he, hb, h3, h4⟩ := hbit k i h
            rw [ho] at ho'; cases ho'
            have hon := hready e he hb
            rcases h4 with rfl | h4
            · exact hon
            · exact hcl k e.on (by omega) h4 hon
          refine region_step hsg hops hseq hany hlt hF hpb hnp henv hR hi hDi hpre (fun k hk => ?_) fun M' a' w' hR' => hK a' w' ⟨⟨M', hR'⟩, fun k j hj hp hD => ?_⟩
          · cases h : precM ms i k with
            | false => rfl
            | true =>
              have hks : k < ops.size := by
                obtain ⟨o', ho', _⟩ := hbit i k h
                exact (Array.getElem?_eq_some_iff.1 ho').1
              rw [hcl i k hks h hk] at hDi; cases hDi
          · simp only [setD] at hD ⊢
            split
            · rfl
            · split at hD
              · rename_i hji; subst hji; exact hpre k hp
              · exact hcl k j hj hp hD
        · rintro D a w hall ⟨⟨M, hR⟩, _⟩
          refine hK M a w ?_
          rw [← stD_all (D := D) (fun k hk => hall k (by omega))]
          exact hR
        · refine ⟨⟨M, ?_⟩, fun k i hi _ h => ?_⟩
          · rw [stD_none (fun k hk => by simp [show k < ops.size by omega])]
            exact hR1
          · simp [hi] at h
    · cases hrg
  · cases hrg

end Go.Mw

/- Normal forms of a state (at loop heads, joins, block ends), and how a state is brought into one. -/
namespace Go.Mw
open Go.RowKit

inductive AtS where
  | sc
  | nil
  | ro (ks : List AK)
  | own (r : Nat)
  | inn (r : Nat) (ks : List AK)
  deriving Inhabited

inductive SVS where
  | sc (g : Bool) (cs : List AtS)
  | ptr (id off : Nat)
  | elem (b : AtS) (off : Nat) (ks : List AK)
  | tup (cs : List (Bool × List AtS))
  deriving Inhabited

/-- A normal form: slots, rows (owned fully?, kinds), boxes. Its leaves are numbered in the order of the text. -/
structure NF where
  sl : List (Nat × SVS)
  rows : List (Nat × Bool × List AK)
  boxes : List (Nat × List AtS)
  fid : Nat
  deriving Inhabited

def AtS.width : AtS → Nat
  | .sc => 1
  | .ro _ => 1
  | .inn _ _ => 1
  | _ => 0

def AtS.at (j : Nat) : AtS → At
  | .sc => .sc (.v j)
  | .nil => .nil
  | .ro _ => .ro (.v j)
  | .own r => .own r
  | .inn r _ => .inn r 0 (.v j) none

def atsW : List AtS → Nat
  | [] => 0
  | a :: as => a.width + atsW as

def atsAt : Nat → List AtS → List At
  | _, [] => []
  | j, a :: as => a.at j :: atsAt (j + a.width) as

def scsAt : Nat → List (Bool × List AtS) → List SC
  | _, [] => []
  | j, c :: cs => ⟨c.1, atsAt j c.2⟩ :: scsAt (j + atsW c.2) cs

def scsW : List (Bool × List AtS) → Nat
  | [] => 0
  | c :: cs => atsW c.2 + scsW cs

def SVS.width : SVS → Nat
  | .sc _ cs => atsW cs
  | .ptr _ _ => 0
  | .elem _ _ ks => 2 + ks.length
  | .tup cs => scsW cs

/-- The base of an element's address: of an inner list only its row is kept. -/
def AtS.base (j : Nat) : AtS → At
  | .ro _ => .ro (.v j)
  | .own r => .own r
  | .inn r _ => .inn r 0 (.v j) none
  | a => a.at j

def SVS.at (j : Nat) : SVS → SV
  | .sc g cs => .sc ⟨g, atsAt j cs⟩
  | .ptr id off => .ptr id off
  | .elem b off ks => .elem (b.base j) 0 (.v j) (.v (j + 1)) (j + 2) off ks
  | .tup cs => .tup (scsAt j cs)

def slAt : Nat → List (Nat × SVS) → Nat → Option SV
  | _, [], _ => none
  | j, (s, x) :: r, t => if t = s then some (x.at j) else slAt (j + x.width) r t

def slW : List (Nat × SVS) → Nat
  | [] => 0
  | x :: r => x.2.width + slW r

def rowsAt : Nat → List (Nat × Bool × List AK) → Nat → Option SO
  | _, [], _ => none
  | j, (i, app, _) :: r, t => if t = i then some (.row 0 (.v j) app) else rowsAt (j + 1) r t

def boxesAt : Nat → List (Nat × List AtS) → Nat → Option SO
  | _, [], _ => none
  | j, (i, cs) :: r, t => if t = i then some (.box (atsAt j cs)) else boxesAt (j + atsW cs) r t

def boxesW : List (Nat × List AtS) → Nat
  | [] => 0
  | x :: r => atsW x.2 + boxesW r

def NF.fs (nf : NF) : FS :=
  ⟨fun s => (slAt 0 nf.sl s).map fun x => ([], x),
   fun i => match rowsAt (slW nf.sl) nf.rows i with
     | some x => some x
     | none => boxesAt (slW nf.sl + nf.rows.length) nf.boxes i⟩

def NF.width (nf : NF) : Nat := slW nf.sl + nf.rows.length + boxesW nf.boxes

/-! ### a state is brought into a normal form -/

/-- Where a row of the form comes from: a row of the state, or nil. -/
inductive Src where
  | own (r : Nat)
  | nil
  deriving Inhabited

section
variable (ob : Nat → Option SO) (μ : Nat → Option Src) (β : Nat → Nat)

def srcIs (r r' : Nat) : Bool :=
  match μ r with
  | some (.own q) => q == r'
  | _ => false

def curVer (r ver : Nat) : Bool :=
  match ob r with
  | some (.row ver' _ _) => ver == ver'
  | _ => false

def atFit : AtS → At → Option (List Lf)
  | .sc, .sc l => some [l]
  | .nil, .nil => some []
  | .ro _, .ro l => some [l]
  | .ro ks, .nil => some [.k (.list ks [])]
  | .own r, .own r' => if srcIs μ r r' then some [] else none
  | .own r, .nil =>
    match μ r with
    | some .nil => some []
    | _ => none
  | .inn r _, .inn r' ver l _ => if srcIs μ r r' && curVer ob r' ver then some [l] else none
  | .inn _ ks, .nil => some [.k (.list ks [])]
  | _, _ => none

def atsFit : List AtS → List At → Option (List Lf)
  | [], [] => some []
  | s :: ss, a :: as =>
    match atFit ob μ s a, atsFit ss as with
    | some l, some ls => some (l ++ ls)
    | _, _ => none
  | _, _ => none

def scsFit : List (Bool × List AtS) → List SC → Option (List Lf)
  | [], [] => some []
  | s :: ss, c :: cs =>
    if s.1 == c.g then
      match atsFit ob μ s.2 c.cs, scsFit ss cs with
      | some l, some ls => some (l ++ ls)
      | _, _ => none
    else none
  | _, _ => none

def baseFit : AtS → At → Nat → Bool
  | .ro _, .ro _, _ => true
  | .own r, .own r', ver => srcIs μ r r' && curVer ob r' ver
  | .inn r _, .inn r' _ _ _, ver => srcIs μ r r' && curVer ob r' ver
  | _, _, _ => false

def svFit : SVS → SV → Option (List Lf)
  | .sc g cs, .sc c => if g == c.g then atsFit ob μ cs c.cs else none
  | .ptr id off, .ptr id' off' => if β id == id' && off == off' then some [] else none
  | .elem b off ks, .elem b' ver ll ix el off' ks' =>
    if baseFit ob μ b b' ver && off == off' && AK.eqs ks ks' then some (ll :: ix :: (List.range ks.length).map fun j => .v (el + j)) else none
  | .tup ss, .tup cs => scsFit ob μ ss cs
  | _, _ => none

end

def slFit (A : FS) (μ : Nat → Option Src) (β : Nat → Nat) : List (Nat × SVS) → Option (List Lf)
  | [] => some []
  | (s, x) :: r =>
    match A.sl s with
    | some ([], sv) =>
      match svFit A.ob μ β x sv, slFit A μ β r with
      | some l, some ls => some (l ++ ls)
      | _, _ => none
    | _ => none

def rowsFit (A : FS) (μ : Nat → Option Src) : List (Nat × Bool × List AK) → Option (List Lf)
  | [] => some []
  | (i, app, ks) :: r =>
    match μ i with
    | some .nil => if app then (rowsFit A μ r).map fun ls => .k (.list ks []) :: ls else none
    | some (.own q) =>
      match A.ob q with
      | some (.row _ l app') => if app == app' && (app || i == q) then (rowsFit A μ r).map fun ls => l :: ls else none
      | _ => none
    | none => none

def boxesFit (A : FS) (μ : Nat → Option Src) (β : Nat → Nat) (np : Nat) : List (Nat × List AtS) → Option (List Lf)
  | [] => some []
  | (i, cs) :: r =>
    match A.ob (β i) with
    | some (.box cells) =>
      if i == β i || np ≤ i then
        match atsFit A.ob μ cs cells, boxesFit A μ β np r with
        | some l, some ls => some (l ++ ls)
        | _, _ => none
      else none
    | _ => none

/-- Distinct rows of the form come from distinct rows; boxes alike. -/
def injRows (μ : Nat → Option Src) : List (Nat × Bool × List AK) → Bool
  | [] => true
  | (i, _, _) :: r => r.all (fun x => match μ i, μ x.1 with
    | some (.own p), some (.own q) => p != q
    | _, _ => true) && injRows μ r

def injBoxes (β : Nat → Nat) : List (Nat × List AtS) → Bool
  | [] => true
  | (i, _) :: r => r.all (fun x => β i != β x.1) && injBoxes β r

def nfFit (A : FS) (μ : Nat → Option Src) (β : Nat → Nat) (np : Nat) (nf : NF) : Option (List Lf) :=
  if injRows μ nf.rows && injBoxes β nf.boxes then
    match slFit A μ β nf.sl, rowsFit A μ nf.rows, boxesFit A μ β np nf.boxes with
    | some a, some b, some c => some (a ++ b ++ c)
    | _, _, _ => none
  else none

/-! ### it is sound -/

def muHd (M : Mp) (μ : Nat → Option Src) (i : Nat) : Value :=
  match μ i with
  | some (.own q) => M.hd q
  | _ => .slice none 0 0

def muPh (M : Mp) (μ : Nat → Option Src) (i : Nat) : List Nat :=
  match μ i with
  | some (.own q) => M.ph q
  | _ => []

section
variable {c : Cx} {nt : Nat} {M : Mp} {env env' : List V} {A : FS} {a : Act} {w : World} {μ : Nat → Option Src} {β : Nat → Nat}

theorem srcIs_eq {r r' : Nat} (h : srcIs μ r r' = true) : μ r = some (.own r') := by
  unfold srcIs at h
  split at h
  · rename_i q e; simp only [beq_iff_eq] at h; rw [e, h]
  · cases h

theorem atFit_len {s : AtS} {x : At} {ls : List Lf} (h : atFit A.ob μ s x = some ls) : ls.length = s.width := by
  unfold atFit at h
  split at h <;> (try (split at h)) <;> simp only [Option.some.injEq, reduceCtorEq] at h <;> subst h <;> rfl

theorem atsFit_len : ∀ {ss : List AtS} {xs : List At} {ls : List Lf}, atsFit A.ob μ ss xs = some ls → ls.length = atsW ss
  | [], [], _, h => by simp only [atsFit, Option.some.injEq] at h; subst h; rfl
  | [], _ :: _, _, h => by simp [atsFit] at h
  | _ :: _, [], _, h => by simp [atsFit] at h
  | s :: ss, x :: xs, ls, h => by
    simp only [atsFit] at h
    split at h <;> simp only [Option.some.injEq, reduceCtorEq] at h
    rename_i l ls' h1 h2
    subst h
    simp only [List.length_append, atFit_len h1, atsFit_len h2, atsW]

theorem scsFit_len : ∀ {ss : List (Bool × List AtS)} {xs : List SC} {ls : List Lf}, scsFit A.ob μ ss xs = some ls → ls.length = scsW ss
  | [], [], _, h => by simp only [scsFit, Option.some.injEq] at h; subst h; rfl
  | [], _ :: _, _, h => by simp [scsFit] at h
  | _ :: _, [], _, h => by simp [scsFit] at h
  | s :: ss, x :: xs, ls, h => by
    simp only [scsFit] at h
    split at h
    · split at h <;> simp only [Option.some.injEq, reduceCtorEq] at h
      rename_i l ls' h1 h2
      subst h
      simp only [List.length_append, atsFit_len h1, scsFit_len h2, scsW]
    · cases h

theorem svFit_len {s : SVS} {x : SV} {ls : List Lf} (h : svFit A.ob μ β s x = some ls) : ls.length = s.width := by
  unfold svFit at h
  split at h
  · split at h
    · exact atsFit_len h
    · cases h
  · split at h <;> simp only [Option.some.injEq, reduceCtorEq] at h
    subst h; rfl
  · split at h <;> simp only [Option.some.injEq, reduceCtorEq] at h
    subst h; simp [SVS.width]; omega
  · exact scsFit_len h
  · cases h

/-- The environment holds the leaves' values from 'j' on. -/
def Sub (env env' : List V) (j : Nat) (ls : List Lf) : Prop := ∀ i, i < ls.length → env'[j + i]? = (ls.map (Lf.ev env))[i]?

theorem Sub.left {j : Nat} {l l' : List Lf} (h : Sub env env' j (l ++ l')) : Sub env env' j l := fun i hi => by
  have := h i (by simp; omega)
  rw [this, List.map_append, List.getElem?_append_left (by simpa using hi)]

theorem Sub.right {j : Nat} {l l' : List Lf} (h : Sub env env' j (l ++ l')) {n : Nat} (hn : l.length = n) : Sub env env' (j + n) l' := fun i hi => by
  have := h (n + i) (by simp; omega)
  rw [Nat.add_assoc, this, List.map_append, List.getElem?_append_right (by simp; omega)]
  congr 1; simp; omega

theorem Sub.one {j : Nat} {l : Lf} {ls : List Lf} (h : Sub env env' j (l :: ls)) : (Lf.v j).ev env' = l.ev env := by
  have := h 0 (by simp)
  simp only [Nat.add_zero, List.map_cons, List.getElem?_cons_zero] at this
  simp [Lf.ev, this]

end

end Go.Mw

/- Bringing a state into a normal form is sound. -/
namespace Go.Mw
open Go.RowKit

section
variable {c : Cx} {nt : Nat} {M : Mp} {env env' : List V} {A : FS} {a : Act} {w : World} {μ : Nat → Option Src} {β : Nat → Nat} {ob' : Nat → Option SO}

def muMp (M : Mp) (μ : Nat → Option Src) (β : Nat → Nat) : Mp := ⟨muHd M μ, muPh M μ, fun i => M.be (β i)⟩

/-- Where the form's rows and boxes come from. -/
structure From (A : FS) (env env' : List V) (μ : Nat → Option Src) (β : Nat → Nat) (ob' : Nat → Option SO) : Prop where
  row : ∀ r ver l app, ob' r = some (.row ver l app) → ver = 0 ∧ ((μ r = some .nil ∧ app = true ∧ ∃ ks, l.ev env' = .list ks []) ∨
    ∃ q v0 l0, μ r = some (.own q) ∧ A.ob q = some (.row v0 l0 app) ∧ l.ev env' = l0.ev env ∧ (app = true ∨ r = q))
  box : ∀ id cells, ob' id = some (.box cells) → ∃ cells0, A.ob (β id) = some (.box cells0)

theorem curVer_eq {ob : Nat → Option SO} {r ver : Nat} (h : curVer ob r ver = true) : ∃ l app, ob r = some (.row ver l app) := by
  unfold curVer at h
  split at h
  · rename_i e; simp only [beq_iff_eq] at h; subst h; exact ⟨_, _, e⟩
  · cases h

theorem RelAt.fit (hF : From A env env' μ β ob') {s : AtS} {x : At} {v : Value} {ls : List Lf} {j : Nat} (h : atFit A.ob μ s x = some ls) (hs : Sub env env' j ls) (hr : RelAt c M env w A.ob x v) :
    RelAt c (muMp M μ β) env' w ob' (s.at j) v := by
  refine ⟨hr.1, ?_⟩
  have h2 := hr.2
  unfold atFit at h
  split at h
  · simp only [Option.some.injEq] at h
    subst h
    simp only [AtS.at, hs.one]; exact h2
  · exact h2
  · simp only [Option.some.injEq] at h
    subst h
    simp only [AtS.at, hs.one]; exact h2
  · simp only [Option.some.injEq] at h
    subst h
    simp only at h2
    subst h2
    simp only [AtS.at, hs.one]
    exact ⟨[], .atom (.nil _) .nil, by simp⟩
  · rename_i r r'
    split at h
    · rename_i hsrc
      have he := srcIs_eq hsrc
      simp only [AtS.at]
      intro ver l app ho
      obtain ⟨_, h3 | ⟨q, v0, l0, h3, h4, _⟩⟩ := hF.row _ _ _ _ ho
      · rw [he] at h3; cases h3.1
      · rw [he] at h3
        simp only [Option.some.injEq, Src.own.injEq] at h3
        subst h3
        simp only [muMp, muHd, he]
        exact h2 _ _ _ h4
    · cases h
  · rename_i r
    split at h
    · rename_i he
      simp only [AtS.at]
      intro ver l app ho
      simp only [muMp, muHd, he]
      exact h2
    · cases h
  · rename_i r ks r' ver l p
    split at h
    · rename_i hc
      simp only [Bool.and_eq_true] at hc
      have he := srcIs_eq hc.1
      obtain ⟨l1, app1, h1⟩ := curVer_eq hc.2
      simp only [Option.some.injEq] at h
      subst h
      simp only [AtS.at]
      refine ⟨fun ver' l' app' ho => ⟨Nat.zero_le _, fun _ => ?_⟩, trivial⟩
      obtain ⟨S, h4, h5⟩ := (h2.1 _ _ _ h1).2 rfl
      rw [hs.one]
      exact ⟨S, h4, by simp only [muMp, muPh, he]; exact h5⟩
    · cases h
  · rename_i r ks
    simp only [Option.some.injEq] at h
    subst h
    simp only [AtS.at]
    refine ⟨fun ver' l' app' ho => ⟨Nat.zero_le _, fun _ => ?_⟩, trivial⟩
    simp only at h2
    subst h2
    rw [hs.one]
    exact ⟨[], .atom (.nil _) .nil, by simp⟩
  · cases h

theorem RelAts.fit (hF : From A env env' μ β ob') : ∀ {ss : List AtS} {xs : List At} {vs : List Value} {ls : List Lf} {j : Nat}, atsFit A.ob μ ss xs = some ls → Sub env env' j ls → RelAts c M env w A.ob xs vs →
    RelAts c (muMp M μ β) env' w ob' (atsAt j ss) vs
  | [], [], [], _, _, _, _, _ => trivial
  | [], [], _ :: _, _, _, _, _, h => h.elim
  | [], _ :: _, _, _, _, h, _, _ => by simp [atsFit] at h
  | _ :: _, [], _, _, _, h, _, _ => by simp [atsFit] at h
  | _ :: _, _ :: _, [], _, _, _, _, h => h.elim
  | s :: ss, x :: xs, v :: vs, ls, j, h, hs, hr => by
    simp only [atsFit] at h
    split at h <;> simp only [Option.some.injEq, reduceCtorEq] at h
    rename_i l ls' h1 h2
    subst h
    exact ⟨RelAt.fit hF h1 hs.left hr.1, RelAts.fit hF h2 (hs.right (atFit_len h1)) hr.2⟩

theorem RelSCs.fit (hF : From A env env' μ β ob') : ∀ {ss : List (Bool × List AtS)} {xs : List SC} {vs : List Value} {ls : List Lf} {j : Nat}, scsFit A.ob μ ss xs = some ls → Sub env env' j ls → RelSCs c M env w A.ob xs vs →
    RelSCs c (muMp M μ β) env' w ob' (scsAt j ss) vs
  | [], [], [], _, _, _, _, _ => trivial
  | [], [], _ :: _, _, _, _, _, h => h.elim
  | [], _ :: _, _, _, _, h, _, _ => by simp [scsFit] at h
  | _ :: _, [], _, _, _, h, _, _ => by simp [scsFit] at h
  | _ :: _, _ :: _, [], _, _, _, _, h => h.elim
  | s :: ss, x :: xs, v :: vs, ls, j, h, hs, hr => by
    simp only [scsFit] at h
    split at h
    · rename_i hg
      simp only [beq_iff_eq] at hg
      split at h <;> simp only [Option.some.injEq, reduceCtorEq] at h
      rename_i l ls' h1 h2
      subst h
      obtain ⟨⟨us, h3, h4⟩, h5⟩ := hr
      exact ⟨⟨us, RelAts.fit hF h1 hs.left h3, by rw [hg]; exact h4⟩, RelSCs.fit hF h2 (hs.right (atsFit_len h1)) h5⟩
    · cases h

theorem RelSV.fit (hF : From A env env' μ β ob') {s : SVS} {x : SV} {v : Value} {ls : List Lf} {j : Nat} (h : svFit A.ob μ β s x = some ls) (hs : Sub env env' j ls) (hr : RelSV c M env w A.ob x v) :
    RelSV c (muMp M μ β) env' w ob' (s.at j) v := by
  unfold svFit at h
  split at h
  · rename_i g cs x
    split at h
    · rename_i hg
      simp only [beq_iff_eq] at hg
      obtain ⟨us, h3, h4⟩ := hr
      exact ⟨us, RelAts.fit hF h hs h3, by rw [hg]; exact h4⟩
    · cases h
  · rename_i id off id' off'
    split at h
    · rename_i hc
      simp only [Bool.and_eq_true, beq_iff_eq] at hc
      obtain ⟨rfl, rfl⟩ := hc
      intro cells ho
      obtain ⟨cells0, h1⟩ := hF.box _ _ ho
      exact hr _ h1
    · cases h
  · rename_i b off ks b' ver ll ix el off' ks'
    split at h
    · rename_i hc
      simp only [Bool.and_eq_true, beq_iff_eq] at hc
      obtain ⟨⟨hb, rfl⟩, hks⟩ := hc
      have hks' := AK.eqs_eq hks
      subst hks'
      simp only [Option.some.injEq] at h
      subst h
      have e1 := hs.one
      have hs2 : Sub env env' (j + 1) (ix :: (List.range ks.length).map fun i => Lf.v (el + i)) := hs.right (l := [ll]) (n := 1) rfl
      have e2 := hs2.one
      have hs3 : Sub env env' (j + 2) ((List.range ks.length).map fun i => Lf.v (el + i)) := hs2.right (l := [ix]) (n := 1) rfl
      obtain ⟨u, h1, bb, o, n, cap, es, i, kk, e, h3, h4, h5, h6, h7, h8, h9, h10⟩ := hr
      refine ⟨u, ?_, bb, o, n, cap, es, i, kk, e, h3, by rw [e1]; exact h4, by rw [e2]; exact h5, h6, h7, h8, fun q hq => ?_, h10⟩
      · unfold baseFit at hb
        split at hb
        · simp only [AtS.base, RelBase, e1]; exact h1
        · rename_i r r' _
          simp only [Bool.and_eq_true] at hb
          have he := srcIs_eq hb.1
          obtain ⟨l1, app1, g1⟩ := curVer_eq hb.2
          simp only [AtS.base]
          intro ver' l' app' ho
          refine ⟨Nat.zero_le _, fun _ => ?_⟩
          obtain ⟨_, h11 | ⟨q, v0, l0, h11, h12, h13, _⟩⟩ := hF.row _ _ _ _ ho
          · rw [he] at h11; cases h11.1
          · rw [he] at h11
            simp only [Option.some.injEq, Src.own.injEq] at h11
            subst h11
            rw [g1] at h12
            simp only [Option.some.injEq, SO.row.injEq] at h12
            obtain ⟨rfl, rfl, rfl⟩ := h12
            obtain ⟨g2, g3⟩ := (h1 _ _ _ g1).2 rfl
            refine ⟨by rw [h13, e1]; exact g2, by simp only [muMp, muHd, he]; exact g3⟩
        · rename_i r ks2 r' _ _ _
          simp only [Bool.and_eq_true] at hb
          have he := srcIs_eq hb.1
          obtain ⟨l1, app1, g1⟩ := curVer_eq hb.2
          simp only [AtS.base]
          intro ver' l' app' ho
          refine ⟨Nat.zero_le _, fun _ => ?_⟩
          obtain ⟨S, g2, g3⟩ := (h1 _ _ _ g1).2 rfl
          exact ⟨S, by rw [e1]; exact g2, by simp only [muMp, muPh, he]; exact g3⟩
        · cases hb
      · have := hs3 q (by simpa using hq)
        rw [this, ← h9 q hq]
        simp only [List.map_map, List.getElem?_map, List.getElem?_range hq, Option.map_some, Function.comp, Lf.ev, List.getD_eq_getElem?_getD]
        have : ∃ d, env[el + q]? = some d := by
          have hl : q < e.cells.length := by
            have := aksOk_length h8
            omega
          exact ⟨_, by rw [h9 q hq, List.getElem?_eq_getElem hl]⟩
        obtain ⟨d, hd⟩ := this
        simp [hd]
    · cases h
  · obtain ⟨vs, h1, h2⟩ := hr
    exact ⟨vs, h1, RelSCs.fit hF h hs h2⟩
  · cases h

theorem slFit_get : ∀ {l : List (Nat × SVS)} {ls : List Lf} {j t : Nat} {sv : SV}, slFit A μ β l = some ls → Sub env env' j ls → slAt j l t = some sv →
    ∃ x sA j' l', A.sl t = some ([], sA) ∧ svFit A.ob μ β x sA = some l' ∧ Sub env env' j' l' ∧ sv = x.at j'
  | [], _, _, _, _, _, _, h => by simp [slAt] at h
  | (s, x) :: r, ls, j, t, sv, hf, hs, h => by
    simp only [slFit] at hf
    split at hf
    · rename_i sA hA
      split at hf <;> simp only [Option.some.injEq, reduceCtorEq] at hf
      rename_i l ls' h1 h2
      subst hf
      simp only [slAt] at h
      split at h
      · rename_i e
        subst e
        simp only [Option.some.injEq] at h
        exact ⟨x, sA, j, l, hA, h1, hs.left, h.symm⟩
      · exact slFit_get h2 (hs.right (svFit_len h1)) h
    · cases hf

theorem rowsFit_get : ∀ {l : List (Nat × Bool × List AK)} {ls : List Lf} {j i : Nat} {x : SO}, rowsFit A μ l = some ls → Sub env env' j ls → rowsAt j l i = some x →
    ∃ app ks lf, (i, app, ks) ∈ l ∧ x = .row 0 lf app ∧ ((μ i = some .nil ∧ app = true ∧ lf.ev env' = .list ks []) ∨ ∃ q v0 l0, μ i = some (.own q) ∧ A.ob q = some (.row v0 l0 app) ∧ lf.ev env' = l0.ev env ∧ (app = true ∨ i = q))
  | [], _, _, _, _, _, _, h => by simp [rowsAt] at h
  | (k, app, ks) :: r, ls, j, i, x, hf, hs, h => by
    simp only [rowsFit] at hf
    have rcs : ∀ {l0 : Lf} {ls' : List Lf}, rowsFit A μ r = some ls' → ls = l0 :: ls' → i ≠ k → ∃ app' ks' lf, (i, app', ks') ∈ (k, app, ks) :: r ∧ x = .row 0 lf app' ∧ ((μ i = some .nil ∧ app' = true ∧ lf.ev env' = .list ks' []) ∨ ∃ q v0 l0, μ i = some (.own q) ∧ A.ob q = some (.row v0 l0 app') ∧ lf.ev env' = l0.ev env ∧ (app' = true ∨ i = q)) := by
      intro l0 ls' h1 h2 hne
      subst h2
      simp only [rowsAt, if_neg hne] at h
      obtain ⟨app', ks', lf, h3, h4⟩ := rowsFit_get h1 (hs.right (l := [l0]) (n := 1) rfl) h
      exact ⟨app', ks', lf, by simp [h3], h4⟩
    split at hf
    · rename_i he
      split at hf
      · rename_i happ
        simp only [Option.map_eq_some_iff] at hf
        obtain ⟨ls', h1, h2⟩ := hf
        by_cases e : i = k
        · subst e
          subst h2
          simp only [rowsAt, if_true, Option.some.injEq] at h
          exact ⟨app, ks, .v j, by simp, h.symm, .inl ⟨he, happ, by rw [hs.one]; rfl⟩⟩
        · exact rcs h1 h2.symm e
      · cases hf
    · rename_i q he
      split at hf
      · rename_i v0 l0 app0 hA
        split at hf
        · rename_i hc
          simp only [Bool.and_eq_true, beq_iff_eq, Bool.or_eq_true] at hc
          obtain ⟨rfl, hc⟩ := hc
          simp only [Option.map_eq_some_iff] at hf
          obtain ⟨ls', h1, h2⟩ := hf
          by_cases e : i = k
          · subst e
            subst h2
            simp only [rowsAt, if_true, Option.some.injEq] at h
            exact ⟨app, ks, .v j, by simp, h.symm, .inr ⟨q, v0, l0, he, hA, hs.one, hc⟩⟩
          · exact rcs h1 h2.symm e
        · cases hf
      · cases hf
    · cases hf

theorem rowsFit_len : ∀ {l : List (Nat × Bool × List AK)} {ls : List Lf}, rowsFit A μ l = some ls → ls.length = l.length
  | [], _, h => by simp only [rowsFit, Option.some.injEq] at h; subst h; rfl
  | (k, app, ks) :: r, ls, hf => by
    simp only [rowsFit] at hf
    split at hf
    · split at hf
      · simp only [Option.map_eq_some_iff] at hf
        obtain ⟨ls', h1, h2⟩ := hf
        subst h2
        simp [rowsFit_len h1]
      · cases hf
    · split at hf
      · split at hf
        · simp only [Option.map_eq_some_iff] at hf
          obtain ⟨ls', h1, h2⟩ := hf
          subst h2
          simp [rowsFit_len h1]
        · cases hf
      · cases hf
    · cases hf

theorem boxesFit_get {np : Nat} : ∀ {l : List (Nat × List AtS)} {ls : List Lf} {j i : Nat} {x : SO}, boxesFit A μ β np l = some ls → Sub env env' j ls → boxesAt j l i = some x →
    ∃ cs cells j' l', (i, cs) ∈ l ∧ x = .box (atsAt j' cs) ∧ A.ob (β i) = some (.box cells) ∧ atsFit A.ob μ cs cells = some l' ∧ Sub env env' j' l' ∧ (i = β i ∨ np ≤ i)
  | [], _, _, _, _, _, _, h => by simp [boxesAt] at h
  | (k, cs) :: r, ls, j, i, x, hf, hs, h => by
    simp only [boxesFit] at hf
    split at hf
    · rename_i cells hA
      split at hf
      · rename_i hc
        simp only [Bool.or_eq_true, beq_iff_eq, decide_eq_true_eq] at hc
        split at hf <;> simp only [Option.some.injEq, reduceCtorEq] at hf
        rename_i l ls' h1 h2
        subst hf
        simp only [boxesAt] at h
        split at h
        · rename_i e
          subst e
          simp only [Option.some.injEq] at h
          exact ⟨cs, cells, j, l, by simp, h.symm, hA, h1, hs.left, hc⟩
        · obtain ⟨cs', cells', j', l', g1, g2⟩ := boxesFit_get h2 (hs.right (atsFit_len h1)) h
          exact ⟨cs', cells', j', l', by simp [g1], g2⟩
      · cases hf
    · cases hf

theorem injRows_ne : ∀ {l : List (Nat × Bool × List AK)}, injRows μ l = true → ∀ x ∈ l, ∀ y ∈ l, x.1 ≠ y.1 → ∀ p q, μ x.1 = some (.own p) → μ y.1 = some (.own q) → p ≠ q
  | [], _, x, hx, _, _ => by cases hx
  | z :: r, h, x, hx, y, hy => by
    simp only [injRows, Bool.and_eq_true, List.all_eq_true] at h
    intro hne p q hp hq
    rcases List.mem_cons.1 hx with rfl | hx' <;> rcases List.mem_cons.1 hy with rfl | hy'
    · exact absurd rfl hne
    · have := h.1 y hy'
      rw [hp, hq] at this
      simpa using this
    · have := h.1 x hx'
      rw [hp, hq] at this
      simp only [bne_iff_ne, ne_eq] at this
      exact Ne.symm this
    · exact injRows_ne h.2 x hx' y hy' hne p q hp hq

theorem injBoxes_ne : ∀ {l : List (Nat × List AtS)}, injBoxes β l = true → ∀ x ∈ l, ∀ y ∈ l, x.1 ≠ y.1 → β x.1 ≠ β y.1
  | [], _, x, hx, _, _ => by cases hx
  | z :: r, h, x, hx, y, hy => by
    simp only [injBoxes, Bool.and_eq_true, List.all_eq_true, bne_iff_ne, ne_eq] at h
    intro hne
    rcases List.mem_cons.1 hx with rfl | hx' <;> rcases List.mem_cons.1 hy with rfl | hy'
    · exact absurd rfl hne
    · exact h.1 y hy'
    · exact fun e => h.1 x hx' e.symm
    · exact injBoxes_ne h.2 x hx' y hy' hne

theorem atsFit_isSc : ∀ {ss : List AtS} {xs : List At} {ls : List Lf} {j : Nat}, atsFit A.ob μ ss xs = some ls → ∀ (i : Nat) (x : At), xs[i]? = some x → x.isSc = false → ∃ y, (atsAt j ss)[i]? = some y ∧ y.isSc = false
  | [], [], _, _, _, i, x, hx, _ => by simp at hx
  | [], _ :: _, _, _, h, _, _, _, _ => by simp [atsFit] at h
  | _ :: _, [], _, _, h, _, _, _, _ => by simp [atsFit] at h
  | s :: ss, a :: as, ls, j, h, i, x, hx, hsc => by
    simp only [atsFit] at h
    split at h <;> simp only [Option.some.injEq, reduceCtorEq] at h
    rename_i l ls' h1 h2
    cases i with
    | zero =>
      simp only [List.getElem?_cons_zero, Option.some.injEq] at hx
      subst hx
      refine ⟨s.at j, by simp [atsAt], ?_⟩
      cases s <;> cases a <;> simp_all [atFit, AtS.at, At.isSc]
    | succ i =>
      simp only [List.getElem?_cons_succ, atsAt] at hx ⊢
      exact atsFit_isSc h2 i x hx hsc

/-- The state holds in its normal form. -/
theorem nfFit_rel {np : Nat} {nf : NF} {ls : List Lf} (hfit : nfFit A μ β np nf = some ls) (hpb : ∀ x, np ≤ x → c.parB x = none) (hR : Rel c nt M env A a w) :
    Rel c nt (muMp M μ β) (ls.map (Lf.ev env)) nf.fs a w := by
  unfold nfFit at hfit
  split at hfit
  case isFalse => cases hfit
  rename_i hinj
  simp only [Bool.and_eq_true] at hinj
  split at hfit <;> simp only [Option.some.injEq, reduceCtorEq] at hfit
  rename_i l1 l2 l3 h1 h2 h3
  have hsub : Sub env (ls.map (Lf.ev env)) 0 ls := fun i hi => by rw [Nat.zero_add]
  generalize ls.map (Lf.ev env) = env' at hsub ⊢
  subst hfit
  have n1 : l1.length = slW nf.sl := by
    have : ∀ {l : List (Nat × SVS)} {ls : List Lf}, slFit A μ β l = some ls → ls.length = slW l := by
      intro l
      induction l with
      | nil => intro ls h; simp only [slFit, Option.some.injEq] at h; subst h; rfl
      | cons x r ih =>
        intro ls h
        simp only [slFit] at h
        split at h
        · split at h <;> simp only [Option.some.injEq, reduceCtorEq] at h
          rename_i g1 g2
          subst h
          simp only [List.length_append, svFit_len g1, ih g2, slW]
        · cases h
    exact this h1
  have n2 := rowsFit_len h2
  have s1 : Sub env env' 0 l1 := hsub.left.left
  have s2 : Sub env env' (slW nf.sl) l2 := by have := hsub.left.right n1; simpa using this
  have s3 : Sub env env' (slW nf.sl + nf.rows.length) l3 := by
    have := hsub.right (n := slW nf.sl + nf.rows.length) (by rw [List.length_append, n1, n2])
    simpa using this
  have obR : ∀ i ver l app, nf.fs.ob i = some (.row ver l app) → rowsAt (slW nf.sl) nf.rows i = some (.row ver l app) := by
    intro i ver l app h
    simp only [NF.fs] at h
    split at h
    · rename_i e; rw [e]; exact h
    · obtain ⟨_, _, _, _, _, h4, _⟩ := boxesFit_get h3 s3 h
      cases h4
  have obB : ∀ i cells, nf.fs.ob i = some (.box cells) → boxesAt (slW nf.sl + nf.rows.length) nf.boxes i = some (.box cells) := by
    intro i cells h
    simp only [NF.fs] at h
    split at h
    · rename_i e
      obtain ⟨_, _, _, _, h4, _⟩ := rowsFit_get h2 s2 e
      rw [h4] at h; cases h
    · exact h
  have hF : From A env env' μ β nf.fs.ob := by
    refine ⟨fun r ver l app h => ?_, fun id cells h => ?_⟩
    · obtain ⟨app', ks, lf, g1, g2, g3⟩ := rowsFit_get h2 s2 (obR _ _ _ _ h)
      simp only [SO.row.injEq] at g2
      obtain ⟨rfl, rfl, rfl⟩ := g2
      refine ⟨rfl, g3.imp (fun h => ⟨h.1, h.2.1, ks, h.2.2⟩) id⟩
    · obtain ⟨cs, cells', j', l', g1, g2, g3, _⟩ := boxesFit_get h3 s3 (obB _ _ h)
      exact ⟨cells', g3⟩
  refine ⟨hR.size, hR.defs, fun s gs sv hs => ?_, fun r ver l app hr => ?_, fun id cells hb => ?_, fun i j x y hi hj hij => ?_, fun i j vi li ai vj lj aj hi hj hij => ?_, fun i j x vj lj aj hi hj => ?_, hR.keep⟩
  · simp only [NF.fs, Option.map_eq_some_iff, Prod.mk.injEq] at hs
    obtain ⟨sv', g1, rfl, rfl⟩ := hs
    obtain ⟨x, sA, j', l', g2, g3, g4, rfl⟩ := slFit_get h1 s1 g1
    obtain ⟨q1, q2, _⟩ := hR.slots _ _ _ g2
    refine ⟨q1, fun _ => RelSV.fit hF g3 g4 (q2 (by simp [GH])), fun hg => absurd (by simp [GH]) hg⟩
  · obtain ⟨_, g | ⟨q, v0, l0, g1, g2, g3, g4⟩⟩ := hF.row _ _ _ _ hr
    · obtain ⟨g1, g2, ks, g3⟩ := g
      have hnil : (muMp M μ β).hd r = .slice none 0 0 := by simp [muMp, muHd, g1]
      refine ⟨⟨[], ?_, .nil, by simp⟩, ?_, fun _ => ⟨⟨.inl hnil, by rw [hnil]; exact Inn.nil⟩, by simp [muMp, muPh, g1]⟩, fun h => by rw [g2] at h; cases h⟩
      · simp only [muMp, muHd, g1, g3]; exact .atom (.nil _) .nil
      · simp [muMp, muPh, g1]
    · have := hR.rows _ _ _ _ g2
      simp only [RowOk, muMp, muHd, muPh, g1, g3] at this ⊢
      obtain ⟨q1, q2, q3, q4⟩ := this
      refine ⟨q1, q2, q3, fun ha => ?_⟩
      rcases g4 with g4 | g4
      · rw [ha] at g4; cases g4
      · rw [g4]; exact q4 ha
  · obtain ⟨cs, cells', j', l', g1, g2, g3, g4, g5, g6⟩ := boxesFit_get h3 s3 (obB _ _ hb)
    simp only [SO.box.injEq] at g2
    subst g2
    obtain ⟨us, E, q1, q2, q3, q4⟩ := hR.boxes _ _ g3
    refine ⟨us, E, q1, RelAts.fit hF g4 g5 q2, q3, fun b t hp => ?_⟩
    rcases g6 with g6 | g6
    · obtain ⟨k1, k2⟩ := q4 b t (by rw [← g6]; exact hp)
      refine ⟨k1, fun i u hi => ?_⟩
      obtain ⟨k3, x, k4, k5⟩ := k2 i u hi
      exact ⟨k3, atsFit_isSc g4 i x k4 k5⟩
    · rw [hpb _ g6] at hp; cases hp
  · obtain ⟨cs, cells, _, _, g1, _, g3, _⟩ := boxesFit_get h3 s3 (obB _ _ hi)
    obtain ⟨cs', cells', _, _, g1', _, g3', _⟩ := boxesFit_get h3 s3 (obB _ _ hj)
    exact hR.dBB _ _ _ _ g3 g3' (injBoxes_ne hinj.2 _ g1 _ g1' hij)
  · obtain ⟨app', ks, lf, g1, _, g3⟩ := rowsFit_get h2 s2 (obR _ _ _ _ hi)
    obtain ⟨app2, ks2, lf2, k1, _, k3⟩ := rowsFit_get h2 s2 (obR _ _ _ _ hj)
    rcases g3 with ⟨g3, _⟩ | ⟨q, v0, l0, g3, g4, _⟩
    · simp [muMp, muPh, g3]
    · rcases k3 with ⟨k3, _⟩ | ⟨q', v0', l0', k3, k4, _⟩
      · simp [muMp, muPh, k3]
      · simp only [muMp, muPh, g3, k3]
        exact hR.dRR _ _ _ _ _ _ _ _ g4 k4 (injRows_ne hinj.1 _ g1 _ k1 hij _ _ g3 k3)
  · obtain ⟨cs, cells, _, _, g1, _, g3, _⟩ := boxesFit_get h3 s3 (obB _ _ hi)
    obtain ⟨app2, ks2, lf2, k1, _, k3⟩ := rowsFit_get h2 s2 (obR _ _ _ _ hj)
    rcases k3 with ⟨k3, _⟩ | ⟨q', v0', l0', k3, k4, _⟩
    · simp [muMp, muPh, k3]
    · simp only [muMp, muPh, k3]
      exact hR.dBR _ _ _ _ _ _ g3 k4

end

end Go.Mw

/- The pure language, its meaning, and the compiler from a function's code. -/
namespace Go.Mw
open Go.RowKit

inductive L where
  | skip
  | rg (ins : List In)
  | tup (ls : List Lf)
  | seq (a b : L)
  | ite (l : Lf) (a b : L)
  | block (id : Nat) (b : L)
  | loop (b : L)
  | exit (id : Nat)
  | ret (ls : List Lf)

inductive LX where
  | normal
  | exit (id : Nat)
  | ret

def wpL : L → (LX → List V → Prop) → List V → Prop
  | .skip, Q, e => Q .normal e
  | .rg ins, Q, e => ∃ e', runIns ins e = some e' ∧ Q .normal e'
  | .tup ls, Q, e => Q .normal (ls.map (Lf.ev e))
  | .seq a b, Q, e => wpL a (fun x e' => match x with
    | .normal => wpL b Q e'
    | x => Q x e') e
  | .ite l a b, Q, e => (l.ev e = .bool true ∧ wpL a Q e) ∨ (l.ev e = .bool false ∧ wpL b Q e)
  | .block id b, Q, e => wpL b (fun x e' => match x with
    | .exit id' => if id' = id then Q .normal e' else Q x e'
    | x => Q x e') e
  | .loop b, Q, e => ∃ (I : List V → Prop) (m : List V → Nat), I e ∧ ∀ e, I e → wpL b (fun x e' => match x with
    | .normal => I e' ∧ m e' < m e
    | x => Q x e') e
  | .exit id, Q, e => Q (.exit id) e
  | .ret ls, Q, e => Q .ret (ls.map (Lf.ev e))

theorem wpL_mono : ∀ {l : L} {Q Q' : LX → List V → Prop} {e : List V}, wpL l Q e → (∀ x e, Q x e → Q' x e) → wpL l Q' e
  | .skip, _, _, _, h, hq => hq _ _ h
  | .rg _, _, _, _, ⟨e', h1, h2⟩, hq => ⟨e', h1, hq _ _ h2⟩
  | .tup _, _, _, _, h, hq => hq _ _ h
  | .seq a b, _, _, _, h, hq => wpL_mono (l := a) h fun x e h => by
    cases x with
    | normal => exact wpL_mono (l := b) h hq
    | exit id => exact hq _ _ h
    | ret => exact hq _ _ h
  | .ite _ a b, _, _, _, h, hq => h.imp (fun h => ⟨h.1, wpL_mono (l := a) h.2 hq⟩) (fun h => ⟨h.1, wpL_mono (l := b) h.2 hq⟩)
  | .block id b, _, _, _, h, hq => wpL_mono (l := b) h fun x e h => by
    cases x with
    | normal => exact hq _ _ h
    | exit id' =>
      simp only at h ⊢
      split
      · rename_i e; rw [if_pos e] at h; exact hq _ _ h
      · rename_i e; rw [if_neg e] at h; exact hq _ _ h
    | ret => exact hq _ _ h
  | .loop b, _, _, _, ⟨I, m, h1, h2⟩, hq => ⟨I, m, h1, fun e he => wpL_mono (l := b) (h2 e he) fun x e h => by
    cases x with
    | normal => exact h
    | exit id => exact hq _ _ h
    | ret => exact hq _ _ h⟩
  | .exit _, _, _, _, h, hq => hq _ _ h
  | .ret _, _, _, _, h, hq => hq _ _ h

/-! ### the state -/

structure St where
  A : FS
  fid : Nat
  nv : Nat

def NF.st (nf : NF) : St := ⟨nf.fs, nf.fid, nf.width⟩

def atSIds : List AtS → List Nat
  | [] => []
  | .own r :: as => r :: atSIds as
  | .inn r _ :: as => r :: atSIds as
  | _ :: as => atSIds as

def SVS.ids : SVS → List Nat
  | .sc _ cs => atSIds cs
  | .ptr id _ => [id]
  | .elem b _ _ => atSIds [b]
  | .tup cs => cs.flatMap fun c => atSIds c.2

def NF.ids (nf : NF) : List Nat := nf.sl.flatMap (fun x => x.2.ids) ++ nf.rows.map (·.1) ++ nf.boxes.flatMap fun x => x.1 :: atSIds x.2

def NF.ok (np : Nat) (nf : NF) : Bool := np ≤ nf.fid && nf.ids.all (· < nf.fid)

structure Inv (np : Nat) (st : St) (env : List V) : Prop where
  len : env.length = st.nv
  sc : Scoped st.A st.nv
  fr : Fresh st.A (fun x => st.fid ≤ x)
  np : np ≤ st.fid

/-! ### which row stands for which (found, then checked by 'nfFit') -/

def uniAt (m : List (Nat × Src)) : AtS → At → List (Nat × Src)
  | .own r, .own q => (r, .own q) :: m
  | .own r, .nil => (r, .nil) :: m
  | .inn r _, .inn q _ _ _ => (r, .own q) :: m
  | _, _ => m

def uniAts (m : List (Nat × Src)) : List AtS → List At → List (Nat × Src)
  | s :: ss, a :: as => uniAts (uniAt m s a) ss as
  | _, _ => m

def uniScs (m : List (Nat × Src)) : List (Bool × List AtS) → List SC → List (Nat × Src)
  | s :: ss, c :: cs => uniScs (uniAts m s.2 c.cs) ss cs
  | _, _ => m

def uniSl (A : FS) : List (Nat × SVS) → List (Nat × Src) × List (Nat × Nat) → List (Nat × Src) × List (Nat × Nat)
  | [], m => m
  | (s, x) :: r, m => uniSl A r (match x, A.sl s with
    | .sc _ cs, some (_, .sc c) => (uniAts m.1 cs c.cs, m.2)
    | .ptr id _, some (_, .ptr id' _) => (m.1, (id, id') :: m.2)
    | .elem b _ _, some (_, .elem b' _ _ _ _ _ _) => (match b, b' with
      | .own p, .own q => (p, .own q) :: m.1
      | .inn p _, .inn q _ _ _ => (p, .own q) :: m.1
      | _, _ => m.1, m.2)
    | .tup ss, some (_, .tup cs) => (uniScs m.1 ss cs, m.2)
    | _, _ => m)

def lookD (β : List (Nat × Nat)) (i : Nat) : Nat := (β.lookup i).getD i

def uniBoxes (A : FS) (β : List (Nat × Nat)) : List (Nat × List AtS) → List (Nat × Src) → List (Nat × Src)
  | [], m => m
  | (i, cs) :: r, m => uniBoxes A β r (match A.ob (lookD β i) with
    | some (.box cells) => uniAts m cs cells
    | _ => m)

def fitTo (np : Nat) (nf : NF) (A : FS) : Option (List Lf) :=
  let m := uniSl A nf.sl ([], [])
  let μ := uniBoxes A m.2 nf.boxes m.1
  nfFit A (fun i => match μ.lookup i with
    | some s => some s
    | none => if i < np then some (.own i) else none) (lookD m.2) np nf

/-- The end, behind its checks. -/
def retL : List (Lf × Lf) → List Lf → L
  | [], ls => .ret ls
  | c :: cs, ls => .seq (.rg ((c :: cs).map fun c => ⟨[], .chkLe, [c.1, c.2], 0⟩)) (.ret ls)

def CkOk (env : List V) (ck : Lf × Lf) : Prop := ∃ k1 a k2 b, ck.1.ev env = .int k1 a ∧ ck.2.ev env = .int k2 b ∧ a ≤ b

theorem chk_run {env : List V} {x y : Lf} {vs : List V} (h : (⟨[], .chkLe, [x, y], 0⟩ : In).run env = some vs) : vs = [] ∧ CkOk env (x, y) := by
  simp only [In.run, gsOk, if_true, List.map_cons, List.map_nil] at h
  generalize hx : x.ev env = vx at h
  generalize hy : y.ev env = vy at h
  cases vx <;> cases vy <;> simp only [Prim.run, reduceCtorEq] at h
  rename_i k1 a k2 b
  by_cases hab : a ≤ b
  · rw [if_pos hab] at h
    simp only [List.length_nil, beq_self_eq_true, if_true, Option.some.injEq] at h
    exact ⟨h.symm, k1, a, k2, b, hx, hy, hab⟩
  · rw [if_neg hab] at h; cases h

theorem chks_run : ∀ {cs : List (Lf × Lf)} {env e' : List V}, runIns (cs.map fun c => ⟨[], .chkLe, [c.1, c.2], 0⟩) env = some e' → e' = env ∧ ∀ ck ∈ cs, CkOk env ck
  | [], env, e', h => by simp only [List.map_nil, runIns, Option.some.injEq] at h; exact ⟨h.symm, by simp⟩
  | c :: cs, env, e', h => by
    simp only [List.map_cons, runIns] at h
    split at h
    · rename_i vs hv
      obtain ⟨rfl, h1⟩ := chk_run hv
      rw [List.append_nil] at h
      obtain ⟨h2, h3⟩ := chks_run h
      refine ⟨h2, fun ck hck => ?_⟩
      rcases List.mem_cons.1 hck with rfl | hck
      · exact h1
      · exact h3 ck hck
    · cases h

theorem retL_wp {cs : List (Lf × Lf)} {ls : List Lf} {Q : LX → List V → Prop} {env : List V} (h : wpL (retL cs ls) Q env) : (∀ ck ∈ cs, CkOk env ck) ∧ Q .ret (ls.map (Lf.ev env)) := by
  cases cs with
  | nil => exact ⟨by simp, h⟩
  | cons c cs =>
    obtain ⟨e', h1, h2⟩ := h
    obtain ⟨rfl, h3⟩ := chks_run h1
    exact ⟨h3, h2⟩

/-! ### the compiler -/

section
variable (P : Program) (sg : List (Nat × Sig)) (nt np : Nat) (retOf : FS → Option (List (Lf × Lf) × List Lf))

def cmp : Code → (Nat → Option NF) → St → List NF → Option (L × Option St × List NF)
  | .skip, _, st, hs => some (.skip, some st, hs)
  | .region _ ops draw, _, st, hs =>
    match rgn P sg nt ops draw st.A st.fid st.nv with
    | some es => some (.rg (es.filterMap En.ins), some ⟨es.foldl En.up st.A, endFid st.fid es, st.nv + outSum es⟩, hs)
    | none => none
  | .seq a b, tg, st, hs =>
    match cmp a tg st hs with
    | some (la, some sa, h1) =>
      match cmp b tg sa h1 with
      | some (lb, e, h2) => some (.seq la lb, e, h2)
      | none => none
    | some (la, none, h1) => some (la, none, h1)
    | none => none
  | .cond x a b, tg, st, hs =>
    match (look st.A.sl [] [] x).bind SV.scl with
    | none => none
    | some l =>
      match cmp a tg st hs with
      | none => none
      | some (la, ea, h1) =>
        match cmp b tg st h1 with
        | none => none
        | some (lb, eb, h2) =>
          match ea, eb with
          | none, e => some (.ite l la lb, e, h2)
          | some sa, none => some (.ite l la lb, some sa, h2)
          | some sa, some sb =>
            match h2 with
            | [] => none
            | nf :: h3 =>
              match fitTo np nf sa.A, fitTo np nf sb.A with
              | some σa, some σb => if nf.ok np then some (.ite l (.seq la (.tup σa)) (.seq lb (.tup σb)), some nf.st, h3) else none
              | _, _ => none
  | .block id b, tg, st, hs =>
    match hs with
    | [] => none
    | nf :: h1 =>
      if nf.ok np then
        match cmp b (fun i => if i = id then some nf else tg i) st h1 with
        | some (lb, none, h2) => some (.block id lb, some nf.st, h2)
        | some (lb, some sb, h2) =>
          match fitTo np nf sb.A with
          | some σ => some (.block id (.seq lb (.tup σ)), some nf.st, h2)
          | none => none
        | none => none
      else none
  | .loop b, tg, st, hs =>
    match hs with
    | [] => none
    | nf :: h1 =>
      if nf.ok np then
        match fitTo np nf st.A with
        | none => none
        | some σ0 =>
          match cmp b tg nf.st h1 with
          | some (lb, none, h2) => some (.seq (.tup σ0) (.loop lb), none, h2)
          | some (lb, some sb, h2) =>
            match fitTo np nf sb.A with
            | some σ => some (.seq (.tup σ0) (.loop (.seq lb (.tup σ))), none, h2)
            | none => none
          | none => none
      else none
  | .exit id, tg, st, hs =>
    match tg id with
    | some nf =>
      match fitTo np nf st.A with
      | some σ => some (.seq (.tup σ) (.exit id), none, hs)
      | none => none
    | none => none
  | .ret, _, st, hs =>
    match retOf st.A with
    | some ls => some (retL ls.1 ls.2, none, hs)
    | none => none
  | _, _, _, _ => none

end

end Go.Mw

