/- A part of the framework that turns Go code into small pure programs and shows that they are sound: no condition. -/
import Derived.Deep.LoopGhost
import Derived.Test.YtobecpmneaninaaGreatFwE
namespace Go.Mw
open Go.RowKit

section
variable {c : Cx} {nt : Nat} {M : Mp} {env env' : List V} {A : FS} {a : Act} {w : World} {μ : Nat → Option Src} {β : Nat → Nat} {ob' : Nat → Option SO}

def muMp (M : Mp) (μ : Nat → Option Src) (β : Nat → Nat) : Mp := ⟨muHd M μ, muPh M μ, fun i => M.be (β i)⟩

structure From (A : FS) (env env' : List V) (μ : Nat → Option Src) (β : Nat → Nat) (ob' : Nat → Option SO) : Prop where
  row : ∀ r ver l app, ob' r = some (.row ver l app) → ver = 0 ∧ ((μ r = some .nil ∧ app = true ∧ ∃ ks, l.ev env' = .list ks []) ∨
    ∃ q v0 l0, μ r = some (.own q) ∧ A.ob q = some (.row v0 l0 app) ∧ l.ev env' = l0.ev env ∧ (app = true ∨ r = q))
  box : ∀ id cells, ob' id = some (.box cells) → ∃ cells0, A.ob (β id) = some (.box cells0)

theorem curVer_eq {ob : Nat → Option SO} {r ver : Nat} (h : curVer ob r ver = true) : ∃ l app, ob r = some (.row ver l app) := by
  unfold curVer at h
  split at h
  · rename_i e; simp only [beq_iff_eq] at h; subst h; exact ⟨_, _, e⟩
  · cases h

theorem RelAt.fit (hF : From A env env' μ β ob') {s : AtS} {x : At} {v : Value} {ls : List Lf} {j : Nat} (h : atFit A.ob μ s x = some ls) (hs : Sub env env' j ls) (hr : RelAt c M env w A.ob x v) :
    RelAt c (muMp M μ β) env' w ob' (s.at j) v := by
  refine ⟨hr.1, ?_⟩
  have h2 := hr.2
  unfold atFit at h
  split at h
  · simp only [Option.some.injEq] at h
    subst h
    simp only [AtS.at, hs.one]; exact h2
  · exact h2
  · simp only [Option.some.injEq] at h
    subst h
    simp only [AtS.at, hs.one]; exact h2
  · simp only [Option.some.injEq] at h
    subst h
    simp only at h2
    subst h2
    simp only [AtS.at, hs.one]
    exact ⟨[], .atom (.nil _) .nil, by simp⟩
  · rename_i r r'
    split at h
    · rename_i hsrc
      have he := srcIs_eq hsrc
      simp only [AtS.at]
      intro ver l app ho
      obtain ⟨_, h3 | ⟨q, v0, l0, h3, h4, _⟩⟩ := hF.row _ _ _ _ ho
      · rw [he] at h3; cases h3.1
      · rw [he] at h3
        simp only [Option.some.injEq, Src.own.injEq] at h3
        subst h3
        simp only [muMp, muHd, he]
        exact h2 _ _ _ h4
    · cases h
  · rename_i r
    split at h
    · rename_i he
      simp only [AtS.at]
      intro ver l app ho
      simp only [muMp, muHd, he]
      exact h2
    · cases h
  · rename_i r ks r' ver l p
    split at h
    · rename_i hc
      simp only [Bool.and_eq_true] at hc
      have he := srcIs_eq hc.1
      obtain ⟨l1, app1, h1⟩ := curVer_eq hc.2
      simp only [Option.some.injEq] at h
      subst h
      simp only [AtS.at]
      refine ⟨fun ver' l' app' ho => ⟨Nat.zero_le _, fun _ => ?_⟩, trivial⟩
      obtain ⟨S, h4, h5⟩ := (h2.1 _ _ _ h1).2 rfl
      rw [hs.one]
      exact ⟨S, h4, by simp only [muMp, muPh, he]; exact h5⟩
    · cases h
  · rename_i r ks
    simp only [Option.some.injEq] at h
    subst h
    simp only [AtS.at]
    refine ⟨fun ver' l' app' ho => ⟨Nat.zero_le _, fun _ => ?_⟩, trivial⟩
    simp only at h2
    subst h2
    rw [hs.one]
    exact ⟨[], .atom (.nil _) .nil, by simp⟩
  · cases h

theorem RelAts.fit (hF : From A env env' μ β ob') : ∀ {ss : List AtS} {xs : List At} {vs : List Value} {ls : List Lf} {j : Nat}, atsFit A.ob μ ss xs = some ls → Sub env env' j ls → RelAts c M env w A.ob xs vs →
    RelAts c (muMp M μ β) env' w ob' (atsAt j ss) vs
  | [], [], [], _, _, _, _, _ => trivial
  | [], [], _ :: _, _, _, _, _, h => h.elim
  | [], _ :: _, _, _, _, h, _, _ => by simp [atsFit] at h
  | _ :: _, [], _, _, _, h, _, _ => by simp [atsFit] at h
  | _ :: _, _ :: _, [], _, _, _, _, h => h.elim
  | s :: ss, x :: xs, v :: vs, ls, j, h, hs, hr => by
    simp only [atsFit] at h
    split at h <;> simp only [Option.some.injEq, reduceCtorEq] at h
    rename_i l ls' h1 h2
    subst h
    exact ⟨RelAt.fit hF h1 hs.left hr.1, RelAts.fit hF h2 (hs.right (atFit_len h1)) hr.2⟩

theorem RelSCs.fit (hF : From A env env' μ β ob') : ∀ {ss : List (Bool × List AtS)} {xs : List SC} {vs : List Value} {ls : List Lf} {j : Nat}, scsFit A.ob μ ss xs = some ls → Sub env env' j ls → RelSCs c M env w A.ob xs vs →
    RelSCs c (muMp M μ β) env' w ob' (scsAt j ss) vs
  | [], [], [], _, _, _, _, _ => trivial
  | [], [], _ :: _, _, _, _, _, h => h.elim
  | [], _ :: _, _, _, _, h, _, _ => by simp [scsFit] at h
  | _ :: _, [], _, _, _, h, _, _ => by simp [scsFit] at h
  | _ :: _, _ :: _, [], _, _, _, _, h => h.elim
  | s :: ss, x :: xs, v :: vs, ls, j, h, hs, hr => by
    simp only [scsFit] at h
    split at h
    · rename_i hg
      simp only [beq_iff_eq] at hg
      split at h <;> simp only [Option.some.injEq, reduceCtorEq] at h
      rename_i l ls' h1 h2
      subst h
      obtain ⟨⟨us, h3, h4⟩, h5⟩ := hr
      exact ⟨⟨us, RelAts.fit hF h1 hs.left h3, by rw [hg]; exact h4⟩, RelSCs.fit hF h2 (hs.right (atsFit_len h1)) h5⟩
    · cases h

theorem RelSV.fit (hF : From A env env' μ β ob') {s : SVS} {x : SV} {v : Value} {ls : List Lf} {j : Nat} (h : svFit A.ob μ β s x = some ls) (hs : Sub env env' j ls) (hr : RelSV c M env w A.ob x v) :
    RelSV c (muMp M μ β) env' w ob' (s.at j) v := by
  unfold svFit at h
  split at h
  · rename_i g cs x
    split at h
    · rename_i hg
      simp only [beq_iff_eq] at hg
      obtain ⟨us, h3, h4⟩ := hr
      exact ⟨us, RelAts.fit hF h hs h3, by rw [hg]; exact h4⟩
    · cases h
  · rename_i id off id' off'
    split at h
    · rename_i hc
      simp only [Bool.and_eq_true, beq_iff_eq] at hc
      obtain ⟨rfl, rfl⟩ := hc
      intro cells ho
      obtain ⟨cells0, h1⟩ := hF.box _ _ ho
      exact hr _ h1
    · cases h
  · rename_i b off ks b' ver ll ix el off' ks'
    split at h
    · rename_i hc
      simp only [Bool.and_eq_true, beq_iff_eq] at hc
      obtain ⟨⟨hb, rfl⟩, hks⟩ := hc
      have hks' := AK.eqs_eq hks
      subst hks'
      simp only [Option.some.injEq] at h
      subst h
      have e1 := hs.one
      have hs2 : Sub env env' (j + 1) (ix :: (List.range ks.length).map fun i => Lf.v (el + i)) := hs.right (l := [ll]) (n := 1) rfl
      have e2 := hs2.one
      have hs3 : Sub env env' (j + 2) ((List.range ks.length).map fun i => Lf.v (el + i)) := hs2.right (l := [ix]) (n := 1) rfl
      obtain ⟨u, h1, bb, o, n, cap, es, i, kk, e, h3, h4, h5, h6, h7, h8, h9, h10⟩ := hr
      refine ⟨u, ?_, bb, o, n, cap, es, i, kk, e, h3, by rw [e1]; exact h4, by rw [e2]; exact h5, h6, h7, h8, fun q hq => ?_, h10⟩
      · unfold baseFit at hb
        split at hb
        · simp only [AtS.base, RelBase, e1]; exact h1
        · rename_i r r' _
          simp only [Bool.and_eq_true] at hb
          have he := srcIs_eq hb.1
          obtain ⟨l1, app1, g1⟩ := curVer_eq hb.2
          simp only [AtS.base]
          intro ver' l' app' ho
          refine ⟨Nat.zero_le _, fun _ => ?_⟩
          obtain ⟨_, h11 | ⟨q, v0, l0, h11, h12, h13, _⟩⟩ := hF.row _ _ _ _ ho
          · rw [he] at h11; cases h11.1
          · rw [he] at h11
            simp only [Option.some.injEq, Src.own.injEq] at h11
            subst h11
            rw [g1] at h12
            simp only [Option.some.injEq, SO.row.injEq] at h12
            obtain ⟨rfl, rfl, rfl⟩ := h12
            obtain ⟨g2, g3⟩ := (h1 _ _ _ g1).2 rfl
            refine ⟨by rw [h13, e1]; exact g2, by simp only [muMp, muHd, he]; exact g3⟩
        · rename_i r ks2 r' _ _ _
          simp only [Bool.and_eq_true] at hb
          have he := srcIs_eq hb.1
          obtain ⟨l1, app1, g1⟩ := curVer_eq hb.2
          simp only [AtS.base]
          refine ⟨?_, fun _ _ _ _ => Nat.zero_le _, trivial⟩
          intro ver' l' app' ho
          refine ⟨Nat.zero_le _, fun _ => ?_⟩
          obtain ⟨S, g2, g3⟩ := (h1.1 _ _ _ g1).2 rfl
          exact ⟨S, by rw [e1]; exact g2, by simp only [muMp, muPh, he]; exact g3⟩
        · cases hb
      · have := hs3 q (by simpa using hq)
        rw [this, ← h9 q hq]
        simp only [List.map_map, List.getElem?_map, List.getElem?_range hq, Option.map_some, Function.comp, Lf.ev, List.getD_eq_getElem?_getD]
        have : ∃ d, env[el + q]? = some d := by
          have hl : q < e.cells.length := by
            have := aksOk_length h8
            omega
          exact ⟨_, by rw [h9 q hq, List.getElem?_eq_getElem hl]⟩
        obtain ⟨d, hd⟩ := this
        simp [hd]
    · cases h
  · obtain ⟨vs, h1, h2⟩ := hr
    exact ⟨vs, h1, RelSCs.fit hF h hs h2⟩
  · cases h

theorem slFit_get : ∀ {l : List (Nat × SVS)} {ls : List Lf} {j t : Nat} {sv : SV}, slFit A μ β l = some ls → Sub env env' j ls → slAt j l t = some sv →
    ∃ x sA j' l', A.sl t = some ([], sA) ∧ svFit A.ob μ β x sA = some l' ∧ Sub env env' j' l' ∧ sv = x.at j'
  | [], _, _, _, _, _, _, h => by simp [slAt] at h
  | (s, x) :: r, ls, j, t, sv, hf, hs, h => by
    simp only [slFit] at hf
    split at hf
    · rename_i sA hA
      split at hf <;> simp only [Option.some.injEq, reduceCtorEq] at hf
      rename_i l ls' h1 h2
      subst hf
      simp only [slAt] at h
      split at h
      · rename_i e
        subst e
        simp only [Option.some.injEq] at h
        exact ⟨x, sA, j, l, hA, h1, hs.left, h.symm⟩
      · exact slFit_get h2 (hs.right (svFit_len h1)) h
    · cases hf

theorem rowsFit_get : ∀ {l : List (Nat × Bool × List AK)} {ls : List Lf} {j i : Nat} {x : SO}, rowsFit A μ l = some ls → Sub env env' j ls → rowsAt j l i = some x →
    ∃ app ks lf, (i, app, ks) ∈ l ∧ x = .row 0 lf app ∧ ((μ i = some .nil ∧ app = true ∧ lf.ev env' = .list ks []) ∨ ∃ q v0 l0, μ i = some (.own q) ∧ A.ob q = some (.row v0 l0 app) ∧ lf.ev env' = l0.ev env ∧ (app = true ∨ i = q))
  | [], _, _, _, _, _, _, h => by simp [rowsAt] at h
  | (k, app, ks) :: r, ls, j, i, x, hf, hs, h => by
    simp only [rowsFit] at hf
    have rcs : ∀ {l0 : Lf} {ls' : List Lf}, rowsFit A μ r = some ls' → ls = l0 :: ls' → i ≠ k → ∃ app' ks' lf, (i, app', ks') ∈ (k, app, ks) :: r ∧ x = .row 0 lf app' ∧ ((μ i = some .nil ∧ app' = true ∧ lf.ev env' = .list ks' []) ∨ ∃ q v0 l0, μ i = some (.own q) ∧ A.ob q = some (.row v0 l0 app') ∧ lf.ev env' = l0.ev env ∧ (app' = true ∨ i = q)) := by
      intro l0 ls' h1 h2 hne
      subst h2
      simp only [rowsAt, if_neg hne] at h
      obtain ⟨app', ks', lf, h3, h4⟩ := rowsFit_get h1 (hs.right (l := [l0]) (n := 1) rfl) h
      exact ⟨app', ks', lf, by simp [h3], h4⟩
    split at hf
    · rename_i he
      split at hf
      · rename_i happ
        simp only [Option.map_eq_some_iff] at hf
        obtain ⟨ls', h1, h2⟩ := hf
        by_cases e : i = k
        · subst e
          subst h2
          simp only [rowsAt, if_true, Option.some.injEq] at h
          exact ⟨app, ks, .v j, by simp, h.symm, .inl ⟨he, happ, by rw [hs.one]; rfl⟩⟩
        · exact rcs h1 h2.symm e
      · cases hf
    · rename_i q he
      split at hf
      · rename_i v0 l0 app0 hA
        split at hf
        · rename_i hc
          simp only [Bool.and_eq_true, beq_iff_eq, Bool.or_eq_true] at hc
          obtain ⟨rfl, hc⟩ := hc
          simp only [Option.map_eq_some_iff] at hf
          obtain ⟨ls', h1, h2⟩ := hf
          by_cases e : i = k
          · subst e
            subst h2
            simp only [rowsAt, if_true, Option.some.injEq] at h
            exact ⟨app, ks, .v j, by simp, h.symm, .inr ⟨q, v0, l0, he, hA, hs.one, hc⟩⟩
          · exact rcs h1 h2.symm e
        · cases hf
      · cases hf
    · cases hf

theorem rowsFit_len : ∀ {l : List (Nat × Bool × List AK)} {ls : List Lf}, rowsFit A μ l = some ls → ls.length = l.length
  | [], _, h => by simp only [rowsFit, Option.some.injEq] at h; subst h; rfl
  | (k, app, ks) :: r, ls, hf => by
    simp only [rowsFit] at hf
    split at hf
    · split at hf
      · simp only [Option.map_eq_some_iff] at hf
        obtain ⟨ls', h1, h2⟩ := hf
        subst h2
        simp [rowsFit_len h1]
      · cases hf
    · split at hf
      · split at hf
        · simp only [Option.map_eq_some_iff] at hf
          obtain ⟨ls', h1, h2⟩ := hf
          subst h2
          simp [rowsFit_len h1]
        · cases hf
      · cases hf
    · cases hf

theorem boxesFit_get {np : Nat} : ∀ {l : List (Nat × List AtS)} {ls : List Lf} {j i : Nat} {x : SO}, boxesFit A μ β np l = some ls → Sub env env' j ls → boxesAt j l i = some x →
    ∃ cs cells j' l', (i, cs) ∈ l ∧ x = .box (atsAt j' cs) ∧ A.ob (β i) = some (.box cells) ∧ atsFit A.ob μ cs cells = some l' ∧ Sub env env' j' l' ∧ (i = β i ∨ np ≤ i)
  | [], _, _, _, _, _, _, h => by simp [boxesAt] at h
  | (k, cs) :: r, ls, j, i, x, hf, hs, h => by
    simp only [boxesFit] at hf
    split at hf
    · rename_i cells hA
      split at hf
      · rename_i hc
        simp only [Bool.or_eq_true, beq_iff_eq, decide_eq_true_eq] at hc
        split at hf <;> simp only [Option.some.injEq, reduceCtorEq] at hf
        rename_i l ls' h1 h2
        subst hf
        simp only [boxesAt] at h
        split at h
        · rename_i e
          subst e
          simp only [Option.some.injEq] at h
          exact ⟨cs, cells, j, l, by simp, h.symm, hA, h1, hs.left, hc⟩
        · obtain ⟨cs', cells', j', l', g1, g2⟩ := boxesFit_get h2 (hs.right (atsFit_len h1)) h
          exact ⟨cs', cells', j', l', by simp [g1], g2⟩
      · cases hf
    · cases hf

theorem injRows_ne : ∀ {l : List (Nat × Bool × List AK)}, injRows μ l = true → ∀ x ∈ l, ∀ y ∈ l, x.1 ≠ y.1 → ∀ p q, μ x.1 = some (.own p) → μ y.1 = some (.own q) → p ≠ q
  | [], _, x, hx, _, _ => by cases hx
  | z :: r, h, x, hx, y, hy => by
    simp only [injRows, Bool.and_eq_true, List.all_eq_true] at h
    intro hne p q hp hq
    rcases List.mem_cons.1 hx with rfl | hx' <;> rcases List.mem_cons.1 hy with rfl | hy'
    · exact absurd rfl hne
    · have := h.1 y hy'
      rw [hp, hq] at this
      simpa using this
    · have := h.1 x hx'
      rw [hp, hq] at this
      simp only [bne_iff_ne, ne_eq] at this
      exact Ne.symm this
    · exact injRows_ne h.2 x hx' y hy' hne p q hp hq

theorem injBoxes_ne : ∀ {l : List (Nat × List AtS)}, injBoxes β l = true → ∀ x ∈ l, ∀ y ∈ l, x.1 ≠ y.1 → β x.1 ≠ β y.1
  | [], _, x, hx, _, _ => by cases hx
  | z :: r, h, x, hx, y, hy => by
    simp only [injBoxes, Bool.and_eq_true, List.all_eq_true, bne_iff_ne, ne_eq] at h
    intro hne
    rcases List.mem_cons.1 hx with rfl | hx' <;> rcases List.mem_cons.1 hy with rfl | hy'
    · exact absurd rfl hne
    · exact h.1 y hy'
    · exact fun e => h.1 x hx' e.symm
    · exact injBoxes_ne h.2 x hx' y hy' hne

theorem atsFit_isSc : ∀ {ss : List AtS} {xs : List At} {ls : List Lf} {j : Nat}, atsFit A.ob μ ss xs = some ls → ∀ (i : Nat) (x : At), xs[i]? = some x → x.isSc = false → ∃ y, (atsAt j ss)[i]? = some y ∧ y.isSc = false
  | [], [], _, _, _, i, x, hx, _ => by simp at hx
  | [], _ :: _, _, _, h, _, _, _, _ => by simp [atsFit] at h
  | _ :: _, [], _, _, h, _, _, _, _ => by simp [atsFit] at h
  | s :: ss, a :: as, ls, j, h, i, x, hx, hsc => by
    simp only [atsFit] at h
    split at h <;> simp only [Option.some.injEq, reduceCtorEq] at h
    rename_i l ls' h1 h2
    cases i with
    | zero =>
      simp only [List.getElem?_cons_zero, Option.some.injEq] at hx
      subst hx
      refine ⟨s.at j, by simp [atsAt], ?_⟩
      cases s <;> cases a <;> simp_all [atFit, AtS.at, At.isSc]
    | succ i =>
      simp only [List.getElem?_cons_succ, atsAt] at hx ⊢
      exact atsFit_isSc h2 i x hx hsc

theorem nfFit_rel {np : Nat} {nf : NF} {ls : List Lf} (hfit : nfFit A μ β np nf = some ls) (hpb : ∀ x, np ≤ x → c.parB x = none) (hR : Rel c nt M env A a w) :
    Rel c nt (muMp M μ β) (ls.map (Lf.ev env)) nf.fs a w := by
  unfold nfFit at hfit
  split at hfit
  case isFalse => cases hfit
  rename_i hinj
  simp only [Bool.and_eq_true] at hinj
  split at hfit <;> simp only [Option.some.injEq, reduceCtorEq] at hfit
  rename_i l1 l2 l3 h1 h2 h3
  have hsub : Sub env (ls.map (Lf.ev env)) 0 ls := fun i hi => by rw [Nat.zero_add]
  generalize ls.map (Lf.ev env) = env' at hsub ⊢
  subst hfit
  have n1 : l1.length = slW nf.sl := by
    have : ∀ {l : List (Nat × SVS)} {ls : List Lf}, slFit A μ β l = some ls → ls.length = slW l := by
      intro l
      induction l with
      | nil => intro ls h; simp only [slFit, Option.some.injEq] at h; subst h; rfl
      | cons x r ih =>
        intro ls h
        simp only [slFit] at h
        split at h
        · split at h <;> simp only [Option.some.injEq, reduceCtorEq] at h
          rename_i g1 g2
          subst h
          simp only [List.length_append, svFit_len g1, ih g2, slW]
        · cases h
    exact this h1
  have n2 := rowsFit_len h2
  have s1 : Sub env env' 0 l1 := hsub.left.left
  have s2 : Sub env env' (slW nf.sl) l2 := by have := hsub.left.right n1; simpa using this
  have s3 : Sub env env' (slW nf.sl + nf.rows.length) l3 := by
    have := hsub.right (n := slW nf.sl + nf.rows.length) (by rw [List.length_append, n1, n2])
    simpa using this
  have obR : ∀ i ver l app, nf.fs.ob i = some (.row ver l app) → rowsAt (slW nf.sl) nf.rows i = some (.row ver l app) := by
    intro i ver l app h
    simp only [NF.fs] at h
    split at h
    · rename_i e; rw [e]; exact h
    · obtain ⟨_, _, _, _, _, h4, _⟩ := boxesFit_get h3 s3 h
      cases h4
  have obB : ∀ i cells, nf.fs.ob i = some (.box cells) → boxesAt (slW nf.sl + nf.rows.length) nf.boxes i = some (.box cells) := by
    intro i cells h
    simp only [NF.fs] at h
    split at h
    · rename_i e
      obtain ⟨_, _, _, _, h4, _⟩ := rowsFit_get h2 s2 e
      rw [h4] at h; cases h
    · exact h
  have hF : From A env env' μ β nf.fs.ob := by
    refine ⟨fun r ver l app h => ?_, fun id cells h => ?_⟩
    · obtain ⟨app', ks, lf, g1, g2, g3⟩ := rowsFit_get h2 s2 (obR _ _ _ _ h)
      simp only [SO.row.injEq] at g2
      obtain ⟨rfl, rfl, rfl⟩ := g2
      refine ⟨rfl, g3.imp (fun h => ⟨h.1, h.2.1, ks, h.2.2⟩) id⟩
    · obtain ⟨cs, cells', j', l', g1, g2, g3, _⟩ := boxesFit_get h3 s3 (obB _ _ h)
      exact ⟨cells', g3⟩
  refine ⟨hR.size, hR.defs, fun s gs sv hs => ?_, fun r ver l app hr => ?_, fun id cells hb => ?_, fun i j x y hi hj hij => ?_, fun i j vi li ai vj lj aj hi hj hij => ?_, fun i j x vj lj aj hi hj => ?_, hR.keep⟩
  · simp only [NF.fs, Option.map_eq_some_iff, Prod.mk.injEq] at hs
    obtain ⟨sv', g1, rfl, rfl⟩ := hs
    obtain ⟨x, sA, j', l', g2, g3, g4, rfl⟩ := slFit_get h1 s1 g1
    obtain ⟨q1, q2, _⟩ := hR.slots _ _ _ g2
    refine ⟨q1, fun _ => RelSV.fit hF g3 g4 (q2 (by simp [GH])), fun hg => absurd (by simp [GH]) hg⟩
  · obtain ⟨_, g | ⟨q, v0, l0, g1, g2, g3, g4⟩⟩ := hF.row _ _ _ _ hr
    · obtain ⟨g1, g2, ks, g3⟩ := g
      have hnil : (muMp M μ β).hd r = .slice none 0 0 := by simp [muMp, muHd, g1]
      refine ⟨⟨[], ?_, .nil, by simp⟩, ?_, fun _ => ⟨⟨.inl hnil, by rw [hnil]; exact Inn.nil⟩, by simp [muMp, muPh, g1]⟩, fun h => by rw [g2] at h; cases h⟩
      · simp only [muMp, muHd, g1, g3]; exact .atom (.nil _) .nil
      · simp [muMp, muPh, g1]
    · have := hR.rows _ _ _ _ g2
      simp only [RowOk, muMp, muHd, muPh, g1, g3] at this ⊢
      obtain ⟨q1, q2, q3, q4⟩ := this
      refine ⟨q1, q2, q3, fun ha => ?_⟩
      rcases g4 with g4 | g4
      · rw [ha] at g4; cases g4
      · rw [g4]; exact q4 ha
  · obtain ⟨cs, cells', j', l', g1, g2, g3, g4, g5, g6⟩ := boxesFit_get h3 s3 (obB _ _ hb)
    simp only [SO.box.injEq] at g2
    subst g2
    obtain ⟨us, E, q1, q2, q3, q4⟩ := hR.boxes _ _ g3
    refine ⟨us, E, q1, RelAts.fit hF g4 g5 q2, q3, fun b t hp => ?_⟩
    rcases g6 with g6 | g6
    · obtain ⟨k1, k2⟩ := q4 b t (by rw [← g6]; exact hp)
      refine ⟨k1, fun i u hi => ?_⟩
      obtain ⟨k3, x, k4, k5⟩ := k2 i u hi
      exact ⟨k3, atsFit_isSc g4 i x k4 k5⟩
    · rw [hpb _ g6] at hp; cases hp
  · obtain ⟨cs, cells, _, _, g1, _, g3, _⟩ := boxesFit_get h3 s3 (obB _ _ hi)
    obtain ⟨cs', cells', _, _, g1', _, g3', _⟩ := boxesFit_get h3 s3 (obB _ _ hj)
    exact hR.dBB _ _ _ _ g3 g3' (injBoxes_ne hinj.2 _ g1 _ g1' hij)
  · obtain ⟨app', ks, lf, g1, _, g3⟩ := rowsFit_get h2 s2 (obR _ _ _ _ hi)
    obtain ⟨app2, ks2, lf2, k1, _, k3⟩ := rowsFit_get h2 s2 (obR _ _ _ _ hj)
    rcases g3 with ⟨g3, _⟩ | ⟨q, v0, l0, g3, g4, _⟩
    · simp [muMp, muPh, g3]
    · rcases k3 with ⟨k3, _⟩ | ⟨q', v0', l0', k3, k4, _⟩
      · simp [muMp, muPh, k3]
      · simp only [muMp, muPh, g3, k3]
        exact hR.dRR _ _ _ _ _ _ _ _ g4 k4 (injRows_ne hinj.1 _ g1 _ k1 hij _ _ g3 k3)
  · obtain ⟨cs, cells, _, _, g1, _, g3, _⟩ := boxesFit_get h3 s3 (obB _ _ hi)
    obtain ⟨app2, ks2, lf2, k1, _, k3⟩ := rowsFit_get h2 s2 (obR _ _ _ _ hj)
    rcases k3 with ⟨k3, _⟩ | ⟨q', v0', l0', k3, k4, _⟩
    · simp [muMp, muPh, k3]
    · simp only [muMp, muPh, k3]
      exact hR.dBR _ _ _ _ _ _ g3 k4

end

end Go.Mw

namespace Go.Mw
open Go.RowKit

inductive L where
  | skip
  | rg (ins : List In)
  | tup (ls : List Lf)
  | seq (a b : L)
  | ite (l : Lf) (a b : L)
  | block (id : Nat) (b : L)
  | loop (b : L)
  | exit (id : Nat)
  | ret (ls : List Lf)

inductive LX where
  | normal
  | exit (id : Nat)
  | ret

def wpL : L → (LX → List V → Prop) → List V → Prop
  | .skip, Q, e => Q .normal e
  | .rg ins, Q, e => ∃ e', runIns ins e = some e' ∧ Q .normal e'
  | .tup ls, Q, e => Q .normal (ls.map (Lf.ev e))
  | .seq a b, Q, e => wpL a (fun x e' => match x with
    | .normal => wpL b Q e'
    | x => Q x e') e
  | .ite l a b, Q, e => (l.ev e = .bool true ∧ wpL a Q e) ∨ (l.ev e = .bool false ∧ wpL b Q e)
  | .block id b, Q, e => wpL b (fun x e' => match x with
    | .exit id' => if id' = id then Q .normal e' else Q x e'
    | x => Q x e') e
  | .loop b, Q, e => ∃ (I : List V → Prop) (m : List V → Nat), I e ∧ ∀ e, I e → wpL b (fun x e' => match x with
    | .normal => I e' ∧ m e' < m e
    | x => Q x e') e
  | .exit id, Q, e => Q (.exit id) e
  | .ret ls, Q, e => Q .ret (ls.map (Lf.ev e))

theorem wpL_mono : ∀ {l : L} {Q Q' : LX → List V → Prop} {e : List V}, wpL l Q e → (∀ x e, Q x e → Q' x e) → wpL l Q' e
  | .skip, _, _, _, h, hq => hq _ _ h
  | .rg _, _, _, _, ⟨e', h1, h2⟩, hq => ⟨e', h1, hq _ _ h2⟩
  | .tup _, _, _, _, h, hq => hq _ _ h
  | .seq a b, _, _, _, h, hq => wpL_mono (l := a) h fun x e h => by
    cases x with
    | normal => exact wpL_mono (l := b) h hq
    | exit id => exact hq _ _ h
    | ret => exact hq _ _ h
  | .ite _ a b, _, _, _, h, hq => h.imp (fun h => ⟨h.1, wpL_mono (l := a) h.2 hq⟩) (fun h => ⟨h.1, wpL_mono (l := b) h.2 hq⟩)
  | .block id b, _, _, _, h, hq => wpL_mono (l := b) h fun x e h => by
    cases x with
    | normal => exact hq _ _ h
    | exit id' =>
      simp only at h ⊢
      split
      · rename_i e; rw [if_pos e] at h; exact hq _ _ h
      · rename_i e; rw [if_neg e] at h; exact hq _ _ h
    | ret => exact hq _ _ h
  | .loop b, _, _, _, ⟨I, m, h1, h2⟩, hq => ⟨I, m, h1, fun e he => wpL_mono (l := b) (h2 e he) fun x e h => by
    cases x with
    | normal => exact h
    | exit id => exact hq _ _ h
    | ret => exact hq _ _ h⟩
  | .exit _, _, _, _, h, hq => hq _ _ h
  | .ret _, _, _, _, h, hq => hq _ _ h


structure St where
  A : FS
  fid : Nat
  nv : Nat

def NF.st (nf : NF) : St := ⟨nf.fs, nf.fid, nf.width⟩

def atSIds : List AtS → List Nat
  | [] => []
  | .own r :: as => r :: atSIds as
  | .inn r _ :: as => r :: atSIds as
  | _ :: as => atSIds as

def SVS.ids : SVS → List Nat
  | .sc _ cs => atSIds cs
  | .ptr id _ => [id]
  | .elem b _ _ => atSIds [b]
  | .tup cs => cs.flatMap fun c => atSIds c.2

def NF.ids (nf : NF) : List Nat := nf.sl.flatMap (fun x => x.2.ids) ++ nf.rows.map (·.1) ++ nf.boxes.flatMap fun x => x.1 :: atSIds x.2

def NF.ok (np : Nat) (nf : NF) : Bool := np ≤ nf.fid && nf.ids.all (· < nf.fid)

structure Inv (np : Nat) (st : St) (env : List V) : Prop where
  len : env.length = st.nv
  sc : Scoped st.A st.nv
  fr : Fresh st.A (fun x => st.fid ≤ x)
  np : np ≤ st.fid


def uniAt (m : List (Nat × Src)) : AtS → At → List (Nat × Src)
  | .own r, .own q => (r, .own q) :: m
  | .own r, .nil => (r, .nil) :: m
  | .inn r _, .inn q _ _ _ => (r, .own q) :: m
  | _, _ => m

def uniAts (m : List (Nat × Src)) : List AtS → List At → List (Nat × Src)
  | s :: ss, a :: as => uniAts (uniAt m s a) ss as
  | _, _ => m

def uniScs (m : List (Nat × Src)) : List (Bool × List AtS) → List SC → List (Nat × Src)
  | s :: ss, c :: cs => uniScs (uniAts m s.2 c.cs) ss cs
  | _, _ => m

def uniSl (A : FS) : List (Nat × SVS) → List (Nat × Src) × List (Nat × Nat) → List (Nat × Src) × List (Nat × Nat)
  | [], m => m
  | (s, x) :: r, m => uniSl A r (match x, A.sl s with
    | .sc _ cs, some (_, .sc c) => (uniAts m.1 cs c.cs, m.2)
    | .ptr id _, some (_, .ptr id' _) => (m.1, (id, id') :: m.2)
    | .elem b _ _, some (_, .elem b' _ _ _ _ _ _) => (match b, b' with
      | .own p, .own q => (p, .own q) :: m.1
      | .inn p _, .inn q _ _ _ => (p, .own q) :: m.1
      | _, _ => m.1, m.2)
    | .tup ss, some (_, .tup cs) => (uniScs m.1 ss cs, m.2)
    | _, _ => m)

def lookD (β : List (Nat × Nat)) (i : Nat) : Nat := (β.lookup i).getD i

def uniBoxes (A : FS) (β : List (Nat × Nat)) : List (Nat × List AtS) → List (Nat × Src) → List (Nat × Src)
  | [], m => m
  | (i, cs) :: r, m => uniBoxes A β r (match A.ob (lookD β i) with
    | some (.box cells) => uniAts m cs cells
    | _ => m)

def fitTo (np : Nat) (nf : NF) (A : FS) : Option (List Lf) :=
  let m := uniSl A nf.sl ([], [])
  let μ := uniBoxes A m.2 nf.boxes m.1
  nfFit A (fun i => match μ.lookup i with
    | some s => some s
    | none => if i < np then some (.own i) else none) (lookD m.2) np nf

def retL : List (Lf × Lf) → List Lf → L
  | [], ls => .ret ls
  | c :: cs, ls => .seq (.rg ((c :: cs).map fun c => ⟨[], .chkLe, [c.1, c.2], 0⟩)) (.ret ls)

def CkOk (env : List V) (ck : Lf × Lf) : Prop := ∃ k1 a k2 b, ck.1.ev env = .int k1 a ∧ ck.2.ev env = .int k2 b ∧ a ≤ b

theorem chk_run {env : List V} {x y : Lf} {vs : List V} (h : (⟨[], .chkLe, [x, y], 0⟩ : In).run env = some vs) : vs = [] ∧ CkOk env (x, y) := by
  simp only [In.run, gsOk, if_true, List.map_cons, List.map_nil] at h
  generalize hx : x.ev env = vx at h
  generalize hy : y.ev env = vy at h
  cases vx <;> cases vy <;> simp only [Prim.run, reduceCtorEq] at h
  rename_i k1 a k2 b
  by_cases hab : a ≤ b
  · rw [if_pos hab] at h
    simp only [List.length_nil, beq_self_eq_true, if_true, Option.some.injEq] at h
    exact ⟨h.symm, k1, a, k2, b, hx, hy, hab⟩
  · rw [if_neg hab] at h; cases h

theorem chks_run : ∀ {cs : List (Lf × Lf)} {env e' : List V}, runIns (cs.map fun c => ⟨[], .chkLe, [c.1, c.2], 0⟩) env = some e' → e' = env ∧ ∀ ck ∈ cs, CkOk env ck
  | [], env, e', h => by simp only [List.map_nil, runIns, Option.some.injEq] at h; exact ⟨h.symm, by simp⟩
  | c :: cs, env, e', h => by
    simp only [List.map_cons, runIns] at h
    split at h
    · rename_i vs hv
      obtain ⟨rfl, h1⟩ := chk_run hv
      rw [List.append_nil] at h
      obtain ⟨h2, h3⟩ := chks_run h
      refine ⟨h2, fun ck hck => ?_⟩
      rcases List.mem_cons.1 hck with rfl | hck
      · exact h1
      · exact h3 ck hck
    · cases h

theorem retL_wp {cs : List (Lf × Lf)} {ls : List Lf} {Q : LX → List V → Prop} {env : List V} (h : wpL (retL cs ls) Q env) : (∀ ck ∈ cs, CkOk env ck) ∧ Q .ret (ls.map (Lf.ev env)) := by
  cases cs with
  | nil => exact ⟨by simp, h⟩
  | cons c cs =>
    obtain ⟨e', h1, h2⟩ := h
    obtain ⟨rfl, h3⟩ := chks_run h1
    exact ⟨h3, h2⟩


section
variable (P : Program) (sg : List (Nat × Sig)) (nt np : Nat) (retOf : FS → Option (List (Lf × Lf) × List Lf))

def cmp : Code → (Nat → Option NF) → St → List NF → Option (L × Option St × List NF)
  | .skip, _, st, hs => some (.skip, some st, hs)
  | .region _ ops draw, _, st, hs =>
    match rgn P sg nt ops draw st.A st.fid st.nv with
    | some es => some (.rg (es.filterMap En.ins), some ⟨es.foldl En.up st.A, endFid st.fid es, st.nv + outSum es⟩, hs)
    | none => none
  | .seq a b, tg, st, hs =>
    match cmp a tg st hs with
    | some (la, some sa, h1) =>
      match cmp b tg sa h1 with
      | some (lb, e, h2) => some (.seq la lb, e, h2)
      | none => none
    | some (la, none, h1) => some (la, none, h1)
    | none => none
  | .cond x a b, tg, st, hs =>
    match (look st.A.sl [] [] x).bind SV.scl with
    | none => none
    | some l =>
      match cmp a tg st hs with
      | none => none
      | some (la, ea, h1) =>
        match cmp b tg st h1 with
        | none => none
        | some (lb, eb, h2) =>
          match ea, eb with
          | none, e => some (.ite l la lb, e, h2)
          | some sa, none => some (.ite l la lb, some sa, h2)
          | some sa, some sb =>
            match h2 with
            | [] => none
            | nf :: h3 =>
              match fitTo np nf sa.A, fitTo np nf sb.A with
              | some σa, some σb => if nf.ok np then some (.ite l (.seq la (.tup σa)) (.seq lb (.tup σb)), some nf.st, h3) else none
              | _, _ => none
  | .block id b, tg, st, hs =>
    match hs with
    | [] => none
    | nf :: h1 =>
      if nf.ok np then
        match cmp b (fun i => if i = id then some nf else tg i) st h1 with
        | some (lb, none, h2) => some (.block id lb, some nf.st, h2)
        | some (lb, some sb, h2) =>
          match fitTo np nf sb.A with
          | some σ => some (.block id (.seq lb (.tup σ)), some nf.st, h2)
          | none => none
        | none => none
      else none
  | .loop b, tg, st, hs =>
    match hs with
    | [] => none
    | nf :: h1 =>
      if nf.ok np then
        match fitTo np nf st.A with
        | none => none
        | some σ0 =>
          match cmp b tg nf.st h1 with
          | some (lb, none, h2) => some (.seq (.tup σ0) (.loop lb), none, h2)
          | some (lb, some sb, h2) =>
            match fitTo np nf sb.A with
            | some σ => some (.seq (.tup σ0) (.loop (.seq lb (.tup σ))), none, h2)
            | none => none
          | none => none
      else none
  | .exit id, tg, st, hs =>
    match tg id with
    | some nf =>
      match fitTo np nf st.A with
      | some σ => some (.seq (.tup σ) (.exit id), none, hs)
      | none => none
    | none => none
  | .ret, _, st, hs =>
    match retOf st.A with
    | some ls => some (retL ls.1 ls.2, none, hs)
    | none => none
  | _, _, _, _ => none

end

end Go.Mw

namespace Go.Mw
open Go.RowKit


theorem Lf.lt_mono {l : Lf} {m k : Nat} (h : l.lt m = true) (hk : m ≤ k) : l.lt k = true := by
  cases l with
  | v i => simp only [Lf.lt, decide_eq_true_eq] at h ⊢; omega
  | k c => rfl

theorem AtS.at_lt {s : AtS} {j n : Nat} (h : j + s.width ≤ n) : (s.at j).lt n = true := by
  cases s <;> simp only [AtS.at, At.lt, AtS.width, Lf.lt, pthLt, Bool.and_true, decide_eq_true_eq] at h ⊢ <;> omega

theorem atsAt_lt : ∀ {ss : List AtS} {j n : Nat}, j + atsW ss ≤ n → atsLt n (atsAt j ss) = true
  | [], _, _, _ => rfl
  | s :: ss, j, n, h => by
    simp only [atsW] at h
    simp only [atsAt, atsLt, Bool.and_eq_true]
    exact ⟨AtS.at_lt (by omega), atsAt_lt (by omega)⟩

theorem scsAt_lt : ∀ {ss : List (Bool × List AtS)} {j n : Nat}, j + scsW ss ≤ n → ((scsAt j ss).all fun c => atsLt n c.cs) = true
  | [], _, _, _ => rfl
  | s :: ss, j, n, h => by
    simp only [scsW] at h
    simp only [scsAt, List.all_cons, Bool.and_eq_true]
    exact ⟨atsAt_lt (by omega), scsAt_lt (by omega)⟩

theorem SVS.at_lt {s : SVS} {j n : Nat} (h : j + s.width ≤ n) : (s.at j).lt n = true := by
  cases s with
  | sc g cs => exact atsAt_lt h
  | ptr id off => rfl
  | elem b off ks =>
    simp only [SVS.width] at h
    simp only [SVS.at, SV.lt, Bool.and_eq_true, decide_eq_true_eq]
    refine ⟨⟨⟨?_, by simp [Lf.lt]; omega⟩, by simp [Lf.lt]; omega⟩, by omega⟩
    cases b <;> simp [AtS.base, AtS.at, At.lt, Lf.lt, pthLt] <;> omega
  | tup cs => exact scsAt_lt h

theorem slAt_get : ∀ {l : List (Nat × SVS)} {j t : Nat} {sv : SV}, slAt j l t = some sv → ∃ x j', (t, x) ∈ l ∧ sv = x.at j' ∧ j ≤ j' ∧ j' + x.width ≤ j + slW l
  | [], _, _, _, h => by simp [slAt] at h
  | (s, x) :: r, j, t, sv, h => by
    simp only [slAt] at h
    split at h
    · rename_i e
      subst e
      simp only [Option.some.injEq] at h
      exact ⟨x, j, by simp, h.symm, Nat.le_refl _, by simp only [slW]; omega⟩
    · obtain ⟨y, j', h1, h2, h3, h4⟩ := slAt_get h
      exact ⟨y, j', by simp [h1], h2, by omega, by simp only [slW]; omega⟩

theorem rowsAt_get : ∀ {l : List (Nat × Bool × List AK)} {j i : Nat} {x : SO}, rowsAt j l i = some x → i ∈ l.map (·.1) ∧ ∃ app j', x = .row 0 (.v j') app ∧ j' < j + l.length
  | [], _, _, _, h => by simp [rowsAt] at h
  | (k, app, ks) :: r, j, i, x, h => by
    simp only [rowsAt] at h
    split at h
    · rename_i e
      subst e
      simp only [Option.some.injEq] at h
      exact ⟨by simp, app, j, h.symm, by simp⟩
    · obtain ⟨h1, app', j', h2, h3⟩ := rowsAt_get h
      exact ⟨by simp only [List.map_cons, List.mem_cons]; exact .inr h1, app', j', h2, by simp only [List.length_cons]; omega⟩

theorem boxesAt_get : ∀ {l : List (Nat × List AtS)} {j i : Nat} {x : SO}, boxesAt j l i = some x → ∃ cs j', (i, cs) ∈ l ∧ x = .box (atsAt j' cs) ∧ j' + atsW cs ≤ j + boxesW l
  | [], _, _, _, h => by simp [boxesAt] at h
  | (k, cs) :: r, j, i, x, h => by
    simp only [boxesAt] at h
    split at h
    · rename_i e
      subst e
      simp only [Option.some.injEq] at h
      exact ⟨cs, j, by simp, h.symm, by simp only [boxesW]; omega⟩
    · obtain ⟨cs', j', h1, h2, h3⟩ := boxesAt_get h
      exact ⟨cs', j', by simp [h1], h2, by simp only [boxesW]; omega⟩

theorem atsAt_men : ∀ {ss : List AtS} {j x : Nat}, atsMen (atsAt j ss) x → x ∈ atSIds ss
  | [], _, _, ⟨_, h, _⟩ => by cases h
  | s :: ss, j, x, ⟨b, hb, hx⟩ => by
    simp only [atsAt, List.mem_cons] at hb
    rcases hb with rfl | hb
    · cases s <;> simp_all [AtS.at, At.men, atSIds]
    · have := atsAt_men ⟨b, hb, hx⟩
      cases s <;> simp [atSIds, this]

theorem scsAt_men : ∀ {ss : List (Bool × List AtS)} {j x : Nat}, (∃ c ∈ scsAt j ss, atsMen c.cs x) → x ∈ ss.flatMap fun c => atSIds c.2
  | [], _, _, ⟨_, h, _⟩ => by cases h
  | s :: ss, j, x, ⟨b, hb, hx⟩ => by
    simp only [scsAt, List.mem_cons] at hb
    simp only [List.flatMap_cons, List.mem_append]
    rcases hb with rfl | hb
    · exact .inl (atsAt_men hx)
    · exact .inr (scsAt_men ⟨b, hb, hx⟩)

theorem SVS.at_men {s : SVS} {j x : Nat} (h : (s.at j).men x) : x ∈ s.ids := by
  cases s with
  | sc g cs => exact atsAt_men h
  | ptr id off => simp only [SVS.at, SV.men] at h; simp [SVS.ids, h]
  | elem b off ks => cases b <;> simp_all [SVS.at, SV.men, AtS.base, AtS.at, At.men, SVS.ids, atSIds]
  | tup cs => exact scsAt_men h

theorem NF.inv {np : Nat} {nf : NF} (h : nf.ok np = true) {env : List V} (hl : env.length = nf.width) : Inv np nf.st env := by
  simp only [NF.ok, Bool.and_eq_true, decide_eq_true_eq, List.all_eq_true] at h
  obtain ⟨hnp, hids⟩ := h
  have idS : ∀ {t : Nat} {x : SVS}, (t, x) ∈ nf.sl → ∀ y ∈ x.ids, y < nf.fid := fun hm y hy => hids y (by
    simp only [NF.ids, List.mem_append, List.mem_flatMap]; exact .inl (.inl ⟨_, hm, hy⟩))
  have idR : ∀ {i : Nat}, i ∈ nf.rows.map (·.1) → i < nf.fid := fun hm => hids _ (by simp only [NF.ids, List.mem_append]; exact .inl (.inr hm))
  have idB : ∀ {i : Nat} {cs : List AtS}, (i, cs) ∈ nf.boxes → ∀ y ∈ i :: atSIds cs, y < nf.fid := fun hm y hy => hids y (by
    simp only [NF.ids, List.mem_append, List.mem_flatMap]; exact .inr ⟨_, hm, hy⟩)
  have obC : ∀ i x, nf.fs.ob i = some x → rowsAt (slW nf.sl) nf.rows i = some x ∨ boxesAt (slW nf.sl + nf.rows.length) nf.boxes i = some x := by
    intro i x hx
    simp only [NF.fs] at hx
    split at hx
    · rename_i e; simp only [Option.some.injEq] at hx; subst hx; exact .inl e
    · exact .inr hx
  refine ⟨hl, ⟨fun s gs sv hs => ?_, fun i x hx => ?_⟩, ⟨fun s gs sv hs x hx hq => ?_, fun id cells hb x hx hq => ?_, fun x hq => ?_⟩, hnp⟩
  · simp only [NF.st, NF.fs, Option.map_eq_some_iff, Prod.mk.injEq] at hs
    obtain ⟨sv', g1, rfl, rfl⟩ := hs
    obtain ⟨y, j', h1, rfl, _, h4⟩ := slAt_get g1
    exact ⟨rfl, SVS.at_lt (by show _ ≤ nf.width; unfold NF.width; omega)⟩
  · rcases obC i x hx with h | h
    · obtain ⟨_, app, j', rfl, h2⟩ := rowsAt_get h
      simp only [SO.lt, Lf.lt, decide_eq_true_eq]
      show j' < nf.width
      unfold NF.width; omega
    · obtain ⟨cs, j', _, rfl, h2⟩ := boxesAt_get h
      exact atsAt_lt (by show _ ≤ nf.width; unfold NF.width; omega)
  · simp only [NF.st, NF.fs, Option.map_eq_some_iff, Prod.mk.injEq] at hs hq
    obtain ⟨sv', g1, rfl, rfl⟩ := hs
    obtain ⟨y, j', h1, rfl, _, h4⟩ := slAt_get g1
    have := idS h1 x (SVS.at_men hx)
    omega
  · simp only [NF.st] at hq
    rcases obC id _ hb with h | h
    · obtain ⟨_, app, j', h1, h2⟩ := rowsAt_get h
      cases h1
    · obtain ⟨cs, j', h1, h2, h3⟩ := boxesAt_get h
      simp only [SO.box.injEq] at h2
      subst h2
      have := idB h1 x (List.mem_cons_of_mem _ (atsAt_men hx))
      omega
  · simp only [NF.st] at hq ⊢
    cases hob : nf.fs.ob x with
    | none => rfl
    | some y =>
      rcases obC x y hob with h | h
      · have := idR (rowsAt_get h).1
        omega
      · obtain ⟨cs, j', h1, _⟩ := boxesAt_get h
        have := idB h1 x (by simp)
        omega

theorem nfFit_len {A : FS} {μ : Nat → Option Src} {β : Nat → Nat} {np : Nat} {nf : NF} {ls : List Lf} (h : nfFit A μ β np nf = some ls) : ls.length = nf.width := by
  unfold nfFit at h
  split at h
  · split at h <;> simp only [Option.some.injEq, reduceCtorEq] at h
    rename_i l1 l2 l3 h1 h2 h3
    subst h
    have n1 : ∀ {l : List (Nat × SVS)} {ls : List Lf}, slFit A μ β l = some ls → ls.length = slW l := by
      intro l
      induction l with
      | nil => intro ls h; simp only [slFit, Option.some.injEq] at h; subst h; rfl
      | cons x r ih =>
        intro ls h
        simp only [slFit] at h
        split at h
        · split at h <;> simp only [Option.some.injEq, reduceCtorEq] at h
          rename_i g1 g2
          subst h
          simp only [List.length_append, svFit_len g1, ih g2, slW]
        · cases h
    have n3 : ∀ {l : List (Nat × List AtS)} {ls : List Lf}, boxesFit A μ β np l = some ls → ls.length = boxesW l := by
      intro l
      induction l with
      | nil => intro ls h; simp only [boxesFit, Option.some.injEq] at h; subst h; rfl
      | cons x r ih =>
        intro ls h
        simp only [boxesFit] at h
        split at h
        · split at h
          · split at h <;> simp only [Option.some.injEq, reduceCtorEq] at h
            rename_i g1 g2
            subst h
            simp only [List.length_append, atsFit_len g1, ih g2, boxesW]
          · cases h
        · cases h
    simp only [List.length_append, n1 h1, rowsFit_len h2, n3 h3, NF.width]
  · cases h

section
variable {P : Program} {sg : List (Nat × Sig)} {nt np : Nat} {retOf : FS → Option (List (Lf × Lf) × List Lf)} {c : Cx}

theorem fitTo_rel {nf : NF} {A : FS} {σ : List Lf} (h : fitTo np nf A = some σ) (hok : nf.ok np = true) (hpb : ∀ x, np ≤ x → c.parB x = none) {M : Mp} {env : List V} {a : Act} {w : World} (hR : Rel c nt M env A a w) :
    Inv np nf.st (σ.map (Lf.ev env)) ∧ ∃ M', Rel c nt M' (σ.map (Lf.ev env)) nf.st.A a w :=
  ⟨NF.inv hok (by rw [List.length_map]; exact nfFit_len h), _, nfFit_rel h hpb hR⟩

def RetR (c : Cx) (nt : Nat) (retOf : FS → Option (List (Lf × Lf) × List Lf)) (outs : List V) (a : Act) (w : World) : Prop :=
  ∃ (M : Mp) (env : List V) (A : FS) (ls : List (Lf × Lf) × List Lf), Rel c nt M env A a w ∧ retOf A = some ls ∧ (∀ ck ∈ ls.1, CkOk env ck) ∧ outs = ls.2.map (Lf.ev env)

theorem cmp_sound (hnpk : npK ≤ np) (hpk : ∀ x, npK ≤ x → c.parB x = none ∧ c.par x = none) (hm : P.follows .mixedOrders = true) (hsg : ∀ f s, sg.lookup f = some s → Contract c.G P f s) (hpb : ∀ x, np ≤ x → c.parB x = none) : ∀ (code : Code) (tg : Nat → Option NF) (st : St) (hs hs' : List NF) (l : L) (e : Option St),
    cmp P sg nt np retOf code tg st hs = some (l, e, hs') → (∀ i nf, tg i = some nf → nf.ok np = true) → ∀ (env : List V) (M : Mp) (a : Act) (w : World), Inv np st env → Rel c nt M env st.A a w →
    ∀ (Q : Exit → Act → World → Prop) (QL : LX → List V → Prop), wpL l QL env →
    (∀ st' env' M' a' w', e = some st' → Inv np st' env' → Rel c nt M' env' st'.A a' w' → QL .normal env' → Q .normal a' w') →
    (∀ id nf env' M' a' w', tg id = some nf → Inv np nf.st env' → Rel c nt M' env' nf.st.A a' w' → QL (.exit id) env' → Q (.exit id) a' w') →
    (∀ outs a' w', RetR c nt retOf outs a' w' → QL .ret outs → Q .ret a' w') → code.wp P Q a w := by
  intro code
  induction code with
  | skip =>
    intro tg st hs hs' l e h htg env M a w hI hR Q QL hl hN hX hT
    simp only [cmp, Option.some.injEq, Prod.mk.injEq] at h
    obtain ⟨rfl, rfl, rfl⟩ := h
    exact wp_skip (hN _ _ _ _ _ rfl hI hR hl)
  | region id ops draw =>
    intro tg st hs hs' l e h htg env M a w hI hR Q QL hl hN hX hT
    simp only [cmp] at h
    split at h <;> simp only [Option.some.injEq, Prod.mk.injEq, reduceCtorEq] at h
    rename_i es hrg
    obtain ⟨rfl, rfl, rfl⟩ := h
    obtain ⟨env', hrun, hq⟩ := hl
    have hseq : SeqOk P sg nt ops st.A st.fid st.nv es := by
      unfold rgn at hrg
      split at hrg
      · split at hrg <;> simp only [Option.some.injEq, reduceCtorEq] at hrg
        rename_i hgo _
        subst hrg
        exact (rgGo_ok hgo).1
      · cases hrg
    obtain ⟨_, _, hlen⟩ := envOk_of_run hseq hI.len hrun
    obtain ⟨hsc, hfr⟩ := hseq.end hI.sc hI.fr
    have hge : ∀ {es : List En} {A : FS} {fid nv : Nat}, SeqOk P sg nt ops A fid nv es → fid ≤ endFid fid es := by
      intro es
      induction es with
      | nil => intros; exact Nat.le_refl _
      | cons e r ih =>
        intro A fid nv h
        have := ih h.2.2.2.2.2
        simp only [endFid]
        have h1 := h.1
        simp only [En.nxt] at this ⊢
        omega
    exact region_sound hm hsg hrg hI.sc hI.fr hI.len hrun hpk (Nat.le_trans hnpk hI.np) hR fun M' a' w' hR' =>
      hN _ env' M' a' w' rfl ⟨hlen, hsc, hfr, Nat.le_trans hI.np (hge hseq)⟩ hR' hq
  | seq x y ihx ihy =>
    intro tg st hs hs' l e h htg env M a w hI hR Q QL hl hN hX hT
    simp only [cmp] at h
    split at h
    · rename_i la sa h1 hx
      split at h <;> simp only [Option.some.injEq, Prod.mk.injEq, reduceCtorEq] at h
      rename_i lb e' h2 hy
      obtain ⟨rfl, rfl, rfl⟩ := h
      refine wp_seq (ihx tg st hs h1 la (some sa) hx htg env M a w hI hR _ _ hl ?_ ?_ ?_)
      · intro st' env' M' a' w' he hI' hR' hq
        simp only [Option.some.injEq] at he
        subst he
        exact ihy tg sa h1 h2 lb e' hy htg env' M' a' w' hI' hR' Q QL hq hN hX hT
      · intro id nf env' M' a' w' ht hI' hR' hq
        exact hX id nf env' M' a' w' ht hI' hR' hq
      · intro outs a' w' hr hq
        exact hT outs a' w' hr hq
    · rename_i la h1 hx
      simp only [Option.some.injEq, Prod.mk.injEq] at h
      obtain ⟨rfl, rfl, rfl⟩ := h
      refine wp_seq (ihx tg st hs h1 la none hx htg env M a w hI hR _ QL hl ?_ ?_ ?_)
      · intro st' env' M' a' w' he
        cases he
      · intro id nf env' M' a' w' ht hI' hR' hq
        exact hX id nf env' M' a' w' ht hI' hR' hq
      · intro outs a' w' hr hq
        exact hT outs a' w' hr hq
    · cases h
  | cond x thn els iht ihe =>
    intro tg st hs hs' l e h htg env M a w hI hR Q QL hl hN hX hT
    simp only [cmp] at h
    split at h
    · cases h
    rename_i lf hlf
    split at h
    · cases h
    rename_i la ea h1 ha
    split at h
    · cases h
    rename_i lb eb h2 hb
    have hat := (look_scl hR hlf (by simp [GH])).atom_of
    have hcond : ∀ (b : Bool), lf.ev env = .bool b → a.eval x = .bool b := by
      intro b hb
      rw [hb] at hat
      generalize a.eval x = v at hat
      cases hat; rfl
    -- each side by itself
    have go : ∀ (ka kb : L) (K1 K2 : Option St), ((lf.ev env = .bool true ∧ wpL ka QL env) ∨ (lf.ev env = .bool false ∧ wpL kb QL env)) →
        (wpL ka QL env → thn.wp P Q a w) → (wpL kb QL env → els.wp P Q a w) → (Code.cond x thn els).wp P Q a w := by
      intro ka kb _ _ hor f g
      rcases hor with ⟨hb, hw⟩ | ⟨hb, hw⟩
      · exact wp_cond_true (hcond true hb) (f hw)
      · exact wp_cond_false (hcond false hb) (g hw)
    split at h
    · simp only [Option.some.injEq, Prod.mk.injEq] at h
      obtain ⟨rfl, rfl, rfl⟩ := h
      refine go la lb none none hl (fun hw => ?_) (fun hw => ?_)
      · exact iht tg st hs h1 la none ha htg env M a w hI hR Q QL hw (fun _ _ _ _ _ he => by cases he) hX hT
      · exact ihe tg st h1 h2 lb _ hb htg env M a w hI hR Q QL hw hN hX hT
    · simp only [Option.some.injEq, Prod.mk.injEq] at h
      obtain ⟨rfl, rfl, rfl⟩ := h
      refine go la lb none none hl (fun hw => ?_) (fun hw => ?_)
      · exact iht tg st hs h1 la _ ha htg env M a w hI hR Q QL hw hN hX hT
      · exact ihe tg st h1 h2 lb none hb htg env M a w hI hR Q QL hw (fun _ _ _ _ _ he => by cases he) hX hT
    · rename_i sa sb
      split at h
      · cases h
      rename_i nf h3
      split at h
      · rename_i σa σb hfa hfb
        split at h <;> simp only [Option.some.injEq, Prod.mk.injEq, reduceCtorEq] at h
        rename_i hok
        obtain ⟨rfl, rfl, rfl⟩ := h
        refine go (.seq la (.tup σa)) (.seq lb (.tup σb)) none none hl (fun hw => ?_) (fun hw => ?_)
        · refine iht tg st hs h1 la _ ha htg env M a w hI hR Q _ hw ?_ (fun id nf env' M' a' w' ht hI' hR' hq => hX id nf env' M' a' w' ht hI' hR' hq) (fun outs a' w' hr hq => hT outs a' w' hr hq)
          intro st' env' M' a' w' he hI' hR' hq
          simp only [Option.some.injEq] at he
          subst he
          obtain ⟨g1, M2, g2⟩ := fitTo_rel hfa hok hpb hR'
          exact hN _ _ M2 a' w' rfl g1 g2 hq
        · refine ihe tg st h1 (nf :: h3) lb _ hb htg env M a w hI hR Q _ hw ?_ (fun id nf env' M' a' w' ht hI' hR' hq => hX id nf env' M' a' w' ht hI' hR' hq) (fun outs a' w' hr hq => hT outs a' w' hr hq)
          intro st' env' M' a' w' he hI' hR' hq
          simp only [Option.some.injEq] at he
          subst he
          obtain ⟨g1, M2, g2⟩ := fitTo_rel hfb hok hpb hR'
          exact hN _ _ M2 a' w' rfl g1 g2 hq
      · cases h
  | block id b ih =>
    intro tg st hs hs' l e h htg env M a w hI hR Q QL hl hN hX hT
    simp only [cmp] at h
    split at h
    · cases h
    rename_i nf h1
    split at h
    case isFalse => cases h
    rename_i hok
    have htg' : ∀ i nf', (fun i => if i = id then some nf else tg i) i = some nf' → nf'.ok np = true := by
      intro i nf' h
      simp only at h
      split at h
      · simp only [Option.some.injEq] at h; subst h; exact hok
      · exact htg i nf' h
    split at h
    · rename_i lb h2 hb
      simp only [Option.some.injEq, Prod.mk.injEq] at h
      obtain ⟨rfl, rfl, rfl⟩ := h
      refine wp_block (ih _ st h1 h2 lb none hb htg' env M a w hI hR _ _ hl (fun _ _ _ _ _ he => by cases he) ?_ (fun outs a' w' hr hq => hT outs a' w' hr hq))
      intro i nf' env' M' a' w' ht hI' hR' hq
      simp only [Exit.inBlock] at ht hq ⊢
      by_cases hi : i = id
      · rw [if_pos hi] at ht hq ⊢
        simp only [Option.some.injEq] at ht
        subst ht
        exact hN _ _ M' a' w' rfl hI' hR' hq
      · rw [if_neg hi] at ht hq ⊢
        exact hX i nf' env' M' a' w' ht hI' hR' hq
    · rename_i lb sb h2 hb
      split at h <;> simp only [Option.some.injEq, Prod.mk.injEq, reduceCtorEq] at h
      rename_i σ hfit
      obtain ⟨rfl, rfl, rfl⟩ := h
      refine wp_block (ih _ st h1 h2 lb (some sb) hb htg' env M a w hI hR _ _ hl ?_ ?_ (fun outs a' w' hr hq => hT outs a' w' hr hq))
      · intro st' env' M' a' w' he hI' hR' hq
        simp only [Option.some.injEq] at he
        subst he
        obtain ⟨g1, M2, g2⟩ := fitTo_rel hfit hok hpb hR'
        exact hN _ _ M2 a' w' rfl g1 g2 hq
      · intro i nf' env' M' a' w' ht hI' hR' hq
        simp only [Exit.inBlock] at ht hq ⊢
        by_cases hi : i = id
        · rw [if_pos hi] at ht hq ⊢
          simp only [Option.some.injEq] at ht
          subst ht
          exact hN _ _ M' a' w' rfl hI' hR' hq
        · rw [if_neg hi] at ht hq ⊢
          exact hX i nf' env' M' a' w' ht hI' hR' hq
    · cases h
  | loop b ih =>
    intro tg st hs hs' l e h htg env M a w hI hR Q QL hl hN hX hT
    simp only [cmp] at h
    split at h
    · cases h
    rename_i nf h1
    split at h
    case isFalse => cases h
    rename_i hok
    split at h
    · cases h
    rename_i σ0 hfit0
    obtain ⟨i0, M0, r0⟩ := fitTo_rel hfit0 hok hpb hR
    split at h
    · rename_i lb h2 hb
      simp only [Option.some.injEq, Prod.mk.injEq] at h
      obtain ⟨rfl, rfl, rfl⟩ := h
      obtain ⟨I, m, hI0, hround⟩ := hl
      refine wp_loop_ghost (fun n a w => ∃ env M, Inv np nf.st env ∧ Rel c nt M env nf.st.A a w ∧ I env ∧ m env = n) _ ⟨_, M0, i0, r0, hI0, rfl⟩ ?_
      rintro n a w ⟨env1, M1, hI1, hR1, hIe, rfl⟩
      exact ih tg nf.st h1 h2 lb none hb htg env1 M1 a w hI1 hR1 _ _ (hround env1 hIe) (fun _ _ _ _ _ he => by cases he)
        (fun id nf env' M' a' w' ht hI' hR' hq => hX id nf env' M' a' w' ht hI' hR' hq) (fun outs a' w' hr hq => hT outs a' w' hr hq)
    · rename_i lb sb h2 hb
      split at h <;> simp only [Option.some.injEq, Prod.mk.injEq, reduceCtorEq] at h
      rename_i σ hfit
      obtain ⟨rfl, rfl, rfl⟩ := h
      obtain ⟨I, m, hI0, hround⟩ := hl
      refine wp_loop_ghost (fun n a w => ∃ env M, Inv np nf.st env ∧ Rel c nt M env nf.st.A a w ∧ I env ∧ m env = n) _ ⟨_, M0, i0, r0, hI0, rfl⟩ ?_
      rintro n a w ⟨env1, M1, hI1, hR1, hIe, rfl⟩
      refine ih tg nf.st h1 h2 lb (some sb) hb htg env1 M1 a w hI1 hR1 _ _ (hround env1 hIe) ?_
        (fun id nf env' M' a' w' ht hI' hR' hq => hX id nf env' M' a' w' ht hI' hR' hq) (fun outs a' w' hr hq => hT outs a' w' hr hq)
      intro st' env' M' a' w' he hI' hR' hq
      simp only [Option.some.injEq] at he
      subst he
      obtain ⟨g1, M2, g2⟩ := fitTo_rel hfit hok hpb hR'
      obtain ⟨q1, q2⟩ := hq
      exact ⟨_, q2, _, M2, g1, g2, q1, rfl⟩
    · cases h
  | exit id =>
    intro tg st hs hs' l e h htg env M a w hI hR Q QL hl hN hX hT
    simp only [cmp] at h
    split at h
    · rename_i nf ht
      split at h <;> simp only [Option.some.injEq, Prod.mk.injEq, reduceCtorEq] at h
      rename_i σ hfit
      obtain ⟨rfl, rfl, rfl⟩ := h
      obtain ⟨g1, M2, g2⟩ := fitTo_rel hfit (htg id nf ht) hpb hR
      exact wp_exit (hX id nf _ M2 a w ht g1 g2 hl)
    · cases h
  | ret =>
    intro tg st hs hs' l e h htg env M a w hI hR Q QL hl hN hX hT
    simp only [cmp] at h
    split at h <;> simp only [Option.some.injEq, Prod.mk.injEq, reduceCtorEq] at h
    rename_i ls hret
    obtain ⟨rfl, rfl, rfl⟩ := h
    obtain ⟨hck, hl⟩ := retL_wp hl
    exact wp_ret (hT _ a w ⟨M, env, st.A, ls, hR, hret, hck, rfl⟩ hl)
  | _ =>
    intro tg st hs hs' l e h
    simp [cmp] at h

end

end Go.Mw

namespace Go.Mw
open Go.RowKit

section
variable {c : Cx} {nt : Nat} {M : Mp} {env : List V} {A : FS} {a : Act} {w : World}

theorem Rel.add_rowG (hR : Rel c nt M env A a w) {id : Nat} (hf : Fresh A (· = id)) {v : Value} {l : Lf} {S : List Nat} (hrep : Rep w [v] [l.ev env] S) (hn : S.Nodup) (hS : ∀ b ∈ S, c.mine b ∧ Wr w b) {app : Bool} (ho : app = true → OwnHd w v (l.ev env) ∧ ∀ b ∈ S, c.own b) (hp : app = false → ∀ v' S', c.par id = some (v', S') → v = v' ∧ ∀ b ∈ S, b ∈ S')
    (hap : Apart M A.ob S) : Rel c nt ⟨fun i => if i = id then v else M.hd i, fun i => if i = id then S else M.ph i, M.be⟩ env ⟨A.sl, fun i => if i = id then some (.row 0 l app) else A.ob i⟩ a w ∧
      Ext c (· = id) M A.ob w ⟨fun i => if i = id then v else M.hd i, fun i => if i = id then S else M.ph i, M.be⟩ (fun i => if i = id then some (.row 0 l app) else A.ob i) w := by
  have E1 : Ext c (· = id) M A.ob w ⟨fun i => if i = id then v else M.hd i, fun i => if i = id then S else M.ph i, M.be⟩ (fun i => if i = id then some (.row 0 l app) else A.ob i) w := by
    refine ⟨fun r ver l1 app1 hr h => ?_, fun i cells hi h => ?_, fun b _ _ => rfl⟩
    · rw [if_neg hr] at h
      exact ⟨ver, l1, app1, h, by simp [hr], Nat.le_refl _, fun _ => ⟨rfl, fun b hb _ => ⟨by simp [hr, hb], rfl⟩⟩⟩
    · rw [if_neg hi] at h
      exact ⟨⟨cells, h⟩, rfl⟩
  refine ⟨⟨hR.size, hR.defs, ?_, ?_, ?_, ?_, ?_, ?_, hR.keep⟩, E1⟩
  · intro s gs sv hs
    obtain ⟨h1, h2, h3⟩ := hR.slots s gs sv hs
    exact ⟨h1, fun hg => RelSV.ext E1 (hf.1 s gs sv hs) (h2 hg), h3⟩
  · intro r ver l' app1 h
    simp only at h
    split at h
    · rename_i e
      subst e
      simp only [Option.some.injEq, SO.row.injEq] at h
      obtain ⟨rfl, rfl, rfl⟩ := h
      refine ⟨⟨S, by simpa using hrep, hn, fun b hb => ⟨by simpa using hb, (hS b hb).2⟩⟩, ?_, fun ha => ⟨by simpa using (ho ha).1, fun b hb => (ho ha).2 b (by simpa using hb)⟩, fun ha v' S' hv => ⟨by simpa using (hp ha v' S' hv).1, fun b hb => (hp ha v' S' hv).2 b (by simpa using hb)⟩⟩
      intro b hb
      have hb' : b ∈ S := by simpa using hb
      exact ⟨(hS b hb').1, hrep.lt b hb'⟩
    · rename_i e
      exact (hR.rows _ _ _ _ h).keep (by simp [e]) (by simp [e]) (Nat.le_refl _) fun _ _ => rfl
  · intro i cells h
    have h' := h
    simp only at h'
    split at h'
    · cases h'
    · exact (hR.boxes _ _ h').keep E1 rfl rfl (hf.2.1 _ _ h')
  · intro i j x y h1 h2 hij
    simp only at h1 h2
    split at h1
    · cases h1
    split at h2
    · cases h2
    exact hR.dBB _ _ _ _ h1 h2 hij
  · intro i j vi li ai vj lj aj h1 h2 hij b hb
    simp only at h1 h2 hb
    split at h1
    · rename_i hi
      subst hi
      rw [if_pos rfl] at hb
      rw [if_neg (Ne.symm hij)] at h2
      simp only [if_neg (Ne.symm hij)]
      exact (hap b hb).1 _ _ _ _ h2
    · rename_i hi
      rw [if_neg hi] at hb
      split at h2
      · rename_i hj
        subst hj
        simp only [if_true]
        exact fun hbS => (hap b hbS).1 _ _ _ _ h1 hb
      · rename_i hj
        simp only [if_neg hj]
        exact hR.dRR _ _ _ _ _ _ _ _ h1 h2 hij b hb
  · intro i j x vj lj aj h1 h2
    simp only at h1 h2
    split at h1
    · cases h1
    split at h2
    · rename_i hj
      subst hj
      simp only [if_true]
      exact fun hb => (hap _ hb).2 _ _ h1 rfl
    · rename_i hj
      simp only [if_neg hj]
      exact hR.dBR _ _ _ _ _ _ h1 h2


theorem Rel.add_slot (hR : Rel c nt M env A a w) {k : Nat} (hk : k < nt) {sv : SV} (hv : RelSV c M env w A.ob sv (a.tmps.getD k undef)) : Rel c nt M env ⟨upSl A.sl (some k) (some ([], sv)), A.ob⟩ a w := by
  have := hR.put (dst := some k) (gs := []) (sv := sv) (v := a.tmps.getD k undef) (fun d h => by cases h; exact hk) fun _ => ⟨fun _ => hv, fun h => absurd (by simp [GH]) h⟩
  have e : a.put (some k) (a.tmps.getD k undef) = a := by
    have hsz : k < a.tmps.size := by rw [hR.size]; exact hk
    obtain ⟨tmps, ds⟩ := a
    simp only [Act.put, Act.mk.injEq, and_true]
    apply Array.ext_getElem?
    intro i
    by_cases hi : k = i
    · subst hi
      have : k < tmps.size := hsz
      simp [this]
    · rw [Array.getElem?_setIfInBounds_ne hi]
  rw [e] at this
  exact this

end

end Go.Mw

namespace Go.Mw
open Go.RowKit

def cellsIoAt : Nat → Nat → List AK → List At
  | _, _, [] => []
  | j, id, .sc :: ks => .sc (.v j) :: cellsIoAt (j + 1) (id + 1) ks
  | j, id, .sl _ :: ks => .own id :: cellsIoAt (j + 1) (id + 1) ks

def ioOb : Nat → Nat → List AK → (Nat → Option SO) → Nat → Option SO
  | _, _, [], ob => ob
  | j, id, .sc :: ks, ob => ioOb (j + 1) (id + 1) ks ob
  | j, id, .sl _ :: ks, ob => ioOb (j + 1) (id + 1) ks (fun i => if i = id then some (.row 0 (.v j) false) else ob i)

def entry : List PK → Nat → Nat → Nat → FS → FS
  | [], _, _, _, A => A
  | .val g ks :: ps, k, j, id, A => entry ps (k + 1) (j + ks.length) id ⟨upSl A.sl (some k) (some ([], .sc ⟨g, cellsIn j ks⟩)), A.ob⟩
  | .io g ks :: ps, k, j, id, A => entry ps (k + 1) (j + ks.length) (id + ks.length) ⟨upSl A.sl (some k) (some ([], .sc ⟨g, cellsIoAt j id ks⟩)), ioOb j id ks A.ob⟩
  | .ptr po ks :: ps, k, j, id, A => entry ps (k + 1) (j + ks.length) (id + 1) ⟨upSl A.sl (some k) (some ([], .ptr id po)), fun i => if i = id then some (.box (cellsIn j ks)) else A.ob i⟩
  | .tk g ks :: ps, k, j, id, A => entry ps (k + 1) (j + ks.length) id ⟨upSl A.sl (some k) (some ([], .sc ⟨g, (resCells npK j ks).1⟩)), upOb A.ob (resCells npK j ks).2⟩
  | .cst f :: ps, k, j, id, A => entry ps (k + 1) j id ⟨upSl A.sl (some k) (some ([], .sc ⟨false, [.sc (.k (.fn f))]⟩)), A.ob⟩
  | .new _ :: ps, k, j, id, A => entry ps k j id A

def entryIds : List PK → Nat → Nat
  | [], id => id
  | .val _ _ :: ps, id => entryIds ps id
  | .io _ ks :: ps, id => entryIds ps (id + ks.length)
  | .ptr _ _ :: ps, id => entryIds ps (id + 1)
  | .tk _ _ :: ps, id => entryIds ps id
  | .cst _ :: ps, id => entryIds ps id
  | .new _ :: ps, id => entryIds ps id

def psLen : List PK → Nat
  | [] => 0
  | .val _ ks :: ps => ks.length + psLen ps
  | .io _ ks :: ps => ks.length + psLen ps
  | .ptr _ ks :: ps => ks.length + psLen ps
  | .tk _ ks :: ps => ks.length + psLen ps
  | .cst _ :: ps => psLen ps
  | .new _ :: ps => psLen ps

def hiOf : List PK → Nat → Nat → Nat
  | [], _, h => h
  | .val _ ks :: ps, j, h => hiOf ps (j + ks.length) h
  | .io _ ks :: ps, j, h => hiOf ps (j + ks.length) h
  | .ptr _po ks :: ps, j, h => hiOf ps (j + ks.length) h
  | .tk _ ks :: ps, j, _ => hiOf ps (j + ks.length) (j + ks.length)
  | .cst _ :: ps, j, h => hiOf ps j h
  | .new _ :: ps, j, h => hiOf ps j h

def ioIds : Nat → List AK → List Nat
  | _, [] => []
  | id, .sc :: ks => ioIds (id + 1) ks
  | id, .sl _ :: ks => id :: ioIds (id + 1) ks

def rowIds : List PK → Nat → List Nat
  | [], _ => []
  | .val _ _ :: ps, id => rowIds ps id
  | .io _ ks :: ps, id => ioIds id ks ++ rowIds ps (id + ks.length)
  | .ptr _ _ :: ps, id => rowIds ps (id + 1)
  | .tk _ _ :: ps, id => rowIds ps id
  | .cst _ :: ps, id => rowIds ps id
  | .new _ :: ps, id => rowIds ps id

def boxIds : List PK → Nat → List (Nat × List AK)
  | [], _ => []
  | .val _ _ :: ps, id => boxIds ps id
  | .io _ ks :: ps, id => boxIds ps (id + ks.length)
  | .ptr _po ks :: ps, id => (id, ks) :: boxIds ps (id + 1)
  | .tk _ _ :: ps, id => boxIds ps id
  | .cst _ :: ps, id => boxIds ps id
  | .new _ :: ps, id => boxIds ps id

theorem entryIds_le : ∀ {ps : List PK} {id : Nat}, id ≤ entryIds ps id
  | [], _ => Nat.le_refl _
  | .val _ _ :: ps, _id => entryIds_le (ps := ps)
  | .io _ _ks :: ps, _id => Nat.le_trans (Nat.le_add_right _ _) (entryIds_le (ps := ps))
  | .ptr _ _ :: ps, _id => Nat.le_trans (Nat.le_add_right _ _) (entryIds_le (ps := ps))
  | .tk _ _ :: ps, _id => entryIds_le (ps := ps)
  | .cst _ :: ps, _id => entryIds_le (ps := ps)
  | .new _ :: ps, _id => entryIds_le (ps := ps)

def ties (ks : List AK) (us : List Value) (i : Nat) : Option Value :=
  match ks[i]? with
  | some (.sl _) => us[i]?
  | _ => none

section
variable {c : Cx} {nt : Nat} {env : List V} {a : Act} {w : World}

theorem cellsIn_tie : ∀ {ks : List AK} {us : List Value} {j i : Nat} {u : Value}, ties ks us i = some u → us[i]? = some u ∧ ∃ x, (cellsIn j ks)[i]? = some x ∧ x.isSc = false
  | [], us, j, i, u, h => by simp [ties] at h
  | k :: ks, us, j, 0, u, h => by
    cases k with
    | sc => simp [ties] at h
    | sl js => exact ⟨by simpa [ties] using h, .ro (.v j), by simp [cellsIn], rfl⟩
  | k :: ks, us, j, i + 1, u, h => by
    cases us with
    | nil => simp only [ties, List.getElem?_cons_succ] at h; split at h <;> simp at h
    | cons u0 us =>
      have h' : ties ks us i = some u := by simpa [ties] using h
      obtain ⟨h1, x, h2, h3⟩ := cellsIn_tie (j := j + 1) h'
      refine ⟨by simpa using h1, x, ?_, h3⟩
      cases k <;> simpa [cellsIn] using h2

end

end Go.Mw

namespace Go.Mw
open Go.RowKit

def ParL (c : Cx) : List Nat → List (Value × List Nat) → Prop
  | [], [] => True
  | r :: rs, x :: xs => c.par r = some x ∧ ParL c rs xs
  | _, _ => False

theorem ParL.append {c : Cx} : ∀ {rs rs' : List Nat} {xs xs' : List (Value × List Nat)}, rs.length = xs.length → ParL c (rs ++ rs') (xs ++ xs') → ParL c rs xs ∧ ParL c rs' xs'
  | [], _, [], _, _, h => ⟨trivial, h⟩
  | [], _, _ :: _, _, h, _ => by simp at h
  | _ :: _, _, [], _, h, _ => by simp at h
  | _ :: _, _, _ :: _, _, hl, h => by
    obtain ⟨h1, h2⟩ := h
    obtain ⟨h3, h4⟩ := ParL.append (by simpa using hl) h2
    exact ⟨⟨h1, h3⟩, h4⟩

theorem ioIds_len {w : World} {ks : List AK} {us : List Value} {ds : List V} {R : List (Value × List Nat)} (h : CellsIo w ks us ds R) : ∀ id, (ioIds id ks).length = R.length := by
  induction h with
  | nil => intro _; rfl
  | sc _ _ ih => intro id; exact ih (id + 1)
  | sl _ _ _ _ ih => intro id; simp [ioIds, ih (id + 1)]

section
variable {c : Cx} {nt : Nat} {env : List V} {a : Act} {w : World}

theorem io_entry : ∀ {ks : List AK} {us : List Value} {ds : List V} {R : List (Value × List Nat)} {M : Mp} {A : FS} {j id : Nat} {p : Nat → Prop}, Rel c nt M env A a w → CellsIo w ks us ds R → (∀ i, i < ds.length → env[j + i]? = ds[i]?) →
    Fresh A p → (∀ x, id ≤ x → x < id + ks.length → p x) → (R.flatMap (·.2)).Nodup → (∀ b ∈ R.flatMap (·.2), c.mine b) → Apart M A.ob (R.flatMap (·.2)) → ParL c (ioIds id ks) R →
    ∃ M', Rel c nt M' env ⟨A.sl, ioOb j id ks A.ob⟩ a w ∧ RelAts c M' env w (ioOb j id ks A.ob) (cellsIoAt j id ks) us ∧ Ext c (fun x => id ≤ x) M A.ob w M' (ioOb j id ks A.ob) w ∧
      (∀ T, Apart M A.ob T → (∀ b ∈ T, b ∉ R.flatMap (·.2)) → Apart M' (ioOb j id ks A.ob) T) ∧ Fresh ⟨A.sl, ioOb j id ks A.ob⟩ (fun x => p x ∧ ¬ (id ≤ x ∧ x < id + ks.length)) ∧ (∀ x, atsMen (cellsIoAt j id ks) x → id ≤ x ∧ x < id + ks.length) ∧ ks.length = ds.length
  | [], us, ds, R, M, A, j, id, p, hR, hc, _, hf, _, _, _, _, _ => by
    cases hc
    refine ⟨M, hR, trivial, ⟨fun r ver l app _ h => ⟨ver, l, app, h, rfl, Nat.le_refl _, fun _ => ⟨rfl, fun b hb _ => ⟨hb, rfl⟩⟩⟩, fun id cells _ h => ⟨⟨cells, h⟩, rfl⟩, fun _ _ _ => rfl⟩, fun T hT _ => hT, hf.mono (fun x hx => hx.1), ?_, rfl⟩
    rintro x ⟨b, hb, _⟩
    simp [cellsIoAt] at hb
  | .sc :: ks, us, ds, R, M, A, j, id, p, hR, hc, he, hf, hpp, hn, hm, hap, hp => by
    cases hc with
    | sc h t =>
      rename_i u d us ds
      obtain ⟨M', h1, h2, h3, h4, h5, h6, h7⟩ := io_entry (j := j + 1) (id := id + 1) hR t (fun i hi => by
        have := he (i + 1) (by simp; omega)
        simp only [List.getElem?_cons_succ] at this
        rw [show j + 1 + i = j + (i + 1) by omega]; exact this) hf (fun x h1 h2 => hpp x (by omega) (by simp only [List.length_cons]; omega)) hn hm hap hp
      have e0 : (Lf.v j).ev env = d := by
        have := he 0 (by simp)
        simp only [Nat.add_zero, List.getElem?_cons_zero] at this
        simp [Lf.ev, this]
      refine ⟨M', h1, ⟨⟨h.oneCell, ?_⟩, h2⟩, ⟨fun r ver l app hr => h3.row r ver l app fun hx => hr (by omega), fun i cells hi => h3.box i cells fun hx => hi (by omega), h3.ro⟩, h4, h5.mono fun x hx => ⟨hx.1, fun h => hx.2 (by simp only [List.length_cons]; omega)⟩, ?_, by simp [h7]⟩
      · show Rep w [u] [(Lf.v j).ev env] []
        rw [e0]; exact h
      · rintro x ⟨b, hb, hx⟩
        simp only [cellsIoAt, List.mem_cons] at hb
        rcases hb with rfl | hb
        · exact hx.elim
        · have := h6 x ⟨b, hb, hx⟩
          simp only [List.length_cons]; omega
  | .sl js :: ks, us, ds, R, M, A, j, id, p, hR, hc, he, hf, hpp, hn, hm, hap, hp => by
    cases hc with
    | @sl u d js ks us ds S R h hnS hw t =>
      obtain ⟨hp1, hp2⟩ := hp
      simp only [List.flatMap_cons] at hn hm hap ⊢
      rw [List.nodup_append] at hn
      have e0 : (Lf.v j).ev env = d := by
        have := he 0 (by simp)
        simp only [Nat.add_zero, List.getElem?_cons_zero] at this
        simp [Lf.ev, this]
      have hf0 : Fresh A (· = id) := hf.mono fun x hx => hpp x (by omega) (by simp only [List.length_cons]; omega)
      obtain ⟨g1, g2⟩ := hR.add_rowG hf0 (v := u) (l := .v j) (S := S) (app := false) (by rw [e0]; exact h) hnS (fun b hb => ⟨hm b (by simp [hb]), hw b hb⟩) (fun h => by cases h)
        (fun _ v' S' hv => by rw [hp1] at hv; simp only [Option.some.injEq, Prod.mk.injEq] at hv; obtain ⟨rfl, rfl⟩ := hv; exact ⟨rfl, fun b hb => hb⟩) (fun b hb => hap b (by simp [hb]))
      have hf1 : Fresh ⟨A.sl, fun i => if i = id then some (SO.row 0 (.v j) false) else A.ob i⟩ (fun x => p x ∧ x ≠ id) := by
        refine ⟨fun s gs sv hs x hx hq => hf.1 s gs sv hs x hx hq.1, fun i cells hc x hx hq => ?_, fun x hx => ?_⟩
        · simp only at hc
          split at hc
          · cases hc
          · exact hf.2.1 i cells hc x hx hq.1
        · simp only
          rw [if_neg hx.2]
          exact hf.2.2 x hx.1
      obtain ⟨M', h1, h2, h3, h4, h5, h6, h7⟩ := io_entry (j := j + 1) (id := id + 1) g1 t (fun i hi => by
        have := he (i + 1) (by simp; omega)
        simp only [List.getElem?_cons_succ] at this
        rw [show j + 1 + i = j + (i + 1) by omega]; exact this) hf1 (fun x h1 h2 => ⟨hpp x (by omega) (by simp only [List.length_cons]; omega), by omega⟩) hn.2.1 (fun b hb => hm b (by simp only [List.mem_append]; exact .inr hb)) (by
          intro b hb
          refine ⟨fun r ver l app h => ?_, fun i cells h => ?_⟩
          · simp only at h ⊢
            split at h
            · rename_i e
              simp only [e, if_true]
              exact fun hb1 => hn.2.2 b hb1 b hb rfl
            · rename_i e
              simp only [e, if_false]
              exact (hap b (by simp only [List.mem_append]; exact .inr hb)).1 _ _ _ _ h
          · simp only at h ⊢
            split at h
            · cases h
            · exact (hap b (by simp only [List.mem_append]; exact .inr hb)).2 _ _ h) hp2
      refine ⟨M', h1, ⟨⟨h.oneCell, ?_⟩, h2⟩, ?_, ?_, h5.mono fun x hx => ⟨⟨hx.1, fun e => hx.2 (by simp only [List.length_cons]; omega)⟩, fun h => hx.2 (by simp only [List.length_cons]; omega)⟩, ?_, by simp [h7]⟩
      · intro ver l app hrow
        obtain ⟨v0, l0, a0, q1, q2, _⟩ := h3.row id ver l app (by omega) hrow
        rw [q2]; simp
      · refine ⟨fun r ver l app hr hrow => ?_, fun i cells hi hbx => ?_, fun b hb hm => rfl⟩
        · obtain ⟨v0, l0, a0, q1, q2, q3, q4⟩ := h3.row r ver l app (fun hx => hr (by omega)) hrow
          have hne : r ≠ id := fun e => hr (by omega)
          simp only [hne, if_false] at q1 q2 q4
          exact ⟨v0, l0, a0, q1, q2, q3, fun e => ⟨(q4 e).1, fun b hb hlt => ⟨((q4 e).2 b hb hlt).1, rfl⟩⟩⟩
        · obtain ⟨⟨c0, q1⟩, q2⟩ := h3.box i cells (fun hx => hi (by omega)) hbx
          have hne : i ≠ id := fun e => hi (by omega)
          simp only [hne, if_false] at q1
          exact ⟨⟨c0, q1⟩, q2⟩
      · intro T hT hTS
        refine h4 T ?_ (fun b hb hb2 => hTS b hb (by simp only [List.mem_append]; exact .inr hb2))
        intro b hb
        refine ⟨fun r ver l app h => ?_, fun i cells h => ?_⟩
        · simp only at h ⊢
          split at h
          · rename_i e
            simp only [e, if_true]
            exact fun hb1 => hTS b hb (by simp [hb1])
          · rename_i e
            simp only [e, if_false]
            exact (hT b hb).1 _ _ _ _ h
        · simp only at h ⊢
          split at h
          · cases h
          · exact (hT b hb).2 _ _ h
      · rintro x ⟨b, hb, hx⟩
        simp only [cellsIoAt, List.mem_cons] at hb
        rcases hb with rfl | hb
        · have : x = id := hx
          simp only [List.length_cons]; omega
        · have := h6 x ⟨b, hb, hx⟩
          simp only [List.length_cons]; omega

end

end Go.Mw

namespace Go.Mw
open Go.RowKit

def ParB (c : Cx) : List (Nat × List AK) → List Bx → Prop
  | [], [] => True
  | r :: rs, x :: xs => c.parB r.1 = some (x.1, ties r.2 x.2.2) ∧ ParB c rs xs
  | _, _ => False

theorem Fresh.slot {A : FS} {p : Nat → Prop} (h : Fresh A p) {k : Nat} {sv : SV} (hs : ∀ x, sv.men x → ¬ p x) : Fresh ⟨upSl A.sl (some k) (some ([], sv)), A.ob⟩ p := by
  refine ⟨fun s gs sv' h' x hx => ?_, h.2.1, h.2.2⟩
  simp only [upSl] at h'
  split at h'
  · simp only [Option.some.injEq, Prod.mk.injEq] at h'
    obtain ⟨_, rfl⟩ := h'
    exact hs x hx
  · exact h.1 s gs sv' h' x hx

section
variable {c : Cx} {nt : Nat} {env : List V} {a : Act} {w : World}

theorem upOb_resCells_ge (fid : Nat) : ∀ (ks : List AK) (j : Nat) (ob : Nat → Option SO) (x : Nat), ¬ (fid + j ≤ x ∧ x < fid + j + ks.length) → upOb ob (resCells fid j ks).2 x = ob x
  | [], _, _, _, _ => rfl
  | .sc :: ks, j, ob, x, h => upOb_resCells_ge fid ks (j + 1) ob x (fun h' => h (by simp only [List.length_cons]; omega))
  | .sl _ :: ks, j, ob, x, h => by
    simp only [resCells, upOb]
    rw [upOb_resCells_ge fid ks (j + 1) _ x (fun h' => h (by simp only [List.length_cons]; omega))]
    rw [if_neg (fun e => h (by simp only [List.length_cons]; omega))]

theorem entry_rel : ∀ {ps : List PK} {vals : List Value} {ds : List V} {ro : List Nat} {rows : List (Value × List Nat)} {boxes : List Bx} {tk : List Nat} {M : Mp} {A : FS} {k j id h : Nat}, ArgsR w ps vals ds ro rows boxes tk → Rel c nt M env A a w →
    (∀ i, i < ds.length → env[j + i]? = ds[i]?) → Fresh A (fun x => (id ≤ x ∧ x < npK) ∨ npK + h ≤ x) → h ≤ j → entryIds ps id ≤ npK → (∀ i v, vals[i]? = some v → k + i < nt ∧ a.tmps.getD (k + i) undef = v) → (∀ b ∈ ro, c.rd b) → (∀ b ∈ ioB rows boxes, c.mine b) → (∀ b ∈ tk, c.own b) →
    (ioB rows boxes ++ tk).Nodup → Apart M A.ob (ioB rows boxes ++ tk) → ParL c (rowIds ps id) rows → ParB c (boxIds ps id) boxes →
    ∃ M', Rel c nt M' env (entry ps k j id A) a w ∧ Fresh (entry ps k j id A) (fun x => (entryIds ps id ≤ x ∧ x < npK) ∨ npK + hiOf ps j h ≤ x) ∧ psLen ps = ds.length
  | [], vals, ds, ro, rows, boxes, tk, M, A, k, j, id, h, ha, hR, _, hf, _, _, _, _, _, _, _, _, _, _ => by
    cases ha
    exact ⟨M, hR, hf, rfl⟩
  | .val g ks :: ps, vals, ds, ro, rows, boxes, tk, M, A, k, j, id, h, ha, hR, he, hf, hh, hid, hv, hro, hm, ht, hn, hap, hp, hpb => by
    cases ha with
    | @val g ks ps us ds ds' S ro v vs rows boxes tk hc hpk t =>
      obtain ⟨h1, h2⟩ := cellsIn_rel (c := c) (M := M) (ob := A.ob) (j := j) hc (fun i hi => by
        have := he i (by simp; omega)
        rw [this, List.getElem?_append_left hi]) (fun b hb => hro b (by simp [hb]))
      obtain ⟨hk, hvk⟩ := hv 0 v rfl
      have hR' := hR.add_slot (k := k) (by simpa using hk) (sv := .sc ⟨g, cellsIn j ks⟩) (by
        simp only [Nat.add_zero] at hvk
        rw [hvk]; exact ⟨us, h1, hpk⟩)
      have hf' := hf.slot (k := k) (sv := .sc ⟨g, cellsIn j ks⟩) (fun x hx => absurd hx cellsIn_men)
      obtain ⟨M', g1, g2, g3⟩ := entry_rel (k := k + 1) (j := j + ks.length) t hR' (fun i hi => by
        have := he (ds.length + i) (by simp; omega)
        rw [List.getElem?_append_right (by omega), show ds.length + i - ds.length = i by omega] at this
        rw [h2, Nat.add_assoc]; exact this) hf' (by omega) hid (fun i v' hi => by
          have := hv (i + 1) v' (by simpa using hi)
          rw [show k + 1 + i = k + (i + 1) by omega]; exact this) (fun b hb => hro b (by simp [hb])) hm ht hn hap hp hpb
      exact ⟨M', g1, g2, by simp [psLen, g3, h2]⟩
  | .io g ks :: ps, vals, ds, ro, rows, boxes, tk, M, A, k, j, id, h, ha, hR, he, hf, hh, hid, hv, hro, hm, ht, hn, hap, hp, hpb => by
    cases ha with
    | @io g ks ps us ds ds' ro v vs R rows boxes tk hc hpk t =>
      simp only [ioB, List.flatMap_append] at hm hn hap
      rw [List.append_assoc, List.append_assoc, List.nodup_append] at hn
      obtain ⟨hp1, hp2⟩ := ParL.append (ioIds_len hc id) hp
      simp only [entryIds] at hid
      have hle := entryIds_le (ps := ps) (id := id + ks.length)
      obtain ⟨M1, h1, h2, h3, h4, h5, h6, h7⟩ := io_entry (j := j) (id := id) hR hc (fun i hi => by
        have := he i (by simp; omega)
        rw [this, List.getElem?_append_left hi]) hf (fun x h1 h2 => .inl ⟨h1, by omega⟩) hn.1 (fun b hb => hm b (by simp [hb])) (fun b hb => hap b (by simp only [List.mem_append]; exact .inl (.inl (.inl hb)))) hp1
      obtain ⟨hk, hvk⟩ := hv 0 v rfl
      have hR' := h1.add_slot (k := k) (by simpa using hk) (sv := .sc ⟨g, cellsIoAt j id ks⟩) (by
        simp only [Nat.add_zero] at hvk
        rw [hvk]; exact ⟨us, h2, hpk⟩)
      have hf' := h5.slot (k := k) (sv := .sc ⟨g, cellsIoAt j id ks⟩) (fun x hx hq => hq.2 (h6 x hx))
      have hsub : ∀ b, b ∈ ioB rows boxes ++ tk → b ∈ (R.flatMap (·.2) ++ rows.flatMap (·.2) ++ boxes.map (·.1)) ++ tk := fun b hb => by
        simp only [ioB, List.mem_append] at hb ⊢
        rcases hb with (h | h) | h <;> simp [h]
      obtain ⟨M', g1, g2, g3⟩ := entry_rel (k := k + 1) (j := j + ks.length) (id := id + ks.length) t hR' (fun i hi => by
        have := he (ds.length + i) (by simp; omega)
        rw [List.getElem?_append_right (by omega), show ds.length + i - ds.length = i by omega] at this
        rw [h7, Nat.add_assoc]; exact this) (hf'.mono (q := fun x => (id + ks.length ≤ x ∧ x < npK) ∨ npK + h ≤ x) fun x hx => ⟨by omega, by omega⟩) (by omega) hid (fun i v' hi => by
          have := hv (i + 1) v' (by simpa using hi)
          rw [show k + 1 + i = k + (i + 1) by omega]; exact this) (fun b hb => hro b hb) (fun b hb => hm b (by simp only [ioB, List.mem_append] at hb ⊢; rcases hb with h | h <;> simp [h])) ht (by simpa only [ioB, List.append_assoc] using hn.2.1)
        (h4 _ (fun b hb => hap b (hsub b hb)) (fun b hb hb2 => hn.2.2 b hb2 b (by simpa only [ioB, List.append_assoc] using hb) rfl)) hp2 hpb
      exact ⟨M', g1, g2, by simp [psLen, g3, h7]⟩
  | .ptr po ks :: ps, vals, ds, ro, rows, boxes, tk, M, A, k, j, id, h, ha, hR, he, hf, hh, hid, hv, hro, hm, ht, hn, hap, hp, hpb => by
    cases ha with
    | @ptr po ks ps us ds ds' S ro b E vs rows boxes tk hb hc t =>
      obtain ⟨hpb1, hpb2⟩ := hpb
      simp only [entryIds] at hid
      have hle := entryIds_le (ps := ps) (id := id + 1)
      obtain ⟨h1, h2⟩ := cellsIn_rel (c := c) (M := M) (ob := A.ob) (j := j) hc (fun i hi => by
        have := he i (by simp; omega)
        rw [this, List.getElem?_append_left hi]) (fun b hb => hro b (by simp [hb]))
      have hbm : b ∈ ioB rows ((b, ks, us) :: boxes) := by simp [ioB]
      have hn2 : (ioB rows boxes ++ tk).Nodup ∧ b ∉ ioB rows boxes ++ tk := by
        have e : (ioB rows ((b, ks, us) :: boxes) ++ tk) = rows.flatMap (·.2) ++ (b :: (boxes.map (·.1) ++ tk)) := by simp [ioB]
        rw [e, List.nodup_append, List.nodup_cons] at hn
        obtain ⟨n1, ⟨n2, n3⟩, n4⟩ := hn
        have e2 : ioB rows boxes ++ tk = rows.flatMap (·.2) ++ (boxes.map (·.1) ++ tk) := by simp [ioB]
        rw [e2]
        refine ⟨List.nodup_append.2 ⟨n1, n3, fun x hx y hy => n4 x hx y (List.mem_cons_of_mem _ hy)⟩, fun hh => ?_⟩
        rcases List.mem_append.1 hh with hh | hh
        · exact n4 b hh b (List.mem_cons_self ..) rfl
        · exact n2 hh
      obtain ⟨g1, g2⟩ := hR.add_boxG (id := id) (hf.mono fun x hx => by omega) hb h1 (fun x => cellsIn_men) (hm b hbm) (fun b' tt hbt => by
        rw [hpb1] at hbt
        simp only [Option.some.injEq, Prod.mk.injEq] at hbt
        obtain ⟨rfl, rfl⟩ := hbt
        exact ⟨rfl, fun i u hi => cellsIn_tie hi⟩) (hap b (List.mem_append_left _ hbm)).1 (hap b (List.mem_append_left _ hbm)).2
      have hf1 : Fresh ⟨A.sl, fun i => if i = id then some (.box (cellsIn j ks)) else A.ob i⟩ (fun x => (id + 1 ≤ x ∧ x < npK) ∨ npK + h ≤ x) := by
        refine ⟨fun s gs sv hs x hx hq => hf.1 s gs sv hs x hx (by omega), fun i cells hc x hx hq => ?_, fun x hx => ?_⟩
        · simp only at hc
          split at hc
          · simp only [Option.some.injEq, SO.box.injEq] at hc
            subst hc
            exact absurd hx cellsIn_men
          · exact hf.2.1 i cells hc x hx (by omega)
        · simp only
          rw [if_neg (by omega)]
          exact hf.2.2 x (by omega)
      obtain ⟨hk, hvk⟩ := hv 0 _ rfl
      have hR' := g1.add_slot (k := k) (by simpa using hk) (sv := .ptr id po) (by
        simp only [Nat.add_zero] at hvk
        rw [hvk]
        intro cells hcells
        simp)
      have hf' := hf1.slot (k := k) (sv := .ptr id po) (fun x hx hq => by have : x = id := hx; omega)
      have hsub : ∀ b', b' ∈ ioB rows boxes ++ tk → b' ∈ ioB rows ((b, ks, us) :: boxes) ++ tk := fun b' hb' => by
        simp only [ioB, List.map_cons, List.mem_append, List.mem_cons] at hb' ⊢
        rcases hb' with (h | h) | h <;> simp [h]
      obtain ⟨M', k1, k2, k3⟩ := entry_rel (k := k + 1) (j := j + ks.length) (id := id + 1) t hR' (fun i hi => by
        have := he (ds.length + i) (by simp; omega)
        rw [List.getElem?_append_right (by omega), show ds.length + i - ds.length = i by omega] at this
        rw [h2, Nat.add_assoc]; exact this) hf' (by omega) hid (fun i v' hi => by
          have := hv (i + 1) v' (by simpa using hi)
          rw [show k + 1 + i = k + (i + 1) by omega]; exact this) (fun b hb => hro b (by simp [hb])) (fun b' hb' => hm b' (by simp only [ioB, List.map_cons, List.mem_append, List.mem_cons] at hb' ⊢; rcases hb' with h | h <;> simp [h])) ht hn2.1
        (by
          intro b' hb'
          have hin := hsub b' hb'
          refine ⟨fun r ver l app hrow => ?_, fun i cells hbx => ?_⟩
          · simp only at hrow
            split at hrow
            · cases hrow
            · exact (hap b' hin).1 _ _ _ _ hrow
          · simp only at hbx ⊢
            split at hbx
            · rename_i e
              rw [if_pos e]
              exact fun e => hn2.2 (e ▸ hb')
            · rename_i e
              rw [if_neg e]
              exact (hap b' hin).2 _ _ hbx) hp hpb2
      exact ⟨M', k1, k2, by simp [psLen, k3, h2]⟩
  | .tk g ks :: ps, vals, ds, ro, rows, boxes, tk, M, A, k, j, id, h, ha, hR, he, hf, hh, hid, hv, hro, hm, ht, hn, hap, hp, hpb => by
    cases ha with
    | @tk g ks ps us ds ds' S ro v vs rows boxes tk hc hw hpk t =>
      have hl := hc.length
      have hpm : (ioB rows boxes ++ tk).Nodup ∧ S.Nodup ∧ ∀ b ∈ ioB rows boxes ++ tk, b ∉ S := by
        rw [List.nodup_append, List.nodup_append] at hn
        obtain ⟨n1, ⟨n2, n3, n4⟩, n5⟩ := hn
        refine ⟨List.nodup_append.2 ⟨n1, n3, fun x hx y hy => n5 x hx y (List.mem_append_right _ hy)⟩, n2, fun b hb hS => ?_⟩
        rcases List.mem_append.1 hb with hb | hb
        · exact n5 b hb b (List.mem_append_left _ hS) rfl
        · exact n4 b hS b hb rfl
      obtain ⟨n1, n2, n3⟩ := hpm
      obtain ⟨M1, h1, h2, h3, h4, h5, h6, h7⟩ := add_cells (fid := npK) (j := j) hR hc (fun i hi => by
        have := he i (by simp; omega)
        rw [this, List.getElem?_append_left (by omega)]) (hf.mono fun x hx => by omega) n2 (fun b hb => ⟨ht b (by simp [hb]), hw b hb⟩) (fun b hb => hap b (by simp [hb]))
      obtain ⟨hk, hvk⟩ := hv 0 v rfl
      have hR' := h1.add_slot (k := k) (by simpa using hk) (sv := .sc ⟨g, (resCells npK j ks).1⟩) (by
        simp only [Nat.add_zero] at hvk
        rw [hvk]; exact ⟨us, h2, hpk⟩)
      have hf1 : Fresh ⟨A.sl, upOb A.ob (resCells npK j ks).2⟩ (fun x => (id ≤ x ∧ x < npK) ∨ npK + (j + ks.length) ≤ x) := by
        refine ⟨fun s gs sv hs x hx hq => hf.1 s gs sv hs x hx (by omega), fun i cells hc x hx hq => ?_, fun x hx => ?_⟩
        · exact hf.2.1 i cells (h7 i cells hc) x hx (by omega)
        · simp only
          rw [h5 x (by omega)]
          exact hf.2.2 x (by omega)
      have hf' := hf1.slot (k := k) (sv := .sc ⟨g, (resCells npK j ks).1⟩) (fun x hx hq => by have := h6 x hx; omega)
      have hsub : ∀ b', b' ∈ ioB rows boxes ++ tk → b' ∈ ioB rows boxes ++ (S ++ tk) := fun b' hb' => by
        simp only [List.mem_append] at hb' ⊢
        rcases hb' with h | h <;> simp [h]
      obtain ⟨M', k1, k2, k3⟩ := entry_rel (k := k + 1) (j := j + ks.length) (id := id) t hR' (fun i hi => by
        have := he (ds.length + i) (by simp; omega)
        rw [List.getElem?_append_right (by omega), show ds.length + i - ds.length = i by omega] at this
        rw [hl, Nat.add_assoc]; exact this) hf' (Nat.le_refl _) hid (fun i v' hi => by
          have := hv (i + 1) v' (by simpa using hi)
          rw [show k + 1 + i = k + (i + 1) by omega]; exact this) hro hm (fun b hb => ht b (by simp [hb])) n1
        (h4 _ (fun b hb => hap b (hsub b hb)) n3) hp hpb
      exact ⟨M', k1, k2, by simp [psLen, k3, hl]⟩
  | .cst f :: ps, vals, ds, ro, rows, boxes, tk, M, A, k, j, id, h, ha, hR, he, hf, hh, hid, hv, hro, hm, ht, hn, hap, hp, hpb => by
    cases ha with
    | @cst f ps ds ro v vs rows boxes tk hfn t =>
      obtain ⟨hk, hvk⟩ := hv 0 v rfl
      have hR' := hR.add_slot (k := k) (by simpa using hk) (sv := .sc ⟨false, [.sc (.k (.fn f))]⟩) (by
        simp only [Nat.add_zero] at hvk
        rw [hvk]; exact ⟨[v], ⟨⟨hfn.oneCell, hfn⟩, trivial⟩, rfl⟩)
      have hf' := hf.slot (k := k) (sv := .sc ⟨false, [.sc (.k (.fn f))]⟩) (fun x hx => by
        obtain ⟨b, hb, hx⟩ := hx
        simp only [List.mem_singleton] at hb
        subst hb
        exact hx.elim)
      obtain ⟨M', g1, g2, g3⟩ := entry_rel (k := k + 1) (j := j) t hR' he hf' hh hid (fun i v' hi => by
          have := hv (i + 1) v' (by simpa using hi)
          rw [show k + 1 + i = k + (i + 1) by omega]; exact this) hro hm ht hn hap hp hpb
      exact ⟨M', g1, g2, g3⟩
  | .new ks :: ps, vals, ds, ro, rows, boxes, tk, M, A, k, j, id, h, ha, _, _, _, _, _, _, _, _, _, _, _, _, _ => by cases ha

end

end Go.Mw

namespace Go.Mw
open Go.RowKit

def resSC (P : Program) (A : FS) : ResultVar → Option SC
  | .tmp t =>
    match A.sl t with
    | some ([], .sc c) => some c
    | _ => none
  | .cell x t =>
    match A.sl x with
    | some ([], .ptr id off) =>
      match tsize P t, A.ob id with
      | some n, some (.box cells) => if off + n ≤ cells.length && decide (off < cloK) && (isStruct P t || (isPlain P t && n == 1)) then some ⟨isStruct P t, (cells.drop off).take n⟩ else none
      | _, _ => none
    | _ => none

def retCells (ob : Nat → Option SO) : List AK → List At → Option (List Lf × List Nat × List (Lf × Lf))
  | [], [] => some ([], [], [])
  | .sc :: ks, .sc l :: as => (retCells ob ks as).map fun x => (l :: x.1, x.2)
  | .sl js :: ks, .nil :: as => (retCells ob ks as).map fun x => (.k (.list js []) :: x.1, x.2)
  | .sl _ :: ks, .own r :: as =>
    match ob r, retCells ob ks as with
    | some (.row _ l true), some x => if x.2.1.contains r then none else some (l :: x.1, r :: x.2.1, x.2.2)
    | _, _ => none
  | .sl js :: .sl _ :: ks, .inn r ver l (some (.elm q)) :: .inn r' ver' l' (some (.pre _ hi)) :: as =>
    match ob r, retCells ob ks as with
    | some (.row v0 _ true), some x =>
      if r == r' && ver == v0 && ver' == v0 && AK.eqs ((q.ks.drop q.off).take 1) [.sl js] && js.all (AK.eqb .sc) && !x.2.1.contains r then some (l :: l' :: x.1, r :: x.2.1, (hi, q.ix) :: x.2.2) else none
    | _, _ => none
  | _, _ => none

def retSCs (ob : Nat → Option SO) : List (Bool × List AK) → List SC → Option (List Lf × List Nat × List (Lf × Lf))
  | [], [] => some ([], [], [])
  | (g, ks) :: rs, c :: cs =>
    if g == c.g then
      match retCells ob ks c.cs, retSCs ob rs cs with
      | some x, some y => if x.2.1.any (y.2.1.contains ·) then none else some (x.1 ++ y.1, x.2.1 ++ y.2.1, x.2.2 ++ y.2.2)
      | _, _ => none
    else none
  | _, _ => none

def retRows (ob : Nat → Option SO) : List Nat → Option (List Lf)
  | [] => some []
  | r :: rs =>
    match ob r, retRows ob rs with
    | some (.row _ l false), some ls => some (l :: ls)
    | _, _ => none

def retBox : List AK → List At → Option (List Lf)
  | [], [] => some []
  | .sc :: ks, .sc l :: as => (retBox ks as).map fun ls => l :: ls
  | .sl _ :: ks, _ :: as => retBox ks as
  | _, _ => none

def retBoxes (ob : Nat → Option SO) : List (Nat × List AK) → Option (List Lf)
  | [] => some []
  | (id, ks) :: r =>
    match ob id with
    | some (.box cells) =>
      match retBox ks cells, retBoxes ob r with
      | some l, some ls => some (l ++ ls)
      | _, _ => none
    | _ => none

def newCells : List AK → List At → Option (List Lf)
  | [], [] => some []
  | .sc :: ks, .sc l :: as => (newCells ks as).map fun ls => l :: ls
  | .sl _ :: ks, .ro l :: as => (newCells ks as).map fun ls => l :: ls
  | _, _ => none

def retNew (fn : Func) (ks : List AK) (A : FS) : Option (List Lf) :=
  match fn.results.toList with
  | [.tmp t] =>
    match A.sl t with
    | some ([], .ptr id 0) =>
      match A.ob id with
      | some (.box cells) => newCells ks cells
      | _ => none
    | _ => none
  | _ => none

def retReg (P : Program) (fn : Func) (s : Sig) (A : FS) : Option (List (Lf × Lf) × List Lf) :=
  match mapO (resSC P A) fn.results.toList with
  | none => none
  | some cs =>
    match retSCs A.ob s.rs cs, retRows A.ob (rowIds s.ps 0), retBoxes A.ob (boxIds s.ps 0) with
    | some x, some y, some z => some (x.2.2, x.1 ++ y ++ z)
    | _, _, _ => none

def retOf (P : Program) (fn : Func) (s : Sig) (A : FS) : Option (List (Lf × Lf) × List Lf) :=
  match s.ps with
  | .new ks :: _ => (retNew fn ks A).map fun ls => ([], ls)
  | _ => retReg P fn s A

section
variable {P : Program} {c : Cx} {nt : Nat} {M : Mp} {env : List V} {A : FS} {a : Act} {w : World}

theorem newCells_rel (hR : Rel c nt M env A a w) : ∀ {ks : List AK} {cs : List At} {us : List Value} {ls : List Lf}, newCells ks cs = some ls → RelAts c M env w A.ob cs us →
    ∃ S, CellsR w ks us (ls.map (Lf.ev env)) S ∧ ∀ b ∈ S, c.rd b
  | [], [], us, ls, h, hr => by
    simp only [newCells, Option.some.injEq] at h
    subst h
    cases us with
    | nil => exact ⟨[], .nil, by simp⟩
    | cons => exact hr.elim
  | [], _ :: _, _, _, h, _ => by simp [newCells] at h
  | k :: _, [], _, _, h, _ => by cases k <;> simp [newCells] at h
  | k :: ks, x :: cs, us, ls, h, hr => by
    cases us with
    | nil => exact hr.elim
    | cons u us =>
    obtain ⟨hu, hr⟩ := hr
    cases k with
    | sc =>
      cases x <;> simp only [newCells, Option.map_eq_some_iff, reduceCtorEq] at h
      obtain ⟨y, h1, rfl⟩ := h
      obtain ⟨S, g1, g2⟩ := newCells_rel hR h1 hr
      exact ⟨S, .sc hu.2 g1, g2⟩
    | sl js =>
      cases x <;> simp only [newCells, Option.map_eq_some_iff, reduceCtorEq] at h
      obtain ⟨y, h1, rfl⟩ := h
      obtain ⟨S, g1, g2⟩ := newCells_rel hR h1 hr
      obtain ⟨S0, r1, r2⟩ := hu.2
      refine ⟨S0 ++ S, .sl r1 g1, fun b hb => ?_⟩
      rcases List.mem_append.1 hb with hb | hb
      · exact r2 b hb
      · exact g2 b hb

theorem resSC_run (hR : Rel c nt M env A a w) {rv : ResultVar} {x : SC} (h : resSC P A rv = some x) :
    ∃ v, (match rv with
      | .tmp t => (pure (a.tmps.getD t undef) : Sem Value)
      | .cell b t => do loadVar t (← asAddr (a.tmps.getD b undef))).run P w = .ok v w ∧ RelSC c M env w A.ob x v := by
  cases rv with
  | tmp t =>
    simp only [resSC] at h
    split at h <;> simp only [Option.some.injEq, reduceCtorEq] at h
    rename_i c' hs
    subst h
    exact ⟨_, rfl, (hR.slots _ _ _ hs).2.1 (by simp [GH])⟩
  | cell b t =>
    simp only [resSC] at h
    split at h
    · rename_i id off hs
      split at h
      · rename_i n cells hn hbx
        split at h <;> simp only [Option.some.injEq, reduceCtorEq] at h
        rename_i hc
        simp only [Bool.and_eq_true, decide_eq_true_eq] at hc
        subst h
        have hp : a.tmps.getD b undef = .pointer (some ⟨M.be id, off, none⟩) := by rw [(hR.slots _ _ _ hs).2.1 (by simp [GH]) cells hbx, ptrV_lt hc.1.2]
        replace hc : off + n ≤ cells.length ∧ _ := ⟨hc.1.1, hc.2⟩
        obtain ⟨us, E, q1, q2, q3⟩ := hR.boxes _ _ hbx
        have hlen := q2.length
        have hv : ∀ j v, ((us.drop off).take n)[j]? = some v → w.cell? ⟨M.be id, off + j, none⟩ = some v := by
          intro j v hj
          simp only [World.cell?, q1]
          have hjn : j < n := by
            rcases Nat.lt_or_ge j n with h | h
            · exact h
            · rw [List.getElem?_eq_none (by simp; omega)] at hj; cases hj
          rw [List.getElem?_take_of_lt hjn, List.getElem?_drop] at hj
          simpa using hj
        have hl : ((us.drop off).take n).length = n := by simp; omega
        have hr := q2.cells off n
        simp only [hp]
        by_cases hst : isStruct P t = true
        · have := run_loadStruct (P := P) w (b := M.be id) (off := off) (vs := (us.drop off).take n) hst (by rw [hn, hl]) hv
          refine ⟨.agg ((us.drop off).take n).toArray, ?_, _, hr, by simp [packV, hst]⟩
          simp only [asAddr, Sem.run_bind, Sem.run_pure, Result.andThen_ok, this]
        · have hs' : isStruct P t = false := by simpa using hst
          simp only [hs', Bool.false_or, Bool.and_eq_true, beq_iff_eq] at hc
          obtain ⟨v, hv1⟩ : ∃ v, (us.drop off).take n = [v] := by
            match h : (us.drop off).take n, hl.trans hc.2.2 with
            | [v], _ => exact ⟨v, rfl⟩
          have h0 := hv 0 v (by rw [hv1]; rfl)
          have := run_loadPlain (P := P) w (b := M.be id) (off := off) hc.2.1 h0
          refine ⟨v, ?_, [v], by rw [← hv1]; exact hr, by simp [packV, hs']⟩
          simp only [asAddr, Sem.run_bind, Sem.run_pure, Result.andThen_ok, this]
      · cases h
    · cases h

end

end Go.Mw

namespace Go.Mw
open Go.RowKit

section
variable {P : Program} {c : Cx} {nt : Nat} {M : Mp} {env : List V} {A : FS} {a : Act} {w : World}

theorem row_parts (hR : Rel c nt M env A a w) {r v0 : Nat} {lr l l' ll hi : Lf} {q : PthE} {js : List AK} {u u2 : Value} (hrow : A.ob r = some (.row v0 lr true)) (h1 : RelAt c M env w A.ob (.inn r v0 l (some (.elm q))) u)
    (h2 : RelAt c M env w A.ob (.inn r v0 l' (some (.pre ll hi))) u2) (hkk : AK.eqs ((q.ks.drop q.off).take 1) [.sl js] = true) (hjs : flatK js = true) (hck : CkOk env (hi, q.ix)) :
    ∃ S1 S2, Rep w [u] [l.ev env] S1 ∧ OwnHd w u (l.ev env) ∧ Rep w [u2] [l'.ev env] S2 ∧ OwnHd w u2 (l'.ev env) ∧ (S1 ++ S2).Nodup ∧ ∀ b ∈ S1 ++ S2, b ∈ M.ph r ∧ Wr w b := by
  obtain ⟨_, _, u0, pb, po, hl, ⟨bb, oo, n, cap, es, i, ik, e, q1, q2, q3, q4, q5, q6, q7, q8⟩, hfr⟩ := h1
  obtain ⟨_, _, u0', ⟨ks2, es2, k, m, xx, cap2, p1, p2, p3, p4, p5, p6, p7⟩, hfr2⟩ := h2
  simp only [Value.pointer.injEq, Option.some.injEq, Addr.mk.injEq, and_true] at q8
  obtain ⟨rfl, rfl⟩ := q8
  obtain ⟨k1, k2, k3, k4⟩ := hfr _ _ _ hrow rfl
  obtain ⟨m1, m2⟩ := hfr2 _ _ _ hrow rfl
  obtain ⟨⟨S, s1, s2, s3⟩, s4, s5, _⟩ := hR.rows _ _ _ _ hrow
  obtain ⟨⟨o1, o2⟩, _⟩ := s5 rfl
  have e1 : V.list ks2 es2 = V.list q.ks es := by rw [← p1, ← m1, k1, q2]
  simp only [V.list.injEq] at e1
  obtain ⟨rfl, rfl⟩ := e1
  rw [← m2, p6] at k2
  rw [q1] at k2
  simp only [Value.slice.injEq] at k2
  obtain ⟨rfl, rfl, rfl⟩ := k2
  have hhd : M.hd r = .slice (some ⟨pb, oo, none⟩) es2.length cap := by rw [← m2, p6]
  rw [k1, q2, hhd] at s1 o1 o2
  obtain ⟨k0, a0, k0', b0, c1, c2, c3⟩ := hck
  rw [p2] at c1
  rw [q3] at c2
  simp only [V.int.injEq] at c1 c2
  obtain ⟨rfl, rfl⟩ := c1
  obtain ⟨rfl, rfl⟩ := c2
  rcases s1.list_inv with ⟨_, qq, _⟩ | ⟨b', off', n', cap', vs, S', cs, E, fz, hv, rfl, hn, hk, hcap, hbl, hsz, hvv, hin⟩
  · subst qq; simp at q5
  simp only [Value.slice.injEq, Option.some.injEq, Addr.mk.injEq, and_true] at hv
  obtain ⟨⟨rfl, rfl⟩, rfl, rfl⟩ := hv
  have hblr := hbl
  have hlt : i.toNat < es2.length := by
    rcases Nat.lt_or_ge i.toNat es2.length with h | h
    · exact h
    · simp [List.getElem?_eq_none h] at q5
  have hoff : q.off < q.ks.length := by
    rcases Nat.lt_or_ge q.off q.ks.length with h | h
    · exact h
    · rw [List.drop_eq_nil_of_le h] at hkk; simp [AK.eqs] at hkk
  have hpos : i.toNat * q.ks.length + q.off + 1 ≤ es2.length * q.ks.length := by
    have : (i.toNat + 1) * q.ks.length ≤ es2.length * q.ks.length := Nat.mul_le_mul_right _ (by omega)
    rw [Nat.add_mul] at this; omega
  have hmi : m.toNat * q.ks.length ≤ i.toNat * q.ks.length + q.off := by
    have : m.toNat * q.ks.length ≤ i.toNat * q.ks.length := Nat.mul_le_mul_right _ (by omega)
    omega
  have hk2 := lens hk
  have hvl : vs.length = es2.length * q.ks.length := hin.flat_length hk2
  have hd0 : (es2.flatMap V.cells)[i.toNat * q.ks.length + q.off]? = some (l.ev env) := by
    rw [flat_get hk2 q5 hoff, ← q7 q.off hoff, hl]
    have : q.off < e.cells.length := by rw [hk2 e (List.mem_of_getElem? q5)]; exact hoff
    have h2 := q7 q.off hoff
    rw [List.getElem?_eq_getElem this] at h2
    simp [Lf.ev, h2]
  have hvc : vs[i.toNat * q.ks.length + q.off]? = some u := by
    rw [← hvv _ (by omega)]
    simp only [World.cell?, hblr] at k4
    rw [← Nat.add_assoc]
    simpa using k4
  have hsplit : es2.flatMap V.cells = (es2.flatMap V.cells).take (i.toNat * q.ks.length + q.off) ++ (((es2.flatMap V.cells).drop (i.toNat * q.ks.length + q.off)).take 1 ++ (es2.flatMap V.cells).drop (i.toNat * q.ks.length + q.off + 1)) := split3 _ _ _
  have hin2 := hin
  rw [hsplit] at hin2
  obtain ⟨vx, v2, Sx, S2, ev, eS, rx, r2⟩ := hin2.split
  obtain ⟨vy, vz, Sy, Sz, ev2, eS2, ry, rz⟩ := r2.split
  have lfl : (es2.flatMap V.cells).length = es2.length * q.ks.length := flatMap_length hk2
  have lvx : vx.length = i.toNat * q.ks.length + q.off := by rw [rx.length, List.length_take]; omega
  have hone : ((es2.flatMap V.cells).drop (i.toNat * q.ks.length + q.off)).take 1 = [l.ev env] := by
    have hlt2 : i.toNat * q.ks.length + q.off < (es2.flatMap V.cells).length := by omega
    rw [List.getElem?_eq_getElem hlt2, Option.some.injEq] at hd0
    rw [List.drop_eq_getElem_cons hlt2, hd0]; rfl
  rw [hone] at ry
  have hvy : vy = [u] := by
    have lvy : vy.length = 1 := by rw [ry.length]; rfl
    rw [ev, ev2, List.getElem?_append_right (by omega), lvx, Nat.sub_self] at hvc
    match vy, lvy with
    | [y], _ => simp only [List.cons_append, List.getElem?_cons_zero, Option.some.injEq] at hvc; rw [hvc]
  subst hvy
  -- the elements ahead
  have hpre : (es2.flatMap V.cells).take (i.toNat * q.ks.length + q.off) = (es2.take m.toNat).flatMap V.cells ++ ((es2.flatMap V.cells).take (i.toNat * q.ks.length + q.off)).drop (m.toNat * q.ks.length) := by
    rw [← flatMap_take hk2 m.toNat]
    conv => lhs; rw [← List.take_append_drop (m.toNat * q.ks.length) ((es2.flatMap V.cells).take (i.toNat * q.ks.length + q.off))]
    rw [List.take_take, Nat.min_eq_left hmi]
  rw [hpre] at rx
  obtain ⟨vp, vr, Sp, Sr, ev3, eS3, rp, _⟩ := rx.split
  have hkt : ∀ e ∈ es2.take m.toNat, aksOk q.ks e.cells = true := fun x hx => hk x (List.mem_of_mem_take hx)
  have lvp : vp.length = m.toNat * q.ks.length := by rw [rp.flat_length (lens hkt), List.length_take, Nat.min_eq_left p4]
  have hvp : ∀ j, j < m.toNat * q.ks.length → cs[oo + j]? = vp[j]? := by
    intro j hj
    have e4 : vs = vp ++ (vr ++ v2) := by rw [ev, ev3, List.append_assoc]
    rw [hvv j (by omega), e4, List.getElem?_append_left (by rw [lvp]; exact hj)]
  have hnd : (Sp ++ Sr ++ (Sy ++ Sz)).Nodup ∧ pb ∉ Sp ++ Sr ++ (Sy ++ Sz) := by
    rw [← eS3, ← eS2, ← eS]
    simp only [List.nodup_cons] at s2
    exact ⟨s2.2, s2.1⟩
  have hsub : ∀ b ∈ Sp ++ Sr ++ (Sy ++ Sz), b ∈ M.ph r ∧ Wr w b := by
    rw [← eS3, ← eS2, ← eS]; exact fun b hb => s3 b (by simp [hb])
  -- the kind of the inner list
  have hke : ∃ kj ej, l.ev env = .list kj ej ∧ flatK kj = true := by
    have h3 := aksOk_take 1 (aksOk_drop q.off q6)
    rw [AK.eqs_eq hkk] at h3
    have h4 : (e.cells.drop q.off).take 1 = [l.ev env] := by
      have hce : e.cells[q.off]? = some (l.ev env) := by rw [← flat_get hk2 q5 hoff]; exact hd0
      have hlt3 : q.off < e.cells.length := by rw [hk2 e (List.mem_of_getElem? q5)]; exact hoff
      rw [List.getElem?_eq_getElem hlt3, Option.some.injEq] at hce
      rw [List.drop_eq_getElem_cons hlt3, hce]; rfl
    rw [h4] at h3
    generalize l.ev env = d at h3
    cases d <;> simp only [aksOk, akOk, Bool.and_true, Bool.false_eq_true] at h3
    rename_i kj ej
    exact ⟨kj, ej, rfl, by rw [← AK.eqs_eq h3]; exact hjs⟩
  obtain ⟨kj, ej, hke, hfj⟩ := hke
  have hnd2 := hnd.1
  simp only [List.nodup_append, List.mem_append] at hnd2
  have hnd3 := hnd.2
  simp only [List.mem_append, not_or] at hnd3
  refine ⟨Sy, pb :: Sp, ry, ⟨?_, ?_⟩, ?_, ⟨?_, ?_⟩, ?_, ?_⟩
  · rw [hke]
    refine o2 pb oo es2.length cap q.ks es2 rfl rfl (i.toNat * q.ks.length + q.off) u kj ej (by omega) ?_ (by rw [hd0, hke])
    simp only [World.cell?, hblr]
    have := hvv (i.toNat * q.ks.length + q.off) (by omega)
    rw [hvc] at this
    simpa using this
  · rw [hke] at ry ⊢; exact Inn.flat ry hfj
  · rw [p5, p7]
    have := Rep.row (w := w) pb oo m.toNat cap q.ks (es2.take m.toNat) vp Sp cs E fz (by rw [List.length_take, Nat.min_eq_left p4]) hkt (by omega) hblr (by
      have : m.toNat * q.ks.length ≤ es2.length * q.ks.length := Nat.mul_le_mul_right _ p4
      omega) hvp rp .nil
    simpa using this
  · rw [p5, p7]
    rcases o1 with h | ⟨g, n3, cap3, ks3, es3, z1, z2, z3, z4, z5⟩
    · cases h
    · simp only [Value.slice.injEq, Option.some.injEq, Addr.mk.injEq, and_true] at z1
      obtain ⟨⟨rfl, rfl⟩, rfl, rfl⟩ := z1
      simp only [V.list.injEq] at z2
      obtain ⟨rfl, rfl⟩ := z2
      exact .inr ⟨pb, m.toNat, cap, q.ks, es2.take m.toNat, rfl, rfl, z3, by omega, z5⟩
  · rw [p5, p7]
    have hall : OwnCs w vs (es2.flatMap V.cells) := o2.cells hblr hvl hvv
    refine Inn.mk hblr (vs := vp) hvp ?_
    have ht := hall.take (m.toNat * q.ks.length)
    rw [flatMap_take hk2] at ht
    have : vs.take (m.toNat * q.ks.length) = vp := by
      rw [ev, ev3, List.append_assoc, ← lvp, List.take_left]
    rw [this] at ht
    exact ht
  · rw [List.nodup_append, List.nodup_cons]
    refine ⟨hnd2.2.1.1, ⟨hnd3.1.1, hnd2.1.1⟩, fun x hx y hy e => ?_⟩
    rcases List.mem_cons.1 hy with rfl | hy
    · exact hnd3.2.1 (e ▸ hx)
    · exact hnd2.2.2 y (.inl hy) x (.inl hx) e.symm
  · intro b hb
    simp only [List.mem_append, List.mem_cons] at hb
    rcases hb with hb | rfl | hb
    · exact hsub b (by simp [hb])
    · exact s3 _ (by simp)
    · exact hsub b (by simp [hb])

theorem retCells_rel (hR : Rel c nt M env A a w) {ks : List AK} {cs : List At} {us : List Value} {q : List Lf × List Nat × List (Lf × Lf)} (h : retCells A.ob ks cs = some q) (hr : RelAts c M env w A.ob cs us) (hck : ∀ ck ∈ q.2.2, CkOk env ck) :
    ∃ S, ResC w ks us (q.1.map (Lf.ev env)) S ∧ S.Nodup ∧ (∀ b ∈ S, (∃ r ∈ q.2.1, b ∈ M.ph r) ∧ c.own b ∧ Wr w b) ∧ ∀ r ∈ q.2.1, ∃ ver l app, A.ob r = some (.row ver l app) := by
  unfold retCells at h
  split at h
  · simp only [Option.some.injEq] at h
    subst h
    cases us with
    | nil => exact ⟨[], .nil, by simp, by simp, by simp⟩
    | cons => exact hr.elim
  · rename_i ks l as
    cases us with
    | nil => exact hr.elim
    | cons u us =>
    obtain ⟨hu, hr⟩ := hr
    simp only [Option.map_eq_some_iff] at h
    obtain ⟨y, h1, rfl⟩ := h
    obtain ⟨S, g1, g2, g3, g4⟩ := retCells_rel hR h1 hr hck
    exact ⟨S, .sc hu.2 g1, g2, g3, g4⟩
  · rename_i js ks as
    cases us with
    | nil => exact hr.elim
    | cons u us =>
    obtain ⟨hu, hr⟩ := hr
    simp only [Option.map_eq_some_iff] at h
    obtain ⟨y, h1, rfl⟩ := h
    obtain ⟨S, g1, g2, g3, g4⟩ := retCells_rel hR h1 hr hck
    have hn := hu.2
    simp only at hn
    subst hn
    exact ⟨S, .sl (S1 := []) (.atom (.nil js) .nil) ⟨.inl rfl, Inn.nil⟩ g1, g2, g3, g4⟩
  · rename_i js ks r as
    cases us with
    | nil => exact hr.elim
    | cons u us =>
    obtain ⟨hu, hr⟩ := hr
    split at h
    · rename_i ver l x h1 h2
      split at h <;> simp only [Option.some.injEq, reduceCtorEq] at h
      rename_i hnc
      subst h
      obtain ⟨S, g1, g2, g3, g4⟩ := retCells_rel hR h2 hr hck
      obtain ⟨⟨S0, r1, r2, r3⟩, _, r5, _⟩ := hR.rows _ _ _ _ h1
      obtain ⟨o1, o2⟩ := r5 rfl
      have hv := hu.2 _ _ _ h1
      rw [← hv] at r1 o1
      have hnot : r ∉ x.2.1 := by simpa using hnc
      refine ⟨S0 ++ S, .sl r1 o1 g1, ?_, ?_, ?_⟩
      · rw [List.nodup_append]
        refine ⟨r2, g2, ?_⟩
        intro b hb b' hb' e
        subst e
        obtain ⟨⟨q, hq, hbq⟩, _⟩ := g3 b hb'
        obtain ⟨v2, l2, a2, hoq⟩ := g4 q hq
        exact hR.dRR _ _ _ _ _ _ _ _ h1 hoq (fun e => hnot (e ▸ hq)) b (r3 b hb).1 hbq
      · intro b hb
        rcases List.mem_append.1 hb with hb | hb
        · exact ⟨⟨r, by simp, (r3 b hb).1⟩, o2 b (r3 b hb).1, (r3 b hb).2⟩
        · obtain ⟨⟨q, hq, hbq⟩, hw⟩ := g3 b hb
          exact ⟨⟨q, by simp [hq], hbq⟩, hw⟩
      · intro q hq
        rcases List.mem_cons.1 hq with rfl | hq
        · exact ⟨_, _, _, h1⟩
        · exact g4 q hq
    · cases h
  · rename_i js js2 ks r ver l qq r' ver' l' ll hi as
    cases us with
    | nil => exact hr.elim
    | cons u us =>
    obtain ⟨hu, hr⟩ := hr
    cases us with
    | nil => exact hr.elim
    | cons u2 us =>
    obtain ⟨hu2, hr⟩ := hr
    split at h
    · rename_i v0 lr x h1 h2
      split at h <;> simp only [Option.some.injEq, reduceCtorEq] at h
      rename_i hcond
      simp only [Bool.and_eq_true, beq_iff_eq, Bool.not_eq_true'] at hcond
      obtain ⟨⟨⟨⟨⟨rfl, rfl⟩, rfl⟩, hkk⟩, hjs⟩, hnc⟩ := hcond
      subst h
      obtain ⟨S, g1, g2, g3, g4⟩ := retCells_rel hR h2 hr (fun ck hc => hck ck (by simp [hc]))
      obtain ⟨S1, S2, p1, p2, p3, p4, p5, p6⟩ := row_parts hR h1 hu hu2 hkk hjs (hck (hi, qq.ix) (by simp))
      obtain ⟨_, _, r5, _⟩ := hR.rows _ _ _ _ h1
      obtain ⟨_, o2⟩ := r5 rfl
      have hnot : r ∉ x.2.1 := by
        intro hm
        rw [List.contains_iff_mem.2 hm] at hnc; cases hnc
      have hdis : ∀ b ∈ S1 ++ S2, b ∉ S := by
        intro b hb hb'
        obtain ⟨⟨q, hq, hbq⟩, _⟩ := g3 b hb'
        obtain ⟨v2, l2, a2, hoq⟩ := g4 q hq
        exact hR.dRR _ _ _ _ _ _ _ _ h1 hoq (fun e => hnot (e ▸ hq)) b (p6 b hb).1 hbq
      refine ⟨S1 ++ (S2 ++ S), .sl p1 p2 (.sl p3 p4 g1), ?_, ?_, ?_⟩
      · rw [← List.append_assoc, List.nodup_append]
        exact ⟨p5, g2, fun b hb b' hb' e => hdis b hb (e ▸ hb')⟩
      · intro b hb
        rw [← List.append_assoc] at hb
        rcases List.mem_append.1 hb with hb | hb
        · exact ⟨⟨r, by simp, (p6 b hb).1⟩, o2 b (p6 b hb).1, (p6 b hb).2⟩
        · obtain ⟨⟨q, hq, hbq⟩, hw⟩ := g3 b hb
          exact ⟨⟨q, by simp [hq], hbq⟩, hw⟩
      · intro q hq
        rcases List.mem_cons.1 hq with rfl | hq
        · exact ⟨_, _, _, h1⟩
        · exact g4 q hq
    · cases h
  · cases h
termination_by ks.length

theorem retSCs_rel (hR : Rel c nt M env A a w) : ∀ {rs : List (Bool × List AK)} {cs : List SC} {vs : List Value} {q : List Lf × List Nat × List (Lf × Lf)}, retSCs A.ob rs cs = some q → RelSCs c M env w A.ob cs vs → (∀ ck ∈ q.2.2, CkOk env ck) →
    ∃ S, ResR w rs vs (q.1.map (Lf.ev env)) S ∧ S.Nodup ∧ (∀ b ∈ S, (∃ r ∈ q.2.1, b ∈ M.ph r) ∧ c.own b ∧ Wr w b) ∧ ∀ r ∈ q.2.1, ∃ ver l app, A.ob r = some (.row ver l app)
  | [], [], vs, q, h, hr, _ => by
    simp only [retSCs, Option.some.injEq] at h
    subst h
    cases vs with
    | nil => exact ⟨[], .nil, by simp, by simp, by simp⟩
    | cons => exact hr.elim
  | [], _ :: _, _, _, h, _, _ => by simp [retSCs] at h
  | _ :: _, [], _, _, h, _, _ => by simp [retSCs] at h
  | (g, ks) :: rs, x :: cs, vs, q, h, hr, hck => by
    cases vs with
    | nil => exact hr.elim
    | cons v vs =>
    obtain ⟨⟨us, hu, hp⟩, hr⟩ := hr
    simp only [retSCs] at h
    split at h
    · rename_i hg
      simp only [beq_iff_eq] at hg
      split at h
      · rename_i y z h1 h2
        split at h <;> simp only [Option.some.injEq, reduceCtorEq] at h
        rename_i hdis
        subst h
        obtain ⟨S1, g1, g2, g3, g4⟩ := retCells_rel hR h1 hu (fun ck hc => hck ck (by simp [hc]))
        obtain ⟨S2, k1, k2, k3, k4⟩ := retSCs_rel hR h2 hr (fun ck hc => hck ck (by simp [hc]))
        have hdis' : ∀ r ∈ y.2.1, r ∉ z.2.1 := by
          intro r hr hz
          exact hdis (List.any_eq_true.2 ⟨r, hr, by simpa using hz⟩)
        refine ⟨S1 ++ S2, by rw [List.map_append]; exact .cons g1 (hg ▸ hp) k1, ?_, ?_, ?_⟩
        · rw [List.nodup_append]
          refine ⟨g2, k2, ?_⟩
          intro b hb b' hb' e
          subst e
          obtain ⟨⟨r, hr, hbr⟩, _⟩ := g3 b hb
          obtain ⟨⟨r', hr', hbr'⟩, _⟩ := k3 b hb'
          obtain ⟨_, _, _, o1⟩ := g4 r hr
          obtain ⟨_, _, _, o2⟩ := k4 r' hr'
          exact hR.dRR _ _ _ _ _ _ _ _ o1 o2 (fun e => hdis' r hr (e ▸ hr')) b hbr hbr'
        · intro b hb
          rcases List.mem_append.1 hb with hb | hb
          · obtain ⟨⟨r, hr, hbr⟩, hw⟩ := g3 b hb
            exact ⟨⟨r, by simp [hr], hbr⟩, hw⟩
          · obtain ⟨⟨r, hr, hbr⟩, hw⟩ := k3 b hb
            exact ⟨⟨r, by simp [hr], hbr⟩, hw⟩
        · intro r hr
          rcases List.mem_append.1 hr with hr | hr
          · exact g4 r hr
          · exact k4 r hr
      · cases h
    · cases h

theorem retRows_rel (hR : Rel c nt M env A a w) : ∀ {ids : List Nat} {rows : List (Value × List Nat)} {ls : List Lf}, retRows A.ob ids = some ls → ParL c ids rows → PostRows w rows (ls.map (Lf.ev env))
  | [], [], ls, h, _ => by simp only [retRows, Option.some.injEq] at h; subst h; exact .nil
  | [], _ :: _, _, _, h => h.elim
  | _ :: _, [], _, _, h => h.elim
  | r :: ids, (u, S) :: rows, ls, h, hp => by
    simp only [retRows] at h
    split at h <;> simp only [Option.some.injEq, reduceCtorEq] at h
    rename_i ver l ls' h1 h2
    subst h
    obtain ⟨⟨S0, r1, r2, r3⟩, _, _, r6⟩ := hR.rows _ _ _ _ h1
    obtain ⟨p1, p2⟩ := r6 rfl u S hp.1
    rw [p1] at r1
    exact .cons r1 r2 (fun b hb => ⟨p2 b (r3 b hb).1, (r3 b hb).2⟩) (retRows_rel hR h2 hp.2)

theorem retBox_rel : ∀ {ks : List AK} {cells : List At} {us us' : List Value} {ls : List Lf}, retBox ks cells = some ls → RelAts c M env w A.ob cells us' → us.length = ks.length → (∀ (i : Nat) u, ties ks us i = some u → us'[i]? = some u) → BoxC w ks us us' (ls.map (Lf.ev env))
  | [], [], us, us', ls, h, hr, hl, _ => by
    simp only [retBox, Option.some.injEq] at h
    subst h
    have : us = [] := List.eq_nil_of_length_eq_zero (by simpa using hl)
    subst this
    cases us' with
    | nil => exact .nil
    | cons => exact hr.elim
  | [], _ :: _, _, _, _, h, _, _, _ => by simp [retBox] at h
  | k :: _, [], _, _, _, h, _, _, _ => by cases k <;> simp [retBox] at h
  | k :: ks, x :: cells, us, us', ls, h, hr, hl, ht => by
    cases us' with
    | nil => exact hr.elim
    | cons u' us' =>
    cases us with
    | nil => simp at hl
    | cons u us =>
    obtain ⟨hu, hr⟩ := hr
    have ht' : ∀ (i : Nat) u, ties ks us i = some u → us'[i]? = some u := by
      intro i v hi
      have := ht (i + 1) v (by simpa [ties] using hi)
      simpa using this
    cases k with
    | sc =>
      cases x <;> simp only [retBox, Option.map_eq_some_iff, reduceCtorEq] at h
      obtain ⟨ls', h1, rfl⟩ := h
      exact .sc hu.2 (retBox_rel h1 hr (by simpa using hl) ht')
    | sl js =>
      have h' : retBox ks cells = some ls := by cases x <;> simpa [retBox] using h
      have := ht 0 u (by simp [ties])
      simp only [List.getElem?_cons_zero, Option.some.injEq] at this
      subst this
      exact .sl (retBox_rel h' hr (by simpa using hl) ht')

theorem retBoxes_rel (hR : Rel c nt M env A a w) : ∀ {ids : List (Nat × List AK)} {boxes : List Bx} {ls : List Lf}, retBoxes A.ob ids = some ls → ParB c ids boxes → (∀ (i : Nat) r x, ids[i]? = some r → boxes[i]? = some x → r.2 = x.2.1 ∧ x.2.2.length = r.2.length) → PostBoxes w boxes (ls.map (Lf.ev env))
  | [], [], ls, h, _, _ => by simp only [retBoxes, Option.some.injEq] at h; subst h; exact .nil
  | [], _ :: _, _, _, h, _ => h.elim
  | _ :: _, [], _, _, h, _ => h.elim
  | (id, ks) :: ids, (b, ks', us) :: boxes, ls, h, hp, hk => by
    simp only [retBoxes] at h
    split at h
    · rename_i cells h1
      split at h <;> simp only [Option.some.injEq, reduceCtorEq] at h
      rename_i l ls' h2 h3
      subst h
      obtain ⟨us', E, q1, q2, q3, q4⟩ := hR.boxes _ _ h1
      obtain ⟨k1, k2⟩ := q4 _ _ hp.1
      obtain ⟨e1, e2⟩ := hk 0 _ _ rfl rfl
      simp only at e1 e2 k1 k2
      subst e1
      rw [List.map_append]
      rw [k1] at q1
      exact .cons q1 (retBox_rel h2 q2 e2 (fun i u hi => (k2 i u hi).1)) (retBoxes_rel hR h3 hp.2 (fun i r x hr hx => hk (i + 1) r x (by simpa using hr) (by simpa using hx)))
    · cases h

end

end Go.Mw

