/- A part of the framework that turns Go code into small pure programs and shows that they are sound: no condition. -/
import Derived.Test.YtafmiopgajbneaaFwE
/- The compiler is sound. -/
namespace Go.Mw
open Go.RowKit

/-! ### a normal form's own state -/

theorem Lf.lt_mono {l : Lf} {m k : Nat} (h : l.lt m = true) (hk : m ≤ k) : l.lt k = true := by
  cases l with
  | v i => simp only [Lf.lt, decide_eq_true_eq] at h ⊢; omega
  | k c => rfl

theorem AtS.at_lt {s : AtS} {j n : Nat} (h : j + s.width ≤ n) : (s.at j).lt n = true := by
  cases s <;> simp only [AtS.at, At.lt, AtS.width, Lf.lt, pthLt, Bool.and_true, decide_eq_true_eq] at h ⊢ <;> omega

theorem atsAt_lt : ∀ {ss : List AtS} {j n : Nat}, j + atsW ss ≤ n → atsLt n (atsAt j ss) = true
  | [], _, _, _ => rfl
  | s :: ss, j, n, h => by
    simp only [atsW] at h
    simp only [atsAt, atsLt, Bool.and_eq_true]
    exact ⟨AtS.at_lt (by omega), atsAt_lt (by omega)⟩

theorem scsAt_lt : ∀ {ss : List (Bool × List AtS)} {j n : Nat}, j + scsW ss ≤ n → ((scsAt j ss).all fun c => atsLt n c.cs) = true
  | [], _, _, _ => rfl
  | s :: ss, j, n, h => by
    simp only [scsW] at h
    simp only [scsAt, List.all_cons, Bool.and_eq_true]
    exact ⟨atsAt_lt (by omega), scsAt_lt (by omega)⟩

theorem SVS.at_lt {s : SVS} {j n : Nat} (h : j + s.width ≤ n) : (s.at j).lt n = true := by
  cases s with
  | sc g cs => exact atsAt_lt h
  | ptr id off => rfl
  | elem b off ks =>
    simp only [SVS.width] at h
    simp only [SVS.at, SV.lt, Bool.and_eq_true, decide_eq_true_eq]
    refine ⟨⟨⟨?_, by simp [Lf.lt]; omega⟩, by simp [Lf.lt]; omega⟩, by omega⟩
    cases b <;> simp [AtS.base, AtS.at, At.lt, Lf.lt, pthLt] <;> omega
  | tup cs => exact scsAt_lt h

theorem slAt_get : ∀ {l : List (Nat × SVS)} {j t : Nat} {sv : SV}, slAt j l t = some sv → ∃ x j', (t, x) ∈ l ∧ sv = x.at j' ∧ j ≤ j' ∧ j' + x.width ≤ j + slW l
  | [], _, _, _, h => by simp [slAt] at h
  | (s, x) :: r, j, t, sv, h => by
    simp only [slAt] at h
    split at h
    · rename_i e
      subst e
      simp only [Option.some.injEq] at h
      exact ⟨x, j, by simp, h.symm, Nat.le_refl _, by simp only [slW]; omega⟩
    · obtain ⟨y, j', h1, h2, h3, h4⟩ := slAt_get h
      exact ⟨y, j', by simp [h1], h2, by omega, by simp only [slW]; omega⟩

theorem rowsAt_get : ∀ {l : List (Nat × Bool × List AK)} {j i : Nat} {x : SO}, rowsAt j l i = some x → i ∈ l.map (·.1) ∧ ∃ app j', x = .row 0 (.v j') app ∧ j' < j + l.length
  | [], _, _, _, h => by simp [rowsAt] at h
  | (k, app, ks) :: r, j, i, x, h => by
    simp only [rowsAt] at h
    split at h
    · rename_i e
      subst e
      simp only [Option.some.injEq] at h
      exact ⟨by simp, app, j, h.symm, by simp⟩
    · obtain ⟨h1, app', j', h2, h3⟩ := rowsAt_get h
      exact ⟨by simp only [List.map_cons, List.mem_cons]; exact .inr h1, app', j', h2, by simp only [List.length_cons]; omega⟩

theorem boxesAt_get : ∀ {l : List (Nat × List AtS)} {j i : Nat} {x : SO}, boxesAt j l i = some x → ∃ cs j', (i, cs) ∈ l ∧ x = .box (atsAt j' cs) ∧ j' + atsW cs ≤ j + boxesW l
  | [], _, _, _, h => by simp [boxesAt] at h
  | (k, cs) :: r, j, i, x, h => by
    simp only [boxesAt] at h
    split at h
    · rename_i e
      subst e
      simp only [Option.some.injEq] at h
      exact ⟨cs, j, by simp, h.symm, by simp only [boxesW]; omega⟩
    · obtain ⟨cs', j', h1, h2, h3⟩ := boxesAt_get h
      exact ⟨cs', j', by simp [h1], h2, by simp only [boxesW]; omega⟩

theorem atsAt_men : ∀ {ss : List AtS} {j x : Nat}, atsMen (atsAt j ss) x → x ∈ atSIds ss
  | [], _, _, ⟨_, h, _⟩ => by cases h
  | s :: ss, j, x, ⟨b, hb, hx⟩ => by
    simp only [atsAt, List.mem_cons] at hb
    rcases hb with rfl | hb
    · cases s <;> simp_all [AtS.at, At.men, atSIds]
    · have := atsAt_men ⟨b, hb, hx⟩
      cases s <;> simp [atSIds, this]

theorem scsAt_men : ∀ {ss : List (Bool × List AtS)} {j x : Nat}, (∃ c ∈ scsAt j ss, atsMen c.cs x) → x ∈ ss.flatMap fun c => atSIds c.2
  | [], _, _, ⟨_, h, _⟩ => by cases h
  | s :: ss, j, x, ⟨b, hb, hx⟩ => by
    simp only [scsAt, List.mem_cons] at hb
    simp only [List.flatMap_cons, List.mem_append]
    rcases hb with rfl | hb
    · exact .inl (atsAt_men hx)
    · exact .inr (scsAt_men ⟨b, hb, hx⟩)

theorem SVS.at_men {s : SVS} {j x : Nat} (h : (s.at j).men x) : x ∈ s.ids := by
  cases s with
  | sc g cs => exact atsAt_men h
  | ptr id off => simp only [SVS.at, SV.men] at h; simp [SVS.ids, h]
  | elem b off ks => cases b <;> simp_all [SVS.at, SV.men, AtS.base, AtS.at, At.men, SVS.ids, atSIds]
  | tup cs => exact scsAt_men h

theorem NF.inv {np : Nat} {nf : NF} (h : nf.ok np = true) {env : List V} (hl : env.length = nf.width) : Inv np nf.st env := by
  simp only [NF.ok, Bool.and_eq_true, decide_eq_true_eq, List.all_eq_true] at h
  obtain ⟨hnp, hids⟩ := h
  have idS : ∀ {t : Nat} {x : SVS}, (t, x) ∈ nf.sl → ∀ y ∈ x.ids, y < nf.fid := fun hm y hy => hids y (by
    simp only [NF.ids, List.mem_append, List.mem_flatMap]; exact .inl (.inl ⟨_, hm, hy⟩))
  have idR : ∀ {i : Nat}, i ∈ nf.rows.map (·.1) → i < nf.fid := fun hm => hids _ (by simp only [NF.ids, List.mem_append]; exact .inl (.inr hm))
  have idB : ∀ {i : Nat} {cs : List AtS}, (i, cs) ∈ nf.boxes → ∀ y ∈ i :: atSIds cs, y < nf.fid := fun hm y hy => hids y (by
    simp only [NF.ids, List.mem_append, List.mem_flatMap]; exact .inr ⟨_, hm, hy⟩)
  have obC : ∀ i x, nf.fs.ob i = some x → rowsAt (slW nf.sl) nf.rows i = some x ∨ boxesAt (slW nf.sl + nf.rows.length) nf.boxes i = some x := by
    intro i x hx
    simp only [NF.fs] at hx
    split at hx
    · rename_i e; simp only [Option.some.injEq] at hx; subst hx; exact .inl e
    · exact .inr hx
  refine ⟨hl, ⟨fun s gs sv hs => ?_, fun i x hx => ?_⟩, ⟨fun s gs sv hs x hx hq => ?_, fun id cells hb x hx hq => ?_, fun x hq => ?_⟩, hnp⟩
  · simp only [NF.st, NF.fs, Option.map_eq_some_iff, Prod.mk.injEq] at hs
    obtain ⟨sv', g1, rfl, rfl⟩ := hs
    obtain ⟨y, j', h1, rfl, _, h4⟩ := slAt_get g1
    exact ⟨rfl, SVS.at_lt (by show _ ≤ nf.width; unfold NF.width; omega)⟩
  · rcases obC i x hx with h | h
    · obtain ⟨_, app, j', rfl, h2⟩ := rowsAt_get h
      simp only [SO.lt, Lf.lt, decide_eq_true_eq]
      show j' < nf.width
      unfold NF.width; omega
    · obtain ⟨cs, j', _, rfl, h2⟩ := boxesAt_get h
      exact atsAt_lt (by show _ ≤ nf.width; unfold NF.width; omega)
  · simp only [NF.st, NF.fs, Option.map_eq_some_iff, Prod.mk.injEq] at hs hq
    obtain ⟨sv', g1, rfl, rfl⟩ := hs
    obtain ⟨y, j', h1, rfl, _, h4⟩ := slAt_get g1
    have := idS h1 x (SVS.at_men hx)
    omega
  · simp only [NF.st] at hq
    rcases obC id _ hb with h | h
    · obtain ⟨_, app, j', h1, h2⟩ := rowsAt_get h
      cases h1
    · obtain ⟨cs, j', h1, h2, h3⟩ := boxesAt_get h
      simp only [SO.box.injEq] at h2
      subst h2
      have := idB h1 x (List.mem_cons_of_mem _ (atsAt_men hx))
      omega
  · simp only [NF.st] at hq ⊢
    cases hob : nf.fs.ob x with
    | none => rfl
    | some y =>
      rcases obC x y hob with h | h
      · have := idR (rowsAt_get h).1
        omega
      · obtain ⟨cs, j', h1, _⟩ := boxesAt_get h
        have := idB h1 x (by simp)
        omega

theorem nfFit_len {A : FS} {μ : Nat → Option Src} {β : Nat → Nat} {np : Nat} {nf : NF} {ls : List Lf} (h : nfFit A μ β np nf = some ls) : ls.length = nf.width := by
  unfold nfFit at h
  split at h
  · split at h <;> simp only [Option.some.injEq, reduceCtorEq] at h
    rename_i l1 l2 l3 h1 h2 h3
    subst h
    have n1 : ∀ {l : List (Nat × SVS)} {ls : List Lf}, slFit A μ β l = some ls → ls.length = slW l := by
      intro l
      induction l with
      | nil => intro ls h; simp only [slFit, Option.some.injEq] at h; subst h; rfl
      | cons x r ih =>
        intro ls h
        simp only [slFit] at h
        split at h
        · split at h <;> simp only [Option.some.injEq, reduceCtorEq] at h
          rename_i g1 g2
          subst h
          simp only [List.length_append, svFit_len g1, ih g2, slW]
        · cases h
    have n3 : ∀ {l : List (Nat × List AtS)} {ls : List Lf}, boxesFit A μ β np l = some ls → ls.length = boxesW l := by
      intro l
      induction l with
      | nil => intro ls h; simp only [boxesFit, Option.some.injEq] at h; subst h; rfl
      | cons x r ih =>
        intro ls h
        simp only [boxesFit] at h
        split at h
        · split at h
          · split at h <;> simp only [Option.some.injEq, reduceCtorEq] at h
            rename_i g1 g2
            subst h
            simp only [List.length_append, atsFit_len g1, ih g2, boxesW]
          · cases h
        · cases h
    simp only [List.length_append, n1 h1, rowsFit_len h2, n3 h3, NF.width]
  · cases h

section
variable {P : Program} {sg : List (Nat × Sig)} {nt np : Nat} {retOf : FS → Option (List (Lf × Lf) × List Lf)} {c : Cx}

theorem fitTo_rel {nf : NF} {A : FS} {σ : List Lf} (h : fitTo np nf A = some σ) (hok : nf.ok np = true) (hpb : ∀ x, np ≤ x → c.parB x = none) {M : Mp} {env : List V} {a : Act} {w : World} (hR : Rel c nt M env A a w) :
    Inv np nf.st (σ.map (Lf.ev env)) ∧ ∃ M', Rel c nt M' (σ.map (Lf.ev env)) nf.st.A a w :=
  ⟨NF.inv hok (by rw [List.length_map]; exact nfFit_len h), _, nfFit_rel h hpb hR⟩

/-- The state at a return. -/
def RetR (c : Cx) (nt : Nat) (retOf : FS → Option (List (Lf × Lf) × List Lf)) (outs : List V) (a : Act) (w : World) : Prop :=
  ∃ (M : Mp) (env : List V) (A : FS) (ls : List (Lf × Lf) × List Lf), Rel c nt M env A a w ∧ retOf A = some ls ∧ (∀ ck ∈ ls.1, CkOk env ck) ∧ outs = ls.2.map (Lf.ev env)

theorem cmp_sound (hnpk : npK ≤ np) (hpk : ∀ x, npK ≤ x → c.parB x = none ∧ c.par x = none) (hm : P.follows .mixedOrders = true) (hsg : ∀ f s, sg.lookup f = some s → Contract P f s) (hpb : ∀ x, np ≤ x → c.parB x = none) : ∀ (code : Code) (tg : Nat → Option NF) (st : St) (hs hs' : List NF) (l : L) (e : Option St),
    cmp P sg nt np retOf code tg st hs = some (l, e, hs') → (∀ i nf, tg i = some nf → nf.ok np = true) → ∀ (env : List V) (M : Mp) (a : Act) (w : World), Inv np st env → Rel c nt M env st.A a w →
    ∀ (Q : Exit → Act → World → Prop) (QL : LX → List V → Prop), wpL l QL env →
    (∀ st' env' M' a' w', e = some st' → Inv np st' env' → Rel c nt M' env' st'.A a' w' → QL .normal env' → Q .normal a' w') →
    (∀ id nf env' M' a' w', tg id = some nf → Inv np nf.st env' → Rel c nt M' env' nf.st.A a' w' → QL (.exit id) env' → Q (.exit id) a' w') →
    (∀ outs a' w', RetR c nt retOf outs a' w' → QL .ret outs → Q .ret a' w') → code.wp P Q a w := by
  intro code
  induction code with
  | skip =>
    intro tg st hs hs' l e h htg env M a w hI hR Q QL hl hN hX hT
    simp only [cmp, Option.some.injEq, Prod.mk.injEq] at h
    obtain ⟨rfl, rfl, rfl⟩ := h
    exact wp_skip (hN _ _ _ _ _ rfl hI hR hl)
  | region id ops draw =>
    intro tg st hs hs' l e h htg env M a w hI hR Q QL hl hN hX hT
    simp only [cmp] at h
    split at h <;> simp only [Option.some.injEq, Prod.mk.injEq, reduceCtorEq] at h
    rename_i es hrg
    obtain ⟨rfl, rfl, rfl⟩ := h
    obtain ⟨env', hrun, hq⟩ := hl
    have hseq : SeqOk P sg nt ops st.A st.fid st.nv es := by
      unfold rgn at hrg
      split at hrg
      · split at hrg <;> simp only [Option.some.injEq, reduceCtorEq] at hrg
        rename_i hgo _
        subst hrg
        exact (rgGo_ok hgo).1
      · cases hrg
    obtain ⟨_, _, hlen⟩ := envOk_of_run hseq hI.len hrun
    obtain ⟨hsc, hfr⟩ := hseq.end hI.sc hI.fr
    have hge : ∀ {es : List En} {A : FS} {fid nv : Nat}, SeqOk P sg nt ops A fid nv es → fid ≤ endFid fid es := by
      intro es
      induction es with
      | nil => intros; exact Nat.le_refl _
      | cons e r ih =>
        intro A fid nv h
        have := ih h.2.2.2.2.2
        simp only [endFid]
        have h1 := h.1
        simp only [En.nxt] at this ⊢
        omega
    exact region_sound hm hsg hrg hI.sc hI.fr hI.len hrun hpk (Nat.le_trans hnpk hI.np) hR fun M' a' w' hR' =>
      hN _ env' M' a' w' rfl ⟨hlen, hsc, hfr, Nat.le_trans hI.np (hge hseq)⟩ hR' hq
  | seq x y ihx ihy =>
    intro tg st hs hs' l e h htg env M a w hI hR Q QL hl hN hX hT
    simp only [cmp] at h
    split at h
    · rename_i la sa h1 hx
      split at h <;> simp only [Option.some.injEq, Prod.mk.injEq, reduceCtorEq] at h
      rename_i lb e' h2 hy
      obtain ⟨rfl, rfl, rfl⟩ := h
      refine wp_seq (ihx tg st hs h1 la (some sa) hx htg env M a w hI hR _ _ hl ?_ ?_ ?_)
      · intro st' env' M' a' w' he hI' hR' hq
        simp only [Option.some.injEq] at he
        subst he
        exact ihy tg sa h1 h2 lb e' hy htg env' M' a' w' hI' hR' Q QL hq hN hX hT
      · intro id nf env' M' a' w' ht hI' hR' hq
        exact hX id nf env' M' a' w' ht hI' hR' hq
      · intro outs a' w' hr hq
        exact hT outs a' w' hr hq
    · rename_i la h1 hx
      simp only [Option.some.injEq, Prod.mk.injEq] at h
      obtain ⟨rfl, rfl, rfl⟩ := h
      refine wp_seq (ihx tg st hs h1 la none hx htg env M a w hI hR _ QL hl ?_ ?_ ?_)
      · intro st' env' M' a' w' he
        cases he
      · intro id nf env' M' a' w' ht hI' hR' hq
        exact hX id nf env' M' a' w' ht hI' hR' hq
      · intro outs a' w' hr hq
        exact hT outs a' w' hr hq
    · cases h
  | cond x thn els iht ihe =>
    intro tg st hs hs' l e h htg env M a w hI hR Q QL hl hN hX hT
    simp only [cmp] at h
    split at h
    · cases h
    rename_i lf hlf
    split at h
    · cases h
    rename_i la ea h1 ha
    split at h
    · cases h
    rename_i lb eb h2 hb
    have hat := (look_scl hR hlf (by simp [GH])).atom_of
    have hcond : ∀ (b : Bool), lf.ev env = .bool b → a.eval x = .bool b := by
      intro b hb
      rw [hb] at hat
      generalize a.eval x = v at hat
      cases hat; rfl
    -- each side by itself
    have go : ∀ (ka kb : L) (K1 K2 : Option St), ((lf.ev env = .bool true ∧ wpL ka QL env) ∨ (lf.ev env = .bool false ∧ wpL kb QL env)) →
        (wpL ka QL env → thn.wp P Q a w) → (wpL kb QL env → els.wp P Q a w) → (Code.cond x thn els).wp P Q a w := by
      intro ka kb _ _ hor f g
      rcases hor with ⟨hb, hw⟩ | ⟨hb, hw⟩
      · exact wp_cond_true (hcond true hb) (f hw)
      · exact wp_cond_false (hcond false hb) (g hw)
    split at h
    · simp only [Option.some.injEq, Prod.mk.injEq] at h
      obtain ⟨rfl, rfl, rfl⟩ := h
      refine go la lb none none hl (fun hw => ?_) (fun hw => ?_)
      · exact iht tg st hs h1 la none ha htg env M a w hI hR Q QL hw (fun _ _ _ _ _ he => by cases he) hX hT
      · exact ihe tg st h1 h2 lb _ hb htg env M a w hI hR Q QL hw hN hX hT
    · simp only [Option.some.injEq, Prod.mk.injEq] at h
      obtain ⟨rfl, rfl, rfl⟩ := h
      refine go la lb none none hl (fun hw => ?_) (fun hw => ?_)
      · exact iht tg st hs h1 la _ ha htg env M a w hI hR Q QL hw hN hX hT
      · exact ihe tg st h1 h2 lb none hb htg env M a w hI hR Q QL hw (fun _ _ _ _ _ he => by cases he) hX hT
    · rename_i sa sb
      split at h
      · cases h
      rename_i nf h3
      split at h
      · rename_i σa σb hfa hfb
        split at h <;> simp only [Option.some.injEq, Prod.mk.injEq, reduceCtorEq] at h
        rename_i hok
        obtain ⟨rfl, rfl, rfl⟩ := h
        refine go (.seq la (.tup σa)) (.seq lb (.tup σb)) none none hl (fun hw => ?_) (fun hw => ?_)
        · refine iht tg st hs h1 la _ ha htg env M a w hI hR Q _ hw ?_ (fun id nf env' M' a' w' ht hI' hR' hq => hX id nf env' M' a' w' ht hI' hR' hq) (fun outs a' w' hr hq => hT outs a' w' hr hq)
          intro st' env' M' a' w' he hI' hR' hq
          simp only [Option.some.injEq] at he
          subst he
          obtain ⟨g1, M2, g2⟩ := fitTo_rel hfa hok hpb hR'
          exact hN _ _ M2 a' w' rfl g1 g2 hq
        · refine ihe tg st h1 (nf :: h3) lb _ hb htg env M a w hI hR Q _ hw ?_ (fun id nf env' M' a' w' ht hI' hR' hq => hX id nf env' M' a' w' ht hI' hR' hq) (fun outs a' w' hr hq => hT outs a' w' hr hq)
          intro st' env' M' a' w' he hI' hR' hq
          simp only [Option.some.injEq] at he
          subst he
          obtain ⟨g1, M2, g2⟩ := fitTo_rel hfb hok hpb hR'
          exact hN _ _ M2 a' w' rfl g1 g2 hq
      · cases h
  | block id b ih =>
    intro tg st hs hs' l e h htg env M a w hI hR Q QL hl hN hX hT
    simp only [cmp] at h
    split at h
    · cases h
    rename_i nf h1
    split at h
    case isFalse => cases h
    rename_i hok
    have htg' : ∀ i nf', (fun i => if i = id then some nf else tg i) i = some nf' → nf'.ok np = true := by
      intro i nf' h
      simp only at h
      split at h
      · simp only [Option.some.injEq] at h; subst h; exact hok
      · exact htg i nf' h
    split at h
    · rename_i lb h2 hb
      simp only [Option.some.injEq, Prod.mk.injEq] at h
      obtain ⟨rfl, rfl, rfl⟩ := h
      refine wp_block (ih _ st h1 h2 lb none hb htg' env M a w hI hR _ _ hl (fun _ _ _ _ _ he => by cases he) ?_ (fun outs a' w' hr hq => hT outs a' w' hr hq))
      intro i nf' env' M' a' w' ht hI' hR' hq
      simp only [Exit.inBlock] at ht hq ⊢
      by_cases hi : i = id
      · rw [if_pos hi] at ht hq ⊢
        simp only [Option.some.injEq] at ht
        subst ht
        exact hN _ _ M' a' w' rfl hI' hR' hq
      · rw [if_neg hi] at ht hq ⊢
        exact hX i nf' env' M' a' w' ht hI' hR' hq
    · rename_i lb sb h2 hb
      split at h <;> simp only [Option.some.injEq, Prod.mk.injEq, reduceCtorEq] at h
      rename_i σ hfit
      obtain ⟨rfl, rfl, rfl⟩ := h
      refine wp_block (ih _ st h1 h2 lb (some sb) hb htg' env M a w hI hR _ _ hl ?_ ?_ (fun outs a' w' hr hq => hT outs a' w' hr hq))
      · intro st' env' M' a' w' he hI' hR' hq
        simp only [Option.some.injEq] at he
        subst he
        obtain ⟨g1, M2, g2⟩ := fitTo_rel hfit hok hpb hR'
        exact hN _ _ M2 a' w' rfl g1 g2 hq
      · intro i nf' env' M' a' w' ht hI' hR' hq
        simp only [Exit.inBlock] at ht hq ⊢
        by_cases hi : i = id
        · rw [if_pos hi] at ht hq ⊢
          simp only [Option.some.injEq] at ht
          subst ht
          exact hN _ _ M' a' w' rfl hI' hR' hq
        · rw [if_neg hi] at ht hq ⊢
          exact hX i nf' env' M' a' w' ht hI' hR' hq
    · cases h
  | loop b ih =>
    intro tg st hs hs' l e h htg env M a w hI hR Q QL hl hN hX hT
    simp only [cmp] at h
    split at h
    · cases h
    rename_i nf h1
    split at h
    case isFalse => cases h
    rename_i hok
    split at h
    · cases h
    rename_i σ0 hfit0
    obtain ⟨i0, M0, r0⟩ := fitTo_rel hfit0 hok hpb hR
    split at h
    · rename_i lb h2 hb
      simp only [Option.some.injEq, Prod.mk.injEq] at h
      obtain ⟨rfl, rfl, rfl⟩ := h
      obtain ⟨I, m, hI0, hround⟩ := hl
      refine wp_loop_ghost (fun n a w => ∃ env M, Inv np nf.st env ∧ Rel c nt M env nf.st.A a w ∧ I env ∧ m env = n) _ ⟨_, M0, i0, r0, hI0, rfl⟩ ?_
      rintro n a w ⟨env1, M1, hI1, hR1, hIe, rfl⟩
      exact ih tg nf.st h1 h2 lb none hb htg env1 M1 a w hI1 hR1 _ _ (hround env1 hIe) (fun _ _ _ _ _ he => by cases he)
        (fun id nf env' M' a' w' ht hI' hR' hq => hX id nf env' M' a' w' ht hI' hR' hq) (fun outs a' w' hr hq => hT outs a' w' hr hq)
    · rename_i lb sb h2 hb
      split at h <;> simp only [Option.some.injEq, Prod.mk.injEq, reduceCtorEq] at h
      rename_i σ hfit
      obtain ⟨rfl, rfl, rfl⟩ := h
      obtain ⟨I, m, hI0, hround⟩ := hl
      refine wp_loop_ghost (fun n a w => ∃ env M, Inv np nf.st env ∧ Rel c nt M env nf.st.A a w ∧ I env ∧ m env = n) _ ⟨_, M0, i0, r0, hI0, rfl⟩ ?_
      rintro n a w ⟨env1, M1, hI1, hR1, hIe, rfl⟩
      refine ih tg nf.st h1 h2 lb (some sb) hb htg env1 M1 a w hI1 hR1 _ _ (hround env1 hIe) ?_
        (fun id nf env' M' a' w' ht hI' hR' hq => hX id nf env' M' a' w' ht hI' hR' hq) (fun outs a' w' hr hq => hT outs a' w' hr hq)
      intro st' env' M' a' w' he hI' hR' hq
      simp only [Option.some.injEq] at he
      subst he
      obtain ⟨g1, M2, g2⟩ := fitTo_rel hfit hok hpb hR'
      obtain ⟨q1, q2⟩ := hq
      exact ⟨_, q2, _, M2, g1, g2, q1, rfl⟩
    · cases h
  | exit id =>
    intro tg st hs hs' l e h htg env M a w hI hR Q QL hl hN hX hT
    simp only [cmp] at h
    split at h
    · rename_i nf ht
      split at h <;> simp only [Option.some.injEq, Prod.mk.injEq, reduceCtorEq] at h
      rename_i σ hfit
      obtain ⟨rfl, rfl, rfl⟩ := h
      obtain ⟨g1, M2, g2⟩ := fitTo_rel hfit (htg id nf ht) hpb hR
      exact wp_exit (hX id nf _ M2 a w ht g1 g2 hl)
    · cases h
  | ret =>
    intro tg st hs hs' l e h htg env M a w hI hR Q QL hl hN hX hT
    simp only [cmp] at h
    split at h <;> simp only [Option.some.injEq, Prod.mk.injEq, reduceCtorEq] at h
    rename_i ls hret
    obtain ⟨rfl, rfl, rfl⟩ := h
    obtain ⟨hck, hl⟩ := retL_wp hl
    exact wp_ret (hT _ a w ⟨M, env, st.A, ls, hR, hret, hck, rfl⟩ hl)
  | _ =>
    intro tg st hs hs' l e h
    simp [cmp] at h

end

end Go.Mw

/- The first state of a function: its parameters. -/
namespace Go.Mw
open Go.RowKit

section
variable {c : Cx} {nt : Nat} {M : Mp} {env : List V} {A : FS} {a : Act} {w : World}

/-- A row that lies in memory already is taken in. -/
theorem Rel.add_rowG (hR : Rel c nt M env A a w) {id : Nat} (hf : Fresh A (· = id)) {v : Value} {l : Lf} {S : List Nat} (hrep : Rep w [v] [l.ev env] S) (hn : S.Nodup) (hS : ∀ b ∈ S, c.mine b ∧ Wr w b) {app : Bool} (ho : app = true → OwnHd w v (l.ev env) ∧ ∀ b ∈ S, c.own b) (hp : app = false → ∀ v' S', c.par id = some (v', S') → v = v' ∧ ∀ b ∈ S, b ∈ S')
    (hap : Apart M A.ob S) : Rel c nt ⟨fun i => if i = id then v else M.hd i, fun i => if i = id then S else M.ph i, M.be⟩ env ⟨A.sl, fun i => if i = id then some (.row 0 l app) else A.ob i⟩ a w ∧
      Ext c (· = id) M A.ob w ⟨fun i => if i = id then v else M.hd i, fun i => if i = id then S else M.ph i, M.be⟩ (fun i => if i = id then some (.row 0 l app) else A.ob i) w := by
  have E1 : Ext c (· = id) M A.ob w ⟨fun i => if i = id then v else M.hd i, fun i => if i = id then S else M.ph i, M.be⟩ (fun i => if i = id then some (.row 0 l app) else A.ob i) w := by
    refine ⟨fun r ver l1 app1 hr h => ?_, fun i cells hi h => ?_, fun b _ _ => rfl⟩
    · rw [if_neg hr] at h
      exact ⟨ver, l1, app1, h, by simp [hr], Nat.le_refl _, fun _ => ⟨rfl, fun b hb _ => ⟨by simp [hr, hb], rfl⟩⟩⟩
    · rw [if_neg hi] at h
      exact ⟨⟨cells, h⟩, rfl⟩
  refine ⟨⟨hR.size, hR.defs, ?_, ?_, ?_, ?_, ?_, ?_, hR.keep⟩, E1⟩
  · intro s gs sv hs
    obtain ⟨h1, h2, h3⟩ := hR.slots s gs sv hs
    exact ⟨h1, fun hg => RelSV.ext E1 (hf.1 s gs sv hs) (h2 hg), h3⟩
  · intro r ver l' app1 h
    simp only at h
    split at h
    · rename_i e
      subst e
      simp only [Option.some.injEq, SO.row.injEq] at h
      obtain ⟨rfl, rfl, rfl⟩ := h
      refine ⟨⟨S, by simpa using hrep, hn, fun b hb => ⟨by simpa using hb, (hS b hb).2⟩⟩, ?_, fun ha => ⟨by simpa using (ho ha).1, fun b hb => (ho ha).2 b (by simpa using hb)⟩, fun ha v' S' hv => ⟨by simpa using (hp ha v' S' hv).1, fun b hb => (hp ha v' S' hv).2 b (by simpa using hb)⟩⟩
      intro b hb
      have hb' : b ∈ S := by simpa using hb
      exact ⟨(hS b hb').1, hrep.lt b hb'⟩
    · rename_i e
      exact (hR.rows _ _ _ _ h).keep (by simp [e]) (by simp [e]) (Nat.le_refl _) fun _ _ => rfl
  · intro i cells h
    have h' := h
    simp only at h'
    split at h'
    · cases h'
    · exact (hR.boxes _ _ h').keep E1 rfl rfl (hf.2.1 _ _ h')
  · intro i j x y h1 h2 hij
    simp only at h1 h2
    split at h1
    · cases h1
    split at h2
    · cases h2
    exact hR.dBB _ _ _ _ h1 h2 hij
  · intro i j vi li ai vj lj aj h1 h2 hij b hb
    simp only at h1 h2 hb
    split at h1
    · rename_i hi
      subst hi
      rw [if_pos rfl] at hb
      rw [if_neg (Ne.symm hij)] at h2
      simp only [if_neg (Ne.symm hij)]
      exact (hap b hb).1 _ _ _ _ h2
    · rename_i hi
      rw [if_neg hi] at hb
      split at h2
      · rename_i hj
        subst hj
        simp only [if_true]
        exact fun hbS => (hap b hbS).1 _ _ _ _ h1 hb
      · rename_i hj
        simp only [if_neg hj]
        exact hR.dRR _ _ _ _ _ _ _ _ h1 h2 hij b hb
  · intro i j x vj lj aj h1 h2
    simp only at h1 h2
    split at h1
    · cases h1
    split at h2
    · rename_i hj
      subst hj
      simp only [if_true]
      exact fun hb => (hap _ hb).2 _ _ h1 rfl
    · rename_i hj
      simp only [if_neg hj]
      exact hR.dBR _ _ _ _ _ _ h1 h2


/-- A slot whose value is known. -/
theorem Rel.add_slot (hR : Rel c nt M env A a w) {k : Nat} (hk : k < nt) {sv : SV} (hv : RelSV c M env w A.ob sv (a.tmps.getD k undef)) : Rel c nt M env ⟨upSl A.sl (some k) (some ([], sv)), A.ob⟩ a w := by
  have := hR.put (dst := some k) (gs := []) (sv := sv) (v := a.tmps.getD k undef) (fun d h => by cases h; exact hk) fun _ => ⟨fun _ => hv, fun h => absurd (by simp [GH]) h⟩
  have e : a.put (some k) (a.tmps.getD k undef) = a := by
    have hsz : k < a.tmps.size := by rw [hR.size]; exact hk
    obtain ⟨tmps, ds⟩ := a
    simp only [Act.put, Act.mk.injEq, and_true]
    apply Array.ext_getElem?
    intro i
    by_cases hi : k = i
    · subst hi
      have : k < tmps.size := hsz
      simp [this]
    · rw [Array.getElem?_setIfInBounds_ne hi]
  rw [e] at this
  exact this

end

end Go.Mw

/- The first state of a function, made from its parameters. -/
namespace Go.Mw
open Go.RowKit

def cellsIoAt : Nat → Nat → List AK → List At
  | _, _, [] => []
  | j, id, .sc :: ks => .sc (.v j) :: cellsIoAt (j + 1) (id + 1) ks
  | j, id, .sl _ :: ks => .own id :: cellsIoAt (j + 1) (id + 1) ks

def ioOb : Nat → Nat → List AK → (Nat → Option SO) → Nat → Option SO
  | _, _, [], ob => ob
  | j, id, .sc :: ks, ob => ioOb (j + 1) (id + 1) ks ob
  | j, id, .sl _ :: ks, ob => ioOb (j + 1) (id + 1) ks (fun i => if i = id then some (.row 0 (.v j) false) else ob i)

/-- The state behind the parameters: slot 'k' on, leaves 'j' on, ids 'id' on. -/
def entry : List PK → Nat → Nat → Nat → FS → FS
  | [], _, _, _, A => A
  | .val g ks :: ps, k, j, id, A => entry ps (k + 1) (j + ks.length) id ⟨upSl A.sl (some k) (some ([], .sc ⟨g, cellsIn j ks⟩)), A.ob⟩
  | .io g ks :: ps, k, j, id, A => entry ps (k + 1) (j + ks.length) (id + ks.length) ⟨upSl A.sl (some k) (some ([], .sc ⟨g, cellsIoAt j id ks⟩)), ioOb j id ks A.ob⟩
  | .ptr ks :: ps, k, j, id, A => entry ps (k + 1) (j + ks.length) (id + 1) ⟨upSl A.sl (some k) (some ([], .ptr id 0)), fun i => if i = id then some (.box (cellsIn j ks)) else A.ob i⟩
  | .tk g ks :: ps, k, j, id, A => entry ps (k + 1) (j + ks.length) id ⟨upSl A.sl (some k) (some ([], .sc ⟨g, (resCells npK j ks).1⟩)), upOb A.ob (resCells npK j ks).2⟩
  | .cst f :: ps, k, j, id, A => entry ps (k + 1) j id ⟨upSl A.sl (some k) (some ([], .sc ⟨false, [.sc (.k (.fn f))]⟩)), A.ob⟩
  | .new _ :: ps, k, j, id, A => entry ps k j id A

def entryIds : List PK → Nat → Nat
  | [], id => id
  | .val _ _ :: ps, id => entryIds ps id
  | .io _ ks :: ps, id => entryIds ps (id + ks.length)
  | .ptr _ :: ps, id => entryIds ps (id + 1)
  | .tk _ _ :: ps, id => entryIds ps id
  | .cst _ :: ps, id => entryIds ps id
  | .new _ :: ps, id => entryIds ps id

def psLen : List PK → Nat
  | [] => 0
  | .val _ ks :: ps => ks.length + psLen ps
  | .io _ ks :: ps => ks.length + psLen ps
  | .ptr ks :: ps => ks.length + psLen ps
  | .tk _ ks :: ps => ks.length + psLen ps
  | .cst _ :: ps => psLen ps
  | .new _ :: ps => psLen ps

/-- The end of the ids that the taken rows use. -/
def hiOf : List PK → Nat → Nat → Nat
  | [], _, h => h
  | .val _ ks :: ps, j, h => hiOf ps (j + ks.length) h
  | .io _ ks :: ps, j, h => hiOf ps (j + ks.length) h
  | .ptr ks :: ps, j, h => hiOf ps (j + ks.length) h
  | .tk _ ks :: ps, j, _ => hiOf ps (j + ks.length) (j + ks.length)
  | .cst _ :: ps, j, h => hiOf ps j h
  | .new _ :: ps, j, h => hiOf ps j h

/-- The ids of the rows that are handed in, in their order. -/
def ioIds : Nat → List AK → List Nat
  | _, [] => []
  | id, .sc :: ks => ioIds (id + 1) ks
  | id, .sl _ :: ks => id :: ioIds (id + 1) ks

def rowIds : List PK → Nat → List Nat
  | [], _ => []
  | .val _ _ :: ps, id => rowIds ps id
  | .io _ ks :: ps, id => ioIds id ks ++ rowIds ps (id + ks.length)
  | .ptr _ :: ps, id => rowIds ps (id + 1)
  | .tk _ _ :: ps, id => rowIds ps id
  | .cst _ :: ps, id => rowIds ps id
  | .new _ :: ps, id => rowIds ps id

def boxIds : List PK → Nat → List (Nat × List AK)
  | [], _ => []
  | .val _ _ :: ps, id => boxIds ps id
  | .io _ ks :: ps, id => boxIds ps (id + ks.length)
  | .ptr ks :: ps, id => (id, ks) :: boxIds ps (id + 1)
  | .tk _ _ :: ps, id => boxIds ps id
  | .cst _ :: ps, id => boxIds ps id
  | .new _ :: ps, id => boxIds ps id

theorem entryIds_le : ∀ {ps : List PK} {id : Nat}, id ≤ entryIds ps id
  | [], _ => Nat.le_refl _
  | .val _ _ :: ps, _id => entryIds_le (ps := ps)
  | .io _ _ks :: ps, _id => Nat.le_trans (Nat.le_add_right _ _) (entryIds_le (ps := ps))
  | .ptr _ :: ps, _id => Nat.le_trans (Nat.le_add_right _ _) (entryIds_le (ps := ps))
  | .tk _ _ :: ps, _id => entryIds_le (ps := ps)
  | .cst _ :: ps, _id => entryIds_le (ps := ps)
  | .new _ :: ps, _id => entryIds_le (ps := ps)

/-- The tied cells of a box: its slices. -/
def ties (ks : List AK) (us : List Value) (i : Nat) : Option Value :=
  match ks[i]? with
  | some (.sl _) => us[i]?
  | _ => none

section
variable {c : Cx} {nt : Nat} {env : List V} {a : Act} {w : World}

theorem cellsIn_tie : ∀ {ks : List AK} {us : List Value} {j i : Nat} {u : Value}, ties ks us i = some u → us[i]? = some u ∧ ∃ x, (cellsIn j ks)[i]? = some x ∧ x.isSc = false
  | [], us, j, i, u, h => by simp [ties] at h
  | k :: ks, us, j, 0, u, h => by
    cases k with
    | sc => simp [ties] at h
    | sl js => exact ⟨by simpa [ties] using h, .ro (.v j), by simp [cellsIn], rfl⟩
  | k :: ks, us, j, i + 1, u, h => by
    cases us with
    | nil => simp only [ties, List.getElem?_cons_succ] at h; split at h <;> simp at h
    | cons u0 us =>
      have h' : ties ks us i = some u := by simpa [ties] using h
      obtain ⟨h1, x, h2, h3⟩ := cellsIn_tie (j := j + 1) h'
      refine ⟨by simpa using h1, x, ?_, h3⟩
      cases k <;> simpa [cellsIn] using h2

end

end Go.Mw

/- The parameters' rows and boxes are taken into the first state. -/
namespace Go.Mw
open Go.RowKit

def ParL (c : Cx) : List Nat → List (Value × List Nat) → Prop
  | [], [] => True
  | r :: rs, x :: xs => c.par r = some x ∧ ParL c rs xs
  | _, _ => False

theorem ParL.append {c : Cx} : ∀ {rs rs' : List Nat} {xs xs' : List (Value × List Nat)}, rs.length = xs.length → ParL c (rs ++ rs') (xs ++ xs') → ParL c rs xs ∧ ParL c rs' xs'
  | [], _, [], _, _, h => ⟨trivial, h⟩
  | [], _, _ :: _, _, h, _ => by simp at h
  | _ :: _, _, [], _, h, _ => by simp at h
  | _ :: _, _, _ :: _, _, hl, h => by
    obtain ⟨h1, h2⟩ := h
    obtain ⟨h3, h4⟩ := ParL.append (by simpa using hl) h2
    exact ⟨⟨h1, h3⟩, h4⟩

theorem ioIds_len {w : World} {ks : List AK} {us : List Value} {ds : List V} {R : List (Value × List Nat)} (h : CellsIo w ks us ds R) : ∀ id, (ioIds id ks).length = R.length := by
  induction h with
  | nil => intro _; rfl
  | sc _ _ ih => intro id; exact ih (id + 1)
  | sl _ _ _ _ ih => intro id; simp [ioIds, ih (id + 1)]

section
variable {c : Cx} {nt : Nat} {env : List V} {a : Act} {w : World}

theorem io_entry : ∀ {ks : List AK} {us : List Value} {ds : List V} {R : List (Value × List Nat)} {M : Mp} {A : FS} {j id : Nat} {p : Nat → Prop}, Rel c nt M env A a w → CellsIo w ks us ds R → (∀ i, i < ds.length → env[j + i]? = ds[i]?) →
    Fresh A p → (∀ x, id ≤ x → x < id + ks.length → p x) → (R.flatMap (·.2)).Nodup → (∀ b ∈ R.flatMap (·.2), c.mine b) → Apart M A.ob (R.flatMap (·.2)) → ParL c (ioIds id ks) R →
    ∃ M', Rel c nt M' env ⟨A.sl, ioOb j id ks A.ob⟩ a w ∧ RelAts c M' env w (ioOb j id ks A.ob) (cellsIoAt j id ks) us ∧ Ext c (fun x => id ≤ x) M A.ob w M' (ioOb j id ks A.ob) w ∧
      (∀ T, Apart M A.ob T → (∀ b ∈ T, b ∉ R.flatMap (·.2)) → Apart M' (ioOb j id ks A.ob) T) ∧ Fresh ⟨A.sl, ioOb j id ks A.ob⟩ (fun x => p x ∧ ¬ (id ≤ x ∧ x < id + ks.length)) ∧ (∀ x, atsMen (cellsIoAt j id ks) x → id ≤ x ∧ x < id + ks.length) ∧ ks.length = ds.length
  | [], us, ds, R, M, A, j, id, p, hR, hc, _, hf, _, _, _, _, _ => by
    cases hc
    refine ⟨M, hR, trivial, ⟨fun r ver l app _ h => ⟨ver, l, app, h, rfl, Nat.le_refl _, fun _ => ⟨rfl, fun b hb _ => ⟨hb, rfl⟩⟩⟩, fun id cells _ h => ⟨⟨cells, h⟩, rfl⟩, fun _ _ _ => rfl⟩, fun T hT _ => hT, hf.mono (fun x hx => hx.1), ?_, rfl⟩
    rintro x ⟨b, hb, _⟩
    simp [cellsIoAt] at hb
  | .sc :: ks, us, ds, R, M, A, j, id, p, hR, hc, he, hf, hpp, hn, hm, hap, hp => by
    cases hc with
    | sc h t =>
      rename_i u d us ds
      obtain ⟨M', h1, h2, h3, h4, h5, h6, h7⟩ := io_entry (j := j + 1) (id := id + 1) hR t (fun i hi => by
        have := he (i + 1) (by simp; omega)
        simp only [List.getElem?_cons_succ] at this
        rw [show j + 1 + i = j + (i + 1) by omega]; exact this) hf (fun x h1 h2 => hpp x (by omega) (by simp only [List.length_cons]; omega)) hn hm hap hp
      have e0 : (Lf.v j).ev env = d := by
        have := he 0 (by simp)
        simp only [Nat.add_zero, List.getElem?_cons_zero] at this
        simp [Lf.ev, this]
      refine ⟨M', h1, ⟨⟨h.oneCell, ?_⟩, h2⟩, ⟨fun r ver l app hr => h3.row r ver l app fun hx => hr (by omega), fun i cells hi => h3.box i cells fun hx => hi (by omega), h3.ro⟩, h4, h5.mono fun x hx => ⟨hx.1, fun h => hx.2 (by simp only [List.length_cons]; omega)⟩, ?_, by simp [h7]⟩
      · show Rep w [u] [(Lf.v j).ev env] []
        rw [e0]; exact h
      · rintro x ⟨b, hb, hx⟩
        simp only [cellsIoAt, List.mem_cons] at hb
        rcases hb with rfl | hb
        · exact hx.elim
        · have := h6 x ⟨b, hb, hx⟩
          simp only [List.length_cons]; omega
  | .sl js :: ks, us, ds, R, M, A, j, id, p, hR, hc, he, hf, hpp, hn, hm, hap, hp => by
    cases hc with
    | @sl u d js ks us ds S R h hnS hw t =>
      obtain ⟨hp1, hp2⟩ := hp
      simp only [List.flatMap_cons] at hn hm hap ⊢
      rw [List.nodup_append] at hn
      have e0 : (Lf.v j).ev env = d := by
        have := he 0 (by simp)
        simp only [Nat.add_zero, List.getElem?_cons_zero] at this
        simp [Lf.ev, this]
      have hf0 : Fresh A (· = id) := hf.mono fun x hx => hpp x (by omega) (by simp only [List.length_cons]; omega)
      obtain ⟨g1, g2⟩ := hR.add_rowG hf0 (v := u) (l := .v j) (S := S) (app := false) (by rw [e0]; exact h) hnS (fun b hb => ⟨hm b (by simp [hb]), hw b hb⟩) (fun h => by cases h)
        (fun _ v' S' hv => by rw [hp1] at hv; simp only [Option.some.injEq, Prod.mk.injEq] at hv; obtain ⟨rfl, rfl⟩ := hv; exact ⟨rfl, fun b hb => hb⟩) (fun b hb => hap b (by simp [hb]))
      have hf1 : Fresh ⟨A.sl, fun i => if i = id then some (SO.row 0 (.v j) false) else A.ob i⟩ (fun x => p x ∧ x ≠ id) := by
        refine ⟨fun s gs sv hs x hx hq => hf.1 s gs sv hs x hx hq.1, fun i cells hc x hx hq => ?_, fun x hx => ?_⟩
        · simp only at hc
          split at hc
          · cases hc
          · exact hf.2.1 i cells hc x hx hq.1
        · simp only
          rw [if_neg hx.2]
          exact hf.2.2 x hx.1
      obtain ⟨M', h1, h2, h3, h4, h5, h6, h7⟩ := io_entry (j := j + 1) (id := id + 1) g1 t (fun i hi => by
        have := he (i + 1) (by simp; omega)
        simp only [List.getElem?_cons_succ] at this
        rw [show j + 1 + i = j + (i + 1) by omega]; exact this) hf1 (fun x h1 h2 => ⟨hpp x (by omega) (by simp only [List.length_cons]; omega), by omega⟩) hn.2.1 (fun b hb => hm b (by simp only [List.mem_append]; exact .inr hb)) (by
          intro b hb
          refine ⟨fun r ver l app h => ?_, fun i cells h => ?_⟩
          · simp only at h ⊢
            split at h
            · rename_i e
              simp only [e, if_true]
              exact fun hb1 => hn.2.2 b hb1 b hb rfl
            · rename_i e
              simp only [e, if_false]
              exact (hap b (by simp only [List.mem_append]; exact .inr hb)).1 _ _ _ _ h
          · simp only at h ⊢
            split at h
            · cases h
            · exact (hap b (by simp only [List.mem_append]; exact .inr hb)).2 _ _ h) hp2
      refine ⟨M', h1, ⟨⟨h.oneCell, ?_⟩, h2⟩, ?_, ?_, h5.mono fun x hx => ⟨⟨hx.1, fun e => hx.2 (by simp only [List.length_cons]; omega)⟩, fun h => hx.2 (by simp only [List.length_cons]; omega)⟩, ?_, by simp [h7]⟩
      · intro ver l app hrow
        obtain ⟨v0, l0, a0, q1, q2, _⟩ := h3.row id ver l app (by omega) hrow
        rw [q2]; simp
      · refine ⟨fun r ver l app hr hrow => ?_, fun i cells hi hbx => ?_, fun b hb hm => rfl⟩
        · obtain ⟨v0, l0, a0, q1, q2, q3, q4⟩ := h3.row r ver l app (fun hx => hr (by omega)) hrow
          have hne : r ≠ id := fun e => hr (by omega)
          simp only [hne, if_false] at q1 q2 q4
          exact ⟨v0, l0, a0, q1, q2, q3, fun e => ⟨(q4 e).1, fun b hb hlt => ⟨((q4 e).2 b hb hlt).1, rfl⟩⟩⟩
        · obtain ⟨⟨c0, q1⟩, q2⟩ := h3.box i cells (fun hx => hi (by omega)) hbx
          have hne : i ≠ id := fun e => hi (by omega)
          simp only [hne, if_false] at q1
          exact ⟨⟨c0, q1⟩, q2⟩
      · intro T hT hTS
        refine h4 T ?_ (fun b hb hb2 => hTS b hb (by simp only [List.mem_append]; exact .inr hb2))
        intro b hb
        refine ⟨fun r ver l app h => ?_, fun i cells h => ?_⟩
        · simp only at h ⊢
          split at h
          · rename_i e
            simp only [e, if_true]
            exact fun hb1 => hTS b hb (by simp [hb1])
          · rename_i e
            simp only [e, if_false]
            exact (hT b hb).1 _ _ _ _ h
        · simp only at h ⊢
          split at h
          · cases h
          · exact (hT b hb).2 _ _ h
      · rintro x ⟨b, hb, hx⟩
        simp only [cellsIoAt, List.mem_cons] at hb
        rcases hb with rfl | hb
        · have : x = id := hx
          simp only [List.length_cons]; omega
        · have := h6 x ⟨b, hb, hx⟩
          simp only [List.length_cons]; omega

end

end Go.Mw

/- The first state holds at the call. -/
namespace Go.Mw
open Go.RowKit

def ParB (c : Cx) : List (Nat × List AK) → List Bx → Prop
  | [], [] => True
  | r :: rs, x :: xs => c.parB r.1 = some (x.1, ties r.2 x.2.2) ∧ ParB c rs xs
  | _, _ => False

theorem Fresh.slot {A : FS} {p : Nat → Prop} (h : Fresh A p) {k : Nat} {sv : SV} (hs : ∀ x, sv.men x → ¬ p x) : Fresh ⟨upSl A.sl (some k) (some ([], sv)), A.ob⟩ p := by
  refine ⟨fun s gs sv' h' x hx => ?_, h.2.1, h.2.2⟩
  simp only [upSl] at h'
  split at h'
  · simp only [Option.some.injEq, Prod.mk.injEq] at h'
    obtain ⟨_, rfl⟩ := h'
    exact hs x hx
  · exact h.1 s gs sv' h' x hx

section
variable {c : Cx} {nt : Nat} {env : List V} {a : Act} {w : World}

theorem upOb_resCells_ge (fid : Nat) : ∀ (ks : List AK) (j : Nat) (ob : Nat → Option SO) (x : Nat), ¬ (fid + j ≤ x ∧ x < fid + j + ks.length) → upOb ob (resCells fid j ks).2 x = ob x
  | [], _, _, _, _ => rfl
  | .sc :: ks, j, ob, x, h => upOb_resCells_ge fid ks (j + 1) ob x (fun h' => h (by simp only [List.length_cons]; omega))
  | .sl _ :: ks, j, ob, x, h => by
    simp only [resCells, upOb]
    rw [upOb_resCells_ge fid ks (j + 1) _ x (fun h' => h (by simp only [List.length_cons]; omega))]
    rw [if_neg (fun e => h (by simp only [List.length_cons]; omega))]

theorem entry_rel : ∀ {ps : List PK} {vals : List Value} {ds : List V} {ro : List Nat} {rows : List (Value × List Nat)} {boxes : List Bx} {tk : List Nat} {M : Mp} {A : FS} {k j id h : Nat}, ArgsR w ps vals ds ro rows boxes tk → Rel c nt M env A a w →
    (∀ i, i < ds.length → env[j + i]? = ds[i]?) → Fresh A (fun x => (id ≤ x ∧ x < npK) ∨ npK + h ≤ x) → h ≤ j → entryIds ps id ≤ npK → (∀ i v, vals[i]? = some v → k + i < nt ∧ a.tmps.getD (k + i) undef = v) → (∀ b ∈ ro, c.rd b) → (∀ b ∈ ioB rows boxes, c.mine b) → (∀ b ∈ tk, c.own b) →
    (ioB rows boxes ++ tk).Nodup → Apart M A.ob (ioB rows boxes ++ tk) → ParL c (rowIds ps id) rows → ParB c (boxIds ps id) boxes →
    ∃ M', Rel c nt M' env (entry ps k j id A) a w ∧ Fresh (entry ps k j id A) (fun x => (entryIds ps id ≤ x ∧ x < npK) ∨ npK + hiOf ps j h ≤ x) ∧ psLen ps = ds.length
  | [], vals, ds, ro, rows, boxes, tk, M, A, k, j, id, h, ha, hR, _, hf, _, _, _, _, _, _, _, _, _, _ => by
    cases ha
    exact ⟨M, hR, hf, rfl⟩
  | .val g ks :: ps, vals, ds, ro, rows, boxes, tk, M, A, k, j, id, h, ha, hR, he, hf, hh, hid, hv, hro, hm, ht, hn, hap, hp, hpb => by
    cases ha with
    | @val g ks ps us ds ds' S ro v vs rows boxes tk hc hpk t =>
      obtain ⟨h1, h2⟩ := cellsIn_rel (c := c) (M := M) (ob := A.ob) (j := j) hc (fun i hi => by
        have := he i (by simp; omega)
        rw [this, List.getElem?_append_left hi]) (fun b hb => hro b (by simp [hb]))
      obtain ⟨hk, hvk⟩ := hv 0 v rfl
      have hR' := hR.add_slot (k := k) (by simpa using hk) (sv := .sc ⟨g, cellsIn j ks⟩) (by
        simp only [Nat.add_zero] at hvk
        rw [hvk]; exact ⟨us, h1, hpk⟩)
      have hf' := hf.slot (k := k) (sv := .sc ⟨g, cellsIn j ks⟩) (fun x hx => absurd hx cellsIn_men)
      obtain ⟨M', g1, g2, g3⟩ := entry_rel (k := k + 1) (j := j + ks.length) t hR' (fun i hi => by
        have := he (ds.length + i) (by simp; omega)
        rw [List.getElem?_append_right (by omega), show ds.length + i - ds.length = i by omega] at this
        rw [h2, Nat.add_assoc]; exact this) hf' (by omega) hid (fun i v' hi => by
          have := hv (i + 1) v' (by simpa using hi)
          rw [show k + 1 + i = k + (i + 1) by omega]; exact this) (fun b hb => hro b (by simp [hb])) hm ht hn hap hp hpb
      exact ⟨M', g1, g2, by simp [psLen, g3, h2]⟩
  | .io g ks :: ps, vals, ds, ro, rows, boxes, tk, M, A, k, j, id, h, ha, hR, he, hf, hh, hid, hv, hro, hm, ht, hn, hap, hp, hpb => by
    cases ha with
    | @io g ks ps us ds ds' ro v vs R rows boxes tk hc hpk t =>
      simp only [ioB, List.flatMap_append] at hm hn hap
      rw [List.append_assoc, List.append_assoc, List.nodup_append] at hn
      obtain ⟨hp1, hp2⟩ := ParL.append (ioIds_len hc id) hp
      simp only [entryIds] at hid
      have hle := entryIds_le (ps := ps) (id := id + ks.length)
      obtain ⟨M1, h1, h2, h3, h4, h5, h6, h7⟩ := io_entry (j := j) (id := id) hR hc (fun i hi => by
        have := he i (by simp; omega)
        rw [this, List.getElem?_append_left hi]) hf (fun x h1 h2 => .inl ⟨h1, by omega⟩) hn.1 (fun b hb => hm b (by simp [hb])) (fun b hb => hap b (by simp only [List.mem_append]; exact .inl (.inl (.inl hb)))) hp1
      obtain ⟨hk, hvk⟩ := hv 0 v rfl
      have hR' := h1.add_slot (k := k) (by simpa using hk) (sv := .sc ⟨g, cellsIoAt j id ks⟩) (by
        simp only [Nat.add_zero] at hvk
        rw [hvk]; exact ⟨us, h2, hpk⟩)
      have hf' := h5.slot (k := k) (sv := .sc ⟨g, cellsIoAt j id ks⟩) (fun x hx hq => hq.2 (h6 x hx))
      have hsub : ∀ b, b ∈ ioB rows boxes ++ tk → b ∈ (R.flatMap (·.2) ++ rows.flatMap (·.2) ++ boxes.map (·.1)) ++ tk := fun b hb => by
        simp only [ioB, List.mem_append] at hb ⊢
        rcases hb with (h | h) | h <;> simp [h]
      obtain ⟨M', g1, g2, g3⟩ := entry_rel (k := k + 1) (j := j + ks.length) (id := id + ks.length) t hR' (fun i hi => by
        have := he (ds.length + i) (by simp; omega)
        rw [List.getElem?_append_right (by omega), show ds.length + i - ds.length = i by omega] at this
        rw [h7, Nat.add_assoc]; exact this) (hf'.mono (q := fun x => (id + ks.length ≤ x ∧ x < npK) ∨ npK + h ≤ x) fun x hx => ⟨by omega, by omega⟩) (by omega) hid (fun i v' hi => by
          have := hv (i + 1) v' (by simpa using hi)
          rw [show k + 1 + i = k + (i + 1) by omega]; exact this) (fun b hb => hro b hb) (fun b hb => hm b (by simp only [ioB, List.mem_append] at hb ⊢; rcases hb with h | h <;> simp [h])) ht (by simpa only [ioB, List.append_assoc] using hn.2.1)
        (h4 _ (fun b hb => hap b (hsub b hb)) (fun b hb hb2 => hn.2.2 b hb2 b (by simpa only [ioB, List.append_assoc] using hb) rfl)) hp2 hpb
      exact ⟨M', g1, g2, by simp [psLen, g3, h7]⟩
  | .ptr ks :: ps, vals, ds, ro, rows, boxes, tk, M, A, k, j, id, h, ha, hR, he, hf, hh, hid, hv, hro, hm, ht, hn, hap, hp, hpb => by
    cases ha with
    | @ptr ks ps us ds ds' S ro b E vs rows boxes tk hb hc t =>
      obtain ⟨hpb1, hpb2⟩ := hpb
      simp only [entryIds] at hid
      have hle := entryIds_le (ps := ps) (id := id + 1)
      obtain ⟨h1, h2⟩ := cellsIn_rel (c := c) (M := M) (ob := A.ob) (j := j) hc (fun i hi => by
        have := he i (by simp; omega)
        rw [this, List.getElem?_append_left hi]) (fun b hb => hro b (by simp [hb]))
      have hbm : b ∈ ioB rows ((b, ks, us) :: boxes) := by simp [ioB]
      have hn2 : (ioB rows boxes ++ tk).Nodup ∧ b ∉ ioB rows boxes ++ tk := by
        have e : (ioB rows ((b, ks, us) :: boxes) ++ tk) = rows.flatMap (·.2) ++ (b :: (boxes.map (·.1) ++ tk)) := by simp [ioB]
        rw [e, List.nodup_append, List.nodup_cons] at hn
        obtain ⟨n1, ⟨n2, n3⟩, n4⟩ := hn
        have e2 : ioB rows boxes ++ tk = rows.flatMap (·.2) ++ (boxes.map (·.1) ++ tk) := by simp [ioB]
        rw [e2]
        refine ⟨List.nodup_append.2 ⟨n1, n3, fun x hx y hy => n4 x hx y (List.mem_cons_of_mem _ hy)⟩, fun hh => ?_⟩
        rcases List.mem_append.1 hh with hh | hh
        · exact n4 b hh b (List.mem_cons_self ..) rfl
        · exact n2 hh
      obtain ⟨g1, g2⟩ := hR.add_boxG (id := id) (hf.mono fun x hx => by omega) hb h1 (fun x => cellsIn_men) (hm b hbm) (fun b' tt hbt => by
        rw [hpb1] at hbt
        simp only [Option.some.injEq, Prod.mk.injEq] at hbt
        obtain ⟨rfl, rfl⟩ := hbt
        exact ⟨rfl, fun i u hi => cellsIn_tie hi⟩) (hap b (List.mem_append_left _ hbm)).1 (hap b (List.mem_append_left _ hbm)).2
      have hf1 : Fresh ⟨A.sl, fun i => if i = id then some (.box (cellsIn j ks)) else A.ob i⟩ (fun x => (id + 1 ≤ x ∧ x < npK) ∨ npK + h ≤ x) := by
        refine ⟨fun s gs sv hs x hx hq => hf.1 s gs sv hs x hx (by omega), fun i cells hc x hx hq => ?_, fun x hx => ?_⟩
        · simp only at hc
          split at hc
          · simp only [Option.some.injEq, SO.box.injEq] at hc
            subst hc
            exact absurd hx cellsIn_men
          · exact hf.2.1 i cells hc x hx (by omega)
        · simp only
          rw [if_neg (by omega)]
          exact hf.2.2 x (by omega)
      obtain ⟨hk, hvk⟩ := hv 0 _ rfl
      have hR' := g1.add_slot (k := k) (by simpa using hk) (sv := .ptr id 0) (by
        simp only [Nat.add_zero] at hvk
        rw [hvk]
        intro cells hcells
        simp)
      have hf' := hf1.slot (k := k) (sv := .ptr id 0) (fun x hx hq => by have : x = id := hx; omega)
      have hsub : ∀ b', b' ∈ ioB rows boxes ++ tk → b' ∈ ioB rows ((b, ks, us) :: boxes) ++ tk := fun b' hb' => by
        simp only [ioB, List.map_cons, List.mem_append, List.mem_cons] at hb' ⊢
        rcases hb' with (h | h) | h <;> simp [h]
      obtain ⟨M', k1, k2, k3⟩ := entry_rel (k := k + 1) (j := j + ks.length) (id := id + 1) t hR' (fun i hi => by
        have := he (ds.length + i) (by simp; omega)
        rw [List.getElem?_append_right (by omega), show ds.length + i - ds.length = i by omega] at this
        rw [h2, Nat.add_assoc]; exact this) hf' (by omega) hid (fun i v' hi => by
          have := hv (i + 1) v' (by simpa using hi)
          rw [show k + 1 + i = k + (i + 1) by omega]; exact this) (fun b hb => hro b (by simp [hb])) (fun b' hb' => hm b' (by simp only [ioB, List.map_cons, List.mem_append, List.mem_cons] at hb' ⊢; rcases hb' with h | h <;> simp [h])) ht hn2.1
        (by
          intro b' hb'
          have hin := hsub b' hb'
          refine ⟨fun r ver l app hrow => ?_, fun i cells hbx => ?_⟩
          · simp only at hrow
            split at hrow
            · cases hrow
            · exact (hap b' hin).1 _ _ _ _ hrow
          · simp only at hbx ⊢
            split at hbx
            · rename_i e
              rw [if_pos e]
              exact fun e => hn2.2 (e ▸ hb')
            · rename_i e
              rw [if_neg e]
              exact (hap b' hin).2 _ _ hbx) hp hpb2
      exact ⟨M', k1, k2, by simp [psLen, k3, h2]⟩
  | .tk g ks :: ps, vals, ds, ro, rows, boxes, tk, M, A, k, j, id, h, ha, hR, he, hf, hh, hid, hv, hro, hm, ht, hn, hap, hp, hpb => by
    cases ha with
    | @tk g ks ps us ds ds' S ro v vs rows boxes tk hc hw hpk t =>
      have hl := hc.length
      have hpm : (ioB rows boxes ++ tk).Nodup ∧ S.Nodup ∧ ∀ b ∈ ioB rows boxes ++ tk, b ∉ S := by
        rw [List.nodup_append, List.nodup_append] at hn
        obtain ⟨n1, ⟨n2, n3, n4⟩, n5⟩ := hn
        refine ⟨List.nodup_append.2 ⟨n1, n3, fun x hx y hy => n5 x hx y (List.mem_append_right _ hy)⟩, n2, fun b hb hS => ?_⟩
        rcases List.mem_append.1 hb with hb | hb
        · exact n5 b hb b (List.mem_append_left _ hS) rfl
        · exact n4 b hS b hb rfl
      obtain ⟨n1, n2, n3⟩ := hpm
      obtain ⟨M1, h1, h2, h3, h4, h5, h6, h7⟩ := add_cells (fid := npK) (j := j) hR hc (fun i hi => by
        have := he i (by simp; omega)
        rw [this, List.getElem?_append_left (by omega)]) (hf.mono fun x hx => by omega) n2 (fun b hb => ⟨ht b (by simp [hb]), hw b hb⟩) (fun b hb => hap b (by simp [hb]))
      obtain ⟨hk, hvk⟩ := hv 0 v rfl
      have hR' := h1.add_slot (k := k) (by simpa using hk) (sv := .sc ⟨g, (resCells npK j ks).1⟩) (by
        simp only [Nat.add_zero] at hvk
        rw [hvk]; exact ⟨us, h2, hpk⟩)
      have hf1 : Fresh ⟨A.sl, upOb A.ob (resCells npK j ks).2⟩ (fun x => (id ≤ x ∧ x < npK) ∨ npK + (j + ks.length) ≤ x) := by
        refine ⟨fun s gs sv hs x hx hq => hf.1 s gs sv hs x hx (by omega), fun i cells hc x hx hq => ?_, fun x hx => ?_⟩
        · exact hf.2.1 i cells (h7 i cells hc) x hx (by omega)
        · simp only
          rw [h5 x (by omega)]
          exact hf.2.2 x (by omega)
      have hf' := hf1.slot (k := k) (sv := .sc ⟨g, (resCells npK j ks).1⟩) (fun x hx hq => by have := h6 x hx; omega)
      have hsub : ∀ b', b' ∈ ioB rows boxes ++ tk → b' ∈ ioB rows boxes ++ (S ++ tk) := fun b' hb' => by
        simp only [List.mem_append] at hb' ⊢
        rcases hb' with h | h <;> simp [h]
      obtain ⟨M', k1, k2, k3⟩ := entry_rel (k := k + 1) (j := j + ks.length) (id := id) t hR' (fun i hi => by
        have := he (ds.length + i) (by simp; omega)
        rw [List.getElem?_append_right (by omega), show ds.length + i - ds.length = i by omega] at this
        rw [hl, Nat.add_assoc]; exact this) hf' (Nat.le_refl _) hid (fun i v' hi => by
          have := hv (i + 1) v' (by simpa using hi)
          rw [show k + 1 + i = k + (i + 1) by omega]; exact this) hro hm (fun b hb => ht b (by simp [hb])) n1
        (h4 _ (fun b hb => hap b (hsub b hb)) n3) hp hpb
      exact ⟨M', k1, k2, by simp [psLen, k3, hl]⟩
  | .cst f :: ps, vals, ds, ro, rows, boxes, tk, M, A, k, j, id, h, ha, hR, he, hf, hh, hid, hv, hro, hm, ht, hn, hap, hp, hpb => by
    cases ha with
    | @cst f ps ds ro v vs rows boxes tk hfn t =>
      obtain ⟨hk, hvk⟩ := hv 0 v rfl
      have hR' := hR.add_slot (k := k) (by simpa using hk) (sv := .sc ⟨false, [.sc (.k (.fn f))]⟩) (by
        simp only [Nat.add_zero] at hvk
        rw [hvk]; exact ⟨[v], ⟨⟨hfn.oneCell, hfn⟩, trivial⟩, rfl⟩)
      have hf' := hf.slot (k := k) (sv := .sc ⟨false, [.sc (.k (.fn f))]⟩) (fun x hx => by
        obtain ⟨b, hb, hx⟩ := hx
        simp only [List.mem_singleton] at hb
        subst hb
        exact hx.elim)
      obtain ⟨M', g1, g2, g3⟩ := entry_rel (k := k + 1) (j := j) t hR' he hf' hh hid (fun i v' hi => by
          have := hv (i + 1) v' (by simpa using hi)
          rw [show k + 1 + i = k + (i + 1) by omega]; exact this) hro hm ht hn hap hp hpb
      exact ⟨M', g1, g2, g3⟩
  | .new ks :: ps, vals, ds, ro, rows, boxes, tk, M, A, k, j, id, h, ha, _, _, _, _, _, _, _, _, _, _, _, _, _ => by cases ha

end

end Go.Mw

/- The return: what a function's last state gives. -/
namespace Go.Mw
open Go.RowKit

def resSC (P : Program) (A : FS) : ResultVar → Option SC
  | .tmp t =>
    match A.sl t with
    | some ([], .sc c) => some c
    | _ => none
  | .cell x t =>
    match A.sl x with
    | some ([], .ptr id off) =>
      match tsize P t, A.ob id with
      | some n, some (.box cells) => if off + n ≤ cells.length && (isStruct P t || (isPlain P t && n == 1)) then some ⟨isStruct P t, (cells.drop off).take n⟩ else none
      | _, _ => none
    | _ => none

/-- The leaves of a result's cells, the rows that they use up, and what must hold (the first is at most the second). -/
def retCells (ob : Nat → Option SO) : List AK → List At → Option (List Lf × List Nat × List (Lf × Lf))
  | [], [] => some ([], [], [])
  | .sc :: ks, .sc l :: as => (retCells ob ks as).map fun x => (l :: x.1, x.2)
  | .sl js :: ks, .nil :: as => (retCells ob ks as).map fun x => (.k (.list js []) :: x.1, x.2)
  | .sl _ :: ks, .own r :: as =>
    match ob r, retCells ob ks as with
    | some (.row _ l true), some x => if x.2.1.contains r then none else some (l :: x.1, r :: x.2.1, x.2.2)
    | _, _ => none
  | .sl js :: .sl _ :: ks, .inn r ver l (some (.elm q)) :: .inn r' ver' l' (some (.pre _ hi)) :: as =>
    match ob r, retCells ob ks as with
    | some (.row v0 _ true), some x =>
      if r == r' && ver == v0 && ver' == v0 && AK.eqs ((q.ks.drop q.off).take 1) [.sl js] && js.all (AK.eqb .sc) && !x.2.1.contains r then some (l :: l' :: x.1, r :: x.2.1, (hi, q.ix) :: x.2.2) else none
    | _, _ => none
  | _, _ => none

def retSCs (ob : Nat → Option SO) : List (Bool × List AK) → List SC → Option (List Lf × List Nat × List (Lf × Lf))
  | [], [] => some ([], [], [])
  | (g, ks) :: rs, c :: cs =>
    if g == c.g then
      match retCells ob ks c.cs, retSCs ob rs cs with
      | some x, some y => if x.2.1.any (y.2.1.contains ·) then none else some (x.1 ++ y.1, x.2.1 ++ y.2.1, x.2.2 ++ y.2.2)
      | _, _ => none
    else none
  | _, _ => none

def retRows (ob : Nat → Option SO) : List Nat → Option (List Lf)
  | [] => some []
  | r :: rs =>
    match ob r, retRows ob rs with
    | some (.row _ l false), some ls => some (l :: ls)
    | _, _ => none

def retBox : List AK → List At → Option (List Lf)
  | [], [] => some []
  | .sc :: ks, .sc l :: as => (retBox ks as).map fun ls => l :: ls
  | .sl _ :: ks, _ :: as => retBox ks as
  | _, _ => none

def retBoxes (ob : Nat → Option SO) : List (Nat × List AK) → Option (List Lf)
  | [] => some []
  | (id, ks) :: r =>
    match ob id with
    | some (.box cells) =>
      match retBox ks cells, retBoxes ob r with
      | some l, some ls => some (l ++ ls)
      | _, _ => none
    | _ => none

def newCells : List AK → List At → Option (List Lf)
  | [], [] => some []
  | .sc :: ks, .sc l :: as => (newCells ks as).map fun ls => l :: ls
  | .sl _ :: ks, .ro l :: as => (newCells ks as).map fun ls => l :: ls
  | _, _ => none

/-- The result is a pointer to a new box. -/
def retNew (fn : Func) (ks : List AK) (A : FS) : Option (List Lf) :=
  match fn.results.toList with
  | [.tmp t] =>
    match A.sl t with
    | some ([], .ptr id 0) =>
      match A.ob id with
      | some (.box cells) => newCells ks cells
      | _ => none
    | _ => none
  | _ => none

def retReg (P : Program) (fn : Func) (s : Sig) (A : FS) : Option (List (Lf × Lf) × List Lf) :=
  match mapO (resSC P A) fn.results.toList with
  | none => none
  | some cs =>
    match retSCs A.ob s.rs cs, retRows A.ob (rowIds s.ps 0), retBoxes A.ob (boxIds s.ps 0) with
    | some x, some y, some z => some (x.2.2, x.1 ++ y ++ z)
    | _, _, _ => none

def retOf (P : Program) (fn : Func) (s : Sig) (A : FS) : Option (List (Lf × Lf) × List Lf) :=
  match s.ps with
  | .new ks :: _ => (retNew fn ks A).map fun ls => ([], ls)
  | _ => retReg P fn s A

section
variable {P : Program} {c : Cx} {nt : Nat} {M : Mp} {env : List V} {A : FS} {a : Act} {w : World}

theorem newCells_rel (hR : Rel c nt M env A a w) : ∀ {ks : List AK} {cs : List At} {us : List Value} {ls : List Lf}, newCells ks cs = some ls → RelAts c M env w A.ob cs us →
    ∃ S, CellsR w ks us (ls.map (Lf.ev env)) S ∧ ∀ b ∈ S, c.rd b
  | [], [], us, ls, h, hr => by
    simp only [newCells, Option.some.injEq] at h
    subst h
    cases us with
    | nil => exact ⟨[], .nil, by simp⟩
    | cons => exact hr.elim
  | [], _ :: _, _, _, h, _ => by simp [newCells] at h
  | k :: _, [], _, _, h, _ => by cases k <;> simp [newCells] at h
  | k :: ks, x :: cs, us, ls, h, hr => by
    cases us with
    | nil => exact hr.elim
    | cons u us =>
    obtain ⟨hu, hr⟩ := hr
    cases k with
    | sc =>
      cases x <;> simp only [newCells, Option.map_eq_some_iff, reduceCtorEq] at h
      obtain ⟨y, h1, rfl⟩ := h
      obtain ⟨S, g1, g2⟩ := newCells_rel hR h1 hr
      exact ⟨S, .sc hu.2 g1, g2⟩
    | sl js =>
      cases x <;> simp only [newCells, Option.map_eq_some_iff, reduceCtorEq] at h
      obtain ⟨y, h1, rfl⟩ := h
      obtain ⟨S, g1, g2⟩ := newCells_rel hR h1 hr
      obtain ⟨S0, r1, r2⟩ := hu.2
      refine ⟨S0 ++ S, .sl r1 g1, fun b hb => ?_⟩
      rcases List.mem_append.1 hb with hb | hb
      · exact r2 b hb
      · exact g2 b hb

theorem resSC_run (hR : Rel c nt M env A a w) {rv : ResultVar} {x : SC} (h : resSC P A rv = some x) :
    ∃ v, (match rv with
      | .tmp t => (pure (a.tmps.getD t undef) : Sem Value)
      | .cell b t => do loadVar t (← asAddr (a.tmps.getD b undef))).run P w = .ok v w ∧ RelSC c M env w A.ob x v := by
  cases rv with
  | tmp t =>
    simp only [resSC] at h
    split at h <;> simp only [Option.some.injEq, reduceCtorEq] at h
    rename_i c' hs
    subst h
    exact ⟨_, rfl, (hR.slots _ _ _ hs).2.1 (by simp [GH])⟩
  | cell b t =>
    simp only [resSC] at h
    split at h
    · rename_i id off hs
      split at h
      · rename_i n cells hn hbx
        split at h <;> simp only [Option.some.injEq, reduceCtorEq] at h
        rename_i hc
        simp only [Bool.and_eq_true, decide_eq_true_eq] at hc
        subst h
        have hp : a.tmps.getD b undef = .pointer (some ⟨M.be id, off, none⟩) := (hR.slots _ _ _ hs).2.1 (by simp [GH]) cells hbx
        obtain ⟨us, E, q1, q2, q3⟩ := hR.boxes _ _ hbx
        have hlen := q2.length
        have hv : ∀ j v, ((us.drop off).take n)[j]? = some v → w.cell? ⟨M.be id, off + j, none⟩ = some v := by
          intro j v hj
          simp only [World.cell?, q1]
          have hjn : j < n := by
            rcases Nat.lt_or_ge j n with h | h
            · exact h
            · rw [List.getElem?_eq_none (by simp; omega)] at hj; cases hj
          rw [List.getElem?_take_of_lt hjn, List.getElem?_drop] at hj
          simpa using hj
        have hl : ((us.drop off).take n).length = n := by simp; omega
        have hr := q2.cells off n
        simp only [hp]
        by_cases hst : isStruct P t = true
        · have := run_loadStruct (P := P) w (b := M.be id) (off := off) (vs := (us.drop off).take n) hst (by rw [hn, hl]) hv
          refine ⟨.agg ((us.drop off).take n).toArray, ?_, _, hr, by simp [packV, hst]⟩
          simp only [asAddr, Sem.run_bind, Sem.run_pure, Result.andThen_ok, this]
        · have hs' : isStruct P t = false := by simpa using hst
          simp only [hs', Bool.false_or, Bool.and_eq_true, beq_iff_eq] at hc
          obtain ⟨v, hv1⟩ : ∃ v, (us.drop off).take n = [v] := by
            match h : (us.drop off).take n, hl.trans hc.2.2 with
            | [v], _ => exact ⟨v, rfl⟩
          have h0 := hv 0 v (by rw [hv1]; rfl)
          have := run_loadPlain (P := P) w (b := M.be id) (off := off) hc.2.1 h0
          refine ⟨v, ?_, [v], by rw [← hv1]; exact hr, by simp [packV, hs']⟩
          simp only [asAddr, Sem.run_bind, Sem.run_pure, Result.andThen_ok, this]
      · cases h
    · cases h

end

end Go.Mw

/- What the return leaves, as the contract asks. -/
namespace Go.Mw
open Go.RowKit

section
variable {P : Program} {c : Cx} {nt : Nat} {M : Mp} {env : List V} {A : FS} {a : Act} {w : World}

/-- A row parts in two: an inner list, and the elements ahead of it. -/
theorem row_parts (hR : Rel c nt M env A a w) {r v0 : Nat} {lr l l' ll hi : Lf} {q : PthE} {js : List AK} {u u2 : Value} (hrow : A.ob r = some (.row v0 lr true)) (h1 : RelAt c M env w A.ob (.inn r v0 l (some (.elm q))) u)
    (h2 : RelAt c M env w A.ob (.inn r v0 l' (some (.pre ll hi))) u2) (hkk : AK.eqs ((q.ks.drop q.off).take 1) [.sl js] = true) (hjs : flatK js = true) (hck : CkOk env (hi, q.ix)) :
    ∃ S1 S2, Rep w [u] [l.ev env] S1 ∧ OwnHd w u (l.ev env) ∧ Rep w [u2] [l'.ev env] S2 ∧ OwnHd w u2 (l'.ev env) ∧ (S1 ++ S2).Nodup ∧ ∀ b ∈ S1 ++ S2, b ∈ M.ph r ∧ Wr w b := by
  obtain ⟨_, _, u0, pb, po, hl, ⟨bb, oo, n, cap, es, i, ik, e, q1, q2, q3, q4, q5, q6, q7, q8⟩, hfr⟩ := h1
  obtain ⟨_, _, u0', ⟨ks2, es2, k, m, xx, cap2, p1, p2, p3, p4, p5, p6, p7⟩, hfr2⟩ := h2
  simp only [Value.pointer.injEq, Option.some.injEq, Addr.mk.injEq, and_true] at q8
  obtain ⟨rfl, rfl⟩ := q8
  obtain ⟨k1, k2, k3, k4⟩ := hfr _ _ _ hrow rfl
  obtain ⟨m1, m2⟩ := hfr2 _ _ _ hrow rfl
  obtain ⟨⟨S, s1, s2, s3⟩, s4, s5, _⟩ := hR.rows _ _ _ _ hrow
  obtain ⟨⟨o1, o2⟩, _⟩ := s5 rfl
  have e1 : V.list ks2 es2 = V.list q.ks es := by rw [← p1, ← m1, k1, q2]
  simp only [V.list.injEq] at e1
  obtain ⟨rfl, rfl⟩ := e1
  rw [← m2, p6] at k2
  rw [q1] at k2
  simp only [Value.slice.injEq] at k2
  obtain ⟨rfl, rfl, rfl⟩ := k2
  have hhd : M.hd r = .slice (some ⟨pb, oo, none⟩) es2.length cap := by rw [← m2, p6]
  rw [k1, q2, hhd] at s1 o1 o2
  obtain ⟨k0, a0, k0', b0, c1, c2, c3⟩ := hck
  rw [p2] at c1
  rw [q3] at c2
  simp only [V.int.injEq] at c1 c2
  obtain ⟨rfl, rfl⟩ := c1
  obtain ⟨rfl, rfl⟩ := c2
  rcases s1.list_inv with ⟨_, qq, _⟩ | ⟨b', off', n', cap', vs, S', cs, E, fz, hv, rfl, hn, hk, hcap, hbl, hsz, hvv, hin⟩
  · subst qq; simp at q5
  simp only [Value.slice.injEq, Option.some.injEq, Addr.mk.injEq, and_true] at hv
  obtain ⟨⟨rfl, rfl⟩, rfl, rfl⟩ := hv
  have hblr : w.heap[pb]? = some (.cells cs E (0, 0)) := by
    obtain ⟨cs2, E2, hw⟩ := (s3 pb (by simp)).2
    rw [hbl] at hw
    simp only [Option.some.injEq, Obj.cells.injEq] at hw
    obtain ⟨rfl, rfl, rfl⟩ := hw
    exact hbl
  have hlt : i.toNat < es2.length := by
    rcases Nat.lt_or_ge i.toNat es2.length with h | h
    · exact h
    · simp [List.getElem?_eq_none h] at q5
  have hoff : q.off < q.ks.length := by
    rcases Nat.lt_or_ge q.off q.ks.length with h | h
    · exact h
    · rw [List.drop_eq_nil_of_le h] at hkk; simp [AK.eqs] at hkk
  have hpos : i.toNat * q.ks.length + q.off + 1 ≤ es2.length * q.ks.length := by
    have : (i.toNat + 1) * q.ks.length ≤ es2.length * q.ks.length := Nat.mul_le_mul_right _ (by omega)
    rw [Nat.add_mul] at this; omega
  have hmi : m.toNat * q.ks.length ≤ i.toNat * q.ks.length + q.off := by
    have : m.toNat * q.ks.length ≤ i.toNat * q.ks.length := Nat.mul_le_mul_right _ (by omega)
    omega
  have hk2 := lens hk
  have hvl : vs.length = es2.length * q.ks.length := hin.flat_length hk2
  have hd0 : (es2.flatMap V.cells)[i.toNat * q.ks.length + q.off]? = some (l.ev env) := by
    rw [flat_get hk2 q5 hoff, ← q7 q.off hoff, hl]
    have : q.off < e.cells.length := by rw [hk2 e (List.mem_of_getElem? q5)]; exact hoff
    have h2 := q7 q.off hoff
    rw [List.getElem?_eq_getElem this] at h2
    simp [Lf.ev, h2]
  have hvc : vs[i.toNat * q.ks.length + q.off]? = some u := by
    rw [← hvv _ (by omega)]
    simp only [World.cell?, hblr] at k4
    rw [← Nat.add_assoc]
    simpa using k4
  have hsplit : es2.flatMap V.cells = (es2.flatMap V.cells).take (i.toNat * q.ks.length + q.off) ++ (((es2.flatMap V.cells).drop (i.toNat * q.ks.length + q.off)).take 1 ++ (es2.flatMap V.cells).drop (i.toNat * q.ks.length + q.off + 1)) := split3 _ _ _
  have hin2 := hin
  rw [hsplit] at hin2
  obtain ⟨vx, v2, Sx, S2, ev, eS, rx, r2⟩ := hin2.split
  obtain ⟨vy, vz, Sy, Sz, ev2, eS2, ry, rz⟩ := r2.split
  have lfl : (es2.flatMap V.cells).length = es2.length * q.ks.length := flatMap_length hk2
  have lvx : vx.length = i.toNat * q.ks.length + q.off := by rw [rx.length, List.length_take]; omega
  have hone : ((es2.flatMap V.cells).drop (i.toNat * q.ks.length + q.off)).take 1 = [l.ev env] := by
    have hlt2 : i.toNat * q.ks.length + q.off < (es2.flatMap V.cells).length := by omega
    rw [List.getElem?_eq_getElem hlt2, Option.some.injEq] at hd0
    rw [List.drop_eq_getElem_cons hlt2, hd0]; rfl
  rw [hone] at ry
  have hvy : vy = [u] := by
    have lvy : vy.length = 1 := by rw [ry.length]; rfl
    rw [ev, ev2, List.getElem?_append_right (by omega), lvx, Nat.sub_self] at hvc
    match vy, lvy with
    | [y], _ => simp only [List.cons_append, List.getElem?_cons_zero, Option.some.injEq] at hvc; rw [hvc]
  subst hvy
  -- the elements ahead
  have hpre : (es2.flatMap V.cells).take (i.toNat * q.ks.length + q.off) = (es2.take m.toNat).flatMap V.cells ++ ((es2.flatMap V.cells).take (i.toNat * q.ks.length + q.off)).drop (m.toNat * q.ks.length) := by
    rw [← flatMap_take hk2 m.toNat]
    conv => lhs; rw [← List.take_append_drop (m.toNat * q.ks.length) ((es2.flatMap V.cells).take (i.toNat * q.ks.length + q.off))]
    rw [List.take_take, Nat.min_eq_left hmi]
  rw [hpre] at rx
  obtain ⟨vp, vr, Sp, Sr, ev3, eS3, rp, _⟩ := rx.split
  have hkt : ∀ e ∈ es2.take m.toNat, aksOk q.ks e.cells = true := fun x hx => hk x (List.mem_of_mem_take hx)
  have lvp : vp.length = m.toNat * q.ks.length := by rw [rp.flat_length (lens hkt), List.length_take, Nat.min_eq_left p4]
  have hvp : ∀ j, j < m.toNat * q.ks.length → cs[oo + j]? = vp[j]? := by
    intro j hj
    have e4 : vs = vp ++ (vr ++ v2) := by rw [ev, ev3, List.append_assoc]
    rw [hvv j (by omega), e4, List.getElem?_append_left (by rw [lvp]; exact hj)]
  have hnd : (Sp ++ Sr ++ (Sy ++ Sz)).Nodup ∧ pb ∉ Sp ++ Sr ++ (Sy ++ Sz) := by
    rw [← eS3, ← eS2, ← eS]
    simp only [List.nodup_cons] at s2
    exact ⟨s2.2, s2.1⟩
  have hsub : ∀ b ∈ Sp ++ Sr ++ (Sy ++ Sz), b ∈ M.ph r ∧ Wr w b := by
    rw [← eS3, ← eS2, ← eS]; exact fun b hb => s3 b (by simp [hb])
  -- the kind of the inner list
  have hke : ∃ kj ej, l.ev env = .list kj ej ∧ flatK kj = true := by
    have h3 := aksOk_take 1 (aksOk_drop q.off q6)
    rw [AK.eqs_eq hkk] at h3
    have h4 : (e.cells.drop q.off).take 1 = [l.ev env] := by
      have hce : e.cells[q.off]? = some (l.ev env) := by rw [← flat_get hk2 q5 hoff]; exact hd0
      have hlt3 : q.off < e.cells.length := by rw [hk2 e (List.mem_of_getElem? q5)]; exact hoff
      rw [List.getElem?_eq_getElem hlt3, Option.some.injEq] at hce
      rw [List.drop_eq_getElem_cons hlt3, hce]; rfl
    rw [h4] at h3
    generalize l.ev env = d at h3
    cases d <;> simp only [aksOk, akOk, Bool.and_true, Bool.false_eq_true] at h3
    rename_i kj ej
    exact ⟨kj, ej, rfl, by rw [← AK.eqs_eq h3]; exact hjs⟩
  obtain ⟨kj, ej, hke, hfj⟩ := hke
  have hnd2 := hnd.1
  simp only [List.nodup_append, List.mem_append] at hnd2
  have hnd3 := hnd.2
  simp only [List.mem_append, not_or] at hnd3
  refine ⟨Sy, pb :: Sp, ry, ⟨?_, ?_⟩, ?_, ⟨?_, ?_⟩, ?_, ?_⟩
  · rw [hke]
    refine o2 pb oo es2.length cap q.ks es2 rfl rfl (i.toNat * q.ks.length + q.off) u kj ej (by omega) ?_ (by rw [hd0, hke])
    simp only [World.cell?, hblr]
    have := hvv (i.toNat * q.ks.length + q.off) (by omega)
    rw [hvc] at this
    simpa using this
  · rw [hke] at ry ⊢; exact Inn.flat ry hfj
  · rw [p5, p7]
    have := Rep.row (w := w) pb oo m.toNat cap q.ks (es2.take m.toNat) vp Sp cs E (0, 0) (by rw [List.length_take, Nat.min_eq_left p4]) hkt (by omega) hblr (by
      have : m.toNat * q.ks.length ≤ es2.length * q.ks.length := Nat.mul_le_mul_right _ p4
      omega) hvp rp .nil
    simpa using this
  · rw [p5, p7]
    rcases o1 with h | ⟨g, n3, cap3, ks3, es3, z1, z2, z3, z4, z5⟩
    · cases h
    · simp only [Value.slice.injEq, Option.some.injEq, Addr.mk.injEq, and_true] at z1
      obtain ⟨⟨rfl, rfl⟩, rfl, rfl⟩ := z1
      simp only [V.list.injEq] at z2
      obtain ⟨rfl, rfl⟩ := z2
      exact .inr ⟨pb, m.toNat, cap, q.ks, es2.take m.toNat, rfl, rfl, z3, by omega, z5⟩
  · rw [p5, p7]
    have hall : OwnCs w vs (es2.flatMap V.cells) := o2.cells hblr hvl hvv
    refine Inn.mk hblr (vs := vp) hvp ?_
    have ht := hall.take (m.toNat * q.ks.length)
    rw [flatMap_take hk2] at ht
    have : vs.take (m.toNat * q.ks.length) = vp := by
      rw [ev, ev3, List.append_assoc, ← lvp, List.take_left]
    rw [this] at ht
    exact ht
  · rw [List.nodup_append, List.nodup_cons]
    refine ⟨hnd2.2.1.1, ⟨hnd3.1.1, hnd2.1.1⟩, fun x hx y hy e => ?_⟩
    rcases List.mem_cons.1 hy with rfl | hy
    · exact hnd3.2.1 (e ▸ hx)
    · exact hnd2.2.2 y (.inl hy) x (.inl hx) e.symm
  · intro b hb
    simp only [List.mem_append, List.mem_cons] at hb
    rcases hb with hb | rfl | hb
    · exact hsub b (by simp [hb])
    · exact s3 _ (by simp)
    · exact hsub b (by simp [hb])

theorem retCells_rel (hR : Rel c nt M env A a w) {ks : List AK} {cs : List At} {us : List Value} {q : List Lf × List Nat × List (Lf × Lf)} (h : retCells A.ob ks cs = some q) (hr : RelAts c M env w A.ob cs us) (hck : ∀ ck ∈ q.2.2, CkOk env ck) :
    ∃ S, ResC w ks us (q.1.map (Lf.ev env)) S ∧ S.Nodup ∧ (∀ b ∈ S, (∃ r ∈ q.2.1, b ∈ M.ph r) ∧ c.own b ∧ Wr w b) ∧ ∀ r ∈ q.2.1, ∃ ver l app, A.ob r = some (.row ver l app) := by
  unfold retCells at h
  split at h
  · simp only [Option.some.injEq] at h
    subst h
    cases us with
    | nil => exact ⟨[], .nil, by simp, by simp, by simp⟩
    | cons => exact hr.elim
  · rename_i ks l as
    cases us with
    | nil => exact hr.elim
    | cons u us =>
    obtain ⟨hu, hr⟩ := hr
    simp only [Option.map_eq_some_iff] at h
    obtain ⟨y, h1, rfl⟩ := h
    obtain ⟨S, g1, g2, g3, g4⟩ := retCells_rel hR h1 hr hck
    exact ⟨S, .sc hu.2 g1, g2, g3, g4⟩
  · rename_i js ks as
    cases us with
    | nil => exact hr.elim
    | cons u us =>
    obtain ⟨hu, hr⟩ := hr
    simp only [Option.map_eq_some_iff] at h
    obtain ⟨y, h1, rfl⟩ := h
    obtain ⟨S, g1, g2, g3, g4⟩ := retCells_rel hR h1 hr hck
    have hn := hu.2
    simp only at hn
    subst hn
    exact ⟨S, .sl (S1 := []) (.atom (.nil js) .nil) ⟨.inl rfl, Inn.nil⟩ g1, g2, g3, g4⟩
  · rename_i js ks r as
    cases us with
    | nil => exact hr.elim
    | cons u us =>
    obtain ⟨hu, hr⟩ := hr
    split at h
    · rename_i ver l x h1 h2
      split at h <;> simp only [Option.some.injEq, reduceCtorEq] at h
      rename_i hnc
      subst h
      obtain ⟨S, g1, g2, g3, g4⟩ := retCells_rel hR h2 hr hck
      obtain ⟨⟨S0, r1, r2, r3⟩, _, r5, _⟩ := hR.rows _ _ _ _ h1
      obtain ⟨o1, o2⟩ := r5 rfl
      have hv := hu.2 _ _ _ h1
      rw [← hv] at r1 o1
      have hnot : r ∉ x.2.1 := by simpa using hnc
      refine ⟨S0 ++ S, .sl r1 o1 g1, ?_, ?_, ?_⟩
      · rw [List.nodup_append]
        refine ⟨r2, g2, ?_⟩
        intro b hb b' hb' e
        subst e
        obtain ⟨⟨q, hq, hbq⟩, _⟩ := g3 b hb'
        obtain ⟨v2, l2, a2, hoq⟩ := g4 q hq
        exact hR.dRR _ _ _ _ _ _ _ _ h1 hoq (fun e => hnot (e ▸ hq)) b (r3 b hb).1 hbq
      · intro b hb
        rcases List.mem_append.1 hb with hb | hb
        · exact ⟨⟨r, by simp, (r3 b hb).1⟩, o2 b (r3 b hb).1, (r3 b hb).2⟩
        · obtain ⟨⟨q, hq, hbq⟩, hw⟩ := g3 b hb
          exact ⟨⟨q, by simp [hq], hbq⟩, hw⟩
      · intro q hq
        rcases List.mem_cons.1 hq with rfl | hq
        · exact ⟨_, _, _, h1⟩
        · exact g4 q hq
    · cases h
  · rename_i js js2 ks r ver l qq r' ver' l' ll hi as
    cases us with
    | nil => exact hr.elim
    | cons u us =>
    obtain ⟨hu, hr⟩ := hr
    cases us with
    | nil => exact hr.elim
    | cons u2 us =>
    obtain ⟨hu2, hr⟩ := hr
    split at h
    · rename_i v0 lr x h1 h2
      split at h <;> simp only [Option.some.injEq, reduceCtorEq] at h
      rename_i hcond
      simp only [Bool.and_eq_true, beq_iff_eq, Bool.not_eq_true'] at hcond
      obtain ⟨⟨⟨⟨⟨rfl, rfl⟩, rfl⟩, hkk⟩, hjs⟩, hnc⟩ := hcond
      subst h
      obtain ⟨S, g1, g2, g3, g4⟩ := retCells_rel hR h2 hr (fun ck hc => hck ck (by simp [hc]))
      obtain ⟨S1, S2, p1, p2, p3, p4, p5, p6⟩ := row_parts hR h1 hu hu2 hkk hjs (hck (hi, qq.ix) (by simp))
      obtain ⟨_, _, r5, _⟩ := hR.rows _ _ _ _ h1
      obtain ⟨_, o2⟩ := r5 rfl
      have hnot : r ∉ x.2.1 := by
        intro hm
        rw [List.contains_iff_mem.2 hm] at hnc; cases hnc
      have hdis : ∀ b ∈ S1 ++ S2, b ∉ S := by
        intro b hb hb'
        obtain ⟨⟨q, hq, hbq⟩, _⟩ := g3 b hb'
        obtain ⟨v2, l2, a2, hoq⟩ := g4 q hq
        exact hR.dRR _ _ _ _ _ _ _ _ h1 hoq (fun e => hnot (e ▸ hq)) b (p6 b hb).1 hbq
      refine ⟨S1 ++ (S2 ++ S), .sl p1 p2 (.sl p3 p4 g1), ?_, ?_, ?_⟩
      · rw [← List.append_assoc, List.nodup_append]
        exact ⟨p5, g2, fun b hb b' hb' e => hdis b hb (e ▸ hb')⟩
      · intro b hb
        rw [← List.append_assoc] at hb
        rcases List.mem_append.1 hb with hb | hb
        · exact ⟨⟨r, by simp, (p6 b hb).1⟩, o2 b (p6 b hb).1, (p6 b hb).2⟩
        · obtain ⟨⟨q, hq, hbq⟩, hw⟩ := g3 b hb
          exact ⟨⟨q, by simp [hq], hbq⟩, hw⟩
      · intro q hq
        rcases List.mem_cons.1 hq with rfl | hq
        · exact ⟨_, _, _, h1⟩
        · exact g4 q hq
    · cases h
  · cases h
termination_by ks.length

theorem retSCs_rel (hR : Rel c nt M env A a w) : ∀ {rs : List (Bool × List AK)} {cs : List SC} {vs : List Value} {q : List Lf × List Nat × List (Lf × Lf)}, retSCs A.ob rs cs = some q → RelSCs c M env w A.ob cs vs → (∀ ck ∈ q.2.2, CkOk env ck) →
    ∃ S, ResR w rs vs (q.1.map (Lf.ev env)) S ∧ S.Nodup ∧ (∀ b ∈ S, (∃ r ∈ q.2.1, b ∈ M.ph r) ∧ c.own b ∧ Wr w b) ∧ ∀ r ∈ q.2.1, ∃ ver l app, A.ob r = some (.row ver l app)
  | [], [], vs, q, h, hr, _ => by
    simp only [retSCs, Option.some.injEq] at h
    subst h
    cases vs with
    | nil => exact ⟨[], .nil, by simp, by simp, by simp⟩
    | cons => exact hr.elim
  | [], _ :: _, _, _, h, _, _ => by simp [retSCs] at h
  | _ :: _, [], _, _, h, _, _ => by simp [retSCs] at h
  | (g, ks) :: rs, x :: cs, vs, q, h, hr, hck => by
    cases vs with
    | nil => exact hr.elim
    | cons v vs =>
    obtain ⟨⟨us, hu, hp⟩, hr⟩ := hr
    simp only [retSCs] at h
    split at h
    · rename_i hg
      simp only [beq_iff_eq] at hg
      split at h
      · rename_i y z h1 h2
        split at h <;> simp only [Option.some.injEq, reduceCtorEq] at h
        rename_i hdis
        subst h
        obtain ⟨S1, g1, g2, g3, g4⟩ := retCells_rel hR h1 hu (fun ck hc => hck ck (by simp [hc]))
        obtain ⟨S2, k1, k2, k3, k4⟩ := retSCs_rel hR h2 hr (fun ck hc => hck ck (by simp [hc]))
        have hdis' : ∀ r ∈ y.2.1, r ∉ z.2.1 := by
          intro r hr hz
          exact hdis (List.any_eq_true.2 ⟨r, hr, by simpa using hz⟩)
        refine ⟨S1 ++ S2, by rw [List.map_append]; exact .cons g1 (hg ▸ hp) k1, ?_, ?_, ?_⟩
        · rw [List.nodup_append]
          refine ⟨g2, k2, ?_⟩
          intro b hb b' hb' e
          subst e
          obtain ⟨⟨r, hr, hbr⟩, _⟩ := g3 b hb
          obtain ⟨⟨r', hr', hbr'⟩, _⟩ := k3 b hb'
          obtain ⟨_, _, _, o1⟩ := g4 r hr
          obtain ⟨_, _, _, o2⟩ := k4 r' hr'
          exact hR.dRR _ _ _ _ _ _ _ _ o1 o2 (fun e => hdis' r hr (e ▸ hr')) b hbr hbr'
        · intro b hb
          rcases List.mem_append.1 hb with hb | hb
          · obtain ⟨⟨r, hr, hbr⟩, hw⟩ := g3 b hb
            exact ⟨⟨r, by simp [hr], hbr⟩, hw⟩
          · obtain ⟨⟨r, hr, hbr⟩, hw⟩ := k3 b hb
            exact ⟨⟨r, by simp [hr], hbr⟩, hw⟩
        · intro r hr
          rcases List.mem_append.1 hr with hr | hr
          · exact g4 r hr
          · exact k4 r hr
      · cases h
    · cases h

theorem retRows_rel (hR : Rel c nt M env A a w) : ∀ {ids : List Nat} {rows : List (Value × List Nat)} {ls : List Lf}, retRows A.ob ids = some ls → ParL c ids rows → PostRows w rows (ls.map (Lf.ev env))
  | [], [], ls, h, _ => by simp only [retRows, Option.some.injEq] at h; subst h; exact .nil
  | [], _ :: _, _, _, h => h.elim
  | _ :: _, [], _, _, h => h.elim
  | r :: ids, (u, S) :: rows, ls, h, hp => by
    simp only [retRows] at h
    split at h <;> simp only [Option.some.injEq, reduceCtorEq] at h
    rename_i ver l ls' h1 h2
    subst h
    obtain ⟨⟨S0, r1, r2, r3⟩, _, _, r6⟩ := hR.rows _ _ _ _ h1
    obtain ⟨p1, p2⟩ := r6 rfl u S hp.1
    rw [p1] at r1
    exact .cons r1 r2 (fun b hb => ⟨p2 b (r3 b hb).1, (r3 b hb).2⟩) (retRows_rel hR h2 hp.2)

theorem retBox_rel : ∀ {ks : List AK} {cells : List At} {us us' : List Value} {ls : List Lf}, retBox ks cells = some ls → RelAts c M env w A.ob cells us' → us.length = ks.length → (∀ (i : Nat) u, ties ks us i = some u → us'[i]? = some u) → BoxC w ks us us' (ls.map (Lf.ev env))
  | [], [], us, us', ls, h, hr, hl, _ => by
    simp only [retBox, Option.some.injEq] at h
    subst h
    have : us = [] := List.eq_nil_of_length_eq_zero (by simpa using hl)
    subst this
    cases us' with
    | nil => exact .nil
    | cons => exact hr.elim
  | [], _ :: _, _, _, _, h, _, _, _ => by simp [retBox] at h
  | k :: _, [], _, _, _, h, _, _, _ => by cases k <;> simp [retBox] at h
  | k :: ks, x :: cells, us, us', ls, h, hr, hl, ht => by
    cases us' with
    | nil => exact hr.elim
    | cons u' us' =>
    cases us with
    | nil => simp at hl
    | cons u us =>
    obtain ⟨hu, hr⟩ := hr
    have ht' : ∀ (i : Nat) u, ties ks us i = some u → us'[i]? = some u := by
      intro i v hi
      have := ht (i + 1) v (by simpa [ties] using hi)
      simpa using this
    cases k with
    | sc =>
      cases x <;> simp only [retBox, Option.map_eq_some_iff, reduceCtorEq] at h
      obtain ⟨ls', h1, rfl⟩ := h
      exact .sc hu.2 (retBox_rel h1 hr (by simpa using hl) ht')
    | sl js =>
      have h' : retBox ks cells = some ls := by cases x <;> simpa [retBox] using h
      have := ht 0 u (by simp [ties])
      simp only [List.getElem?_cons_zero, Option.some.injEq] at this
      subst this
      exact .sl (retBox_rel h' hr (by simpa using hl) ht')

theorem retBoxes_rel (hR : Rel c nt M env A a w) : ∀ {ids : List (Nat × List AK)} {boxes : List Bx} {ls : List Lf}, retBoxes A.ob ids = some ls → ParB c ids boxes → (∀ (i : Nat) r x, ids[i]? = some r → boxes[i]? = some x → r.2 = x.2.1 ∧ x.2.2.length = r.2.length) → PostBoxes w boxes (ls.map (Lf.ev env))
  | [], [], ls, h, _, _ => by simp only [retBoxes, Option.some.injEq] at h; subst h; exact .nil
  | [], _ :: _, _, _, h, _ => h.elim
  | _ :: _, [], _, _, h, _ => h.elim
  | (id, ks) :: ids, (b, ks', us) :: boxes, ls, h, hp, hk => by
    simp only [retBoxes] at h
    split at h
    · rename_i cells h1
      split at h <;> simp only [Option.some.injEq, reduceCtorEq] at h
      rename_i l ls' h2 h3
      subst h
      obtain ⟨us', E, q1, q2, q3, q4⟩ := hR.boxes _ _ h1
      obtain ⟨k1, k2⟩ := q4 _ _ hp.1
      obtain ⟨e1, e2⟩ := hk 0 _ _ rfl rfl
      simp only at e1 e2 k1 k2
      subst e1
      rw [List.map_append]
      rw [k1] at q1
      exact .cons q1 (retBox_rel h2 q2 e2 (fun i u hi => (k2 i u hi).1)) (retBoxes_rel hR h3 hp.2 (fun i r x hr hx => hk (i + 1) r x (by simpa using hr) (by simpa using hx)))
    · cases h

end

end Go.Mw

/- A function whose code is compiled keeps its contract. -/
namespace Go.Mw
open Go.RowKit

def FS.none : FS := ⟨fun _ => .none, fun _ => .none⟩

/-! ### the first state is in scope -/

theorem Scoped.mono {A : FS} {n m : Nat} (h : Scoped A n) (_hm : n ≤ m) (hg : ∀ gs, gsLt n gs = true → gsLt m gs = true) (hs : ∀ sv : SV, sv.lt n = true → sv.lt m = true) (ho : ∀ x : SO, x.lt n = true → x.lt m = true) : Scoped A m :=
  ⟨fun _s _gs _sv h' => ⟨hg _ (h.sl _ _ _ h').1, hs _ (h.sl _ _ _ h').2⟩, fun _i _x h' => ho _ (h.ob _ _ h')⟩

theorem cellsIn_lt : ∀ {ks : List AK} {j n : Nat}, j + ks.length ≤ n → atsLt n (cellsIn j ks) = true
  | [], _, _, _ => rfl
  | k :: ks, j, n, h => by
    have h' : j + 1 + ks.length ≤ n := by simp only [List.length_cons] at h; omega
    cases k <;> simp only [cellsIn, atsLt, At.lt, Lf.lt, Bool.and_eq_true, decide_eq_true_eq] <;> exact ⟨by simp only [List.length_cons] at h; omega, cellsIn_lt h'⟩

theorem cellsIoAt_lt : ∀ {ks : List AK} {j id n : Nat}, j + ks.length ≤ n → atsLt n (cellsIoAt j id ks) = true
  | [], _, _, _, _ => rfl
  | .sc :: ks, j, id, n, h => by
    have h' : j + 1 + ks.length ≤ n := by simp only [List.length_cons] at h; omega
    show (decide (j < n) && atsLt n (cellsIoAt (j + 1) (id + 1) ks)) = true
    rw [cellsIoAt_lt h', Bool.and_true, decide_eq_true_eq]
    omega
  | .sl _ :: ks, j, id, n, h => by
    have h' : j + 1 + ks.length ≤ n := by simp only [List.length_cons] at h; omega
    show (true && atsLt n (cellsIoAt (j + 1) (id + 1) ks)) = true
    rw [cellsIoAt_lt h', Bool.and_true]

theorem ioOb_lt : ∀ {ks : List AK} {j id n : Nat} {ob : Nat → Option SO}, j + ks.length ≤ n → (∀ i x, ob i = some x → x.lt n = true) → ∀ i x, ioOb j id ks ob i = some x → x.lt n = true
  | [], _, _, _, _, _, h => h
  | .sc :: ks, j, id, n, ob, hj, h => ioOb_lt (ks := ks) (by simp only [List.length_cons] at hj; omega) h
  | .sl _ :: ks, j, id, n, ob, hj, h => ioOb_lt (ks := ks) (by simp only [List.length_cons] at hj; omega) (by
      intro i x hx
      split at hx
      · simp only [Option.some.injEq] at hx
        subst hx
        simp only [SO.lt, Lf.lt, decide_eq_true_eq]
        simp only [List.length_cons] at hj
        omega
      · exact h i x hx)

theorem resCells_lt {fid : Nat} : ∀ {ks : List AK} {j n : Nat}, j + ks.length ≤ n → atsLt n (resCells fid j ks).1 = true
  | [], _, _, _ => rfl
  | .sc :: ks, j, n, h => by
    have h' : j + 1 + ks.length ≤ n := by simp only [List.length_cons] at h; omega
    show (decide (j < n) && atsLt n (resCells fid (j + 1) ks).1) = true
    rw [resCells_lt h', Bool.and_true, decide_eq_true_eq]
    omega
  | .sl _ :: ks, j, n, h => by
    have h' : j + 1 + ks.length ≤ n := by simp only [List.length_cons] at h; omega
    show (true && atsLt n (resCells fid (j + 1) ks).1) = true
    rw [resCells_lt h', Bool.and_true]

theorem resCells_ob_lt {fid : Nat} : ∀ {ks : List AK} {j n : Nat} {ob : Nat → Option SO}, j + ks.length ≤ n → (∀ i x, ob i = some x → x.lt n = true) → ∀ i x, upOb ob (resCells fid j ks).2 i = some x → x.lt n = true
  | [], _, _, _, _, h => h
  | .sc :: ks, j, n, ob, hj, h => resCells_ob_lt (ks := ks) (by simp only [List.length_cons] at hj; omega) h
  | .sl _ :: ks, j, n, ob, hj, h => resCells_ob_lt (ks := ks) (j := j + 1) (by simp only [List.length_cons] at hj; omega) (by
      intro i x hx
      split at hx
      · simp only [Option.some.injEq] at hx
        subst hx
        simp only [SO.lt, Lf.lt, decide_eq_true_eq]
        simp only [List.length_cons] at hj
        omega
      · exact h i x hx)

theorem Scoped.slot {A : FS} {n k : Nat} {sv : SV} (h : Scoped A n) (hs : sv.lt n = true) : Scoped ⟨upSl A.sl (some k) (some ([], sv)), A.ob⟩ n := by
  refine ⟨fun s gs sv' h' => ?_, h.ob⟩
  simp only [upSl] at h'
  split at h'
  · simp only [Option.some.injEq, Prod.mk.injEq] at h'
    obtain ⟨rfl, rfl⟩ := h'
    exact ⟨rfl, hs⟩
  · exact h.sl _ _ _ h'

theorem entry_scoped : ∀ {ps : List PK} {k j id n : Nat} {A : FS}, j + psLen ps ≤ n → Scoped A n → Scoped (entry ps k j id A) n
  | [], _, _, _, _, _, _, h => h
  | .val g ks :: ps, k, j, id, n, A, hj, h => by
    simp only [psLen] at hj
    exact entry_scoped (ps := ps) (by omega) (h.slot (cellsIn_lt (by omega)))
  | .io g ks :: ps, k, j, id, n, A, hj, h => by
    simp only [psLen] at hj
    refine entry_scoped (ps := ps) (by omega) ?_
    have := h.slot (k := k) (sv := .sc ⟨g, cellsIoAt j id ks⟩) (cellsIoAt_lt (by omega))
    exact ⟨this.sl, ioOb_lt (by omega) h.ob⟩
  | .ptr ks :: ps, k, j, id, n, A, hj, h => by
    simp only [psLen] at hj
    refine entry_scoped (ps := ps) (by omega) ?_
    have := h.slot (k := k) (sv := .ptr id 0) rfl
    refine ⟨this.sl, fun i x hx => ?_⟩
    simp only at hx
    split at hx
    · simp only [Option.some.injEq] at hx
      subst hx
      exact cellsIn_lt (by omega)
    · exact h.ob _ _ hx
  | .tk g ks :: ps, k, j, id, n, A, hj, h => by
    simp only [psLen] at hj
    refine entry_scoped (ps := ps) (by omega) ?_
    have := h.slot (k := k) (sv := .sc ⟨g, (resCells npK j ks).1⟩) (resCells_lt (by omega))
    exact ⟨this.sl, resCells_ob_lt (by omega) h.ob⟩
  | .cst f :: ps, k, j, id, n, A, hj, h => by
    simp only [psLen] at hj
    exact entry_scoped (ps := ps) (by omega) (h.slot rfl)
  | .new _ :: ps, k, j, id, n, A, hj, h => by
    simp only [psLen] at hj
    exact entry_scoped (ps := ps) hj h

/-! ### the blocks that are handed in -/

/-- The ids of the rows and boxes that are handed in: each once. -/
theorem ioIds_ge {ks : List AK} : ∀ {id x : Nat}, x ∈ ioIds id ks → id ≤ x ∧ x < id + ks.length := by
  induction ks with
  | nil => intro id x h; simp [ioIds] at h
  | cons k ks ih =>
    intro id x h
    cases k with
    | sc => have := ih (by simpa [ioIds] using h); simp only [List.length_cons]; omega
    | sl _ =>
      simp only [ioIds, List.mem_cons] at h
      rcases h with rfl | h
      · simp
      · have := ih h; simp only [List.length_cons]; omega

theorem ioIds_nodup {ks : List AK} : ∀ {id : Nat}, (ioIds id ks).Nodup := by
  induction ks with
  | nil => intro id; simp [ioIds]
  | cons k ks ih =>
    intro id
    cases k with
    | sc => simpa [ioIds] using ih
    | sl _ => simp only [ioIds, List.nodup_cons]; exact ⟨fun h => by have := ioIds_ge h; omega, ih⟩

theorem rowIds_ge : ∀ {ps : List PK} {id x : Nat}, x ∈ rowIds ps id → id ≤ x ∧ x < entryIds ps id
  | [], _, _, h => by simp [rowIds] at h
  | .val _ _ :: ps, id, x, h => rowIds_ge (ps := ps) h
  | .io _ ks :: ps, id, x, h => by
    rcases List.mem_append.1 h with h | h
    · have := ioIds_ge h
      have h2 := entryIds_le (ps := ps) (id := id + ks.length)
      simp only [entryIds]; omega
    · have := rowIds_ge (ps := ps) h
      simp only [entryIds]; omega
  | .ptr _ :: ps, id, x, h => by have := rowIds_ge (ps := ps) h; simp only [entryIds]; omega
  | .tk _ _ :: ps, id, x, h => rowIds_ge (ps := ps) h
  | .cst _ :: ps, id, x, h => rowIds_ge (ps := ps) h
  | .new _ :: ps, id, x, h => rowIds_ge (ps := ps) h

theorem rowIds_nodup : ∀ {ps : List PK} {id : Nat}, (rowIds ps id).Nodup
  | [], _ => by simp [rowIds]
  | .val _ _ :: ps, id => rowIds_nodup (ps := ps)
  | .io _ ks :: ps, id => by
    simp only [rowIds]
    rw [List.nodup_append]
    refine ⟨ioIds_nodup, rowIds_nodup (ps := ps), fun a ha b hb e => ?_⟩
    subst e
    have h1 := ioIds_ge ha
    have h2 := rowIds_ge (ps := ps) hb
    omega
  | .ptr _ :: ps, id => rowIds_nodup (ps := ps)
  | .tk _ _ :: ps, id => rowIds_nodup (ps := ps)
  | .cst _ :: ps, id => rowIds_nodup (ps := ps)
  | .new _ :: ps, id => rowIds_nodup (ps := ps)

theorem boxIds_ge : ∀ {ps : List PK} {id : Nat} {x : Nat × List AK}, x ∈ boxIds ps id → id ≤ x.1 ∧ x.1 < entryIds ps id
  | [], _, _, h => by simp [boxIds] at h
  | .val _ _ :: ps, id, x, h => boxIds_ge (ps := ps) h
  | .io _ ks :: ps, id, x, h => by have := boxIds_ge (ps := ps) h; simp only [entryIds]; omega
  | .ptr _ :: ps, id, x, h => by
    rcases List.mem_cons.1 h with rfl | h
    · have h2 := entryIds_le (ps := ps) (id := id + 1)
      simp only [entryIds]; omega
    · have := boxIds_ge (ps := ps) h; simp only [entryIds]; omega
  | .tk _ _ :: ps, id, x, h => boxIds_ge (ps := ps) h
  | .cst _ :: ps, id, x, h => boxIds_ge (ps := ps) h
  | .new _ :: ps, id, x, h => boxIds_ge (ps := ps) h

theorem boxIds_nodup : ∀ {ps : List PK} {id : Nat}, ((boxIds ps id).map (·.1)).Nodup
  | [], _ => by simp [boxIds]
  | .val _ _ :: ps, id => boxIds_nodup (ps := ps)
  | .io _ ks :: ps, id => boxIds_nodup (ps := ps)
  | .ptr _ :: ps, id => by
    simp only [boxIds, List.map_cons, List.nodup_cons]
    refine ⟨fun h => ?_, boxIds_nodup (ps := ps)⟩
    obtain ⟨x, hx, e⟩ := List.mem_map.1 h
    have := boxIds_ge (ps := ps) hx
    omega
  | .tk _ _ :: ps, id => boxIds_nodup (ps := ps)
  | .cst _ :: ps, id => boxIds_nodup (ps := ps)
  | .new _ :: ps, id => boxIds_nodup (ps := ps)

/-- What was handed in under an id. -/
def parOf : List Nat → List (Value × List Nat) → Nat → Option (Value × List Nat)
  | r :: rs, x :: xs, i => if i = r then some x else parOf rs xs i
  | _, _, _ => none

def parBOf : List (Nat × List AK) → List Bx → Nat → Option (Nat × (Nat → Option Value))
  | r :: rs, x :: xs, i => if i = r.1 then some (x.1, ties r.2 x.2.2) else parBOf rs xs i
  | _, _, _ => none

theorem parOf_mem : ∀ {rs : List Nat} {xs : List (Value × List Nat)} {i : Nat} {y : Value × List Nat}, parOf rs xs i = some y → i ∈ rs
  | [], _, _, _, h => by simp [parOf] at h
  | _ :: _, [], _, _, h => by simp [parOf] at h
  | r :: rs, x :: xs, i, y, h => by
    simp only [parOf] at h
    split at h
    · rename_i e; simp [e]
    · exact List.mem_cons_of_mem _ (parOf_mem h)

theorem ParL_of {c : Cx} : ∀ {rs : List Nat} {xs : List (Value × List Nat)}, rs.length = xs.length → rs.Nodup → (∀ r x, parOf rs xs r = some x → c.par r = some x) → ParL c rs xs
  | [], [], _, _, _ => trivial
  | [], _ :: _, h, _, _ => by simp at h
  | _ :: _, [], h, _, _ => by simp at h
  | r :: rs, x :: xs, hl, hn, h => by
    rw [List.nodup_cons] at hn
    refine ⟨h r x (by simp [parOf]), ParL_of (by simpa using hl) hn.2 fun r' x' h' => h r' x' ?_⟩
    have hin : r' ∈ rs := by
      clear h hl hn
      induction rs generalizing xs with
      | nil => simp [parOf] at h'
      | cons a as ih =>
        cases xs with
        | nil => simp [parOf] at h'
        | cons y ys =>
          simp only [parOf] at h'
          split at h'
          · rename_i e; simp [e]
          · simp [ih ys h']
    simp only [parOf]
    rw [if_neg (fun e : r' = r => hn.1 (e ▸ hin))]
    exact h'

theorem parBOf_mem : ∀ {rs : List (Nat × List AK)} {xs : List Bx} {i : Nat} {y : Nat × (Nat → Option Value)}, parBOf rs xs i = some y → i ∈ rs.map (·.1)
  | [], _, _, _, h => by simp [parBOf] at h
  | _ :: _, [], _, _, h => by simp [parBOf] at h
  | r :: rs, x :: xs, i, y, h => by
    simp only [parBOf] at h
    split at h
    · rename_i e; simp [e]
    · simp only [List.map_cons, List.mem_cons]; exact .inr (parBOf_mem h)

theorem ParB_of {c : Cx} : ∀ {rs : List (Nat × List AK)} {xs : List Bx}, rs.length = xs.length → (rs.map (·.1)).Nodup → (∀ r x, parBOf rs xs r = some x → c.parB r = some x) → ParB c rs xs
  | [], [], _, _, _ => trivial
  | [], _ :: _, h, _, _ => by simp at h
  | _ :: _, [], h, _, _ => by simp at h
  | r :: rs, x :: xs, hl, hn, h => by
    simp only [List.map_cons, List.nodup_cons] at hn
    refine ⟨h r.1 _ (by simp [parBOf]), ParB_of (by simpa using hl) hn.2 fun r' x' h' => h r' x' ?_⟩
    simp only [parBOf]
    rw [if_neg (fun e : r' = r.1 => hn.1 (e ▸ parBOf_mem h'))]
    exact h'

theorem ArgsR.lens {w : World} {ps : List PK} {vs : List Value} {ds : List V} {ro : List Nat} {rows : List (Value × List Nat)} {boxes : List Bx} {tk : List Nat} (h : ArgsR w ps vs ds ro rows boxes tk) : ∀ id,
    (rowIds ps id).length = rows.length ∧ (boxIds ps id).length = boxes.length ∧ (∀ (i : Nat) r x, (boxIds ps id)[i]? = some r → boxes[i]? = some x → r.2 = x.2.1 ∧ x.2.2.length = r.2.length) := by
  induction h with
  | nil => intro id; exact ⟨rfl, rfl, fun i r x h => by simp [boxIds] at h⟩
  | val hc hp t ih => intro id; exact ih id
  | @io g ks ps us ds ds' ro v vs R rows boxes tk hc hp t ih =>
    intro id
    obtain ⟨h1, h2, h3⟩ := ih (id + ks.length)
    exact ⟨by simp [rowIds, h1, ioIds_len hc id], h2, h3⟩
  | @ptr ks ps us ds ds' S ro b E vs rows boxes tk hb hc t ih =>
    intro id
    obtain ⟨h1, h2, h3⟩ := ih (id + 1)
    refine ⟨h1, by simp [boxIds, h2], fun i r x hr hx => ?_⟩
    cases i with
    | zero =>
      simp only [boxIds, List.getElem?_cons_zero, Option.some.injEq] at hr hx
      subst hr; subst hx
      refine ⟨rfl, ?_⟩
      clear t ih h1 h2 h3 hb
      simp only
      induction hc with
      | nil => rfl
      | sc _ _ ih => simp [ih]
      | sl _ _ ih => simp [ih]
    | succ i => exact h3 i r x (by simpa [boxIds] using hr) (by simpa using hx)
  | tk _ _ _ _ ih => intro id; exact ih id
  | cst _ _ ih => intro id; exact ih id

theorem ArgsR.vlen {w : World} {ps : List PK} {vs : List Value} {ds : List V} {ro : List Nat} {rows : List (Value × List Nat)} {boxes : List Bx} {tk : List Nat} (h : ArgsR w ps vs ds ro rows boxes tk) : vs.length = ps.length := by
  induction h <;> simp [*]

theorem ArgsR.io_lt {w : World} {ps : List PK} {vs : List Value} {ds : List V} {ro : List Nat} {rows : List (Value × List Nat)} {boxes : List Bx} {tk : List Nat} (h : ArgsR w ps vs ds ro rows boxes tk) : (∀ b ∈ ioB rows boxes, b < w.heap.size) ∧ (∀ b ∈ ro, b < w.heap.size) ∧ ∀ b ∈ tk, b < w.heap.size := by
  have cr : ∀ {ks us ds S}, CellsR w ks us ds S → ∀ b ∈ S, b < w.heap.size := by
    intro ks us ds S h
    induction h with
    | nil => simp
    | sc _ _ ih => exact ih
    | sl h _ ih => intro b hb; exact (List.mem_append.1 hb).elim (h.lt b) (ih b)
  have ci : ∀ {ks us ds R}, CellsIo w ks us ds R → ∀ b ∈ R.flatMap (·.2), b < w.heap.size := by
    intro ks us ds R h
    induction h with
    | nil => simp
    | sc _ _ ih => exact ih
    | sl h _ _ _ ih => intro b hb; simp only [List.flatMap_cons] at hb; exact (List.mem_append.1 hb).elim (h.lt b) (ih b)
  have cs : ∀ {ks us ds S}, ResC w ks us ds S → ∀ b ∈ S, b < w.heap.size := by
    intro ks us ds S h
    induction h with
    | nil => simp
    | sc _ _ ih => exact ih
    | sl h _ _ ih => intro b hb; exact (List.mem_append.1 hb).elim (h.lt b) (ih b)
  induction h with
  | nil => simp [ioB]
  | tk hc hw hp t ih => exact ⟨ih.1, ih.2.1, fun b hb => (List.mem_append.1 hb).elim (cs hc b) (ih.2.2 b)⟩
  | cst _ _ ih => exact ih
  | val hc hp t ih => exact ⟨ih.1, fun b hb => (List.mem_append.1 hb).elim (cr hc b) (ih.2.1 b), ih.2.2⟩
  | io hc hp t ih =>
    refine ⟨fun b hb => ?_, ih.2⟩
    simp only [ioB, List.flatMap_append, List.append_assoc] at hb
    rcases List.mem_append.1 hb with hb | hb
    · exact ci hc b hb
    · exact ih.1 b hb
  | ptr hb hc t ih =>
    refine ⟨fun b hb' => ?_, fun b hb => (List.mem_append.1 hb).elim (cr hc b) (ih.2.1 b), ih.2.2⟩
    simp only [ioB, List.map_cons, List.mem_append, List.mem_cons] at hb'
    rcases hb' with hb' | rfl | hb'
    · exact ih.1 b (by simp only [ioB, List.mem_append]; exact .inl hb')
    · exact (Array.getElem?_eq_some_iff.1 hb).1
    · exact ih.1 b (by simp only [ioB, List.mem_append]; exact .inr hb')

/-! ### the results, loaded -/

def resLoad (a : Act) : ResultVar → Sem Value
  | .tmp t => pure (a.tmps.getD t undef)
  | .cell b t => do loadVar t (← asAddr (a.tmps.getD b undef))

theorem results_run {P : Program} {c : Cx} {nt : Nat} {M : Mp} {env : List V} {A : FS} {a : Act} {w : World} (hR : Rel c nt M env A a w) : ∀ {rvs : List ResultVar} {cs : List SC}, mapO (resSC P A) rvs = some cs →
    ∃ vs, (rvs.mapM (resLoad a)).run P w = .ok vs w ∧ RelSCs c M env w A.ob cs vs
  | [], cs, h => by
    simp only [mapO, Option.some.injEq] at h
    subst h
    exact ⟨[], rfl, trivial⟩
  | rv :: rvs, cs, h => by
    simp only [mapO] at h
    split at h <;> simp only [Option.some.injEq, reduceCtorEq] at h
    rename_i x xs h1 h2
    subst h
    obtain ⟨v, g1, g2⟩ := resSC_run hR h1
    have g1 : (resLoad a rv).run P w = .ok v w := by cases rv <;> exact g1
    obtain ⟨vs, k1, k2⟩ := results_run hR h2
    refine ⟨v :: vs, ?_, g2, k2⟩
    rw [List.mapM_cons, Sem.run_bind, g1, Result.andThen_ok, Sem.run_bind, k1, Result.andThen_ok]
    rfl

theorem FS.none_rel {c : Cx} {nt : Nat} {M : Mp} {env : List V} {a : Act} {w : World} (h1 : a.tmps.size = nt) (h2 : a.defers = []) (hk : Keep c w) : Rel c nt M env FS.none a w where
  size := h1
  defs := h2
  slots := by simp [FS.none]
  rows := by simp [FS.none]
  boxes := by simp [FS.none]
  dBB := by simp [FS.none]
  dRR := by simp [FS.none]
  dBR := by simp [FS.none]
  keep := hk

theorem Keep.to_moved {w w' : World} {inb : List Nat} {p : Nat → Option (Value × List Nat)} {q : Nat → Option (Nat × (Nat → Option Value))} {ros tk : List Nat} (h : Keep ⟨w, inb, p, q, ros, tk⟩ w') : Moved w w' (· ∈ inb) :=
  ⟨h.os, h.tape, h.output, h.size, h.block, h.sz, h.dr⟩

def qRet (outs : List V) : LX → List V → Prop := fun x e => x = .ret ∧ e = outs

def fnOk (s : Sig) (fn : Func) : Bool := entryIds s.ps 0 ≤ npK && s.ps.length ≤ fn.ntmps

def Func.cmp (P : Program) (sg : List (Nat × Sig)) (s : Sig) (fn : Func) (hs : List NF) : Option L :=
  match fn.body with
  | some code =>
    if fnOk s fn then
      match Mw.cmp P sg fn.ntmps npK (retOf P fn s) code (fun _ => none) ⟨entry s.ps 0 0 0 FS.none, npK + hiOf s.ps 0 0, psLen s.ps⟩ hs with
      | some (l, none, _) => some l
      | _ => none
    else none
  | none => none

/-- A run of compiled code, from the arguments to the last state. -/
theorem fn_run {P : Program} {sg : List (Nat × Sig)} {f : FuncId} {fn : Func} {s : Sig} {hs hs' : List NF} {l : L} {code : Code} (hm : P.follows .mixedOrders = true) (hsg : ∀ f s, sg.lookup f = some s → Contract P f s)
    (hf : P.funcs[f]? = some fn) (hb : fn.body = some code) (hcmp : Mw.cmp P sg fn.ntmps npK (retOf P fn s) code (fun _ => none) ⟨entry s.ps 0 0 0 FS.none, npK + hiOf s.ps 0 0, psLen s.ps⟩ hs = some (l, none, hs'))
    (hids : entryIds s.ps 0 ≤ npK) (hps : s.ps.length ≤ fn.ntmps) {ps : List PK} (hpe : entry s.ps 0 0 0 FS.none = entry ps 0 0 0 FS.none ∧ psLen s.ps = psLen ps ∧ hiOf s.ps 0 0 = hiOf ps 0 0 ∧ entryIds s.ps 0 = entryIds ps 0 ∧ ps.length ≤ s.ps.length)
    {w : World} {vals : List Value} {ds outs : List V} {ro : List Nat} {rows : List (Value × List Nat)} {boxes : List Bx} {tk : List Nat} (hA : ArgsR w ps vals ds ro rows boxes tk) (hn : (ioB rows boxes ++ tk).Nodup) (hro : ∀ b ∈ ro, b ∉ ioB rows boxes ++ tk) (hL : wpL l (qRet outs) ds) {Q : Ending → World → Prop}
    (hQ : ∀ M env A a w' cks ls, Rel ⟨w, ioB rows boxes ++ tk, parOf (rowIds ps 0) rows, parBOf (boxIds ps 0) boxes, ro, tk⟩ fn.ntmps M env A a w' → retOf P fn s A = some (cks, ls) → (∀ ck ∈ cks, CkOk env ck) → ls.map (Lf.ev env) = outs →
      ∃ vs : List Value, (fn.results.toList.mapM (resLoad a)).run P w' = .ok vs w' ∧ Q (.returned (if h : vs.toArray.size = 1 then vs.toArray[0] else .tuple vs.toArray)) w') : Calls P f vals.toArray w Q := by
  obtain ⟨hp1, hp2, hp3, hp4, hp5⟩ := hpe
  have hlt := hA.io_lt
  obtain ⟨hl1, hl2, hl3⟩ := hA.lens 0
  let c : Cx := ⟨w, ioB rows boxes ++ tk, parOf (rowIds ps 0) rows, parBOf (boxIds ps 0) boxes, ro, tk⟩
  have hpb : ∀ x, npK ≤ x → c.parB x = none := by
    intro x hx
    cases hq : c.parB x with
    | none => rfl
    | some y =>
      have := parBOf_mem hq
      obtain ⟨z, hz, e⟩ := List.mem_map.1 this
      have := boxIds_ge hz
      omega
  have hpk : ∀ x, npK ≤ x → c.parB x = none ∧ c.par x = none := by
    intro x hx
    refine ⟨hpb x hx, ?_⟩
    cases hq : c.par x with
    | none => rfl
    | some y =>
      have := rowIds_ge (parOf_mem hq)
      omega
  have hvl := hA.vlen
  refine calls_of_wp hf hb ?_
  have hkeep : Keep c w := ⟨rfl, rfl, rfl, Nat.le_refl _, fun _ _ _ => rfl, fun b cs E h => ⟨cs, h, rfl⟩, Nat.le_refl _⟩
  have hR0 : Rel c fn.ntmps ⟨fun _ => undef, fun _ => [], fun _ => 0⟩ ds FS.none { tmps := vals.toArray ++ Array.replicate (fn.ntmps - vals.toArray.size) undef, defers := [] } w :=
    FS.none_rel (by simp; omega) rfl hkeep
  obtain ⟨M, hR, hfr, hlen⟩ := entry_rel (k := 0) (j := 0) (id := 0) (h := 0) hA hR0 (fun i hi => by simp) ⟨by simp [FS.none], by simp [FS.none], by simp [FS.none]⟩ (Nat.le_refl _) (by omega)
    (fun i v hi => by
      have hi' : i < vals.length := by
        rcases Nat.lt_or_ge i vals.length with h | h
        · exact h
        · rw [List.getElem?_eq_none h] at hi; cases hi
      refine ⟨by omega, ?_⟩
      have : (vals.toArray ++ Array.replicate (fn.ntmps - vals.toArray.size) undef)[i]? = some v := by
        rw [Array.getElem?_append_left (by simpa using hi')]
        simpa using hi
      simp only [Array.getD_eq_getD_getElem?, Nat.zero_add]
      rw [this]; rfl)
    (fun b hb => ⟨by
      rintro (h | h)
      · have := hlt.2.1 b hb
        simp only [c] at h; omega
      · exact hro b hb h, hb⟩) (fun b hb => .inr (List.mem_append_left _ hb)) (fun b hb => .inr ⟨hb, List.mem_append_right _ hb⟩) hn (fun b hb => ⟨by simp [FS.none], by simp [FS.none]⟩)
    (ParL_of hl1 rowIds_nodup fun r x h => h) (ParB_of hl2 boxIds_nodup fun r x h => h)
  rw [hp1, hp2, hp3] at hcmp
  have hinv : Inv npK ⟨entry ps 0 0 0 FS.none, npK + hiOf ps 0 0, psLen ps⟩ ds :=
    ⟨hlen.symm, entry_scoped (by simp) ⟨by simp [FS.none], by simp [FS.none]⟩, hfr.mono fun x hx => .inr hx, Nat.le_add_right _ _⟩
  refine cmp_sound (Nat.le_refl _) hpk hm hsg hpb code _ _ _ _ _ _ hcmp (by simp) ds M _ w hinv hR _ _ hL (by simp) (by simp) ?_
  rintro outs' a' w' ⟨M', env', A', ⟨cks, ls⟩, hR', hret, hck, rfl⟩ ⟨_, hout⟩
  obtain ⟨vs, hrun, hq⟩ := hQ M' env' A' a' w' cks ls hR' hret hck hout
  refine ⟨hR'.defs, if h : vs.toArray.size = 1 then vs.toArray[0] else .tuple vs.toArray, ?_, hq⟩
  unfold results
  rw [Sem.run_bind]
  have : (fn.results.mapM (resLoad a')).run P w' = .ok vs.toArray w' := by
    rw [← Array.toArray_toList (xs := fn.results), List.mapM_toArray, Sem.run_map, hrun]
    rfl
  show Result.andThen ((fn.results.mapM (resLoad a')).run P w') _ = _
  rw [this]
  rfl

/-- THE LAW: what is compiled, and gives what the pure function gives, keeps its contract. -/
theorem fn_sound {P : Program} {sg : List (Nat × Sig)} {f : FuncId} {fn : Func} {s : Sig} {hs : List NF} {l : L} (hm : P.follows .mixedOrders = true) (hsg : ∀ f s, sg.lookup f = some s → Contract P f s)
    (hf : P.funcs[f]? = some fn) (hc : Func.cmp P sg s fn hs = some l) (hL : ∀ ds outs, s.F ds = some outs → wpL l (qRet outs) ds) : Contract P f s := by
  unfold Func.cmp at hc
  split at hc
  · rename_i code hb
    split at hc
    · rename_i hok
      split at hc
      · rename_i l' hs' hcmp
        simp only [Option.some.injEq] at hc
        subst hc
        simp only [fnOk, Bool.and_eq_true, decide_eq_true_eq] at hok
        obtain ⟨hids, hps⟩ := hok
        refine ⟨?_, ?_⟩
        · intro w vals ds outs ro rows boxes tk hF hA hn hro
          refine fn_run hm hsg hf hb hcmp hids hps ⟨rfl, rfl, rfl, rfl, Nat.le_refl _⟩ hA hn hro (hL ds outs hF) ?_
          intro M env A a w' cks ls hR' hret hck hout
          obtain ⟨hl1, hl2, hl3⟩ := hA.lens 0
          have hreg : retOf P fn s A = retReg P fn s A := by
            unfold retOf
            split
            · rename_i hps2
              rw [hps2] at hA
              cases hA
            · rfl
          rw [hreg] at hret
          unfold retReg at hret
          split at hret
          · cases hret
          · rename_i cs hcs
            split at hret <;> simp only [Option.some.injEq, reduceCtorEq] at hret
            rename_i x y z hx hy hz
            simp only [Prod.mk.injEq] at hret
            obtain ⟨rfl, rfl⟩ := hret
            obtain ⟨vs, hrun, hrel⟩ := results_run hR' hcs
            obtain ⟨S, r1, r2, r3, _⟩ := retSCs_rel hR' hx hrel hck
            have hpr := retRows_rel hR' hy (ParL_of hl1 rowIds_nodup fun r x h => h)
            have hpbx := retBoxes_rel hR' hz (ParB_of hl2 boxIds_nodup fun r x h => h) hl3
            refine ⟨vs, hrun, ⟨?_, hR'.keep.to_moved⟩⟩
            refine ⟨_, vs, x.1.map (Lf.ev env), y.map (Lf.ev env), z.map (Lf.ev env), S, ?_, rfl, ?_, r1, r2, fun b hb => ⟨(r3 b hb).2.1.imp id (·.1), (r3 b hb).2.2⟩, hpr, hpbx⟩
            · rw [← hout]; simp
            · unfold retV
              cases vs with
              | nil => simp
              | cons v vs =>
                cases vs with
                | nil => simp
                | cons v' vs => simp
        · intro ks ps hnew w vals ds outs ro hF hA
          refine fn_run hm hsg hf hb hcmp hids hps (ps := ps) (by rw [hnew]; exact ⟨rfl, by simp [psLen], rfl, rfl, by simp⟩) hA (by simp [ioB]) (by simp [ioB]) (hL ds outs hF) ?_
          intro M env A a w' cks ls hR' hret hck hout
          unfold retOf at hret
          rw [hnew] at hret
          have hmap : (retNew fn ks A).map (fun ls => (([] : List (Lf × Lf)), ls)) = some (cks, ls) := hret
          clear hret
          obtain ⟨ls', hret, hls⟩ := Option.map_eq_some_iff.1 hmap
          clear hmap
          simp only [Prod.mk.injEq] at hls
          obtain ⟨_, rfl⟩ := hls
          simp only [retNew] at hret
          split at hret
          · rename_i t ht
            split at hret
            · rename_i id hs1
              split at hret
              · rename_i cells hbx
                obtain ⟨us, E, q1, q2, q3, _⟩ := hR'.boxes _ _ hbx
                obtain ⟨S, g1, g2⟩ := newCells_rel hR' hret q2
                have hv : a.tmps.getD t undef = .pointer (some ⟨M.be id, 0, none⟩) := (hR'.slots _ _ _ hs1).2.1 (by simp [GH]) cells hbx
                refine ⟨[a.tmps.getD t undef], by rw [ht]; rfl, ⟨M.be id, us, E, S, ?_, ?_, q1, by rw [← hout]; exact g1, fun x hx => (g2 x hx).2⟩, ?_⟩
                · simp [hv]
                · rcases q3 with h | h
                  · exact h
                  · simp [ioB] at h
                · have := hR'.keep.to_moved
                  simpa [ioB] using this
              · cases hret
            · cases hret
          · cases hret
      · cases hc
    · cases hc
  · cases hc

end Go.Mw

