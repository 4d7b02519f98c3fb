/- A part of the framework that turns Go code into small pure programs and shows that they are sound: no condition. -/
import Derived.Lib.ConvBytes
import Derived.Test.YtobecpmneaninaaGreatFwC
namespace Go.Mw

section
variable {c : Cx} {M : Mp} {env : List V} {w : World} {ob ob' : Nat → Option SO} (ho : ∀ i x, ob' i = some x → ob i = some x)
include ho

theorem RelPth.sub {p : Option Pth} {r ver : Nat} {l : Lf} {v : Value} (h : RelPth M env w ob p r ver l v) : RelPth M env w ob' p r ver l v := by
  cases p with
  | none => trivial
  | some q =>
  cases q with
  | pre ll hi =>
    obtain ⟨u, h1, h2⟩ := h
    exact ⟨u, h1, fun ver' l' app e => h2 _ _ _ (ho _ _ e)⟩
  | elm q =>
    obtain ⟨u, b, o, h0, h1, h2⟩ := h
    exact ⟨u, b, o, h0, h1, fun ver' l' app e => h2 _ _ _ (ho _ _ e)⟩

theorem RelAt.sub {a : At} {v : Value} (h : RelAt c M env w ob a v) : RelAt c M env w ob' a v := by
  refine ⟨h.1, ?_⟩
  have h2 := h.2
  cases a with
  | own r => exact fun ver l app e => h2 _ _ _ (ho _ _ e)
  | inn r ver l p => exact ⟨fun ver' l' app e => h2.1 _ _ _ (ho _ _ e), RelPth.sub ho h2.2⟩
  | _ => exact h2

theorem RelAts.sub : ∀ {as : List At} {vs : List Value}, RelAts c M env w ob as vs → RelAts c M env w ob' as vs
  | [], [], _ => trivial
  | [], _ :: _, h => h.elim
  | _ :: _, [], h => h.elim
  | _ :: _, _ :: _, h => ⟨RelAt.sub ho h.1, RelAts.sub h.2⟩

theorem RelSC.sub {x : SC} {v : Value} (h : RelSC c M env w ob x v) : RelSC c M env w ob' x v :=
  let ⟨vs, h1, h2⟩ := h; ⟨vs, RelAts.sub ho h1, h2⟩

theorem RelSCs.sub : ∀ {as : List SC} {vs : List Value}, RelSCs c M env w ob as vs → RelSCs c M env w ob' as vs
  | [], [], _ => trivial
  | [], _ :: _, h => h.elim
  | _ :: _, [], h => h.elim
  | _ :: _, _ :: _, h => ⟨RelSC.sub ho h.1, RelSCs.sub h.2⟩

theorem RelSV.sub {s : SV} {v : Value} (h : RelSV c M env w ob s v) : RelSV c M env w ob' s v := by
  cases s with
  | sc x => exact RelSC.sub ho h
  | ptr id off => exact fun cells e => h _ (ho _ _ e)
  | elem b ver ll ix el off ks =>
    obtain ⟨u, h1, h2⟩ := h
    refine ⟨u, ?_, h2⟩
    cases b with
    | own r => exact fun ver' l' app e => h1 _ _ _ (ho _ _ e)
    | inn r _ _ _ => exact ⟨fun ver' l' app e => h1.1 _ _ _ (ho _ _ e), fun ver' l' app e => h1.2.1 _ _ _ (ho _ _ e), RelPth.sub ho h1.2.2⟩
    | _ => exact h1
  | tup cs => obtain ⟨vs, h1, h2⟩ := h; exact ⟨vs, h1, RelSCs.sub ho h2⟩

end

theorem Rel.sub {c : Cx} {nt : Nat} {M : Mp} {env : List V} {A A' : FS} {a : Act} {w : World} (h : Rel c nt M env A a w) (hs : ∀ s x, A'.sl s = some x → A.sl s = some x)
    (ho : ∀ i x, A'.ob i = some x → A.ob i = some x) : Rel c nt M env A' a w where
  size := h.size
  defs := h.defs
  slots := fun s gs sv e => ⟨(h.slots s gs sv (hs _ _ e)).1, fun hg => RelSV.sub ho ((h.slots s gs sv (hs _ _ e)).2.1 hg), (h.slots s gs sv (hs _ _ e)).2.2⟩
  rows := fun _r _ver _l _app e => h.rows _ _ _ _ (ho _ _ e)
  boxes := fun _id _cells e => let ⟨us, E, h1, h2, h3⟩ := h.boxes _ _ (ho _ _ e); ⟨us, E, h1, RelAts.sub ho h2, h3⟩
  dBB := fun _i _j _x _y e f => h.dBB _ _ _ _ (ho _ _ e) (ho _ _ f)
  dRR := fun _i _j _vi _li _ai _vj _lj _aj e f => h.dRR _ _ _ _ _ _ _ _ (ho _ _ e) (ho _ _ f)
  dBR := fun _i _j _x _vj _lj _aj e f => h.dBR _ _ _ _ _ _ (ho _ _ e) (ho _ _ f)
  keep := h.keep

section
variable {c : Cx} {nt : Nat} {M : Mp} {env : List V} {A : FS} {a : Act} {w : World}

theorem Rel.io_step (hR : Rel c nt M env A a w) {w' : World} {ob' : Nat → Option SO} {ph' : Nat → List Nat} {X : Nat → Prop} (hmv : Moved w w' X c.G.dr) (hX : ∀ b, X b → c.mine b)
    (hsub : ∀ r b, b ∈ ph' r → b ∈ M.ph r)
    (hrow : ∀ r ver l app, ob' r = some (.row ver l app) → ∃ ver0 l0 app0, A.ob r = some (.row ver0 l0 app0) ∧ ver0 ≤ ver ∧ (ver0 = ver → l = l0 ∧ app = app0 ∧ ph' r = M.ph r ∧ ∀ b ∈ M.ph r, ¬ X b) ∧
      (ver0 < ver → RowOk c ⟨M.hd, ph', M.be⟩ env w' r l app))
    (hbox : ∀ id cells, ob' id = some (.box cells) → ∃ cells0, A.ob id = some (.box cells0) ∧ ((cells = cells0 ∧ ¬ X (M.be id)) ∨ BoxOk c ⟨M.hd, ph', M.be⟩ env w' ob' id cells)) :
    Rel c nt ⟨M.hd, ph', M.be⟩ env ⟨A.sl, ob'⟩ a w' := by
  have E1 : Ext c (fun _ => False) M A.ob w ⟨M.hd, ph', M.be⟩ ob' w' := by
    refine ⟨fun r ver l app _ ho => ?_, fun id cells _ ho => ?_, fun b hb hm => hmv.block b hb fun h => hm (hX b h)⟩
    · obtain ⟨v0, l0, a0, h1, h2, h3, _⟩ := hrow r ver l app ho
      refine ⟨v0, l0, a0, h1, rfl, h2, fun e => ?_⟩
      obtain ⟨e1, _, e2, e3⟩ := h3 e
      exact ⟨e1, fun b hb hlt => ⟨by simp only; rw [e2]; exact hb, hmv.block b hlt (e3 b hb)⟩⟩
    · obtain ⟨c0, h1, _⟩ := hbox id cells ho
      exact ⟨⟨c0, h1⟩, rfl⟩
  refine ⟨hR.size, hR.defs, ?_, ?_, ?_, ?_, ?_, ?_, hR.keep.moved hmv hX⟩
  · intro s gs sv hs
    obtain ⟨h1, h2, h3⟩ := hR.slots s gs sv hs
    exact ⟨h1, fun hg => RelSV.ext E1 (fun _ _ h => h) (h2 hg), h3⟩
  · intro r ver l app ho
    obtain ⟨v0, l0, a0, h1, h2, h3, h4⟩ := hrow r ver l app ho
    rcases Nat.lt_or_eq_of_le h2 with h | h
    · exact h4 h
    · obtain ⟨rfl, rfl, e2, e3⟩ := h3 h
      exact (hR.rows _ _ _ _ h1).keep rfl e2 hmv.size fun b hb => hmv.block b ((hR.rows _ _ _ _ h1).2.1 b hb).2 (e3 b hb)
  · intro id cells ho
    obtain ⟨c0, h1, h2⟩ := hbox id cells ho
    rcases h2 with ⟨rfl, h3⟩ | h2
    · exact (hR.boxes _ _ h1).keep E1 rfl (hmv.block _ (hR.be_lt h1) h3) (fun _ _ h => h)
    · exact h2
  · intro i j x y h1 h2 hij
    obtain ⟨x0, g1, _⟩ := hbox i x h1
    obtain ⟨y0, g2, _⟩ := hbox j y h2
    exact hR.dBB _ _ _ _ g1 g2 hij
  · intro i j vi li ai vj lj aj h1 h2 hij b hb hbj
    obtain ⟨_, _, _, g1, _⟩ := hrow _ _ _ _ h1
    obtain ⟨_, _, _, g2, _⟩ := hrow _ _ _ _ h2
    exact hR.dRR _ _ _ _ _ _ _ _ g1 g2 hij b (hsub i b hb) (hsub j b hbj)
  · intro i j x vj lj aj h1 h2 hb
    obtain ⟨x0, g1, _⟩ := hbox i x h1
    obtain ⟨_, _, _, g2, _⟩ := hrow _ _ _ _ h2
    exact hR.dBR _ _ _ _ _ _ g1 g2 (hsub j _ hb)

def Apart (M : Mp) (ob : Nat → Option SO) (S : List Nat) : Prop :=
  ∀ b ∈ S, (∀ r ver l app, ob r = some (.row ver l app) → b ∉ M.ph r) ∧ ∀ id cells, ob id = some (.box cells) → b ≠ M.be id

theorem Rel.add_row (hR : Rel c nt M env A a w) {id : Nat} (hf : Fresh A (· = id)) {v : Value} {l : Lf} {S : List Nat} (hrep : Rep w [v] [l.ev env] S) (hn : S.Nodup) (hS : ∀ b ∈ S, c.own b ∧ Wr w b) (ho : OwnHd w v (l.ev env))
    (hap : Apart M A.ob S) : Rel c nt ⟨fun i => if i = id then v else M.hd i, fun i => if i = id then S else M.ph i, M.be⟩ env ⟨A.sl, fun i => if i = id then some (.row 0 l true) else A.ob i⟩ a w ∧
      Ext c (· = id) M A.ob w ⟨fun i => if i = id then v else M.hd i, fun i => if i = id then S else M.ph i, M.be⟩ (fun i => if i = id then some (.row 0 l true) else A.ob i) w := by
  have E1 : Ext c (· = id) M A.ob w ⟨fun i => if i = id then v else M.hd i, fun i => if i = id then S else M.ph i, M.be⟩ (fun i => if i = id then some (.row 0 l true) else A.ob i) w := by
    refine ⟨fun r ver l app hr h => ?_, fun i cells hi h => ?_, fun b _ _ => rfl⟩
    · rw [if_neg hr] at h
      exact ⟨ver, l, app, h, by simp [hr], Nat.le_refl _, fun _ => ⟨rfl, fun b hb _ => ⟨by simp [hr, hb], rfl⟩⟩⟩
    · rw [if_neg hi] at h
      exact ⟨⟨cells, h⟩, rfl⟩
  refine ⟨⟨hR.size, hR.defs, ?_, ?_, ?_, ?_, ?_, ?_, hR.keep⟩, E1⟩
  · intro s gs sv hs
    obtain ⟨h1, h2, h3⟩ := hR.slots s gs sv hs
    exact ⟨h1, fun hg => RelSV.ext E1 (hf.1 s gs sv hs) (h2 hg), h3⟩
  · intro r ver l' app h
    simp only at h
    split at h
    · rename_i e
      subst e
      simp only [Option.some.injEq, SO.row.injEq] at h
      obtain ⟨rfl, rfl, rfl⟩ := h
      refine ⟨⟨S, by simpa using hrep, hn, fun b hb => ⟨by simpa using hb, (hS b hb).2⟩⟩, ?_, fun _ => ⟨by simpa using ho, fun b hb => (hS b (by simpa using hb)).1⟩, fun h => by cases h⟩
      intro b hb
      have hb' : b ∈ S := by simpa using hb
      exact ⟨(hS b hb').1.mine, hrep.lt b hb'⟩
    · rename_i e
      exact (hR.rows _ _ _ _ h).keep (by simp [e]) (by simp [e]) (Nat.le_refl _) fun _ _ => rfl
  · intro i cells h
    have h' := h
    simp only at h'
    split at h'
    · cases h'
    · exact (hR.boxes _ _ h').keep E1 rfl rfl (hf.2.1 _ _ h')
  · intro i j x y h1 h2 hij
    simp only at h1 h2
    split at h1
    · cases h1
    split at h2
    · cases h2
    exact hR.dBB _ _ _ _ h1 h2 hij
  · intro i j vi li ai vj lj aj h1 h2 hij b hb
    simp only at h1 h2 hb
    split at h1
    · rename_i hi
      subst hi
      rw [if_pos rfl] at hb
      rw [if_neg (Ne.symm hij)] at h2
      simp only [if_neg (Ne.symm hij)]
      exact (hap b hb).1 _ _ _ _ h2
    · rename_i hi
      rw [if_neg hi] at hb
      split at h2
      · rename_i hj
        subst hj
        simp only [if_true]
        exact fun hbS => (hap b hbS).1 _ _ _ _ h1 hb
      · rename_i hj
        simp only [if_neg hj]
        exact hR.dRR _ _ _ _ _ _ _ _ h1 h2 hij b hb
  · intro i j x vj lj aj h1 h2
    simp only at h1 h2
    split at h1
    · cases h1
    split at h2
    · rename_i hj
      subst hj
      simp only [if_true]
      exact fun hb => (hap _ hb).2 _ _ h1 rfl
    · rename_i hj
      simp only [if_neg hj]
      exact hR.dBR _ _ _ _ _ _ h1 h2

theorem Fresh.mono {A : FS} {p q : Nat → Prop} (h : Fresh A p) (hpq : ∀ x, q x → p x) : Fresh A q :=
  ⟨fun s gs sv hs x hx hq => h.1 s gs sv hs x hx (hpq x hq), fun id cells hc x hx hq => h.2.1 id cells hc x hx (hpq x hq), fun x hx => h.2.2 x (hpq x hx)⟩

theorem add_cells : ∀ {ks : List AK} {us : List Value} {ds : List V} {S : List Nat} {M : Mp} {A : FS} {fid j : Nat}, Rel c nt M env A a w → ResC w ks us ds S → (∀ i, i < ks.length → env[j + i]? = ds[i]?) →
    Fresh A (fun x => fid + j ≤ x ∧ x < fid + j + ks.length) → S.Nodup → (∀ b ∈ S, c.own b ∧ Wr w b) → Apart M A.ob S →
    ∃ M', Rel c nt M' env ⟨A.sl, upOb A.ob (resCells fid j ks).2⟩ a w ∧ RelAts c M' env w (upOb A.ob (resCells fid j ks).2) (resCells fid j ks).1 us ∧
      Ext c (fun x => fid + j ≤ x ∧ x < fid + j + ks.length) M A.ob w M' (upOb A.ob (resCells fid j ks).2) w ∧ (∀ T, Apart M A.ob T → (∀ b ∈ T, b ∉ S) → Apart M' (upOb A.ob (resCells fid j ks).2) T) ∧
      (∀ x, ¬ (fid + j ≤ x ∧ x < fid + j + ks.length) → upOb A.ob (resCells fid j ks).2 x = A.ob x) ∧ (∀ x, atsMen (resCells fid j ks).1 x → fid + j ≤ x ∧ x < fid + j + ks.length) ∧
      (∀ id cells, upOb A.ob (resCells fid j ks).2 id = some (.box cells) → A.ob id = some (.box cells))
  | [], us, ds, S, M, A, fid, j, hR, hc, _, _, _, _, _ => by
    cases hc
    refine ⟨M, hR, trivial, ⟨fun r ver l app _ h => ⟨ver, l, app, h, rfl, Nat.le_refl _, fun _ => ⟨rfl, fun b hb _ => ⟨hb, rfl⟩⟩⟩, fun id cells _ h => ⟨⟨cells, h⟩, rfl⟩, fun _ _ _ => rfl⟩, fun T hT _ => hT, fun x _ => rfl, ?_, fun _ _ h => h⟩
    rintro x ⟨b, hb, _⟩
    simp [resCells] at hb
  | .sc :: ks, us, ds, S, M, A, fid, j, hR, hc, he, hf, hn, hS, hap => by
    cases hc with
    | sc h t =>
      rename_i u d us ds
      have hrange : ∀ x, (fid + (j + 1) ≤ x ∧ x < fid + (j + 1) + ks.length) → (fid + j ≤ x ∧ x < fid + j + (AK.sc :: ks).length) := fun x hx => by simp only [List.length_cons]; omega
      obtain ⟨M', h1, h2, h3, h4, h5, h6, h7⟩ := add_cells (fid := fid) (j := j + 1) hR t (fun i hi => by
        have := he (i + 1) (by simp; omega)
        simp only [List.getElem?_cons_succ] at this
        rw [show j + 1 + i = j + (i + 1) by omega]; exact this) (hf.mono hrange) hn hS hap
      have e0 : (Lf.v j).ev env = d := by
        have := he 0 (by simp)
        simp only [Nat.add_zero, List.getElem?_cons_zero] at this
        simp [Lf.ev, this]
      refine ⟨M', h1, ⟨⟨h.oneCell, ?_⟩, h2⟩, ⟨fun r ver l app hr => h3.row r ver l app fun hx => hr (hrange r hx), fun id cells hi => h3.box id cells fun hx => hi (hrange id hx), h3.ro⟩, h4, fun x hx => h5 x fun h => hx (hrange x h), ?_, h7⟩
      · show Rep w [u] [(Lf.v j).ev env] []
        rw [e0]; exact h
      · rintro x ⟨b, hb, hx⟩
        simp only [resCells, List.mem_cons] at hb
        rcases hb with rfl | hb
        · exact hx.elim
        · exact hrange x (h6 x ⟨b, hb, hx⟩)
  | .sl js :: ks, us, ds, S, M, A, fid, j, hR, hc, he, hf, hn, hS, hap => by
    cases hc with
    | sl h ho t =>
      rename_i u d us ds S1 S2
      rw [List.nodup_append] at hn
      have e0 : (Lf.v j).ev env = d := by
        have := he 0 (by simp)
        simp only [Nat.add_zero, List.getElem?_cons_zero] at this
        simp [Lf.ev, this]
      have hf0 : Fresh A (· = fid + j) := hf.mono fun x hx => by simp only [List.length_cons]; omega
      obtain ⟨g1, g2⟩ := hR.add_row hf0 (v := u) (l := .v j) (S := S1) (by rw [e0]; exact h) hn.1 (fun b hb => hS b (by simp [hb])) (by rw [e0]; exact ho) (fun b hb => hap b (by simp [hb]))
      have hrange : ∀ x, (fid + (j + 1) ≤ x ∧ x < fid + (j + 1) + ks.length) → (fid + j ≤ x ∧ x < fid + j + (AK.sl js :: ks).length) := fun x hx => by simp only [List.length_cons]; omega
      have hob : ∀ x, x ≠ fid + j → (fun i => if i = fid + j then some (SO.row 0 (.v j) true) else A.ob i) x = A.ob x := fun x hx => by simp [hx]
      have hf1 : Fresh ⟨A.sl, fun i => if i = fid + j then some (SO.row 0 (.v j) true) else A.ob i⟩ (fun x => fid + (j + 1) ≤ x ∧ x < fid + (j + 1) + ks.length) := by
        refine ⟨fun s gs sv hs x hx hq => hf.1 s gs sv hs x hx (hrange x hq), fun id cells hc x hx hq => ?_, fun x hx => ?_⟩
        · simp only at hc
          split at hc
          · cases hc
          · exact hf.2.1 id cells hc x hx (hrange x hq)
        · simp only
          rw [if_neg (by omega)]
          exact hf.2.2 x (hrange x hx)
      obtain ⟨M', h1, h2, h3, h4, h5, h6, h7⟩ := add_cells (fid := fid) (j := j + 1) g1 t (fun i hi => by
        have := he (i + 1) (by simp; omega)
        simp only [List.getElem?_cons_succ] at this
        rw [show j + 1 + i = j + (i + 1) by omega]; exact this) hf1 hn.2.1 (fun b hb => hS b (by simp [hb])) (by
          intro b hb
          refine ⟨fun r ver l app h => ?_, fun id cells h => ?_⟩
          · simp only at h ⊢
            split at h
            · rename_i e
              simp only [e, if_true]
              exact fun hb1 => hn.2.2 b hb1 b hb rfl
            · rename_i e
              simp only [e, if_false]
              exact (hap b (by simp [hb])).1 _ _ _ _ h
          · simp only at h ⊢
            split at h
            · cases h
            · exact (hap b (by simp [hb])).2 _ _ h)
      refine ⟨M', h1, ⟨⟨h.oneCell, ?_⟩, h2⟩, ?_, ?_, ?_, ?_, ?_⟩
      · intro ver l app hrow
        obtain ⟨v0, l0, a0, q1, q2, _⟩ := h3.row (fid + j) ver l app (by omega) hrow
        rw [q2]; simp
      · refine ⟨fun r ver l app hr hrow => ?_, fun id cells hi hbx => ?_, fun b hb hm => rfl⟩
        · obtain ⟨v0, l0, a0, q1, q2, q3, q4⟩ := h3.row r ver l app (fun hx => hr (hrange r hx)) hrow
          have hne : r ≠ fid + j := fun e => hr (by simp only [List.length_cons]; omega)
          simp only [hne, if_false] at q1 q2 q4
          exact ⟨v0, l0, a0, q1, q2, q3, fun e => ⟨(q4 e).1, fun b hb hlt => ⟨((q4 e).2 b hb hlt).1, rfl⟩⟩⟩
        · obtain ⟨⟨c0, q1⟩, q2⟩ := h3.box id cells (fun hx => hi (hrange id hx)) hbx
          have hne : id ≠ fid + j := fun e => hi (by simp only [List.length_cons]; omega)
          simp only [hne, if_false] at q1
          exact ⟨⟨c0, q1⟩, q2⟩
      · intro T hT hTS
        refine h4 T ?_ (fun b hb hb2 => hTS b hb (by simp [hb2]))
        intro b hb
        refine ⟨fun r ver l app h => ?_, fun id cells h => ?_⟩
        · simp only at h ⊢
          split at h
          · rename_i e
            simp only [e, if_true]
            exact fun hb1 => hTS b hb (by simp [hb1])
          · rename_i e
            simp only [e, if_false]
            exact (hT b hb).1 _ _ _ _ h
        · simp only at h ⊢
          split at h
          · cases h
          · exact (hT b hb).2 _ _ h
      · intro x hx
        have := h5 x (fun h => hx (hrange x h))
        simp only [resCells, upOb]
        rw [this]
        simp only
        rw [if_neg (fun e => hx (by simp only [List.length_cons]; omega))]
      · rintro x ⟨b, hb, hx⟩
        simp only [resCells, List.mem_cons] at hb
        rcases hb with rfl | hb
        · have : x = fid + j := hx
          simp only [List.length_cons]; omega
        · exact hrange x (h6 x ⟨b, hb, hx⟩)
      · intro id cells h
        have := h7 id cells h
        simp only at this
        split at this
        · cases this
        · exact this

end
end Go.Mw

namespace Go.Mw

theorem resSCs_end (fid : Nat) : ∀ (rs : List (Bool × List AK)) (j : Nat), (resSCs fid j rs).2.2 = j + resLen rs
  | [], j => by simp [resSCs, resLen]
  | (g, ks) :: rs, j => by
    simp only [resSCs]
    rw [resSCs_end fid rs (j + ks.length)]
    simp [resLen]; omega

section
variable {c : Cx} {nt : Nat} {env : List V} {a : Act} {w : World}

theorem ResC.length {w : World} {ks : List AK} {us : List Value} {ds : List V} {S : List Nat} (h : ResC w ks us ds S) : ks.length = ds.length := by
  induction h with
  | nil => rfl
  | sc _ _ ih => simp [ih]
  | sl _ _ _ ih => simp [ih]

theorem add_res : ∀ {rs : List (Bool × List AK)} {vs : List Value} {ds : List V} {S : List Nat} {M : Mp} {A : FS} {fid j : Nat}, Rel c nt M env A a w → ResR w rs vs ds S → (∀ i, i < resLen rs → env[j + i]? = ds[i]?) →
    Fresh A (fun x => fid + j ≤ x ∧ x < fid + j + resLen rs) → S.Nodup → (∀ b ∈ S, c.own b ∧ Wr w b) → Apart M A.ob S →
    ∃ M', Rel c nt M' env ⟨A.sl, upOb A.ob (resSCs fid j rs).2.1⟩ a w ∧ RelSCs c M' env w (upOb A.ob (resSCs fid j rs).2.1) (resSCs fid j rs).1 vs ∧
      Ext c (fun x => fid + j ≤ x ∧ x < fid + j + resLen rs) M A.ob w M' (upOb A.ob (resSCs fid j rs).2.1) w
  | [], vs, ds, S, M, A, fid, j, hR, hc, _, _, _, _, _ => by
    cases hc
    exact ⟨M, hR, trivial, ⟨fun r ver l app _ h => ⟨ver, l, app, h, rfl, Nat.le_refl _, fun _ => ⟨rfl, fun b hb _ => ⟨hb, rfl⟩⟩⟩, fun id cells _ h => ⟨⟨cells, h⟩, rfl⟩, fun _ _ _ => rfl⟩⟩
  | (g, ks) :: rs, vs, ds, S, M, A, fid, j, hR, hc, he, hf, hn, hS, hap => by
    cases hc with
    | cons h hp t =>
      rename_i us d1 d2 S1 S2 v vs
      rw [List.nodup_append] at hn
      have hl := h.length
      have hlen : resLen ((g, ks) :: rs) = ks.length + resLen rs := by simp [resLen]
      obtain ⟨M1, h1, h2, h3, h4, h5, h6, h7⟩ := add_cells (fid := fid) (j := j) hR h (fun i hi => by
        have := he i (by omega)
        rw [this, List.getElem?_append_left (by omega)]) (hf.mono fun x hx => by omega) hn.1 (fun b hb => hS b (by simp [hb])) (fun b hb => hap b (by simp [hb]))
      have hf1 : Fresh ⟨A.sl, upOb A.ob (resCells fid j ks).2⟩ (fun x => fid + (j + ks.length) ≤ x ∧ x < fid + (j + ks.length) + resLen rs) := by
        refine ⟨fun s gs sv hs x hx hq => hf.1 s gs sv hs x hx (by omega), fun id cells hc x hx hq => ?_, fun x hx => ?_⟩
        · exact hf.2.1 id cells (h7 id cells hc) x hx (by omega)
        · simp only
          rw [h5 x (by omega)]
          exact hf.2.2 x (by omega)
      obtain ⟨M2, g1, g2, g3⟩ := add_res (fid := fid) (j := j + ks.length) h1 t (fun i hi => by
        have := he (ks.length + i) (by omega)
        rw [List.getElem?_append_right (by omega), show ks.length + i - d1.length = i by omega] at this
        rw [show j + ks.length + i = j + (ks.length + i) by omega]; exact this) hf1 hn.2.1 (fun b hb => hS b (by simp [hb])) (h4 S2 (fun b hb => hap b (by simp [hb])) (fun b hb h => hn.2.2 b h b hb rfl))
      simp only [resSCs]
      rw [upOb_append]
      refine ⟨M2, g1, ⟨⟨us, RelAts.ext g3 (fun x hx hq => by have := h6 x hx; omega) h2, hp⟩, g2⟩, ?_⟩
      refine ⟨fun r ver l app hr hrow => ?_, fun id cells hi hbx => ?_, fun _ _ _ => rfl⟩
      · obtain ⟨v1, l1, a1, q1, q2, q3, q4⟩ := g3.row r ver l app (fun hx => hr (by omega)) hrow
        obtain ⟨v0, l0, a0, p1, p2, p3, p4⟩ := h3.row r v1 l1 a1 (fun hx => hr (by omega)) q1
        refine ⟨v0, l0, a0, p1, q2.trans p2, by omega, fun e => ?_⟩
        obtain ⟨e1, e2⟩ := q4 (by omega)
        obtain ⟨e3, e4⟩ := p4 (by omega)
        exact ⟨e1.trans e3, fun b hb hlt => ⟨(e2 b (e4 b hb hlt).1 hlt).1, rfl⟩⟩
      · obtain ⟨⟨c1, q1⟩, q2⟩ := g3.box id cells (fun hx => hi (by omega)) hbx
        obtain ⟨⟨c0, p1⟩, p2⟩ := h3.box id c1 (fun hx => hi (by omega)) q1
        exact ⟨⟨c0, p1⟩, q2.trans p2⟩

end
end Go.Mw

namespace Go.Mw

section
variable {c : Cx} {nt : Nat} {M : Mp} {env : List V} {A : FS} {a : Act} {w : World}

theorem upOb_rowUps_ne (ob0 : Nat → Option SO) {keep : Bool} : ∀ (rs : List Nat) (j : Nat) (ob : Nat → Option SO) (r : Nat), r ∉ rs → upOb ob (rowUps ob0 keep j rs) r = ob r
  | [], _, _, _, _ => rfl
  | q :: rs, j, ob, r, h => by
    simp only [List.mem_cons, not_or] at h
    simp only [rowUps]
    rw [upOb_append, upOb_rowUps_ne ob0 rs (j + 1) _ r h.2]
    split
    · simp [upOb, h.1]
    · rfl

theorem rows_post {w' : World} {keep : Bool} {rl : List Lf} :  ∀ {rs : List Nat} {rows : List (Value × List Nat)} {ds : List V} {j : Nat}, RowsM M A.ob rs rows → PostRows w' rows ds → rs.Nodup → mapO (rowLf A.ob) rs = some rl → ksAll (rl.map (Lf.ev env)) ds = true → (keep = true → (rl.map (Lf.ev env)).all flatV = true) → (∀ i, i < rs.length → env[j + i]? = ds[i]?) →
    rs.length = ds.length ∧ ∃ ph' : Nat → List Nat, (∀ r, r ∉ rs → ph' r = M.ph r) ∧ (∀ r b, b ∈ ph' r → b ∈ M.ph r) ∧
      ∀ ob r, r ∈ rs → ∃ ver l0 app k, A.ob r = some (.row ver l0 app) ∧ upOb ob (rowUps A.ob keep j rs) r = some (.row (ver + 1) (.v k) (app && keep)) ∧ (keep = true → flatV (l0.ev env) = true) ∧ (∀ ks es, l0.ev env = .list ks es → ∃ es', (Lf.v k).ev env = .list ks es') ∧ Rep w' [M.hd r] [(Lf.v k).ev env] (ph' r) ∧ (ph' r).Nodup ∧ ∀ b ∈ ph' r, Wr w' b
  | [], rows, ds, j, h, hp, _, _, _, _, _ => by
    cases h
    cases hp
    exact ⟨rfl, M.ph, fun _ _ => rfl, fun _ _ h => h, by simp⟩
  | r :: rs, rows, ds, j, h, hp, hn, hrl, hks, hfl, he => by
    simp only [mapO] at hrl
    split at hrl
    case h_2 => cases hrl
    rename_i lr rl' hlr hrl'
    simp only [Option.some.injEq] at hrl
    subst hrl
    cases h with
    | cons h1 h2 t =>
      cases hp with
      | cons q1 q2 q3 q4 =>
        rename_i S rows S' d ds
        rw [List.nodup_cons] at hn
        have hks2 : ksAll (rl'.map (Lf.ev env)) ds = true ∧ ∀ ks es, lr.ev env = .list ks es → ∃ es', d = .list ks es' := by
          simp only [List.map_cons] at hks
          generalize lr.ev env = x at hks ⊢
          cases x with
          | list a xs =>
            cases d with
            | list b ys =>
              simp only [ksAll, Bool.and_eq_true] at hks
              refine ⟨hks.2, fun ks es e => ?_⟩
              simp only [V.list.injEq] at e
              obtain ⟨rfl, rfl⟩ := e
              exact ⟨ys, by rw [AK.eqs_eq hks.1]⟩
            | _ => simp [ksAll] at hks
          | _ => simp [ksAll] at hks
        obtain ⟨e1, ph', p1, p2, p3⟩ := rows_post (j := j + 1) t q4 hn.2 hrl' hks2.1 (fun hk => by have := hfl hk; simp only [List.map_cons, List.all_cons, Bool.and_eq_true] at this; exact this.2) (fun i hi => by
          have := he (i + 1) (by simp; omega)
          simp only [List.getElem?_cons_succ] at this
          rw [show j + 1 + i = j + (i + 1) by omega]; exact this)
        have e0 : (Lf.v j).ev env = d := by
          have := he 0 (by simp)
          simp only [Nat.add_zero, List.getElem?_cons_zero] at this
          simp [Lf.ev, this]
        obtain ⟨ver, l0, app, h0⟩ := h1
        refine ⟨by simp [e1], fun x => if x = r then S' else ph' x, fun x hx => ?_, fun x b hb => ?_, fun ob x hx => ?_⟩
        · simp only [List.mem_cons, not_or] at hx
          simp [hx.1, p1 x hx.2]
        · simp only at hb
          split at hb
          · rename_i e; rw [e]; exact h2 b (q3 b hb).1
          · exact p2 x b hb
        · by_cases e : x = r
          · subst e
            refine ⟨ver, l0, app, j, h0, ?_, fun hk => by
              have hl : lr = l0 := by simp only [rowLf, h0, Option.some.injEq] at hlr; exact hlr.symm
              have := hfl hk
              simp only [List.map_cons, List.all_cons, Bool.and_eq_true] at this
              rw [← hl]; exact this.1, fun ks es e => by
              have hl : lr = l0 := by simp only [rowLf, h0, Option.some.injEq] at hlr; exact hlr.symm
              rw [e0]; exact hks2.2 ks es (by rw [hl]; exact e), by simp only [if_true]; rw [e0]; exact q1, by simpa using q2, fun b hb => (q3 b (by simpa using hb)).2⟩
            simp only [rowUps, h0]
            rw [upOb_append, upOb_rowUps_ne A.ob rs (j + 1) _ x hn.1]
            simp [upOb]
          · simp only [List.mem_cons] at hx
            have hx' := hx.resolve_left e
            simp only [e, if_false]
            simp only [rowUps]
            rw [upOb_append]
            exact p3 _ x hx'

theorem boxC_rel {c : Cx} {M M' : Mp} {env : List V} {w w' : World} {ob ob' : Nat → Option SO} (E : Ext c (fun _ => False) M ob w M' ob' w') : ∀ {ks : List AK} {us us' : List Value} {ds : List V} {cells : List At} {j : Nat}, BoxC w' ks us us' ds → RelAts c M env w ob cells us →
    (∀ i, i < ds.length → env[j + i]? = ds[i]?) → RelAts c M' env w' ob' (boxCells j ks cells).1 us' ∧ (boxCells j ks cells).2 = j + ds.length
  | [], us, us', ds, cells, j, h, hr, _ => by
    cases h
    cases cells with
    | nil => exact ⟨trivial, rfl⟩
    | cons => exact hr.elim
  | k :: ks, us, us', ds, cells, j, h, hr, he => by
    cases h with
    | sc h t =>
      cases cells with
      | nil => exact hr.elim
      | cons at0 cells =>
        rename_i u u' d us us' ds
        obtain ⟨h1, h2⟩ := boxC_rel E (j := j + 1) t hr.2 (fun i hi => by
          have := he (i + 1) (by simp; omega)
          simp only [List.getElem?_cons_succ] at this
          rw [show j + 1 + i = j + (i + 1) by omega]; exact this)
        have e0 : (Lf.v j).ev env = d := by
          have := he 0 (by simp)
          simp only [Nat.add_zero, List.getElem?_cons_zero] at this
          simp [Lf.ev, this]
        refine ⟨⟨⟨h.oneCell, ?_⟩, h1⟩, by simp only [boxCells, h2, List.length_cons]; omega⟩
        show Rep w' [u'] [(Lf.v j).ev env] []
        rw [e0]; exact h
    | sl t =>
      cases cells with
      | nil => exact hr.elim
      | cons at0 cells =>
        obtain ⟨h1, h2⟩ := boxC_rel E (j := j) t hr.2 he
        exact ⟨⟨RelAt.ext E (fun _ _ h => h) hr.1, h1⟩, by simp only [boxCells, h2]⟩

theorem upOb_boxUps_ne : ∀ (xs : List (Nat × List AK × List At)) (j : Nat) (ob : Nat → Option SO) (i : Nat), i ∉ xs.map (·.1) → upOb ob (boxUps j xs).1 i = ob i
  | [], _, _, _, _ => rfl
  | (q, ks, cells) :: xs, j, ob, i, h => by
    simp only [List.map_cons, List.mem_cons, not_or] at h
    simp only [boxUps, upOb]
    rw [upOb_boxUps_ne xs _ _ i h.2]
    simp [h.1]

theorem upOb_boxUps_box : ∀ (xs : List (Nat × List AK × List At)) (j : Nat) (ob : Nat → Option SO) (i : Nat), i ∈ xs.map (·.1) → ∃ cells, upOb ob (boxUps j xs).1 i = some (.box cells)
  | [], _, _, _, h => by simp at h
  | (q, ks, cells) :: xs, j, ob, i, h => by
    simp only [boxUps, upOb]
    by_cases e : i ∈ xs.map (·.1)
    · exact upOb_boxUps_box xs _ _ i e
    · rw [upOb_boxUps_ne xs _ _ i e]
      simp only [List.map_cons, List.mem_cons] at h
      exact ⟨_, if_pos (h.resolve_right e)⟩

theorem boxC_tie {w' : World} {ob : Nat → Option SO} : ∀ {ks : List AK} {us us' : List Value} {ds : List V} {cells : List At} {j : Nat} {l : List Lf}, BoxC w' ks us us' ds → leaves ob ks cells = some l →
    ∀ (i : Nat) (x : At), cells[i]? = some x → x.isSc = false → us'[i]? = us[i]? ∧ (boxCells j ks cells).1[i]? = some x
  | [], us, us', ds, cells, j, l, h, hl, i, x, hx, _ => by
    cases cells with
    | nil => simp at hx
    | cons => simp [leaves] at hl
  | k :: ks, us, us', ds, cells, j, l, h, hl, i, x, hx, hsc => by
    cases cells with
    | nil => simp at hx
    | cons c0 cells =>
      simp only [leaves] at hl
      split at hl <;> simp only [Option.some.injEq, reduceCtorEq] at hl
      rename_i l0 ls h1 h2
      cases h with
      | sc hh t =>
        cases i with
        | zero =>
          simp only [List.getElem?_cons_zero, Option.some.injEq] at hx
          subst hx
          cases c0 <;> simp_all [At.leaf, At.scl, At.isSc]
        | succ i =>
          simp only [List.getElem?_cons_succ, boxCells] at hx ⊢
          exact boxC_tie t h2 i x hx hsc
      | sl t =>
        cases i with
        | zero =>
          simp only [List.getElem?_cons_zero, Option.some.injEq, boxCells] at hx ⊢
          simpa using hx
        | succ i =>
          simp only [List.getElem?_cons_succ, boxCells] at hx ⊢
          exact boxC_tie t h2 i x hx hsc

theorem boxes_post {M' : Mp} {w' : World} {ob' : Nat → Option SO} (E : Ext c (fun _ => False) M A.ob w M' ob' w') (hbe : M'.be = M.be) (hm : ∀ id cells, A.ob id = some (.box cells) → BoxOk c M env w A.ob id cells) : ∀ {xs : List (Nat × List AK × List At)} {boxes : List Bx} {ds : List V} {j : Nat},
    BoxM c M env w A.ob xs boxes → PostBoxes w' boxes ds → (xs.map (·.1)).Nodup → (∀ i, i < ds.length → env[j + i]? = ds[i]?) →
    (boxUps j xs).2 = j + ds.length ∧ ∀ ob i cells, i ∈ xs.map (·.1) → upOb ob (boxUps j xs).1 i = some (.box cells) → BoxOk c M' env w' ob' i cells
  | [], boxes, ds, j, h, hp, _, _ => by
    cases h
    cases hp
    exact ⟨rfl, by simp⟩
  | (id, ks, cells0) :: xs, boxes, ds, j, h, hp, hn, he => by
    cases h with
    | cons h1 h2 hu hl t =>
      cases hp with
      | cons q1 q2 q3 =>
        rename_i us boxes us' F d1 d2
        simp only [List.map_cons, List.nodup_cons] at hn
        obtain ⟨r1, r2⟩ := boxC_rel E (j := j) q2 h2 (fun i hi => by
          have := he i (by simp; omega)
          rw [this, List.getElem?_append_left hi])
        obtain ⟨e1, e2⟩ := boxes_post E hbe hm (j := j + d1.length) t q3 hn.2 (fun i hi => by
          have := he (d1.length + i) (by simp; omega)
          rw [List.getElem?_append_right (by omega), show d1.length + i - d1.length = i by omega] at this
          rw [show j + d1.length + i = j + (d1.length + i) by omega]; exact this)
        have hj : (boxCells j ks cells0).2 = j + d1.length := r2
        refine ⟨by simp only [boxUps, hj, e1, List.length_append]; omega, fun ob i cells hi hbx => ?_⟩
        simp only [boxUps, upOb, hj] at hbx
        by_cases e : i ∈ xs.map (·.1)
        · exact e2 _ i cells e hbx
        · rw [upOb_boxUps_ne xs _ _ i e] at hbx
          simp only [List.map_cons, List.mem_cons] at hi
          have hii := hi.resolve_right e
          subst hii
          simp only [if_true, Option.some.injEq, SO.box.injEq] at hbx
          subst hbx
          obtain ⟨us0, E0, m1, _, m3, m4⟩ := hm _ _ h1
          obtain ⟨E1, hu⟩ := hu
          have heq : us0 = us := by
            rw [m1] at hu
            simp only [Option.some.injEq, Obj.cells.injEq] at hu
            simpa using hu.1
          subst heq
          obtain ⟨l, hl⟩ := hl
          refine ⟨us', F, by rw [hbe]; exact q1, r1, by rw [hbe]; exact m3, fun b t hp => ?_⟩
          rw [hbe]
          obtain ⟨g1, g2⟩ := m4 b t hp
          refine ⟨g1, fun k u hk => ?_⟩
          obtain ⟨g3, x, g4, g5⟩ := g2 k u hk
          obtain ⟨k1, k2⟩ := boxC_tie (j := j) q2 hl k x g4 g5
          exact ⟨by rw [k1]; exact g3, x, k2, g5⟩

theorem mapO_look_rel (hR : Rel c nt M env A a w) {gs : Gs} (hg : GH env gs) : ∀ {xs : List Operand} {ss : List SV}, mapO (look A.sl gs []) xs = some ss → RelVs c M env w A.ob ss (xs.map a.eval)
  | [], ss, h => by simp only [mapO, Option.some.injEq] at h; subst h; trivial
  | x :: xs, ss, h => by
    simp only [mapO] at h
    split at h <;> simp only [Option.some.injEq, reduceCtorEq] at h
    rename_i s ss' h1 h2
    subst h
    exact ⟨look_rel0 hR h1 hg, mapO_look_rel hR hg h2⟩

end

theorem ResR.vlen {w : World} {rs : List (Bool × List AK)} {vs : List Value} {ds : List V} {S : List Nat} (h : ResR w rs vs ds S) : rs.length = vs.length ∧ resLen rs = ds.length := by
  induction h with
  | nil => exact ⟨rfl, rfl⟩
  | @cons g ks rs us ds ds' S S' v vs hc _ _ ih =>
    refine ⟨by simp [ih.1], ?_⟩
    have := hc.length
    have h2 := ih.2
    simp only [resLen, List.map_cons, List.sum_cons, List.length_append] at h2 ⊢
    omega

theorem resSCs_length (fid : Nat) : ∀ (rs : List (Bool × List AK)) (j : Nat), (resSCs fid j rs).1.length = rs.length
  | [], _ => rfl
  | (_, _) :: rs, j => by simp [resSCs, resSCs_length fid rs]

theorem packRes_rel {c : Cx} {M : Mp} {env : List V} {w : World} {ob : Nat → Option SO} {cs : List SC} {vs : List Value} {v : Value} (h : RelSCs c M env w ob cs vs) (hl : cs.length = vs.length) (hv : retV vs v) : RelSV c M env w ob (packRes cs) v := by
  unfold retV at hv
  match cs, vs, hl, h with
  | [s], [u], _, h =>
    simp only [List.length_singleton, if_true, List.cons.injEq, and_true] at hv
    subst hv
    exact h.1
  | [], [], _, h =>
    simp only [List.length_nil, Nat.zero_ne_one, if_false] at hv
    exact ⟨[], hv, h⟩
  | s :: s' :: cs, u :: u' :: vs, _, h =>
    rw [if_neg (by simp)] at hv
    exact ⟨_, hv, h⟩

section
variable {P : Program} {sg : List (Nat × Sig)} {c : Cx} {nt : Nat} {M : Mp} {env : List V} {A : FS} {a : Act} {w : World} {o : Oper} {gs : Gs} {fid nv : Nat} {K : Act → World → Prop} {Q : Exit → Act → World → Prop} {out : Out}

theorem call_post {s : Sig} {keep : Bool} {ar : Args} {rows : List (Value × List Nat)} {boxes : List Bx} {tk : List Nat} {rl : List Lf} {outs : List V} {n : Nat} {dst : Option Nat} {e : Ending} {w' : World}
    (hR : Rel c nt M env A a w) (hg : GH env gs) (hd : ∀ d, dst = some d → d < nt) (hf : Fresh A (fun x => fid ≤ x ∧ x < fid + nv + n + 1)) (a2 : RowsM M A.ob ar.rows rows) (a3 : BoxM c M env w A.ob ar.boxes boxes) (a5 : ar.rows.Nodup) (a6 : (ar.boxes.map (·.1)).Nodup)
    (hrl : mapO (rowLf A.ob) ar.rows = some rl) (pks : ksAll (rl.map (Lf.ev env)) (outs.drop (resLen s.rs)) = true) (hfl : keep = true → (rl.map (Lf.ev env)).all flatV = true)
    (hpar0 : keep = false → ∀ r ∈ ar.rows, ∀ ver l, A.ob r = some (.row ver l true) → c.par r = none) (p2 : outs.length = n) (p3 : ∀ j, j < n → env[nv + j]? = outs[j]?)
    (hmine : ∀ b ∈ ioB rows boxes ++ tk, c.mine b) (htk : ∀ b ∈ tk, c.own b ∧ b < w.heap.size) (hap : Apart M A.ob tk) (hpost : PostC c.G s w rows boxes tk outs e w') :
    ∃ v M2, e = .returned v ∧ Rel c nt M2 env ⟨upSl A.sl dst (some (gs, packRes (resSCs fid nv s.rs).1)), upOb A.ob (rowUps A.ob keep (resSCs fid nv s.rs).2.2 ar.rows ++ (boxUps ((resSCs fid nv s.rs).2.2 + ar.rows.length) ar.boxes).1 ++ (resSCs fid nv s.rs).2.1)⟩ (a.put dst v) w' := by
  obtain ⟨⟨v, vs, d1, d2, d3, S, e1, rfl, e3, e4, e5, e6, e7, e8⟩, hmv⟩ := hpost
  obtain ⟨lv, lr⟩ := e4.vlen
  have hend := resSCs_end fid s.rs nv
  have henv : ∀ i, i < outs.length → env[nv + i]? = outs[i]? := fun i hi => p3 i (by omega)
  subst e1
  -- the rows
  have hks : ksAll (rl.map (Lf.ev env)) d2 = true := by
    have : ∀ {xs ys zs : List V}, ksAll xs (ys ++ zs) = true → xs.length = ys.length → ksAll xs ys = true := by
      intro xs
      induction xs with
      | nil => intros; simp [ksAll]
      | cons x xs ih =>
        intro ys zs h hl
        cases ys with
        | nil => simp at hl
        | cons y ys =>
          cases x <;> cases y <;> simp only [List.cons_append, ksAll, Bool.and_eq_true, Bool.false_eq_true] at h ⊢
          exact ⟨h.1, ih h.2 (by simpa using hl)⟩
    rw [lr, List.append_assoc, List.drop_left] at pks
    refine this pks ?_
    have hl2 : ar.rows.length = d2.length := by
      have : ∀ {rs : List Nat} {rows : List (Value × List Nat)} {ds : List V}, RowsM M A.ob rs rows → PostRows w' rows ds → rs.length = ds.length := by
        intro rs rows ds h
        induction h generalizing ds with
        | nil => intro h; cases h; rfl
        | cons _ _ _ ih => intro h; cases h with
          | cons _ _ _ t => simp [ih t]
      exact this a2 e7
    have : ∀ {rs : List Nat} {rl : List Lf}, mapO (rowLf A.ob) rs = some rl → rs.length = rl.length := by
      intro rs
      induction rs with
      | nil => intro rl h; simp only [mapO, Option.some.injEq] at h; subst h; rfl
      | cons r rs ih =>
        intro rl h
        simp only [mapO] at h
        split at h <;> simp only [Option.some.injEq, reduceCtorEq] at h
        rename_i h1 h2
        subst h
        simp [ih h2]
    rw [List.length_map, ← this hrl, hl2]
  obtain ⟨lrows, ph', r1, r2, r3⟩ := rows_post (env := env) (j := nv + resLen s.rs) a2 e7 a5 hrl hks hfl (by
    have hl2 : ar.rows.length = d2.length := by
      have : ∀ {rs : List Nat} {rows : List (Value × List Nat)} {ds : List V}, RowsM M A.ob rs rows → PostRows w' rows ds → rs.length = ds.length := by
        intro rs rows ds h
        induction h generalizing ds with
        | nil => intro h; cases h; rfl
        | cons _ _ _ ih => intro h; cases h with
          | cons _ _ _ t => simp [ih t]
      exact this a2 e7
    intro i hi
    have := henv (d1.length + i) (by simp; omega)
    rw [List.append_assoc, List.getElem?_append_right (by omega), show d1.length + i - d1.length = i by omega, List.getElem?_append_left (by omega)] at this
    rw [lr, show nv + d1.length + i = nv + (d1.length + i) by omega]; exact this)
  let ob1 := upOb A.ob (rowUps A.ob keep (nv + resLen s.rs) ar.rows ++ (boxUps (nv + resLen s.rs + ar.rows.length) ar.boxes).1)
  have hdisj : ∀ r, r ∈ ar.rows → r ∉ ar.boxes.map (·.1) := by
    intro r hr hb
    obtain ⟨x, hx, hxe⟩ := List.mem_map.1 hb
    obtain ⟨_, _, _, _, g1, _⟩ := r3 A.ob r hr
    have : ∀ {xs : List (Nat × List AK × List At)} {boxes : List Bx}, BoxM c M env w A.ob xs boxes → ∀ x ∈ xs, A.ob x.1 = some (.box x.2.2) := by
      intro xs boxes h
      induction h with
      | nil => simp
      | cons h _ _ _ _ ih =>
        intro x hx
        rcases List.mem_cons.1 hx with rfl | hx
        · exact h
        · exact ih x hx
    have := this a3 x hx
    rw [hxe, g1] at this
    cases this
  have hbxA : ∀ i, i ∈ ar.boxes.map (·.1) → ∃ cells, A.ob i = some (.box cells) := by
    intro i hi
    obtain ⟨x, hx, hxe⟩ := List.mem_map.1 hi
    have : ∀ {xs : List (Nat × List AK × List At)} {boxes : List Bx}, BoxM c M env w A.ob xs boxes → ∀ x ∈ xs, A.ob x.1 = some (.box x.2.2) := by
      intro xs boxes h
      induction h with
      | nil => simp
      | cons h _ _ _ _ ih =>
        intro x hx
        rcases List.mem_cons.1 hx with rfl | hx
        · exact h
        · exact ih x hx
    exact ⟨_, hxe ▸ this a3 x hx⟩
  have hob1 : ∀ i, ob1 i = upOb (upOb A.ob (rowUps A.ob keep (nv + resLen s.rs) ar.rows)) (boxUps (nv + resLen s.rs + ar.rows.length) ar.boxes).1 i := fun i => by simp only [ob1, upOb_append]
  have hobR : ∀ r, r ∈ ar.rows → ∃ ver l0 app k, A.ob r = some (.row ver l0 app) ∧ ob1 r = some (.row (ver + 1) (.v k) (app && keep)) ∧ (keep = true → flatV (l0.ev env) = true) ∧ (∀ ks es, l0.ev env = .list ks es → ∃ es', (Lf.v k).ev env = .list ks es') ∧ Rep w' [M.hd r] [(Lf.v k).ev env] (ph' r) ∧ (ph' r).Nodup ∧ ∀ b ∈ ph' r, Wr w' b := by
    intro r hr
    obtain ⟨ver, l0, app, k, g1, g2, g3⟩ := r3 A.ob r hr
    exact ⟨ver, l0, app, k, g1, by rw [hob1, upOb_boxUps_ne _ _ _ _ (hdisj r hr)]; exact g2, g3⟩
  have hobN : ∀ i, i ∉ ar.rows → i ∉ ar.boxes.map (·.1) → ob1 i = A.ob i := fun i h1 h2 => by rw [hob1, upOb_boxUps_ne _ _ _ _ h2, upOb_rowUps_ne _ _ _ _ _ h1]
  have hnotX : ∀ r ver l app, A.ob r = some (.row ver l app) → r ∉ ar.rows → ∀ b ∈ M.ph r, b ∉ ioB rows boxes ++ tk := by
    intro r ver l app hr hnr b hb hio
    by_cases hT : b ∈ tk
    · exact (hap b hT).1 _ _ _ _ hr hb
    replace hio := (List.mem_append.1 hio).resolve_right hT
    rcases List.mem_append.1 hio with h | h
    · obtain ⟨q, hq, h5, v1, l1, b1, h6⟩ := RowsM.blocks a2 b h
      exact hR.dRR _ _ _ _ _ _ _ _ hr h6 (fun e => hnr (e ▸ hq)) b hb h5
    · obtain ⟨x, _, h5, h6⟩ := BoxM.blocks a3 b h
      exact hR.dBR _ _ _ _ _ _ h6 hr (h5 ▸ hb)
  have hnotXB : ∀ i cells, A.ob i = some (.box cells) → i ∉ ar.boxes.map (·.1) → M.be i ∉ ioB rows boxes ++ tk := by
    intro i cells hi hni hio
    by_cases hT : M.be i ∈ tk
    · exact (hap _ hT).2 _ _ hi rfl
    replace hio := (List.mem_append.1 hio).resolve_right hT
    rcases List.mem_append.1 hio with h | h
    · obtain ⟨q, hq, h5, v1, l1, b1, h6⟩ := RowsM.blocks a2 _ h
      exact hR.dBR _ _ _ _ _ _ hi h6 h5
    · obtain ⟨x, hx, h5, h6⟩ := BoxM.blocks a3 _ h
      exact hR.dBB _ _ _ _ hi h6 (fun e => hni (e ▸ List.mem_map.2 ⟨x, hx, rfl⟩)) h5
  have E1 : Ext c (fun _ => False) M A.ob w ⟨M.hd, ph', M.be⟩ ob1 w' := by
    refine ⟨fun r ver l app _ hrow => ?_, fun i cells _ hbx => ?_, fun b hb hm => hmv.block b hb fun h => hm (hmine b h)⟩
    · by_cases hr : r ∈ ar.rows
      · obtain ⟨v0, l0, a0, k, g1, g2, _⟩ := hobR r hr
        rw [g2] at hrow
        simp only [Option.some.injEq, SO.row.injEq] at hrow
        obtain ⟨rfl, _⟩ := hrow
        exact ⟨v0, l0, a0, g1, rfl, by omega, fun e => absurd e (by omega)⟩
      · by_cases hb : r ∈ ar.boxes.map (·.1)
        · obtain ⟨cl, hcl⟩ := upOb_boxUps_box ar.boxes (nv + resLen s.rs + ar.rows.length) (upOb A.ob (rowUps A.ob keep (nv + resLen s.rs) ar.rows)) r hb
          rw [hob1, hcl] at hrow; cases hrow
        · rw [hobN r hr hb] at hrow
          exact ⟨ver, l, app, hrow, rfl, Nat.le_refl _, fun _ => ⟨rfl, fun b hbm hlt => ⟨by simp only; rw [r1 r hr]; exact hbm, hmv.block b hlt (hnotX _ _ _ _ hrow hr b hbm)⟩⟩⟩
    · by_cases hb : i ∈ ar.boxes.map (·.1)
      · exact ⟨hbxA i hb, rfl⟩
      · by_cases hr : i ∈ ar.rows
        · obtain ⟨_, _, _, _, _, g2, _⟩ := hobR i hr
          rw [g2] at hbx; cases hbx
        · rw [hobN i hr hb] at hbx
          exact ⟨⟨cells, hbx⟩, rfl⟩
  obtain ⟨lbox, b2⟩ := boxes_post (env := env) E1 rfl (fun id cells h => hR.boxes _ _ h) (j := nv + resLen s.rs + ar.rows.length) a3 e8 a6 (by
    intro i hi
    have := henv (d1.length + d2.length + i) (by simp; omega)
    rw [List.getElem?_append_right (by simp), show d1.length + d2.length + i - (d1 ++ d2).length = i by simp] at this
    rw [lr, lrows, show nv + d1.length + d2.length + i = nv + (d1.length + d2.length + i) by omega]; exact this)
  have hR1 : Rel c nt ⟨M.hd, ph', M.be⟩ env ⟨A.sl, ob1⟩ a w' := by
    refine hR.io_step hmv hmine r2 (fun r ver l app hrow => ?_) (fun i cells hbx => ?_)
    · by_cases hr : r ∈ ar.rows
      · obtain ⟨v0, l0, a0, k, g1, g2, gf, gk, g3, g4, g5⟩ := hobR r hr
        rw [g2] at hrow
        simp only [Option.some.injEq, SO.row.injEq] at hrow
        obtain ⟨rfl, rfl, rfl⟩ := hrow
        obtain ⟨_, _, o1, o2⟩ := hR.rows _ _ _ _ g1
        refine ⟨v0, l0, a0, g1, by omega, fun e => absurd e (by omega), fun _ => ⟨⟨ph' r, g3, g4, fun b hb => ⟨hb, g5 b hb⟩⟩, fun b hb => ?_, fun ha => ⟨?_, fun b hb => (o1 (by simpa using (Bool.and_eq_true .. ▸ ha : _ ∧ _).1)).2 b (r2 r b hb)⟩,
          fun ha v S hv => by
            have ha0 : a0 = false := by
              cases a0 with
              | false => rfl
              | true =>
                have hk0 : keep = false := by simpa using ha
                rw [hpar0 hk0 r hr _ _ g1] at hv; cases hv
            exact ⟨(o2 ha0 v S hv).1, fun b hb => (o2 ha0 v S hv).2 b (r2 r b hb)⟩⟩⟩
        rotate_left
        · simp only [Bool.and_eq_true] at ha
          obtain ⟨ha, hk0⟩ := ha
          have hflat := gf hk0
          refine ⟨?_, ?_⟩
          rotate_left
          · cases hl0 : l0.ev env <;> rw [hl0] at hflat <;> simp only [flatV, Bool.false_eq_true] at hflat
            rename_i ks es
            obtain ⟨es', hes⟩ := gk ks es hl0
            rw [hes] at g3 ⊢
            exact Inn.flat g3 hflat
          rcases (o1 ha).1.1 with h | ⟨g, n, cap, ks, es, q1, q2, q3, q4⟩
          · exact .inl h
          · obtain ⟨es', hes⟩ := gk ks es q2
            refine .inr ⟨g, n, cap, ks, es', q1, hes, fun hp => ?_, q4⟩
            obtain ⟨cur, E, fz, q3, q6, q5⟩ := q3 hp
            obtain ⟨cs', z1, z2⟩ := hmv.sz _ _ _ _ q3
            exact ⟨cs', E, fz, z1, by rw [z2]; exact q6, by rw [z2]; exact q5⟩
        have := (hR.rows _ _ _ _ g1).2.1 b (r2 r b hb)
        exact ⟨this.1, Nat.lt_of_lt_of_le this.2 hmv.size⟩
      · by_cases hb : r ∈ ar.boxes.map (·.1)
        · obtain ⟨cl, hcl⟩ := upOb_boxUps_box ar.boxes (nv + resLen s.rs + ar.rows.length) (upOb A.ob (rowUps A.ob keep (nv + resLen s.rs) ar.rows)) r hb
          rw [hob1, hcl] at hrow; cases hrow
        · rw [hobN r hr hb] at hrow
          exact ⟨ver, l, app, hrow, Nat.le_refl _, fun _ => ⟨rfl, rfl, r1 r hr, hnotX _ _ _ _ hrow hr⟩, fun h => absurd h (Nat.lt_irrefl _)⟩
    · by_cases hb : i ∈ ar.boxes.map (·.1)
      · obtain ⟨c0, h0⟩ := hbxA i hb
        refine ⟨c0, h0, .inr ?_⟩
        rw [hob1] at hbx
        exact b2 _ i cells hb hbx
      · by_cases hr : i ∈ ar.rows
        · obtain ⟨_, _, _, _, _, g2, _⟩ := hobR i hr
          rw [g2] at hbx; cases hbx
        · rw [hobN i hr hb] at hbx
          exact ⟨cells, hbx, .inl ⟨rfl, hnotXB _ _ hbx hb⟩⟩
  -- the results
  have houts : n = d1.length + d2.length + d3.length := by rw [← p2]; simp only [List.length_append]
  have hf2 : Fresh ⟨A.sl, ob1⟩ (fun x => fid + nv ≤ x ∧ x < fid + nv + resLen s.rs) := by
    have hin : ∀ x, (fid + nv ≤ x ∧ x < fid + nv + resLen s.rs) → fid ≤ x ∧ x < fid + nv + n + 1 := fun x hx => by omega
    have hnone : ∀ x, (fid + nv ≤ x ∧ x < fid + nv + resLen s.rs) → x ∉ ar.rows ∧ x ∉ ar.boxes.map (·.1) := by
      intro x hx
      have := hf.2.2 x (hin x hx)
      refine ⟨fun h => ?_, fun h => ?_⟩
      · obtain ⟨_, _, _, _, g1, _⟩ := hobR x h
        rw [this] at g1; cases g1
      · obtain ⟨c0, g1⟩ := hbxA x h
        rw [this] at g1; cases g1
    refine ⟨fun q gs sv hs x hx hq => hf.1 q gs sv hs x hx (hin x hq), fun id cells hbx x hx hq => ?_, fun x hx => ?_⟩
    · by_cases hb : id ∈ ar.boxes.map (·.1)
      · -- the new cells of a box speak of no new id
        have hnm : ∀ (xs : List (Nat × List AK × List At)) (j : Nat) (ob : Nat → Option SO) (cells : List At), (∀ y ∈ xs, A.ob y.1 = some (.box y.2.2)) → id ∈ xs.map (·.1) → upOb ob (boxUps j xs).1 id = some (.box cells) → ∀ z, atsMen cells z → ∃ cells0, A.ob id = some (.box cells0) ∧ atsMen cells0 z := by
          have hbc : ∀ (ks : List AK) (cs : List At) (j : Nat) z, atsMen (boxCells j ks cs).1 z → atsMen cs z := by
            intro ks
            induction ks with
            | nil => intro cs j z; rintro ⟨b, hb, _⟩; simp [boxCells] at hb
            | cons k ks ih =>
              intro cs j z
              cases cs with
              | nil => rintro ⟨b, hb, _⟩; cases k <;> simp [boxCells] at hb
              | cons a0 cs =>
                rintro ⟨b, hb, hz⟩
                cases k with
                | sc =>
                  simp only [boxCells, List.mem_cons] at hb
                  rcases hb with rfl | hb
                  · exact hz.elim
                  · obtain ⟨b', hb', hz'⟩ := ih cs (j + 1) z ⟨b, hb, hz⟩
                    exact ⟨b', by simp [hb'], hz'⟩
                | sl js =>
                  simp only [boxCells, List.mem_cons] at hb
                  rcases hb with rfl | hb
                  · exact ⟨b, by simp, hz⟩
                  · obtain ⟨b', hb', hz'⟩ := ih cs j z ⟨b, hb, hz⟩
                    exact ⟨b', by simp [hb'], hz'⟩
          intro xs
          induction xs with
          | nil => intro j ob cells _ h; simp at h
          | cons y xs ih =>
            obtain ⟨q, ks, cs⟩ := y
            intro j ob cells hall hmem hup z hz
            simp only [boxUps, upOb] at hup
            by_cases e : id ∈ xs.map (·.1)
            · exact ih _ _ cells (fun y hy => hall y (by simp [hy])) e hup z hz
            · rw [upOb_boxUps_ne xs _ _ id e] at hup
              simp only [List.map_cons, List.mem_cons] at hmem
              have hii := hmem.resolve_right e
              subst hii
              simp only [if_true, Option.some.injEq, SO.box.injEq] at hup
              subst hup
              exact ⟨cs, hall (id, ks, cs) (by simp), hbc ks cs j z hz⟩
        have hall : ∀ y ∈ ar.boxes, A.ob y.1 = some (.box y.2.2) := by
          have : ∀ {xs : List (Nat × List AK × List At)} {boxes : List Bx}, BoxM c M env w A.ob xs boxes → ∀ x ∈ xs, A.ob x.1 = some (.box x.2.2) := by
            intro xs boxes h
            induction h with
            | nil => simp
            | cons h _ _ _ _ ih =>
              intro x hx
              rcases List.mem_cons.1 hx with rfl | hx
              · exact h
              · exact ih x hx
          exact this a3
        have hbx' : ob1 id = some (.box cells) := hbx
        rw [hob1] at hbx'
        obtain ⟨c0, g1, g2⟩ := hnm ar.boxes _ _ cells hall hb hbx' x hx
        exact hf.2.1 id c0 g1 x g2 (hin x hq)
      · have hbx' : ob1 id = some (.box cells) := hbx
        by_cases hr : id ∈ ar.rows
        · obtain ⟨_, _, _, _, _, g2, _⟩ := hobR id hr
          rw [g2] at hbx'; cases hbx'
        · rw [hobN id hr hb] at hbx'
          exact hf.2.1 id cells hbx' x hx (hin x hq)
    · show ob1 x = none
      rw [hobN x (hnone x hx).1 (hnone x hx).2]
      exact hf.2.2 x (hin x hx)
  obtain ⟨M2, g1, g2, _⟩ := add_res (fid := fid) (j := nv) hR1 e4 (fun i hi => by
    have := henv i (by simp; omega)
    rw [this, List.append_assoc, List.getElem?_append_left (by omega)]) hf2 e5 (fun b hb => ⟨(e6 b hb).1.elim (fun h => .inl (Nat.le_trans hR.keep.size h)) (fun h => (htk b h).1), (e6 b hb).2⟩) (by
    intro b hb
    rcases (e6 b hb).1 with hge | hin
    · refine ⟨fun r ver l app hrow hbr => ?_, fun id cells hbx e => ?_⟩
      · obtain ⟨v0, l0, a0, q1, _⟩ := E1.row r ver l app (fun h => h) hrow
        have := ((hR.rows _ _ _ _ q1).2.1 b (r2 r b hbr)).2
        omega
      · obtain ⟨⟨c0, q1⟩, _⟩ := E1.box id cells (fun h => h) hbx
        have := hR.be_lt q1
        have e' : b = M.be id := e
        omega
    · refine ⟨fun r ver l app hrow hbr => ?_, fun id cells hbx e => ?_⟩
      · obtain ⟨v0, l0, a0, q1, _⟩ := E1.row r ver l app (fun h => h) hrow
        exact (hap b hin).1 _ _ _ _ q1 (r2 r b hbr)
      · obtain ⟨⟨c0, q1⟩, _⟩ := E1.box id cells (fun h => h) hbx
        exact (hap b hin).2 _ _ q1 e)
  have hfin := g1.put (dst := dst) hd (gs := gs) (sv := packRes (resSCs fid nv s.rs).1) (v := v) (fun _ => ⟨fun _ => packRes_rel g2 (by rw [resSCs_length]; exact lv) e3, fun hn => absurd hg hn⟩)
  refine ⟨v, M2, rfl, ?_⟩
  rw [upOb_append, hend]
  exact hfin

theorem RowsM.keep {M : Mp} {ob ob' : Nat → Option SO} {rs : List Nat} {rows : List (Value × List Nat)} (h : RowsM M ob rs rows) (hk : ∀ r ∈ rs, ∀ ver l app, ob r = some (.row ver l app) → ob' r = some (.row ver l app)) : RowsM M ob' rs rows := by
  induction h with
  | nil => exact .nil
  | @cons r S rs rows h hs t ih =>
    obtain ⟨ver, l, app, h⟩ := h
    exact .cons ⟨ver, l, app, hk r (by simp) _ _ _ h⟩ hs (ih fun q hq => hk q (by simp [hq]))

theorem lst_keep {ob ob' : Nat → Option SO} {x : At} {js : List AK} {q : Nat × Lf} (h : x.lst ob js = some q) (hk : ∀ r ∈ atIds [x], ∀ y, ob r = some y → ob' r = some y) : x.lst ob' js = some q := by
  cases x with
  | own r =>
    simp only [At.lst] at h ⊢
    split at h
    · rename_i e
      rw [hk r (by simp [atIds]) _ e]; exact h
    · cases h
  | inn r ver l p =>
    simp only [At.lst] at h ⊢
    split at h
    · rename_i e
      rw [hk r (by simp [atIds]) _ e]; exact h
    · cases h
  | _ => exact h

theorem leaves_keep {ob ob' : Nat → Option SO} : ∀ {ks : List AK} {cs : List At} {l : List Lf}, leaves ob ks cs = some l → (∀ r ∈ atIds cs, ∀ y, ob r = some y → ob' r = some y) → leaves ob' ks cs = some l
  | [], [], _, h, _ => h
  | [], _ :: _, _, h, _ => by simp [leaves] at h
  | _ :: _, [], _, h, _ => by simp [leaves] at h
  | k :: ks, x :: cs, l, h, hk => by
    simp only [leaves] at h ⊢
    split at h <;> simp only [Option.some.injEq, reduceCtorEq] at h
    rename_i l0 ls h1 h2
    have hin : ∀ r, r ∈ atIds [x] ∨ r ∈ atIds cs → r ∈ atIds (x :: cs) := by
      intro r hr
      unfold atIds at hr ⊢
      rw [List.filterMap_cons]
      cases x <;> simp_all
    have e1 : x.leaf ob' k = some l0 := by
      cases k with
      | sc => exact h1
      | sl js =>
        simp only [At.leaf, Option.map_eq_some_iff] at h1 ⊢
        obtain ⟨q, h3, h4⟩ := h1
        exact ⟨q, lst_keep h3 fun r hr => hk r (hin r (.inl hr)), h4⟩
    rw [e1, leaves_keep h2 fun r hr => hk r (hin r (.inr hr))]
    simp [h]

theorem BoxM.keep {c : Cx} {M : Mp} {env : List V} {w : World} {ob ob' : Nat → Option SO} {xs : List (Nat × List AK × List At)} {boxes : List Bx} (h : BoxM c M env w ob xs boxes) (hs : ∀ i x, ob' i = some x → ob i = some x) (hb : ∀ id cells, ob id = some (.box cells) → ob' id = some (.box cells))
    (hr : ∀ x ∈ xs, ∀ r ∈ atIds x.2.2, ∀ {y}, ob r = some y → ob' r = some y) : BoxM c M env w ob' xs boxes := by
  induction h with
  | nil => exact .nil
  | @cons id ks cells us xs boxes h1 h2 hu hl t ih =>
    obtain ⟨l, hl⟩ := hl
    exact .cons (hb _ _ h1) (RelAts.sub hs h2) hu ⟨l, leaves_keep hl fun r hrr y => hr (id, ks, cells) (List.mem_cons_self ..) r hrr⟩ (ih fun x hx => hr x (List.mem_cons_of_mem _ hx))

theorem mapO_congr {α β : Type} {f g : α → Option β} : ∀ {as : List α}, (∀ a ∈ as, f a = g a) → mapO f as = mapO g as
  | [], _ => rfl
  | a :: as, h => by simp only [mapO]; rw [h a (by simp), mapO_congr fun b hb => h b (by simp [hb])]

theorem rowUps_congr {ob ob' : Nat → Option SO} {keep : Bool} : ∀ {rs : List Nat} {j : Nat}, (∀ r ∈ rs, ob' r = ob r) → rowUps ob' keep j rs = rowUps ob keep j rs
  | [], _, _ => rfl
  | r :: rs, j, h => by simp only [rowUps]; rw [h r (by simp), rowUps_congr fun q hq => h q (by simp [hq])]

theorem roRows_box {ob : Nat → Option SO} : ∀ {ps : List PK} {xs : List SV} {ar : Args}, coreArgs ob ps xs = some ar → ∀ x ∈ ar.boxes, ∀ r ∈ atIds x.2.2, r ∈ roRows ob ps xs
  | [], [], ar, h, x, hx, r, hr => by
    simp only [coreArgs, Option.some.injEq] at h
    subst h; simp at hx
  | [], _ :: _, _, h, _, _, _, _ => by simp [coreArgs] at h
  | p :: _, [], _, h, _, _, _, _ => by cases p <;> simp [coreArgs] at h
  | p :: ps, x0 :: xs, ar, h, x, hx, r, hr => by
    cases p with
    | val g ks =>
      cases x0 <;> simp only [coreArgs, reduceCtorEq] at h
      split at h
      · split at h <;> simp only [Option.some.injEq, reduceCtorEq] at h
        rename_i ha
        subst h
        simp only [roRows]
        exact List.mem_append_right _ (roRows_box ha x hx r hr)
      · cases h
    | io g ks =>
      cases x0 <;> simp only [coreArgs, reduceCtorEq] at h
      split at h
      · split at h
        · rename_i ha
          split at h <;> simp only [Option.some.injEq, reduceCtorEq] at h
          subst h
          simp only [roRows]
          exact roRows_box ha x hx r hr
        · cases h
      · cases h
    | ptr po ks =>
      cases x0 with
      | ptr id off =>
        simp only [coreArgs] at h
        split at h
        · cases h
        split at h
        · rename_i cells hc
          split at h
          · rename_i ha
            split at h <;> simp only [Option.some.injEq, reduceCtorEq] at h
            subst h
            simp only [roRows, hc]
            rcases List.mem_cons.1 hx with rfl | hx
            · exact List.mem_append_left _ hr
            · exact List.mem_append_right _ (roRows_box ha x hx r hr)
          · cases h
        · cases h
      | _ => simp [coreArgs] at h
    | tk g ks =>
      cases x0 <;> simp only [coreArgs, reduceCtorEq] at h
      split at h
      · split at h
        · rename_i ha
          split at h <;> simp only [Option.some.injEq, reduceCtorEq] at h
          subst h
          simp only [roRows]
          exact roRows_box ha x hx r hr
        · cases h
      · cases h
    | cst f =>
      simp only [coreArgs] at h
      split at h
      · simp only [roRows]
        exact roRows_box h x hx r hr
      · cases h
    | new ks => simp [coreArgs] at h

theorem op_call (hsg : ∀ f s, sg.lookup f = some s → Contract c.G P f s) (hpb : ∀ x, npK ≤ x → c.parB x = none ∧ c.par x = none) (hR : Rel c nt M env A a w) (hg : GH env gs) (hd : ∀ d, o.dst = some d → d < nt) (hf : Fresh A (fun x => fid ≤ x ∧ x < fid + nv + out.outs + 1)) (hh : Holds env nv out)
    (hK : Kont c nt env gs A a o out K) {f : Nat} {args : Array Operand} {argTypes : Array TypeId} {x : Operand} (ho : o.op = .call { callee := .value x, args := args, argTypes := argTypes }) (hx : a.eval x = .func (.func f) #[] #[]) {xs : List SV} (h1 : mapO (look A.sl gs []) args.toList = some xs)
    (hc : coreCall P sg A.ob fid nv f xs = some out) : o.wp P a w K Q := by
  unfold coreCall at hc
  split at hc
  · rename_i s fn hs hfn
    split at hc
    · rename_i hbody
      simp only [Bool.and_eq_true, bne_iff_ne] at hbody
      split at hc
      · rename_i ar har
        split at hc
        · cases hc
        rename_i hro
        simp only [Bool.or_eq_true, not_or, Bool.not_eq_true] at hro
        split at hc
        · cases hc
        rename_i rl hrl
        split at hc
        · cases hc
        rename_i hnest
        simp only [Option.some.injEq] at hc
        obtain ⟨ro, rows, boxes, tk, a1, a2, a3, a4, a5, a6, a7, a8, a9, a10⟩ := coreArgs_rel hR har (mapO_look_rel hR hg h1)
        obtain ⟨outs, p1, p2, p3, pks, hfl⟩ : ∃ outs, s.F (ar.ls.map (Lf.ev env)) = some outs ∧ outs.length = out.outs ∧ (∀ j, j < out.outs → env[nv + j]? = outs[j]?) ∧ ksAll (rl.map (Lf.ev env)) (outs.drop (resLen s.rs)) = true ∧
            (flatIo s.ps = true → (rl.map (Lf.ev env)).all flatV = true) := by
          rw [← hc] at hh ⊢
          obtain ⟨vs, g1, g2, g3⟩ := hh
          cases hkeep : flatIo s.ps with
          | true =>
            rw [hkeep] at g1
            simp only [if_true, Prim.run, List.map_append, List.length_append, List.length_map] at g1
            split at g1
            · rename_i h0
              have : rl = [] := List.eq_nil_of_length_eq_zero h0
              subst this
              exact ⟨vs, by simpa using g1, g2, g3, rfl, fun _ => rfl⟩
            · split at g1
              · rename_i outs hF
                split at g1
                · rename_i hk
                  simp only [Option.some.injEq] at g1
                  subst g1
                  rw [List.take_left' (by simp)] at hF
                  rw [List.drop_left' (by simp), Bool.and_eq_true] at hk
                  exact ⟨_, hF, g2, g3, hk.1, fun _ => hk.2⟩
                · cases g1
              · cases g1
          | false =>
            rw [hkeep] at g1
            simp only [Bool.false_eq_true, if_false, Prim.run, List.map_append, List.length_append, List.length_map] at g1
            split at g1
            · rename_i outs hF
              split at g1
              · rename_i hk
                simp only [Option.some.injEq] at g1
                subst g1
                rw [List.take_left' (by simp)] at hF
                rw [List.drop_left' (by simp)] at hk
                exact ⟨_, hF, g2, g3, hk, fun h => by cases h⟩
              · cases g1
            · cases g1
        have hpar0 : flatIo s.ps = false → ∀ r ∈ ar.rows, ∀ ver l, A.ob r = some (.row ver l true) → c.par r = none := by
          intro hk r hr ver l hrow
          rw [hk] at hnest
          simp only [Bool.not_false, Bool.true_and, Bool.not_eq_true] at hnest
          have := List.any_eq_false.1 hnest r hr
          simp only [appOf, hrow, Bool.and_true, decide_eq_true_eq, Nat.not_lt] at this
          exact (hpb r this).2
        have hcon : ∀ {l : List Nat} {r : Nat}, r ∈ l → l.contains r = true := fun h => List.contains_iff_mem.2 h
        have hrt : ∀ r ∈ ar.rows, r ∉ ar.tk := fun r hr ht => by
          have := List.any_eq_false.1 hro.2 r hr
          exact this (hcon ht)
        have hrr : ∀ r ∈ roRows A.ob s.ps xs, r ∉ ar.rows ∧ r ∉ ar.tk := fun r hr => by
          have := List.any_eq_false.1 hro.1 r hr
          simp only [Bool.or_eq_true, not_or] at this
          exact ⟨fun h => this.1 (hcon h), fun h => this.2 (hcon h)⟩
        have hnod0 := io_nodup hR a2 a5 a1.rows_nodup a3 a6
        have hnod : (ioB rows boxes ++ tk).Nodup := by
          rw [List.nodup_append]
          refine ⟨hnod0, a7, fun b hb b' hb' e => ?_⟩
          subst e
          obtain ⟨_, _, q, hq, hbq⟩ := a8 b hb'
          obtain ⟨v2, l2, b2, hoq⟩ := a10 q hq
          rcases List.mem_append.1 hb with hb | hb
          · obtain ⟨r, hr, h3, v1, l1, b1, h4⟩ := RowsM.blocks a2 b hb
            exact hR.dRR _ _ _ _ _ _ _ _ h4 hoq (fun e => hrt r hr (e ▸ hq)) b h3 hbq
          · obtain ⟨y, _, h3, h4⟩ := BoxM.blocks a3 b hb
            exact hR.dBR _ _ _ _ _ _ h4 hoq (h3 ▸ hbq)
        have hmine : ∀ b ∈ ioB rows boxes ++ tk, c.mine b := by
          intro b hb
          rcases List.mem_append.1 hb with hb | hb
          · rcases List.mem_append.1 hb with hb | hb
            · obtain ⟨q, _, h3, v1, l1, b1, h4⟩ := RowsM.blocks a2 b hb
              exact ((hR.rows _ _ _ _ h4).2.1 b h3).1
            · obtain ⟨x, _, h3, h4⟩ := BoxM.blocks a3 b hb
              obtain ⟨_, _, _, _, h5, _⟩ := hR.boxes _ _ h4
              rw [h3]; exact h5
          · exact (a8 b hb).1.mine
        have hrodis : ∀ b ∈ ro, b ∉ ioB rows boxes ++ tk := by
          intro b hb hio
          rcases a4 b hb with h | ⟨r, hr, h3, v0, l0, b0, h4⟩
          · exact h.1 (hmine b hio)
          · obtain ⟨n1, n2⟩ := hrr r hr
            rcases List.mem_append.1 hio with hio | hb2
            · rcases List.mem_append.1 hio with hb2 | hb2
              · obtain ⟨q, hq, h5, v1, l1, b1, h6⟩ := RowsM.blocks a2 b hb2
                exact hR.dRR _ _ _ _ _ _ _ _ h4 h6 (fun e => n1 (e ▸ hq)) b h3 h5
              · obtain ⟨x, _, h5, h6⟩ := BoxM.blocks a3 b hb2
                exact hR.dBR _ _ _ _ _ _ h6 h4 (h5 ▸ h3)
            · obtain ⟨_, _, q, hq, hbq⟩ := a8 b hb2
              obtain ⟨v2, l2, b2, hoq⟩ := a10 q hq
              exact hR.dRR _ _ _ _ _ _ _ _ h4 hoq (fun e => n2 (e ▸ hq)) b h3 hbq
        have hcall := (hsg f s hs).1 w (args.toList.map a.eval) _ outs ro rows boxes tk hR.keep.glOk p1 a1 hnod hrodis (fun b hb => hR.keep.glNone (hmine b hb))
        have hrun : (execOp a.eval o).run P w = .ok (.enter f (args.toList.map a.eval).toArray) w := by
          have hargs : args.map a.eval = (args.toList.map a.eval).toArray := by apply Array.ext'; simp
          have hb : fn.body.isNone = false := by
            have := hbody.1
            cases hfb : fn.body <;> simp_all
          simp only [execOp, ho, hx, resolve, invoke, Deferred.ofValue, Sem.run_bind, Sem.run_pure, Result.andThen_ok, callFunc, run_program, hfn]
          rw [← hargs]
          simp [hbody.2, hb]
        unfold Oper.wp
        rw [hrun]
        refine Calls.mono hcall ?_
        intro e w' hpost
        -- the rows that were taken over are gone
        have hob0 : ∀ i, upOb A.ob (ar.tk.map fun r => (r, none)) i = if i ∈ ar.tk then none else A.ob i := upOb_gone _ _
        have hsub : ∀ i x, upOb A.ob (ar.tk.map fun r => (r, none)) i = some x → A.ob i = some x := fun i x h => by
          rw [hob0] at h
          split at h
          · cases h
          · exact h
        have hkeep : ∀ i x, i ∉ ar.tk → A.ob i = some x → upOb A.ob (ar.tk.map fun r => (r, none)) i = some x := fun i x hi h => by rw [hob0, if_neg hi]; exact h
        have hR0 : Rel c nt M env ⟨A.sl, upOb A.ob (ar.tk.map fun r => (r, none))⟩ a w := hR.sub (fun _ _ h => h) hsub
        have hf0 : Fresh ⟨A.sl, upOb A.ob (ar.tk.map fun r => (r, none))⟩ (fun x => fid ≤ x ∧ x < fid + nv + out.outs + 1) :=
          ⟨hf.1, fun id cells h => hf.2.1 id cells (hsub _ _ h), fun x hx => by
            have := hf.2.2 x hx
            show upOb A.ob _ x = none
            rw [hob0]
            split
            · rfl
            · exact this⟩
        have a2' := a2.keep (fun r hr ver l app h => hkeep r _ (hrt r hr) h)
        have hbt : ∀ id cells, A.ob id = some (.box cells) → id ∉ ar.tk := fun id cells h ht => by
          obtain ⟨_, _, _, h2⟩ := a10 id ht
          rw [h] at h2; cases h2
        have a3' := a3.keep hsub (fun id cells h => hkeep id _ (hbt id cells h) h) (by
          intro x hx r hr
          exact hkeep r _ (hrr r (roRows_box har x hx r hr)).2)
        have hrow0 : ∀ r ∈ ar.rows, upOb A.ob (ar.tk.map fun r => (r, none)) r = A.ob r := fun r hr => by rw [hob0, if_neg (hrt r hr)]
        have hrl' : mapO (rowLf (upOb A.ob (ar.tk.map fun r => (r, none)))) ar.rows = some rl := by
          rw [← hrl]
          exact mapO_congr fun r hr => by simp only [rowLf, hrow0 r hr]
        have hap : Apart M (upOb A.ob (ar.tk.map fun r => (r, none))) tk := by
          intro b hb
          obtain ⟨_, _, q, hq, hbq⟩ := a8 b hb
          obtain ⟨v2, l2, b2, hoq⟩ := a10 q hq
          refine ⟨fun r ver l app h hbr => ?_, fun id cells h e => ?_⟩
          · have h2 := hsub _ _ h
            have hne : r ≠ q := fun e => by
              rw [hob0, if_pos (e ▸ hq)] at h; cases h
            exact hR.dRR _ _ _ _ _ _ _ _ h2 hoq hne b hbr hbq
          · exact hR.dBR _ _ _ _ _ _ (hsub _ _ h) hoq (e ▸ hbq)
        obtain ⟨v, M2, rfl, hfin⟩ := call_post (dst := o.dst) hR0 hg hd hf0 a2' a3' a5 a6 hrl' pks hfl (fun hk r hr ver l h => hpar0 hk r hr ver l (hsub _ _ h)) p2 p3 hmine (fun b hb => ⟨(a8 b hb).1, (a8 b hb).2.1⟩) hap hpost
        refine hK M2 w' v ?_
        rw [← hc]
        simp only [Option.map_some]
        rw [upOb_append (l := ar.tk.map fun r => (r, none)), ← rowUps_congr hrow0]
        exact hfin
      · cases hc
    · cases hc
  · cases hc

end
end Go.Mw

namespace Go.Mw

theorem flat_get {es : List V} {k i off : Nat} (hk : ∀ e ∈ es, e.cells.length = k) {e : V} (he : es[i]? = some e) (ho : off < k) : (es.flatMap V.cells)[i * k + off]? = e.cells[off]? := by
  have hlt : i < es.length := by
    rcases Nat.lt_or_ge i es.length with h | h
    · exact h
    · simp [List.getElem?_eq_none h] at he
  have hee : es[i] = e := by simpa [List.getElem?_eq_getElem hlt] using he
  rw [← List.getElem?_drop, flatMap_drop hk, List.drop_eq_getElem_cons hlt, hee, List.flatMap_cons]
  rw [List.getElem?_append_left (by rw [hk e (List.mem_of_getElem? he)]; exact ho)]

theorem ArgsR.val_nil {w : World} {ps : List PK} {vs : List Value} {ds : List V} {ro : List Nat} {rows : List (Value × List Nat)} {boxes : List Bx} {tk : List Nat} (h : ArgsR w ps vs ds ro rows boxes tk) (hp : ps.all PK.isVal = true) : rows = [] ∧ boxes = [] ∧ tk = [] := by
  induction h with
  | nil => exact ⟨rfl, rfl, rfl⟩
  | val _ _ _ ih => exact ih (by simp only [List.all_cons, Bool.and_eq_true] at hp; exact hp.2)
  | io => simp [PK.isVal] at hp
  | ptr => simp [PK.isVal] at hp
  | tk => simp [PK.isVal] at hp
  | cst => simp [PK.isVal] at hp

theorem coreCall_none {P : Program} {sg : List (Nat × Sig)} {ob ob' : Nat → Option SO} {fid nv f : Nat} {xs : List SV} {out : Out} (h : coreCallIn P sg ob fid nv f xs = some out) : coreCall P sg ob' fid nv f xs = none := by
  unfold coreCallIn at h
  split at h
  case h_2 => cases h
  rename_i s fn hs hfn
  split at h
  case isFalse => cases h
  rename_i hbody
  split at h
  case h_2 => cases h
  rename_i js ps r ver l p xs' hps
  have e : coreArgs ob' s.ps (.sc ⟨false, [.inn r ver l (some (.elm p))]⟩ :: xs') = none := by
    rw [hps]; simp [coreArgs, ioCells]
  unfold coreCall
  rw [hs, hfn]
  simp only [hbody, if_true, e]

section
variable {P : Program} {sg : List (Nat × Sig)} {c : Cx} {nt : Nat} {M : Mp} {env : List V} {A : FS} {a : Act} {w : World} {o : Oper} {gs : Gs} {fid nv : Nat} {K : Act → World → Prop} {Q : Exit → Act → World → Prop} {out : Out}

theorem in_step (hR : Rel c nt M env A a w) {x0 : Value} {r ver : Nat} {l lr : Lf} {p : PthE} {js : List AK} {app : Bool} (hrel : RelAt c M env w A.ob (.inn r ver l (some (.elm p))) x0) (hrow : A.ob r = some (.row ver lr app))
    (hkk : AK.eqs ((p.ks.drop p.off).take 1) [.sl js] = true) :
    ∃ Sy es i ik e, Rep w [x0] [l.ev env] Sy ∧ Sy.Nodup ∧ (∀ b ∈ Sy, b ∈ M.ph r ∧ Wr w b) ∧ p.ll.ev env = .list p.ks es ∧ p.ix.ev env = .int ik i ∧ es[i.toNat]? = some e ∧
      ∀ (w' : World) (d' : V) (Sn : List Nat) (j0 : Nat), Moved w w' (· ∈ Sy) c.G.dr → Rep w' [x0] [d'] Sn → Sn.Nodup → (∀ b ∈ Sn, b ∈ Sy ∧ Wr w' b) → ksAll [l.ev env] [d'] = true → aksOk ((p.ks.drop p.off).take 1) [d'] = true →
        env[j0]? = some (.list p.ks (es.set i.toNat (e.put p.off [d']))) →
        ∃ ph' : Nat → List Nat, (∀ q b, b ∈ ph' q → b ∈ M.ph q) ∧ Rel c nt ⟨M.hd, ph', M.be⟩ env ⟨A.sl, fun j => if j = r then some (.row (ver + 1) (.v j0) app) else A.ob j⟩ a w' := by
  obtain ⟨_, _, hpth⟩ := hrel
  -- where the inner list stands
  obtain ⟨u, pb, po, hl, ⟨bb, oo, n, cap, es, i, ik, e, q1, q2, q3, q4, q5, q6, q7, q8⟩, hfr⟩ := hpth
  simp only [Value.pointer.injEq, Option.some.injEq, Addr.mk.injEq, and_true] at q8
  obtain ⟨rfl, rfl⟩ := q8
  obtain ⟨k1, k2, k3, k4⟩ := hfr _ _ _ hrow rfl
  have hrowok := hR.rows _ _ _ _ hrow
  obtain ⟨⟨S, s1, s2, s3⟩, s4, s5, s6⟩ := hR.rows _ _ _ _ hrow
  rw [k1, q2] at s1 s5
  rw [← k2, q1] at s1
  rcases s1.list_inv with ⟨_, q, _⟩ | ⟨b', off', n', cap', vs, S', cs, E, fz, hv, rfl, hn, hk, hcap, hbl, hsz, hvv, hin⟩
  · subst q; simp at q5
  simp only [Value.slice.injEq, Option.some.injEq, Addr.mk.injEq, and_true] at hv
  obtain ⟨⟨rfl, rfl⟩, rfl, rfl⟩ := hv
  have hblr := hbl
  have hfz : FzOk cs.size fz := by
    obtain ⟨cs2, E2, fz2, hw, hz⟩ := (s3 pb (by simp)).2
    rw [hbl] at hw
    simp only [Option.some.injEq, Obj.cells.injEq] at hw
    obtain ⟨rfl, rfl, rfl⟩ := hw
    exact hz
  have hlt : i.toNat < es.length := by
    rcases Nat.lt_or_ge i.toNat es.length with h | h
    · exact h
    · simp [List.getElem?_eq_none h] at q5
  have hoff : p.off < p.ks.length := by
    rcases Nat.lt_or_ge p.off p.ks.length with h | h
    · exact h
    · rw [List.drop_eq_nil_of_le h] at hkk; simp [AK.eqs] at hkk
  have hpos : i.toNat * p.ks.length + p.off + 1 ≤ n * p.ks.length := by
    have : (i.toNat + 1) * p.ks.length ≤ n * p.ks.length := Nat.mul_le_mul_right _ (by omega)
    rw [Nat.add_mul] at this; omega
  have hk2 := lens hk
  have hvl : vs.length = n * p.ks.length := by rw [hin.flat_length hk2, hn]
  -- the leaf
  have hd0 : (es.flatMap V.cells)[i.toNat * p.ks.length + p.off]? = some (l.ev env) := by
    rw [flat_get hk2 q5 hoff, ← q7 p.off hoff, hl]
    have : p.off < e.cells.length := by rw [hk2 e (List.mem_of_getElem? q5)]; exact hoff
    have h2 := q7 p.off hoff
    rw [List.getElem?_eq_getElem this] at h2
    simp [Lf.ev, h2]
  have hvc : vs[i.toNat * p.ks.length + p.off]? = some x0 := by
    rw [← hvv _ (by omega)]
    simp only [World.cell?, hblr] at k4
    rw [← Nat.add_assoc]
    simpa using k4
  -- the cells behind it
  have hsplit : es.flatMap V.cells = (es.flatMap V.cells).take (i.toNat * p.ks.length + p.off) ++ (((es.flatMap V.cells).drop (i.toNat * p.ks.length + p.off)).take 1 ++ (es.flatMap V.cells).drop (i.toNat * p.ks.length + p.off + 1)) := split3 _ _ _
  have hin2 := hin
  rw [hsplit] at hin2
  obtain ⟨vx, v2, Sx, S2, ev, eS, rx, r2⟩ := hin2.split
  obtain ⟨vy, vz, Sy, Sz, ev2, eS2, ry, rz⟩ := r2.split
  have lfl : (es.flatMap V.cells).length = n * p.ks.length := by rw [flatMap_length hk2, hn]
  have lvx : vx.length = i.toNat * p.ks.length + p.off := by rw [rx.length, List.length_take]; omega
  have hone : ((es.flatMap V.cells).drop (i.toNat * p.ks.length + p.off)).take 1 = [l.ev env] := by
    have hlt2 : i.toNat * p.ks.length + p.off < (es.flatMap V.cells).length := by omega
    rw [List.getElem?_eq_getElem hlt2, Option.some.injEq] at hd0
    rw [List.drop_eq_getElem_cons hlt2, hd0]; rfl
  rw [hone] at ry
  have hvy : vy = [x0] := by
    have lvy : vy.length = 1 := by rw [ry.length]; rfl
    rw [ev, ev2, List.getElem?_append_right (by omega), lvx, Nat.sub_self] at hvc
    match vy, lvy with
    | [y], _ => simp only [List.cons_append, List.getElem?_cons_zero, Option.some.injEq] at hvc; rw [hvc]
  subst hvy
  have hnd : (Sx ++ (Sy ++ Sz)).Nodup ∧ pb ∉ Sx ++ (Sy ++ Sz) := by
    rw [← eS2, ← eS]
    simp only [List.nodup_cons] at s2
    exact ⟨s2.2, s2.1⟩
  have hsub : ∀ b ∈ Sx ++ (Sy ++ Sz), b ∈ M.ph r ∧ Wr w b := by
    rw [← eS2, ← eS]; exact fun b hb => s3 b (by simp [hb])
  have hSy : Sy.Nodup := by
    have := hnd.1
    simp only [List.nodup_append] at this
    exact this.2.1.1
  refine ⟨Sy, es, i, ik, e, ry, hSy, fun b hb => hsub b (by simp [hb]), q2, q3, q5, ?_⟩
  intro w' d' Sn j0 hmv t1 t2 t3 hksd hakn henv
  have henvL : (Lf.v j0).ev env = .list p.ks (es.set i.toNat (e.put p.off [d'])) := by simp [Lf.ev, henv]
  have hmine : ∀ b ∈ Sy, c.mine b := fun b hb => (s4 b (hsub b (by simp [hb])).1).1
  have hput := put_cells (e := e) (off := p.off) (news := [d']) (by rw [hk2 e (List.mem_of_getElem? q5)]; simp only [List.length_singleton]; omega) (by simp) (by
    intro d hd
    simp only [List.mem_singleton] at hd
    subst hd
    have := AK.eqs_eq hkk
    rw [this] at hakn
    cases d <;> simp [aksOk, akOk] at hakn
    rfl)
  have hflat := flat_set (e' := e.put p.off [d']) hk2 q5 (off := p.off) (m := 1) (news := [d']) (by omega) (by rw [hput]; rfl)
  have hfrm : ∀ b, b ∈ M.ph r → b ∉ Sy → w'.heap[b]? = w.heap[b]? := fun b hb hn2 => hmv.block b (s4 b hb).2 hn2
  have hnd2 := hnd.1
  simp only [List.nodup_append, List.mem_append] at hnd2
  have hxy : ∀ b ∈ Sx, b ∉ Sy := fun b hb h => hnd2.2.2 b hb b (.inl h) rfl
  have hzy : ∀ b ∈ Sz, b ∉ Sy := fun b hb h => hnd2.2.1.2.2 b h b hb rfl
  have hby : pb ∉ Sy := fun h => hnd.2 (by simp [h])
  have evx : vs = vx ++ [x0] ++ vz := by rw [ev, ev2, List.append_assoc]
  have hinner : Rep w' vs ((es.set i.toNat (e.put p.off [d'])).flatMap V.cells) (Sx ++ Sn ++ Sz) := by
    rw [hflat, evx]
    refine Rep.append (Rep.append ?_ t1) ?_
    · exact rx.frame fun b hb => hfrm b (hsub b (by simp [hb])).1 (hxy b hb)
    · exact rz.frame fun b hb => hfrm b (hsub b (by simp [hb])).1 (hzy b hb)
  have hpbr : pb ∈ M.ph r := (s3 pb (by simp)).1
  have hheap : w'.heap[pb]? = some (.cells cs E fz) := by rw [hfrm pb hpbr hby]; exact hblr
  have hrep : Rep w' [.slice (some ⟨pb, oo, none⟩) n cap] [.list p.ks (es.set i.toNat (e.put p.off [d']))] (pb :: (Sx ++ Sn ++ Sz)) := by
    have := Rep.row (w := w') pb oo n cap p.ks (es.set i.toNat (e.put p.off [d'])) _ _ cs E fz (by simp [hn]) (fun x hx => by
        rcases List.mem_or_eq_of_mem_set hx with hx | rfl
        · exact hk x hx
        · rw [hput]
          exact aksOk_splice (hk e (List.mem_of_getElem? q5)) rfl (by simp only [List.length_singleton]; omega) hakn) hcap hheap hsz hvv hinner .nil
    simpa using this
  have hndp : (pb :: (Sx ++ Sn ++ Sz)).Nodup := by
    rw [List.nodup_cons]
    refine ⟨fun h => ?_, ?_⟩
    · simp only [List.mem_append] at h
      rcases h with (h | h) | h
      · exact hnd.2 (by simp [h])
      · exact hby (t3 _ h).1
      · exact hnd.2 (by simp [h])
    · simp only [List.nodup_append, List.mem_append]
      refine ⟨⟨hnd2.1, t2, fun a ha b hb e => hxy a ha (e ▸ (t3 b hb).1)⟩, hnd2.2.1.2.1, ?_⟩
      rintro a (ha | ha) b hb e
      · exact hnd2.2.2 a ha b (.inr hb) e
      · exact hzy b hb (e ▸ (t3 a ha).1)
  -- the state behind it
  let ob1 : Nat → Option SO := fun j => if j = r then some (.row (ver + 1) (.v j0) app) else A.ob j
  let ph' : Nat → List Nat := fun x => if x = r then pb :: (Sx ++ Sn ++ Sz) else M.ph x
  have hphr : ∀ b ∈ pb :: (Sx ++ Sn ++ Sz), b ∈ M.ph r := by
    intro b hb
    simp only [List.mem_cons, List.mem_append] at hb
    rcases hb with rfl | (hb | hb) | hb
    · exact hpbr
    · exact (hsub b (by simp [hb])).1
    · exact (hsub b (by simp [(t3 b hb).1])).1
    · exact (hsub b (by simp [hb])).1
  have hphs : ∀ x b, b ∈ ph' x → b ∈ M.ph x := by
    intro x b hb
    simp only [ph'] at hb
    split at hb
    · rename_i e; rw [e]; exact hphr b hb
    · exact hb
  have hRow : RowOk c ⟨M.hd, ph', M.be⟩ env w' r (.v j0) app := by
    have e0 : ph' r = pb :: (Sx ++ Sn ++ Sz) := by simp [ph']
    refine ⟨⟨pb :: (Sx ++ Sn ++ Sz), ?_, hndp, fun b hb => ⟨by simp only [e0]; exact hb, ?_⟩⟩, fun b hb => ?_, fun ha => ⟨?_, fun b hb => (s5 ha).2 b (hphs r b hb)⟩, fun ha v S hv => ⟨(s6 ha v S hv).1, fun b hb => (s6 ha v S hv).2 b (hphs r b hb)⟩⟩
    · rw [henvL]
      show Rep w' [M.hd r] _ _
      rw [← k2, q1]; exact hrep
    · simp only [List.mem_cons, List.mem_append] at hb
      rcases hb with rfl | (hb | hb) | hb
      · exact ⟨_, _, _, hheap, hfz⟩
      · exact (hsub b (by simp [hb])).2.of_eq (hfrm b (hsub b (by simp [hb])).1 (hxy b hb))
      · exact (t3 b hb).2
      · exact (hsub b (by simp [hb])).2.of_eq (hfrm b (hsub b (by simp [hb])).1 (hzy b hb))
    · have := s4 b (hphs r b hb)
      exact ⟨this.1, Nat.lt_of_lt_of_le this.2 hmv.size⟩
    · rw [henvL]
      refine ⟨?_, ?_⟩
      rotate_left
      · have hi0 := (s5 ha).1.2
        rw [← k2, q1] at hi0
        have hc0 := hi0.cells hblr hvl hvv
        show Inn w' (M.hd r) _
        rw [← k2, q1]
        refine Inn.mk hheap (vs := vs) hvv ?_
        rw [hflat, evx]
        have lvx0 : vx = vs.take (i.toNat * p.ks.length + p.off) := by rw [ev, ← lvx]; simp
        have lvz0 : vz = vs.drop (i.toNat * p.ks.length + p.off + 1) := by
          rw [ev, ev2, ← lvx, ← List.drop_drop, List.drop_left]
          rfl
        refine OwnCs.append (OwnCs.append ?_ ?_ (by rw [lvx, List.length_take, lfl]; omega)) ?_ (by simp only [List.length_append, List.length_cons, List.length_nil, lvx, List.length_take, lfl]; omega)
        · rw [lvx0]
          have := hc0.take (i.toNat * p.ks.length + p.off)
          exact this.frame (lvx0 ▸ rx) fun b hb => hfrm b (hsub b (by simp [hb])).1 (hxy b hb)
        · intro j u jj es0 hu hd
          cases j with
          | succ j => simp at hu
          | zero =>
            simp only [List.getElem?_cons_zero, Option.some.injEq] at hu hd
            subst hu
            have hkind : ∃ es1, l.ev env = .list jj es1 := by
              rw [hd] at hksd
              generalize l.ev env = lv at hksd
              cases lv <;> simp only [ksAll, Bool.and_eq_true, Bool.false_eq_true] at hksd
              rename_i a1 b1
              exact ⟨b1, by rw [AK.eqs_eq hksd.1]⟩
            obtain ⟨es1, hes1⟩ := hkind
            rw [hes1] at hd0
            rcases hc0 _ _ _ _ hvc hd0 with h | ⟨g, n2, cap2, ks2, es2, z1, z2, z3, z4⟩
            · exact .inl h
            · simp only [V.list.injEq] at z2
              obtain ⟨rfl, rfl⟩ := z2
              refine .inr ⟨g, n2, cap2, _, _, z1, rfl, fun hp => ?_, z4⟩
              obtain ⟨cur, E2, fz2, z5, z7, z6⟩ := z3 hp
              obtain ⟨cs', y1, y2⟩ := hmv.sz _ _ _ _ z5
              exact ⟨cs', E2, fz2, y1, by rw [y2]; exact z7, by rw [y2]; exact z6⟩
        · rw [lvz0]
          have := hc0.drop (i.toNat * p.ks.length + p.off + 1)
          exact this.frame (lvz0 ▸ rz) fun b hb => hfrm b (hsub b (by simp [hb])).1 (hzy b hb)
      rcases (s5 ha).1.1 with h | ⟨g, n2, cap2, ks2, es2, z1, z2, z3, z4⟩
      · exact .inl h
      · simp only [V.list.injEq] at z2
        obtain ⟨rfl, rfl⟩ := z2
        refine .inr ⟨g, n2, cap2, _, _, z1, rfl, fun hp => ?_, z4⟩
        obtain ⟨cur, E2, fz2, z5, z7, z6⟩ := z3 hp
        obtain ⟨cs', y1, y2⟩ := hmv.sz _ _ _ _ z5
        exact ⟨cs', E2, fz2, y1, by rw [y2]; exact z7, by rw [y2]; exact z6⟩
  have hR1 : Rel c nt ⟨M.hd, ph', M.be⟩ env ⟨A.sl, ob1⟩ a w' := by
    refine hR.io_step hmv (fun b hb => hmine b hb) hphs (fun q ver2 l2 app2 hq => ?_) (fun i2 cells hbx => ?_)
    · simp only [ob1] at hq
      split at hq
      · rename_i e
        simp only [Option.some.injEq, SO.row.injEq] at hq
        obtain ⟨rfl, rfl, rfl⟩ := hq
        exact ⟨ver, lr, app, by rw [e]; exact hrow, by omega, fun e => absurd e (by omega), fun _ => by rw [e]; exact hRow⟩
      · rename_i e
        refine ⟨ver2, l2, app2, hq, Nat.le_refl _, fun _ => ⟨rfl, rfl, by simp [ph', e], fun b hb hb2 => ?_⟩, fun h => absurd h (Nat.lt_irrefl _)⟩
        exact hR.dRR _ _ _ _ _ _ _ _ hq hrow e b hb (hsub b (by simp [hb2])).1
    · simp only [ob1] at hbx
      split at hbx
      · cases hbx
      · rename_i e
        refine ⟨cells, hbx, .inl ⟨rfl, fun hb2 => ?_⟩⟩
        exact hR.dBR _ _ _ _ _ _ hbx hrow (hsub _ (by simp [hb2])).1
  exact ⟨ph', hphs, hR1⟩

theorem op_callIn (hsg : ∀ f s, sg.lookup f = some s → Contract c.G P f s) (hR : Rel c nt M env A a w) (hg : GH env gs) (hd : ∀ d, o.dst = some d → d < nt) (hf : Fresh A (fun x => fid ≤ x ∧ x < fid + nv + out.outs + 1)) (hh : Holds env nv out)
    (hK : Kont c nt env gs A a o out K) {f : Nat} {args : Array Operand} {argTypes : Array TypeId} {x : Operand} (ho : o.op = .call { callee := .value x, args := args, argTypes := argTypes }) (hx : a.eval x = .func (.func f) #[] #[]) {xs : List SV} (h1 : mapO (look A.sl gs []) args.toList = some xs)
    (hc : coreCallIn P sg A.ob fid nv f xs = some out) : o.wp P a w K Q := by
  unfold coreCallIn at hc
  split at hc
  case h_2 => cases hc
  rename_i s fn hs hfn
  split at hc
  case isFalse => cases hc
  rename_i hbody
  simp only [Bool.and_eq_true, bne_iff_ne] at hbody
  split at hc
  case h_2 => cases hc
  rename_i js ps r ver l p xs' hps
  split at hc
  case h_2 => cases hc
  rename_i ver' lr app ar hrow har
  split at hc
  case isFalse => cases hc
  rename_i hcond
  simp only [Bool.and_eq_true, beq_iff_eq, Bool.not_eq_true'] at hcond
  obtain ⟨⟨⟨⟨hjs, hval⟩, rfl⟩, hkk⟩, hnro⟩ := hcond
  simp only [Option.some.injEq] at hc
  have hvs := mapO_look_rel hR hg h1
  have hargs0 : ∃ v0 vs0, args.toList.map a.eval = v0 :: vs0 ∧ RelSV c M env w A.ob (.sc ⟨false, [.inn r ver l (some (.elm p))]⟩) v0 ∧ RelVs c M env w A.ob xs' vs0 := by
    cases hv : args.toList.map a.eval with
    | nil => rw [hv] at hvs; exact hvs.elim
    | cons v0 vs0 => rw [hv] at hvs; exact ⟨v0, vs0, rfl, hvs.1, hvs.2⟩
  obtain ⟨v0, vs0, hv0, hrel0, hvs0⟩ := hargs0
  obtain ⟨us0, hus0, hpk⟩ := hrel0
  obtain ⟨x0, rfl⟩ : ∃ x0, us0 = [x0] := by
    match us0, hus0 with
    | [x0], _ => exact ⟨x0, rfl⟩
    | [], h => exact h.elim
    | _ :: _ :: _, h => exact h.2.elim
  obtain rfl : x0 = v0 := by simpa [packV] using hpk
  obtain ⟨Sy, es, i, ik, e, ry, hSy, hsubY, q2, q3, q5, hstep⟩ := in_step hR hus0.1 hrow hkk
  obtain ⟨ro, rows, boxes, tk, a1, _, _, a4, _, _⟩ := coreArgs_rel hR har hvs0
  obtain ⟨rfl, rfl, rfl⟩ := a1.val_nil hval
  -- the call
  obtain ⟨outs, d', p1, hdrop, hksd, hakn, p2, p3⟩ : ∃ outs d', s.F (l.ev env :: ar.ls.map (Lf.ev env)) = some outs ∧ outs.drop (resLen s.rs) = [d'] ∧ ksAll [l.ev env] [d'] = true ∧ aksOk ((p.ks.drop p.off).take 1) [d'] = true ∧
      out.outs = (outs.take (resLen s.rs)).length + 1 ∧ ∀ j, j < out.outs → env[nv + j]? = (outs.take (resLen s.rs) ++ [.list p.ks (es.set i.toNat (e.put p.off [d']))])[j]? := by
    rw [← hc] at hh ⊢
    obtain ⟨vs1, g1, g2, g3⟩ := hh
    simp only [Prim.run, List.map_append, List.map_cons, List.map_nil, List.length_append, List.length_cons, List.length_nil, List.length_map, q2, q3] at g1
    have e3 : ar.ls.length + 1 + (0 + 1 + 1 + 1) - 3 = (l.ev env :: ar.ls.map (Lf.ev env)).length := by simp
    rw [e3, List.take_left, List.drop_left] at g1
    split at g1
    case h_2 => cases g1
    rename_i outs dd js2 es2 kk2 i2 hF hdd
    simp only [List.cons.injEq, V.list.injEq, V.int.injEq, and_true] at hdd
    obtain ⟨rfl, ⟨rfl, rfl⟩, rfl, rfl⟩ := hdd
    split at g1
    case h_2 => cases g1
    rename_i d' e2 hks hdr hee
    rw [q5] at hee
    simp only [Option.some.injEq] at hee
    subst hee
    split at g1
    case isFalse => cases g1
    rename_i hcd
    simp only [Bool.and_eq_true] at hcd
    simp only [Option.some.injEq] at g1
    refine ⟨outs, d', hF, hdr, by rw [← hdr]; exact hks, hcd.2, ?_, ?_⟩
    · rw [← g2, ← g1]; simp
    · rw [g1]; exact g3
  have s4 := (hR.rows _ _ _ _ hrow).2.1
  have hmine : ∀ b ∈ Sy, c.mine b := fun b hb => (s4 b (hsubY b hb).1).1
  have hA : ArgsR w s.ps (x0 :: vs0) (l.ev env :: ar.ls.map (Lf.ev env)) ro [(x0, Sy)] [] [] := by
    rw [hps]
    exact ArgsR.io (ds := [l.ev env]) (R := [(x0, Sy)]) (.sl ry hSy (fun b hb => (hsubY b hb).2) .nil) rfl a1
  have hio : ioB [(x0, Sy)] [] ++ [] = Sy := by simp [ioB]
  have hrodis : ∀ b ∈ ro, b ∉ ioB [(x0, Sy)] [] ++ [] := by
    rw [hio]
    intro b hb hb2
    rcases a4 b hb with h | ⟨q, hq, h3, v1, l1, b1, h4⟩
    · exact h.1 (hmine b hb2)
    · have hne : q ≠ r := by
        intro e
        rw [e] at hq
        exact absurd (List.contains_iff_mem.2 hq) (by rw [hnro]; simp)
      exact hR.dRR _ _ _ _ _ _ _ _ h4 hrow hne b h3 (hsubY b hb2).1
  have hcall := (hsg f s hs).1 w (x0 :: vs0) _ outs ro _ _ _ hR.keep.glOk p1 hA (by rw [hio]; exact hSy) hrodis (fun b hb => hR.keep.glNone (hmine b (by rw [hio] at hb; exact hb)))
  have hrun : (execOp a.eval o).run P w = .ok (.enter f (x0 :: vs0).toArray) w := by
    have hargs : args.map a.eval = (x0 :: vs0).toArray := by rw [← hv0]; apply Array.ext'; simp
    have hb : fn.body.isNone = false := by
      have h := hbody.1
      cases hfb : fn.body with
      | none => rw [hfb] at h; cases h
      | some _ => rfl
    simp only [execOp, ho, hx, resolve, invoke, Deferred.ofValue, Sem.run_bind, Sem.run_pure, Result.andThen_ok, callFunc, run_program, hfn]
    rw [← hargs]
    simp [hbody.2, hb]
  unfold Oper.wp
  rw [hrun]
  refine Calls.mono hcall ?_
  intro en w' hpost
  obtain ⟨⟨v, rvs, d1, d2, d3, SR, e1, rfl, e3, e4, e5, e6, e7, e8⟩, hmv⟩ := hpost
  rw [hio] at hmv
  obtain ⟨lv, lr2⟩ := e4.vlen
  have hend := resSCs_end fid s.rs nv
  cases e8
  cases e7 with
  | cons t1 t2 t3 t4 =>
  cases t4
  rename_i Sn dn
  rw [List.append_nil] at e1
  have hdn : dn = d' := by
    rw [e1, lr2, List.drop_left] at hdrop
    simpa using hdrop
  subst hdn
  have htk : outs.take (resLen s.rs) = d1 := by rw [e1, lr2, List.take_left]
  rw [htk] at p2 p3
  have henv0 : env[nv + resLen s.rs]? = some (.list p.ks (es.set i.toNat (e.put p.off [dn]))) := by
    have := p3 d1.length (by omega)
    rw [List.getElem?_append_right (Nat.le_refl _), Nat.sub_self, List.getElem?_cons_zero] at this
    rw [lr2]; exact this
  let ob1 : Nat → Option SO := fun j => if j = r then some (.row (ver + 1) (.v (nv + resLen s.rs)) app) else A.ob j
  obtain ⟨ph', hphs, hR1⟩ := hstep w' dn Sn (nv + resLen s.rs) hmv t1 t2 t3 hksd hakn henv0
  have hf2 : Fresh ⟨A.sl, ob1⟩ (fun x => fid + nv ≤ x ∧ x < fid + nv + resLen s.rs) := by
    have hin3 : ∀ x, (fid + nv ≤ x ∧ x < fid + nv + resLen s.rs) → fid ≤ x ∧ x < fid + nv + out.outs + 1 := fun x hx => by omega
    have hne : ∀ x, (fid + nv ≤ x ∧ x < fid + nv + resLen s.rs) → x ≠ r := fun x hx e => by
      have := hf.2.2 x (hin3 x hx)
      rw [e, hrow] at this; cases this
    refine ⟨fun q gs sv hs x hx hq => hf.1 q gs sv hs x hx (hin3 x hq), fun id cells hbx x hx hq => ?_, fun x hx => ?_⟩
    · simp only [ob1] at hbx
      split at hbx
      · cases hbx
      · exact hf.2.1 id cells hbx x hx (hin3 x hq)
    · simp only [ob1]
      rw [if_neg (hne x hx)]
      exact hf.2.2 x (hin3 x hx)
  obtain ⟨M2, g1, g2, _⟩ := add_res (fid := fid) (j := nv) hR1 e4 (fun i hi => by
      have := p3 i (by omega)
      rw [this, List.getElem?_append_left (by omega)]) hf2 e5 (fun b hb => ⟨.inl (Nat.le_trans hR.keep.size ((e6 b hb).1.resolve_right (by simp))), (e6 b hb).2⟩) (by
      intro b hb
      have hge := (e6 b hb).1.resolve_right (by simp)
      refine ⟨fun q ver2 l2 app2 hq hbr => ?_, fun id cells hbx e => ?_⟩
      · simp only at hq
        have hb2 := hphs q b hbr
        split at hq
        · rename_i e
          rw [e] at hb2
          have := (s4 b hb2).2
          omega
        · have := ((hR.rows _ _ _ _ hq).2.1 b hb2).2
          omega
      · simp only at hbx
        split at hbx
        · cases hbx
        · have := hR.be_lt hbx
          have e' : b = M.be id := e
          omega)
  have hfin := g1.put hd (gs := gs) (sv := packRes (resSCs fid nv s.rs).1) (v := v) (fun _ => ⟨fun _ => packRes_rel g2 (by rw [resSCs_length]; exact lv) e3, fun hn => absurd hg hn⟩)
  refine hK M2 w' v ?_
  rw [← hc]
  simp only [Option.map_some, upOb]
  exact hfin
end
end Go.Mw

namespace Go.Mw

section
variable {c : Cx} {nt : Nat} {M : Mp} {env : List V} {A : FS} {a : Act} {w : World}

theorem Rel.add_boxG (hR : Rel c nt M env A a w) {id : Nat} (hf : Fresh A (· = id)) {b : Nat} {us : List Value} {E : TypeId} {cells : List At} (hb : w.heap[b]? = some (.cells us.toArray E (0, 0))) (hr : RelAts c M env w A.ob cells us)
    (hm : ∀ x, ¬ atsMen cells x) (hmine : c.mine b) (hp : ∀ b' t, c.parB id = some (b', t) → b = b' ∧ ∀ (i : Nat) u, t i = some u → us[i]? = some u ∧ ∃ x, cells[i]? = some x ∧ x.isSc = false) (hrow : ∀ r ver l app, A.ob r = some (.row ver l app) → b ∉ M.ph r) (hbox : ∀ i cs, A.ob i = some (.box cs) → b ≠ M.be i) :
    Rel c nt ⟨M.hd, M.ph, fun i => if i = id then b else M.be i⟩ env ⟨A.sl, fun i => if i = id then some (.box cells) else A.ob i⟩ a w ∧
      Ext c (· = id) M A.ob w ⟨M.hd, M.ph, fun i => if i = id then b else M.be i⟩ (fun i => if i = id then some (.box cells) else A.ob i) w := by
  have E1 : Ext c (· = id) M A.ob w ⟨M.hd, M.ph, fun i => if i = id then b else M.be i⟩ (fun i => if i = id then some (.box cells) else A.ob i) w := by
    refine ⟨fun r ver l1 app1 hr h => ?_, fun i cells hi h => ?_, fun b _ _ => rfl⟩
    · rw [if_neg hr] at h
      exact ⟨ver, l1, app1, h, rfl, Nat.le_refl _, fun _ => ⟨rfl, fun b hb _ => ⟨hb, rfl⟩⟩⟩
    · rw [if_neg hi] at h
      exact ⟨⟨cells, h⟩, if_neg hi⟩
  refine ⟨⟨hR.size, hR.defs, ?_, ?_, ?_, ?_, ?_, ?_, hR.keep⟩, E1⟩
  · intro s gs sv hs
    obtain ⟨h1, h2, h3⟩ := hR.slots s gs sv hs
    exact ⟨h1, fun hg => RelSV.ext E1 (hf.1 s gs sv hs) (h2 hg), h3⟩
  · intro r ver l' app1 h
    simp only at h
    split at h
    · cases h
    · exact (hR.rows _ _ _ _ h).keep rfl rfl (Nat.le_refl _) fun _ _ => rfl
  · intro i cells' h
    have h' := h
    simp only at h'
    split at h'
    · rename_i e
      subst e
      simp only [Option.some.injEq, SO.box.injEq] at h'
      subst h'
      exact ⟨us, E, by simp only [if_true]; exact hb, RelAts.ext E1 (fun x hx => absurd hx (hm x)) hr, by simp only [if_true]; exact hmine, fun b' t hb' => by simp only [if_true]; exact hp b' t hb'⟩
    · rename_i e
      exact (hR.boxes _ _ h').keep E1 (if_neg e) rfl (hf.2.1 _ _ h')
  · intro i j x y h1 h2 hij
    simp only at h1 h2 ⊢
    split at h1 <;> split at h2
    · rename_i a1 a2; exact absurd (a1.trans a2.symm) hij
    · rename_i a1 a2; rw [if_pos a1, if_neg a2]; exact hbox _ _ h2
    · rename_i a1 a2; rw [if_neg a1, if_pos a2]; exact (hbox _ _ h1).symm
    · rename_i a1 a2; rw [if_neg a1, if_neg a2]; exact hR.dBB _ _ _ _ h1 h2 hij
  · intro i j vi li ai vj lj aj h1 h2 hij
    simp only at h1 h2
    split at h1
    · cases h1
    split at h2
    · cases h2
    exact hR.dRR _ _ _ _ _ _ _ _ h1 h2 hij
  · intro i j x vj lj aj h1 h2
    simp only at h1 h2 ⊢
    split at h2
    · cases h2
    split at h1
    · rename_i a1; rw [if_pos a1]; exact hrow _ _ _ _ h2
    · rename_i a1; rw [if_neg a1]; exact hR.dBR _ _ _ _ _ _ h1 h2


end

section
variable {c : Cx} {nt : Nat} {env : List V} {a : Act} {w : World}

theorem cellsIn_rel {M : Mp} {ob : Nat → Option SO} : ∀ {ks : List AK} {us : List Value} {ds : List V} {S : List Nat} {j : Nat}, CellsR w ks us ds S → (∀ i, i < ds.length → env[j + i]? = ds[i]?) → (∀ b ∈ S, c.rd b) →
    RelAts c M env w ob (cellsIn j ks) us ∧ ks.length = ds.length
  | [], us, ds, S, j, h, _, _ => by cases h; exact ⟨trivial, rfl⟩
  | k :: ks, us, ds, S, j, h, he, hS => by
    cases h with
    | sc h t =>
      rename_i u d us ds
      obtain ⟨h1, h2⟩ := cellsIn_rel (j := j + 1) (M := M) (ob := ob) t (fun i hi => by
        have := he (i + 1) (by simp; omega)
        simp only [List.getElem?_cons_succ] at this
        rw [show j + 1 + i = j + (i + 1) by omega]; exact this) hS
      have e0 : (Lf.v j).ev env = d := by
        have := he 0 (by simp)
        simp only [Nat.add_zero, List.getElem?_cons_zero] at this
        simp [Lf.ev, this]
      exact ⟨⟨⟨h.oneCell, by show Rep w [u] [(Lf.v j).ev env] []; rw [e0]; exact h⟩, h1⟩, by simp [h2]⟩
    | @sl u d js ks us ds S1 S2 h t =>
      obtain ⟨h1, h2⟩ := cellsIn_rel (j := j + 1) (M := M) (ob := ob) t (fun i hi => by
        have := he (i + 1) (by simp; omega)
        simp only [List.getElem?_cons_succ] at this
        rw [show j + 1 + i = j + (i + 1) by omega]; exact this) (fun b hb => hS b (by simp [hb]))
      have e0 : (Lf.v j).ev env = d := by
        have := he 0 (by simp)
        simp only [Nat.add_zero, List.getElem?_cons_zero] at this
        simp [Lf.ev, this]
      exact ⟨⟨⟨h.oneCell, S1, by rw [e0]; exact h, fun b hb => hS b (by simp [hb])⟩, h1⟩, by simp [h2]⟩

theorem cellsIn_men : ∀ {ks : List AK} {j x : Nat}, ¬ atsMen (cellsIn j ks) x
  | [], _, _, ⟨_, h, _⟩ => by cases h
  | .sc :: ks, j, x, ⟨b, hb, hx⟩ => by
    simp only [cellsIn, List.mem_cons] at hb
    rcases hb with rfl | hb
    · exact hx
    · exact cellsIn_men ⟨b, hb, hx⟩
  | .sl _ :: ks, j, x, ⟨b, hb, hx⟩ => by
    simp only [cellsIn, List.mem_cons] at hb
    rcases hb with rfl | hb
    · exact hx
    · exact cellsIn_men ⟨b, hb, hx⟩


end

section
variable {P : Program} {sg : List (Nat × Sig)} {c : Cx} {nt : Nat} {M : Mp} {env : List V} {A : FS} {a : Act} {w : World} {o : Oper} {gs : Gs} {fid nv : Nat} {K : Act → World → Prop} {Q : Exit → Act → World → Prop} {out : Out}

theorem op_callNew (hsg : ∀ f s, sg.lookup f = some s → Contract c.G P f s) (hR : Rel c nt M env A a w) (hg : GH env gs) (hd : ∀ d, o.dst = some d → d < nt) (hf : Fresh A (· = fid)) (hpb : c.parB fid = none) (hh : Holds env nv out)
    (hK : Kont c nt env gs A a o out K) {f : Nat} {args : Array Operand} {argTypes : Array TypeId} {x : Operand} (ho : o.op = .call { callee := .value x, args := args, argTypes := argTypes }) (hx : a.eval x = .func (.func f) #[] #[]) {xs : List SV} (h1 : mapO (look A.sl gs []) args.toList = some xs)
    (hc : coreCallNew P sg A.ob fid nv f xs = some out) : o.wp P a w K Q := by
  unfold coreCallNew at hc
  split at hc
  case h_2 => cases hc
  rename_i s fn hs hfn
  split at hc
  case isFalse => cases hc
  rename_i hbody
  simp only [Bool.and_eq_true, bne_iff_ne] at hbody
  split at hc
  case h_2 => cases hc
  rename_i ks ps hps
  split at hc
  case h_2 => cases hc
  rename_i ar har
  split at hc
  case isFalse => cases hc
  rename_i hcond
  simp only [Bool.and_eq_true, List.isEmpty_iff] at hcond
  obtain ⟨hval, hro⟩ := hcond
  simp only [Option.some.injEq] at hc
  obtain ⟨ro, rows, boxes, tk, a1, _, _, a4, _⟩ := coreArgs_rel hR har (mapO_look_rel hR hg h1)
  obtain ⟨rfl, rfl, rfl⟩ := a1.val_nil hval
  have hrd : ∀ b ∈ ro, c.rd b := by
    intro b hb
    rcases a4 b hb with h | ⟨r, hr, _⟩
    · exact h
    · rw [hro] at hr; simp at hr
  subst hc
  obtain ⟨outs, p1, p2, p3⟩ := hh
  simp only [Prim.run, if_true] at p1
  have hcall := (hsg f s hs).2 ks ps hps w (args.toList.map a.eval) _ outs ro hR.keep.glOk p1 a1
  have hrun : (execOp a.eval o).run P w = .ok (.enter f (args.toList.map a.eval).toArray) w := by
    have hargs : args.map a.eval = (args.toList.map a.eval).toArray := by apply Array.ext'; simp
    have hb : fn.body.isNone = false := by
      have := hbody.1
      cases hfb : fn.body <;> simp_all
    simp only [execOp, ho, hx, resolve, invoke, Deferred.ofValue, Sem.run_bind, Sem.run_pure, Result.andThen_ok, callFunc, run_program, hfn]
    rw [← hargs]
    simp [hbody.2, hb]
  unfold Oper.wp
  rw [hrun]
  refine Calls.mono hcall ?_
  rintro e w' ⟨⟨b, us, E, S, rfl, hb, hheap, hcells, hS⟩, hmv⟩
  have hR1 : Rel c nt ⟨M.hd, M.ph, M.be⟩ env ⟨A.sl, A.ob⟩ a w' := hR.io_step hmv (fun _ h => h.elim) (fun _ _ h => h)
    (fun r ver l app h => ⟨ver, l, app, h, Nat.le_refl _, fun _ => ⟨rfl, rfl, rfl, fun _ _ h => h⟩, fun h => absurd h (Nat.lt_irrefl _)⟩)
    (fun id cells h => ⟨cells, h, .inl ⟨rfl, fun h => h⟩⟩)
  obtain ⟨g1, g2⟩ := cellsIn_rel (c := c) (M := ⟨M.hd, M.ph, M.be⟩) (ob := A.ob) (j := nv) hcells (fun i hi => p3 i (by have h2 : outs.length = ks.length := p2; show i < ks.length; omega)) (fun x hx => hrd x (hS x hx))
  obtain ⟨k1, k2⟩ := hR1.add_boxG (id := fid) hf hheap g1 (fun x => cellsIn_men) (.inl (Nat.le_trans hR.keep.size hb)) (fun b' t h => by rw [hpb] at h; cases h)
    (fun r ver l app h hbr => by
      have := ((hR.rows _ _ _ _ h).2.1 b hbr).2
      omega)
    (fun i cs h e => by
      have := hR.be_lt h
      have e' : b = M.be i := e
      omega)
  have hfin := k1.put hd (gs := gs) (sv := .ptr fid 0) (v := .pointer (some ⟨b, 0, none⟩)) (fun _ => ⟨fun _ => by intro cells hcells; simp, fun hn => absurd hg hn⟩)
  refine hK ⟨M.hd, M.ph, fun i => if i = fid then b else M.be i⟩ w' (.pointer (some ⟨b, 0, none⟩)) ?_
  simp only [Option.map_some, upOb]
  exact hfin

end
end Go.Mw

namespace Go.Mw
open Go.RowKit Go.Lib

theorem rep_flat : ∀ {ks : List AK} {ds : List V} {vs : List Value} {w : World} {S : List Nat}, aksOk ks ds = true → flatK ks = true → Rep w vs ds S → S = []
  | [], [], _, _, _, _, _, h => h.nil_inv.2
  | [], _ :: _, _, _, _, h, _, _ => by simp [aksOk] at h
  | _ :: _, [], _, _, _, h, _, _ => by simp [aksOk] at h
  | k :: ks, d :: ds, vs, w, S, h, hf, hr => by
    simp only [aksOk, Bool.and_eq_true] at h
    simp only [flatK, List.all_cons, Bool.and_eq_true] at hf
    obtain ⟨u, us', S1, S2, rfl, rfl, h1, h2⟩ := hr.cons_inv
    have hk := AK.eqb_eq hf.1
    subst hk
    rw [akOk_scalar h.1 h1, rep_flat h.2 hf.2 h2]; rfl
theorem rep_flats {ks : List AK} (hf : flatK ks = true) : ∀ {es : List V} {vs : List Value} {w : World} {S : List Nat}, (∀ e ∈ es, aksOk ks e.cells = true) → Rep w vs (es.flatMap V.cells) S → S = []
  | [], _, _, _, _, h => h.nil_inv.2
  | e :: es, vs, w, S, hk, hr => by
    rw [List.flatMap_cons] at hr
    obtain ⟨u, us', S1, S2, rfl, rfl, h1, h2⟩ := hr.split
    rw [rep_flat (hk e (by simp)) hf h1, rep_flats hf (fun x hx => hk x (by simp [hx])) h2]; rfl
theorem Scs.rep {w w' : World} {us : List Value} {ds : List V} (h : Scs w us ds) : Rep w' us ds [] := by
  induction h with
  | nil => exact .nil
  | cons h _ ih => exact .atom h.atom_of ih

section
variable {P : Program} {sg : List (Nat × Sig)} {c : Cx} {nt : Nat} {M : Mp} {env : List V} {A : FS} {a : Act} {w : World} {o : Oper} {gs : Gs} {fid nv : Nat} {K : Act → World → Prop} {Q : Exit → Act → World → Prop} {out : Out}

theorem op_bytes (hR : Rel c nt M env A a w) (hg : GH env gs) (hd : ∀ d, o.dst = some d → d < nt) (hf : Fresh A (· = fid)) (hh : Holds env nv out) (hK : Kont c nt env gs A a o out K) {s d : TypeId} {x : Operand}
    (ho : o.op = .convert s d x) {sx : SV} (h1 : look A.sl gs [] x = some sx) (hc : coreBytes P fid nv s d sx = some out) : o.wp P a w K Q := by
  have r1 := look_rel0 hR h1 hg
  unfold coreBytes at hc
  split at hc
  · rename_i e l hs hd' hl
    split at hc <;> simp only [Option.some.injEq, reduceCtorEq] at hc
    rename_i i he hi
    subst hc
    obtain ⟨dd, p1, p2⟩ := hh.one
    have rs := r1.scl hl
    simp only [List.map_cons, List.map_nil] at p1
    cases hll : l.ev env <;> rw [hll] at p1 rs <;> (try (simp only [Prim.run, reduceCtorEq] at p1; done))
    rename_i y
    simp only [Prim.run] at p1
    split at p1 <;> simp only [Option.some.injEq, List.cons.injEq, and_true, reduceCtorEq] at p1
    rename_i hb
    obtain ⟨s0, e1, hs0, _⟩ := rs.str_inv
    have hsz : s0.size = y.length := by rw [← hs0, Array.length_toList]; rfl
    have hcap := grownCap_ge w s0.size 0 e
    have hcm : grownCap w s0.size 0 e ≤ maxLen := grownCap_le_maxLen w _ 0 e (by unfold maxLen; omega)
    have hds : s0.data.size = s0.size := rfl
    have hlen : (bytesCells w e s0).size = grownCap w s0.size 0 e := by
      simp only [bytesCells, Array.size_append, Array.size_map, Array.size_replicate, hds]; omega
    have hnew := bytesWorld_at_new w e s0
    have hcells : ∀ j, j < s0.size * 1 → (bytesCells w e s0)[0 + j]? = (y.map fun b => Value.int .u8 b.toNat)[j]? := by
      intro j hj
      simp only [bytesCells, Nat.zero_add]
      rw [Array.getElem?_append_left (by simp only [Array.size_map, hds]; omega), ← hs0]
      simp
    have hrep : Rep (bytesWorld w e s0) [.slice (some ⟨w.heap.size, 0, none⟩) s0.size (grownCap w s0.size 0 e)] [.list [.sc] (y.map fun b => .int .u8 b.toNat)] [w.heap.size] := by
      have := Rep.row (w := bytesWorld w e s0) w.heap.size 0 s0.size (grownCap w s0.size 0 e) [.sc] (y.map fun b => .int .u8 b.toNat) (y.map fun b => Value.int .u8 b.toNat) [] _ e _ (by simp [hsz]) (fun x hx => by
          obtain ⟨q, -, rfl⟩ := List.mem_map.1 hx
          rfl) hcap hnew (by rw [hlen]; simp; omega) hcells (Rep.u8s y) .nil
      simpa using this
    have hmv : Moved w (bytesWorld w e s0) (fun b => (∃ r ∈ ([] : List Nat), b ∈ M.ph r) ∨ ((∃ x, A.ob fid = some x) ∧ b ∈ M.ph fid)) c.G.dr :=
      ⟨rfl, rfl, rfl, by rw [bytesWorld_size]; omega, fun b hb _ => bytesWorld_at_old w e s0 b hb, fun b cs E fz h => ⟨cs, by rw [bytesWorld_at_old w e s0 b (heap_lt h)]; exact h, rfl⟩, fun _ => Nat.le_succ _⟩
    have hlf : (Lf.v nv).ev env = .list [.sc] (y.map fun b => .int .u8 b.toNat) := by rw [p2, ← p1]
    obtain ⟨M', hR'⟩ := hR.new_row (gone := []) (by simp) (by simp) (ver := 0) (l := .v nv) (app := true) (.inl ⟨hf, rfl⟩) hmv (v := .slice (some ⟨w.heap.size, 0, none⟩) s0.size (grownCap w s0.size 0 e)) (S := [w.heap.size])
      (by rw [hlf]; exact hrep) (by simp)
      (fun b hb => by
        simp only [List.mem_singleton] at hb
        subst hb
        exact ⟨.inl (Nat.le_refl _), _, _, _, hnew, .inr (Nat.le_refl _)⟩)
      (fun _ r hr => by cases hr) (fun h => by cases h) (fun _ => by
        rw [hlf]
        exact ⟨.inr ⟨w.heap.size, s0.size, _, [.sc], _, rfl, rfl, fun _ => ⟨_, e, _, hnew, .inr (Nat.le_refl _), by rw [hlen]; simp⟩, hcap, hcm⟩, Inn.flat hrep rfl⟩) hd hg (sv := some (.ofAt (.own fid)))
      (u := .slice (some ⟨w.heap.size, 0, none⟩) s0.size (grownCap w s0.size 0 e)) (fun s hs _ => by cases hs; exact ⟨rfl, rfl⟩)
    refine wp_value ?_ (hK _ _ _ hR')
    have hcv := Go.Lib.run_convert_string_bytes (P := P) w s d e s0 hs hd' he
    simp only [execOp, ho, e1, Sem.run_bind]
    rw [hcv]; rfl
  · cases hc

theorem op_storeIn (hR : Rel c nt M env A a w) (hg : GH env gs) (hd : ∀ d, o.dst = some d → d < nt) (hh : Holds env nv out) (hK : Kont c nt env gs A a o out K) {t : TypeId} {x y : Operand} (ho : o.op = .store t x y)
    {r ver : Nat} {l ix : Lf} {p : PthE} {el off : Nat} {kk : List AK} {s : SC} (h1 : look A.sl gs [] x = some (.elem (.inn r ver l (some (.elm p))) ver l ix el off kk)) (h2 : look A.sl gs [] y = some (.sc s)) (hsz : tsize P t = some s.cs.length)
    {lr : Lf} {app : Bool} (hrow : A.ob r = some (.row ver lr app)) (hks : AK.eqs ((p.ks.drop p.off).take 1) [.sl kk] = true) (hflat : flatK kk = true) (hle : off + s.cs.length ≤ kk.length) (hne : s.cs.length ≠ 0) {ls : List Lf} (hls : mapO At.scl s.cs = some ls)
    (hout : out = ⟨some (.setIn kk off p.ks p.off, l :: ix :: ls ++ [l, p.ll, p.ix]), 1, none, [(r, some (.row (ver + 1) (.v nv) app))]⟩) : o.wp P a w K Q := by
  subst hout
  obtain ⟨us, e1, e2⟩ := (look_rel0 hR h2 hg : RelSC c M env w A.ob s (a.eval y)).cells
  have hscs := e2.scs hls
  obtain ⟨u, hb, bb, oo, n, cap, es2, i2, ik2, ee2, q1, q2, q3, q4, q5, q6, q7, q8⟩ := look_rel0 hR h1 hg
  have hrel : RelAt c M env w A.ob (.inn r ver l (some (.elm p))) u := ⟨by rw [q1]; rfl, hb.1, hb.2.2⟩
  obtain ⟨Sy, es, i, ik, e, ry, hSy, hsubY, g2, g3, g5, hstep⟩ := in_step hR hrel hrow hks
  have lus := e2.length
  have ry0 := ry
  rw [q2, q1] at ry0
  rcases ry0.list_inv with ⟨_, q, _⟩ | ⟨b', off', n', cap', vs, S', cs, E, fz, hv, hSe, hn, hk, hcap, hbl, hs, hvs, hin⟩
  · subst q; simp at q5
  simp only [Value.slice.injEq, Option.some.injEq, Addr.mk.injEq, and_true] at hv
  obtain ⟨⟨rfl, rfl⟩, rfl, rfl⟩ := hv
  have hS' := rep_flats hflat hk hin
  subst hS'
  subst hSe
  have hfz : FzOk cs.size fz := by
    obtain ⟨cs2, E2, fz2, hw, hz⟩ := (hsubY bb (by simp)).2
    rw [hbl] at hw
    simp only [Option.some.injEq, Obj.cells.injEq] at hw
    obtain ⟨rfl, rfl, rfl⟩ := hw
    exact hz
  have hlt : i2.toNat < es2.length := by
    rcases Nat.lt_or_ge i2.toNat es2.length with h | h
    · exact h
    · simp [List.getElem?_eq_none h] at q5
  have hpos : i2.toNat * kk.length + off + us.length ≤ n * kk.length := by
    have : (i2.toNat + 1) * kk.length ≤ n * kk.length := Nat.mul_le_mul_right _ (by omega)
    rw [Nat.add_mul] at this; omega
  have hk2 := lens hk
  have hvl : vs.length = n * kk.length := by rw [hin.flat_length hk2, hn]
  have hnews : (ls.map (Lf.ev env)).length = us.length := hscs.length.symm
  -- what the primitive operation says
  obtain ⟨d', hset, hks1, hak1, henv⟩ : ∃ d', setV kk off (l.ev env :: ix.ev env :: ls.map (Lf.ev env)) = some [d'] ∧ ksAll [l.ev env] [d'] = true ∧ aksOk ((p.ks.drop p.off).take 1) [d'] = true ∧
      env[nv]? = some (.list p.ks (es.set i.toNat (e.put p.off [d']))) := by
    obtain ⟨vs1, k1, k2, k3⟩ := hh
    simp only [Prim.run, List.map_append, List.map_cons, List.map_nil, List.length_append, List.length_cons, List.length_nil, List.length_map, g2, g3] at k1
    have e3 : ls.length + 1 + 1 + (0 + 1 + 1 + 1) - 3 = (l.ev env :: ix.ev env :: ls.map (Lf.ev env)).length := by simp
    rw [e3, List.take_left, List.drop_left] at k1
    split at k1
    case h_2 => cases k1
    rename_i outs dd js2 es3 kk2 i3 hF hdd
    simp only [List.cons.injEq, V.list.injEq, V.int.injEq, and_true] at hdd
    obtain ⟨rfl, ⟨rfl, rfl⟩, rfl, rfl⟩ := hdd
    split at k1
    case h_2 => cases k1
    rename_i d' e4 hee hks4
    rw [g5] at hee
    simp only [Option.some.injEq] at hee
    subst hee
    split at k1
    case isFalse => cases k1
    rename_i hcd
    simp only [Bool.and_eq_true] at hcd
    simp only [Option.some.injEq] at k1
    refine ⟨d', hF, hks4, hcd.2, ?_⟩
    have := k3 0 (Nat.zero_lt_one)
    simpa [← k1] using this
  simp only [setV, q2, q3] at hset
  by_cases hcnd : (AK.eqs kk kk && decide (0 ≤ i2) && aksOk ((kk.drop off).take (ls.map (Lf.ev env)).length) (ls.map (Lf.ev env))) = true
  case neg => rw [if_neg hcnd] at hset; cases hset
  rw [if_pos hcnd, q5] at hset
  simp only [Option.map_some, Option.some.injEq, List.cons.injEq, and_true] at hset
  simp only [Bool.and_eq_true] at hcnd
  have hakn := hcnd.2
  have hus : ∀ w', Rep w' us (ls.map (Lf.ev env)) [] := fun w' => hscs.rep
  have hput := put_cells (e := ee2) (off := off) (news := ls.map (Lf.ev env)) (by rw [hnews, hk2 ee2 (List.mem_of_getElem? q5)]; omega) (by intro h0; rw [h0] at hnews; simp at hnews; omega) (hus w).noAgg
  have hfl := flat_set (e' := ee2.put off (ls.map (Lf.ev env))) hk2 q5 (off := off) (m := us.length) (news := ls.map (Lf.ev env)) (by omega) (by rw [hput, hnews])
  -- the machine's step
  let new := cs.toList.take (oo + (i2.toNat * kk.length + off)) ++ us ++ cs.toList.drop (oo + (i2.toNat * kk.length + off) + us.length)
  have hst : (storeCells ⟨bb, oo + (i2.toNat * kk.length + off), none⟩ us 0).run P w = .ok () (w.setRow bb new.toArray) := by
    have := run_storeCells_z P bb (oo + (i2.toNat * kk.length + off)) E fz us 0 cs w hbl hfz (by omega) e2.one1
    simpa [new] using this
  have hrun : (execOp a.eval o).run P w = .ok .skip (w.setRow bb new.toArray) := by
    have q8' : a.eval x = .pointer (some ⟨bb, oo + (i2.toNat * kk.length + off), none⟩) := by rw [q8, Nat.add_assoc]
    simp only [execOp, ho, Instr.storeAt, q8', Instr.sureAddr, storeVar, e1, Sem.run_bind, Sem.run_pure, Result.andThen_ok, run_sizeOf w hsz, List.size_toArray, lus, ne_eq, not_true_eq_false, if_false, hst]
  have hnewsize : new.length = cs.size := by
    simp only [new, List.length_append, List.length_take, List.length_drop, Array.length_toList]; omega
  have hheap : (w.setRow bb new.toArray).heap[bb]? = some (.cells new.toArray E fz) := setRow_heap w _ _ _ _ _ hbl
  have hmvd : Moved w (w.setRow bb new.toArray) (· ∈ [bb]) c.G.dr :=
    ⟨rfl, rfl, rfl, by simp, fun b _ hb => setRow_other w _ _ _ fun e => hb (by simp [e]), setRow_sz hbl (by simp [hnewsize]), fun _ => Nat.le_refl _⟩
  have hin2 : Rep (w.setRow bb new.toArray) (vs.take (i2.toNat * kk.length + off) ++ us ++ vs.drop (i2.toNat * kk.length + off + us.length)) ((es2.set i2.toNat (ee2.put off (ls.map (Lf.ev env)))).flatMap V.cells) [] := by
    rw [hfl]
    obtain ⟨S1, t1, t2⟩ := hin.take (i2.toNat * kk.length + off)
    obtain ⟨S2, t3, t4⟩ := hin.drop (i2.toNat * kk.length + off + us.length)
    have z1 : S1 = [] := List.eq_nil_iff_forall_not_mem.2 fun x hx => by have := t2 x hx; cases this
    have z2 : S2 = [] := List.eq_nil_iff_forall_not_mem.2 fun x hx => by have := t4 x hx; cases this
    subst z1 z2
    exact Rep.append (Rep.append (t1.frame fun b hb => by cases hb) (hus _)) (t3.frame fun b hb => by cases hb)
  have hrep : Rep (w.setRow bb new.toArray) [u] [d'] [bb] := by
    rw [← hset, q1]
    have := Rep.row (w := w.setRow bb new.toArray) bb oo n cap kk (es2.set i2.toNat (ee2.put off (ls.map (Lf.ev env)))) _ _ new.toArray E fz (by simp [hn]) (fun x hx => by
        rcases List.mem_or_eq_of_mem_set hx with hx | rfl
        · exact hk x hx
        · rw [hput]
          exact aksOk_splice (hk ee2 (List.mem_of_getElem? q5)) rfl (by rw [hnews]; omega) hakn) hcap hheap
      (by simp only [List.size_toArray, hnewsize]; exact hs) (fun j hj => by
        rw [List.getElem?_toArray]
        exact splice_get (cs := cs.toList) (vs := vs) rfl hpos (by rw [Array.length_toList]; exact hs) (by omega) (fun j hj => by rw [Array.getElem?_toList]; exact hvs j hj) j hj) hin2 .nil
    simpa using this
  obtain ⟨ph', _, hR1⟩ := hstep (w.setRow bb new.toArray) d' [bb] nv hmvd hrep (by simp) (fun b hb => ⟨hb, by
    simp only [List.mem_singleton] at hb
    subst hb
    exact ⟨_, _, _, hheap, by simp only [List.size_toArray, hnewsize]; exact hfz⟩⟩) hks1 hak1 henv
  have hfin := hR1.sub (A' := ⟨A.sl, upOb A.ob [(r, some (.row (ver + 1) (.v nv) app))]⟩) (fun _ _ h => h) (fun _ _ h => h)
  refine wp_skip' hrun (hK ⟨M.hd, ph', M.be⟩ _ undef ?_)
  have E0 : Ext c (fun _ => False) ⟨M.hd, ph', M.be⟩ (upOb A.ob [(r, some (.row (ver + 1) (.v nv) app))]) (w.setRow bb new.toArray) ⟨M.hd, ph', M.be⟩ (upOb A.ob [(r, some (.row (ver + 1) (.v nv) app))]) (w.setRow bb new.toArray) :=
    ⟨fun r ver l app _ ho => ⟨ver, l, app, ho, rfl, Nat.le_refl _, fun _ => ⟨rfl, fun b hb _ => ⟨hb, rfl⟩⟩⟩, fun id cells _ ho => ⟨⟨cells, ho⟩, rfl⟩, fun _ _ _ => rfl⟩
  have := slots_put hfin E0 ⟨by simp, by simp, by simp⟩ (dst := o.dst) (sv := none) (gs := gs) (v := undef) hd (fun s hs _ => by cases hs)
  exact ⟨by rw [Act.put_size]; exact hfin.size, by rw [Act.put_defs]; exact hfin.defs, this, hfin.rows, hfin.boxes, hfin.dBB, hfin.dRR, hfin.dBR, hfin.keep⟩
end
end Go.Mw

