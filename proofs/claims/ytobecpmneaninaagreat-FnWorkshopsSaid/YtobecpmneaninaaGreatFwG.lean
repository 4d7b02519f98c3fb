/- A part of the framework that turns Go code into small pure programs and shows that they are sound: no condition. -/
import Derived.ProofKit
import Derived.Test.YtobecpmneaninaaGreatFwF
namespace Go.Mw
open Go.RowKit

def FS.none : FS := ⟨fun _ => .none, fun _ => .none⟩


theorem Scoped.mono {A : FS} {n m : Nat} (h : Scoped A n) (_hm : n ≤ m) (hg : ∀ gs, gsLt n gs = true → gsLt m gs = true) (hs : ∀ sv : SV, sv.lt n = true → sv.lt m = true) (ho : ∀ x : SO, x.lt n = true → x.lt m = true) : Scoped A m :=
  ⟨fun _s _gs _sv h' => ⟨hg _ (h.sl _ _ _ h').1, hs _ (h.sl _ _ _ h').2⟩, fun _i _x h' => ho _ (h.ob _ _ h')⟩

theorem cellsIn_lt : ∀ {ks : List AK} {j n : Nat}, j + ks.length ≤ n → atsLt n (cellsIn j ks) = true
  | [], _, _, _ => rfl
  | k :: ks, j, n, h => by
    have h' : j + 1 + ks.length ≤ n := by simp only [List.length_cons] at h; omega
    cases k <;> simp only [cellsIn, atsLt, At.lt, Lf.lt, Bool.and_eq_true, decide_eq_true_eq] <;> exact ⟨by simp only [List.length_cons] at h; omega, cellsIn_lt h'⟩

theorem cellsIoAt_lt : ∀ {ks : List AK} {j id n : Nat}, j + ks.length ≤ n → atsLt n (cellsIoAt j id ks) = true
  | [], _, _, _, _ => rfl
  | .sc :: ks, j, id, n, h => by
    have h' : j + 1 + ks.length ≤ n := by simp only [List.length_cons] at h; omega
    show (decide (j < n) && atsLt n (cellsIoAt (j + 1) (id + 1) ks)) = true
    rw [cellsIoAt_lt h', Bool.and_true, decide_eq_true_eq]
    omega
  | .sl _ :: ks, j, id, n, h => by
    have h' : j + 1 + ks.length ≤ n := by simp only [List.length_cons] at h; omega
    show (true && atsLt n (cellsIoAt (j + 1) (id + 1) ks)) = true
    rw [cellsIoAt_lt h', Bool.and_true]

theorem ioOb_lt : ∀ {ks : List AK} {j id n : Nat} {ob : Nat → Option SO}, j + ks.length ≤ n → (∀ i x, ob i = some x → x.lt n = true) → ∀ i x, ioOb j id ks ob i = some x → x.lt n = true
  | [], _, _, _, _, _, h => h
  | .sc :: ks, j, id, n, ob, hj, h => ioOb_lt (ks := ks) (by simp only [List.length_cons] at hj; omega) h
  | .sl _ :: ks, j, id, n, ob, hj, h => ioOb_lt (ks := ks) (by simp only [List.length_cons] at hj; omega) (by
      intro i x hx
      split at hx
      · simp only [Option.some.injEq] at hx
        subst hx
        simp only [SO.lt, Lf.lt, decide_eq_true_eq]
        simp only [List.length_cons] at hj
        omega
      · exact h i x hx)

theorem resCells_lt {fid : Nat} : ∀ {ks : List AK} {j n : Nat}, j + ks.length ≤ n → atsLt n (resCells fid j ks).1 = true
  | [], _, _, _ => rfl
  | .sc :: ks, j, n, h => by
    have h' : j + 1 + ks.length ≤ n := by simp only [List.length_cons] at h; omega
    show (decide (j < n) && atsLt n (resCells fid (j + 1) ks).1) = true
    rw [resCells_lt h', Bool.and_true, decide_eq_true_eq]
    omega
  | .sl _ :: ks, j, n, h => by
    have h' : j + 1 + ks.length ≤ n := by simp only [List.length_cons] at h; omega
    show (true && atsLt n (resCells fid (j + 1) ks).1) = true
    rw [resCells_lt h', Bool.and_true]

theorem resCells_ob_lt {fid : Nat} : ∀ {ks : List AK} {j n : Nat} {ob : Nat → Option SO}, j + ks.length ≤ n → (∀ i x, ob i = some x → x.lt n = true) → ∀ i x, upOb ob (resCells fid j ks).2 i = some x → x.lt n = true
  | [], _, _, _, _, h => h
  | .sc :: ks, j, n, ob, hj, h => resCells_ob_lt (ks := ks) (by simp only [List.length_cons] at hj; omega) h
  | .sl _ :: ks, j, n, ob, hj, h => resCells_ob_lt (ks := ks) (j := j + 1) (by simp only [List.length_cons] at hj; omega) (by
      intro i x hx
      split at hx
      · simp only [Option.some.injEq] at hx
        subst hx
        simp only [SO.lt, Lf.lt, decide_eq_true_eq]
        simp only [List.length_cons] at hj
        omega
      · exact h i x hx)

theorem Scoped.slot {A : FS} {n k : Nat} {sv : SV} (h : Scoped A n) (hs : sv.lt n = true) : Scoped ⟨upSl A.sl (some k) (some ([], sv)), A.ob⟩ n := by
  refine ⟨fun s gs sv' h' => ?_, h.ob⟩
  simp only [upSl] at h'
  split at h'
  · simp only [Option.some.injEq, Prod.mk.injEq] at h'
    obtain ⟨rfl, rfl⟩ := h'
    exact ⟨rfl, hs⟩
  · exact h.sl _ _ _ h'

theorem entry_scoped : ∀ {ps : List PK} {k j id n : Nat} {A : FS}, j + psLen ps ≤ n → Scoped A n → Scoped (entry ps k j id A) n
  | [], _, _, _, _, _, _, h => h
  | .val g ks :: ps, k, j, id, n, A, hj, h => by
    simp only [psLen] at hj
    exact entry_scoped (ps := ps) (by omega) (h.slot (cellsIn_lt (by omega)))
  | .io g ks :: ps, k, j, id, n, A, hj, h => by
    simp only [psLen] at hj
    refine entry_scoped (ps := ps) (by omega) ?_
    have := h.slot (k := k) (sv := .sc ⟨g, cellsIoAt j id ks⟩) (cellsIoAt_lt (by omega))
    exact ⟨this.sl, ioOb_lt (by omega) h.ob⟩
  | .ptr po ks :: ps, k, j, id, n, A, hj, h => by
    simp only [psLen] at hj
    refine entry_scoped (ps := ps) (by omega) ?_
    have := h.slot (k := k) (sv := .ptr id po) rfl
    refine ⟨this.sl, fun i x hx => ?_⟩
    simp only at hx
    split at hx
    · simp only [Option.some.injEq] at hx
      subst hx
      exact cellsIn_lt (by omega)
    · exact h.ob _ _ hx
  | .tk g ks :: ps, k, j, id, n, A, hj, h => by
    simp only [psLen] at hj
    refine entry_scoped (ps := ps) (by omega) ?_
    have := h.slot (k := k) (sv := .sc ⟨g, (resCells npK j ks).1⟩) (resCells_lt (by omega))
    exact ⟨this.sl, resCells_ob_lt (by omega) h.ob⟩
  | .cst f :: ps, k, j, id, n, A, hj, h => by
    simp only [psLen] at hj
    exact entry_scoped (ps := ps) (by omega) (h.slot rfl)
  | .new _ :: ps, k, j, id, n, A, hj, h => by
    simp only [psLen] at hj
    exact entry_scoped (ps := ps) hj h


theorem ioIds_ge {ks : List AK} : ∀ {id x : Nat}, x ∈ ioIds id ks → id ≤ x ∧ x < id + ks.length := by
  induction ks with
  | nil => intro id x h; simp [ioIds] at h
  | cons k ks ih =>
    intro id x h
    cases k with
    | sc => have := ih (by simpa [ioIds] using h); simp only [List.length_cons]; omega
    | sl _ =>
      simp only [ioIds, List.mem_cons] at h
      rcases h with rfl | h
      · simp
      · have := ih h; simp only [List.length_cons]; omega

theorem ioIds_nodup {ks : List AK} : ∀ {id : Nat}, (ioIds id ks).Nodup := by
  induction ks with
  | nil => intro id; simp [ioIds]
  | cons k ks ih =>
    intro id
    cases k with
    | sc => simpa [ioIds] using ih
    | sl _ => simp only [ioIds, List.nodup_cons]; exact ⟨fun h => by have := ioIds_ge h; omega, ih⟩

theorem rowIds_ge : ∀ {ps : List PK} {id x : Nat}, x ∈ rowIds ps id → id ≤ x ∧ x < entryIds ps id
  | [], _, _, h => by simp [rowIds] at h
  | .val _ _ :: ps, id, x, h => rowIds_ge (ps := ps) h
  | .io _ ks :: ps, id, x, h => by
    rcases List.mem_append.1 h with h | h
    · have := ioIds_ge h
      have h2 := entryIds_le (ps := ps) (id := id + ks.length)
      simp only [entryIds]; omega
    · have := rowIds_ge (ps := ps) h
      simp only [entryIds]; omega
  | .ptr _ _ :: ps, id, x, h => by have := rowIds_ge (ps := ps) h; simp only [entryIds]; omega
  | .tk _ _ :: ps, id, x, h => rowIds_ge (ps := ps) h
  | .cst _ :: ps, id, x, h => rowIds_ge (ps := ps) h
  | .new _ :: ps, id, x, h => rowIds_ge (ps := ps) h

theorem rowIds_nodup : ∀ {ps : List PK} {id : Nat}, (rowIds ps id).Nodup
  | [], _ => by simp [rowIds]
  | .val _ _ :: ps, id => rowIds_nodup (ps := ps)
  | .io _ ks :: ps, id => by
    simp only [rowIds]
    rw [List.nodup_append]
    refine ⟨ioIds_nodup, rowIds_nodup (ps := ps), fun a ha b hb e => ?_⟩
    subst e
    have h1 := ioIds_ge ha
    have h2 := rowIds_ge (ps := ps) hb
    omega
  | .ptr _ _ :: ps, id => rowIds_nodup (ps := ps)
  | .tk _ _ :: ps, id => rowIds_nodup (ps := ps)
  | .cst _ :: ps, id => rowIds_nodup (ps := ps)
  | .new _ :: ps, id => rowIds_nodup (ps := ps)

theorem boxIds_ge : ∀ {ps : List PK} {id : Nat} {x : Nat × List AK}, x ∈ boxIds ps id → id ≤ x.1 ∧ x.1 < entryIds ps id
  | [], _, _, h => by simp [boxIds] at h
  | .val _ _ :: ps, id, x, h => boxIds_ge (ps := ps) h
  | .io _ ks :: ps, id, x, h => by have := boxIds_ge (ps := ps) h; simp only [entryIds]; omega
  | .ptr _ _ :: ps, id, x, h => by
    rcases List.mem_cons.1 h with rfl | h
    · have h2 := entryIds_le (ps := ps) (id := id + 1)
      simp only [entryIds]; omega
    · have := boxIds_ge (ps := ps) h; simp only [entryIds]; omega
  | .tk _ _ :: ps, id, x, h => boxIds_ge (ps := ps) h
  | .cst _ :: ps, id, x, h => boxIds_ge (ps := ps) h
  | .new _ :: ps, id, x, h => boxIds_ge (ps := ps) h

theorem boxIds_nodup : ∀ {ps : List PK} {id : Nat}, ((boxIds ps id).map (·.1)).Nodup
  | [], _ => by simp [boxIds]
  | .val _ _ :: ps, id => boxIds_nodup (ps := ps)
  | .io _ ks :: ps, id => boxIds_nodup (ps := ps)
  | .ptr _ _ :: ps, id => by
    simp only [boxIds, List.map_cons, List.nodup_cons]
    refine ⟨fun h => ?_, boxIds_nodup (ps := ps)⟩
    obtain ⟨x, hx, e⟩ := List.mem_map.1 h
    have := boxIds_ge (ps := ps) hx
    omega
  | .tk _ _ :: ps, id => boxIds_nodup (ps := ps)
  | .cst _ :: ps, id => boxIds_nodup (ps := ps)
  | .new _ :: ps, id => boxIds_nodup (ps := ps)

def parOf : List Nat → List (Value × List Nat) → Nat → Option (Value × List Nat)
  | r :: rs, x :: xs, i => if i = r then some x else parOf rs xs i
  | _, _, _ => none

def parBOf : List (Nat × List AK) → List Bx → Nat → Option (Nat × (Nat → Option Value))
  | r :: rs, x :: xs, i => if i = r.1 then some (x.1, ties r.2 x.2.2) else parBOf rs xs i
  | _, _, _ => none

theorem parOf_mem : ∀ {rs : List Nat} {xs : List (Value × List Nat)} {i : Nat} {y : Value × List Nat}, parOf rs xs i = some y → i ∈ rs
  | [], _, _, _, h => by simp [parOf] at h
  | _ :: _, [], _, _, h => by simp [parOf] at h
  | r :: rs, x :: xs, i, y, h => by
    simp only [parOf] at h
    split at h
    · rename_i e; simp [e]
    · exact List.mem_cons_of_mem _ (parOf_mem h)

theorem ParL_of {c : Cx} : ∀ {rs : List Nat} {xs : List (Value × List Nat)}, rs.length = xs.length → rs.Nodup → (∀ r x, parOf rs xs r = some x → c.par r = some x) → ParL c rs xs
  | [], [], _, _, _ => trivial
  | [], _ :: _, h, _, _ => by simp at h
  | _ :: _, [], h, _, _ => by simp at h
  | r :: rs, x :: xs, hl, hn, h => by
    rw [List.nodup_cons] at hn
    refine ⟨h r x (by simp [parOf]), ParL_of (by simpa using hl) hn.2 fun r' x' h' => h r' x' ?_⟩
    have hin : r' ∈ rs := by
      clear h hl hn
      induction rs generalizing xs with
      | nil => simp [parOf] at h'
      | cons a as ih =>
        cases xs with
        | nil => simp [parOf] at h'
        | cons y ys =>
          simp only [parOf] at h'
          split at h'
          · rename_i e; simp [e]
          · simp [ih ys h']
    simp only [parOf]
    rw [if_neg (fun e : r' = r => hn.1 (e ▸ hin))]
    exact h'

theorem parBOf_mem : ∀ {rs : List (Nat × List AK)} {xs : List Bx} {i : Nat} {y : Nat × (Nat → Option Value)}, parBOf rs xs i = some y → i ∈ rs.map (·.1)
  | [], _, _, _, h => by simp [parBOf] at h
  | _ :: _, [], _, _, h => by simp [parBOf] at h
  | r :: rs, x :: xs, i, y, h => by
    simp only [parBOf] at h
    split at h
    · rename_i e; simp [e]
    · simp only [List.map_cons, List.mem_cons]; exact .inr (parBOf_mem h)

theorem ParB_of {c : Cx} : ∀ {rs : List (Nat × List AK)} {xs : List Bx}, rs.length = xs.length → (rs.map (·.1)).Nodup → (∀ r x, parBOf rs xs r = some x → c.parB r = some x) → ParB c rs xs
  | [], [], _, _, _ => trivial
  | [], _ :: _, h, _, _ => by simp at h
  | _ :: _, [], h, _, _ => by simp at h
  | r :: rs, x :: xs, hl, hn, h => by
    simp only [List.map_cons, List.nodup_cons] at hn
    refine ⟨h r.1 _ (by simp [parBOf]), ParB_of (by simpa using hl) hn.2 fun r' x' h' => h r' x' ?_⟩
    simp only [parBOf]
    rw [if_neg (fun e : r' = r.1 => hn.1 (e ▸ parBOf_mem h'))]
    exact h'

theorem ArgsR.lens {w : World} {ps : List PK} {vs : List Value} {ds : List V} {ro : List Nat} {rows : List (Value × List Nat)} {boxes : List Bx} {tk : List Nat} (h : ArgsR w ps vs ds ro rows boxes tk) : ∀ id,
    (rowIds ps id).length = rows.length ∧ (boxIds ps id).length = boxes.length ∧ (∀ (i : Nat) r x, (boxIds ps id)[i]? = some r → boxes[i]? = some x → r.2 = x.2.1 ∧ x.2.2.length = r.2.length) := by
  induction h with
  | nil => intro id; exact ⟨rfl, rfl, fun i r x h => by simp [boxIds] at h⟩
  | val hc hp t ih => intro id; exact ih id
  | @io g ks ps us ds ds' ro v vs R rows boxes tk hc hp t ih =>
    intro id
    obtain ⟨h1, h2, h3⟩ := ih (id + ks.length)
    exact ⟨by simp [rowIds, h1, ioIds_len hc id], h2, h3⟩
  | @ptr po ks ps us ds ds' S ro b E vs rows boxes tk hb hc t ih =>
    intro id
    obtain ⟨h1, h2, h3⟩ := ih (id + 1)
    refine ⟨h1, by simp [boxIds, h2], fun i r x hr hx => ?_⟩
    cases i with
    | zero =>
      simp only [boxIds, List.getElem?_cons_zero, Option.some.injEq] at hr hx
      subst hr; subst hx
      refine ⟨rfl, ?_⟩
      clear t ih h1 h2 h3 hb
      simp only
      induction hc with
      | nil => rfl
      | sc _ _ ih => simp [ih]
      | sl _ _ ih => simp [ih]
    | succ i => exact h3 i r x (by simpa [boxIds] using hr) (by simpa using hx)
  | tk _ _ _ _ ih => intro id; exact ih id
  | cst _ _ ih => intro id; exact ih id

theorem ArgsR.vlen {w : World} {ps : List PK} {vs : List Value} {ds : List V} {ro : List Nat} {rows : List (Value × List Nat)} {boxes : List Bx} {tk : List Nat} (h : ArgsR w ps vs ds ro rows boxes tk) : vs.length = ps.length := by
  induction h <;> simp [*]

theorem ArgsR.io_lt {w : World} {ps : List PK} {vs : List Value} {ds : List V} {ro : List Nat} {rows : List (Value × List Nat)} {boxes : List Bx} {tk : List Nat} (h : ArgsR w ps vs ds ro rows boxes tk) : (∀ b ∈ ioB rows boxes, b < w.heap.size) ∧ (∀ b ∈ ro, b < w.heap.size) ∧ ∀ b ∈ tk, b < w.heap.size := by
  have cr : ∀ {ks us ds S}, CellsR w ks us ds S → ∀ b ∈ S, b < w.heap.size := by
    intro ks us ds S h
    induction h with
    | nil => simp
    | sc _ _ ih => exact ih
    | sl h _ ih => intro b hb; exact (List.mem_append.1 hb).elim (h.lt b) (ih b)
  have ci : ∀ {ks us ds R}, CellsIo w ks us ds R → ∀ b ∈ R.flatMap (·.2), b < w.heap.size := by
    intro ks us ds R h
    induction h with
    | nil => simp
    | sc _ _ ih => exact ih
    | sl h _ _ _ ih => intro b hb; simp only [List.flatMap_cons] at hb; exact (List.mem_append.1 hb).elim (h.lt b) (ih b)
  have cs : ∀ {ks us ds S}, ResC w ks us ds S → ∀ b ∈ S, b < w.heap.size := by
    intro ks us ds S h
    induction h with
    | nil => simp
    | sc _ _ ih => exact ih
    | sl h _ _ ih => intro b hb; exact (List.mem_append.1 hb).elim (h.lt b) (ih b)
  induction h with
  | nil => simp [ioB]
  | tk hc hw hp t ih => exact ⟨ih.1, ih.2.1, fun b hb => (List.mem_append.1 hb).elim (cs hc b) (ih.2.2 b)⟩
  | cst _ _ ih => exact ih
  | val hc hp t ih => exact ⟨ih.1, fun b hb => (List.mem_append.1 hb).elim (cr hc b) (ih.2.1 b), ih.2.2⟩
  | io hc hp t ih =>
    refine ⟨fun b hb => ?_, ih.2⟩
    simp only [ioB, List.flatMap_append, List.append_assoc] at hb
    rcases List.mem_append.1 hb with hb | hb
    · exact ci hc b hb
    · exact ih.1 b hb
  | ptr hb hc t ih =>
    refine ⟨fun b hb' => ?_, fun b hb => (List.mem_append.1 hb).elim (cr hc b) (ih.2.1 b), ih.2.2⟩
    simp only [ioB, List.map_cons, List.mem_append, List.mem_cons] at hb'
    rcases hb' with hb' | rfl | hb'
    · exact ih.1 b (by simp only [ioB, List.mem_append]; exact .inl hb')
    · exact (Array.getElem?_eq_some_iff.1 hb).1
    · exact ih.1 b (by simp only [ioB, List.mem_append]; exact .inr hb')


def resLoad (a : Act) : ResultVar → Sem Value
  | .tmp t => pure (a.tmps.getD t undef)
  | .cell b t => do loadVar t (← asAddr (a.tmps.getD b undef))

theorem results_run {P : Program} {c : Cx} {nt : Nat} {M : Mp} {env : List V} {A : FS} {a : Act} {w : World} (hR : Rel c nt M env A a w) : ∀ {rvs : List ResultVar} {cs : List SC}, mapO (resSC P A) rvs = some cs →
    ∃ vs, (rvs.mapM (resLoad a)).run P w = .ok vs w ∧ RelSCs c M env w A.ob cs vs
  | [], cs, h => by
    simp only [mapO, Option.some.injEq] at h
    subst h
    exact ⟨[], rfl, trivial⟩
  | rv :: rvs, cs, h => by
    simp only [mapO] at h
    split at h <;> simp only [Option.some.injEq, reduceCtorEq] at h
    rename_i x xs h1 h2
    subst h
    obtain ⟨v, g1, g2⟩ := resSC_run hR h1
    have g1 : (resLoad a rv).run P w = .ok v w := by cases rv <;> exact g1
    obtain ⟨vs, k1, k2⟩ := results_run hR h2
    refine ⟨v :: vs, ?_, g2, k2⟩
    rw [List.mapM_cons, Sem.run_bind, g1, Result.andThen_ok, Sem.run_bind, k1, Result.andThen_ok]
    rfl

theorem FS.none_rel {c : Cx} {nt : Nat} {M : Mp} {env : List V} {a : Act} {w : World} (h1 : a.tmps.size = nt) (h2 : a.defers = []) (hk : Keep c w) : Rel c nt M env FS.none a w where
  size := h1
  defs := h2
  slots := by simp [FS.none]
  rows := by simp [FS.none]
  boxes := by simp [FS.none]
  dBB := by simp [FS.none]
  dRR := by simp [FS.none]
  dBR := by simp [FS.none]
  keep := hk

theorem Keep.to_moved {w w' : World} {inb : List Nat} {p : Nat → Option (Value × List Nat)} {q : Nat → Option (Nat × (Nat → Option Value))} {ros tk : List Nat} {G : Gl} (h : Keep ⟨w, inb, p, q, ros, tk, G⟩ w') : Moved w w' (· ∈ inb) G.dr :=
  ⟨h.os, h.tape, h.output, h.size, h.block, h.sz, h.dr⟩

def qRet (outs : List V) : LX → List V → Prop := fun x e => x = .ret ∧ e = outs

def fnOk (s : Sig) (fn : Func) : Bool := entryIds s.ps 0 ≤ npK && s.ps.length ≤ fn.ntmps

def cmpEnd (ro : FS → Option (List (Lf × Lf) × List Lf)) : Option (L × Option St × List NF) → Option L
  | some (l, none, _) => some l
  | some (l, some st, _) =>
    match ro st.A with
    | some ls => some (.seq l (retL ls.1 ls.2))
    | none => none
  | none => none

def Func.cmp (P : Program) (sg : List (Nat × Sig)) (s : Sig) (fn : Func) (hs : List NF) : Option L :=
  match fn.body with
  | some code =>
    if fnOk s fn then cmpEnd (retOf P fn s) (Mw.cmp P sg fn.ntmps npK (retOf P fn s) code (fun _ => none) ⟨entry s.ps 0 0 0 FS.none, npK + hiOf s.ps 0 0, psLen s.ps⟩ hs)
    else none
  | none => none

theorem fn_run {G : Gl} {P : Program} {sg : List (Nat × Sig)} {f : FuncId} {fn : Func} {s : Sig} {hs : List NF} {l : L} {code : Code} (hm : P.follows .mixedOrders = true) (hsg : ∀ f s, sg.lookup f = some s → Contract G P f s)
    (hf : P.funcs[f]? = some fn) (hb : fn.body = some code) (hcmp : cmpEnd (retOf P fn s) (Mw.cmp P sg fn.ntmps npK (retOf P fn s) code (fun _ => none) ⟨entry s.ps 0 0 0 FS.none, npK + hiOf s.ps 0 0, psLen s.ps⟩ hs) = some l)
    (hids : entryIds s.ps 0 ≤ npK) (hps : s.ps.length ≤ fn.ntmps) {ps : List PK} (hpe : entry s.ps 0 0 0 FS.none = entry ps 0 0 0 FS.none ∧ psLen s.ps = psLen ps ∧ hiOf s.ps 0 0 = hiOf ps 0 0 ∧ entryIds s.ps 0 = entryIds ps 0 ∧ ps.length ≤ s.ps.length)
    {w : World} {vals : List Value} {ds outs : List V} {ro : List Nat} {rows : List (Value × List Nat)} {boxes : List Bx} {tk : List Nat} (hA : ArgsR w ps vals ds ro rows boxes tk) (hG : G.Ok w) (hn : (ioB rows boxes ++ tk).Nodup) (hro : ∀ b ∈ ro, b ∉ ioB rows boxes ++ tk) (hgd : ∀ b ∈ ioB rows boxes ++ tk, G.blk b = none) (hL : wpL l (qRet outs) ds) {Q : Ending → World → Prop}
    (hQ : ∀ M env A a w' cks ls, Rel ⟨w, ioB rows boxes ++ tk, parOf (rowIds ps 0) rows, parBOf (boxIds ps 0) boxes, ro, tk, G⟩ fn.ntmps M env A a w' → retOf P fn s A = some (cks, ls) → (∀ ck ∈ cks, CkOk env ck) → ls.map (Lf.ev env) = outs →
      ∃ vs : List Value, (fn.results.toList.mapM (resLoad a)).run P w' = .ok vs w' ∧ Q (.returned (if h : vs.toArray.size = 1 then vs.toArray[0] else .tuple vs.toArray)) w') : Calls P f vals.toArray w Q := by
  obtain ⟨hp1, hp2, hp3, hp4, hp5⟩ := hpe
  have hlt := hA.io_lt
  obtain ⟨hl1, hl2, hl3⟩ := hA.lens 0
  let c : Cx := ⟨w, ioB rows boxes ++ tk, parOf (rowIds ps 0) rows, parBOf (boxIds ps 0) boxes, ro, tk, G⟩
  have hpb : ∀ x, npK ≤ x → c.parB x = none := by
    intro x hx
    cases hq : c.parB x with
    | none => rfl
    | some y =>
      have := parBOf_mem hq
      obtain ⟨z, hz, e⟩ := List.mem_map.1 this
      have := boxIds_ge hz
      omega
  have hpk : ∀ x, npK ≤ x → c.parB x = none ∧ c.par x = none := by
    intro x hx
    refine ⟨hpb x hx, ?_⟩
    cases hq : c.par x with
    | none => rfl
    | some y =>
      have := rowIds_ge (parOf_mem hq)
      omega
  have hvl := hA.vlen
  refine calls_of_wp hf hb ?_
  have hkeep : Keep c w := ⟨rfl, rfl, rfl, Nat.le_refl _, fun _ _ _ => rfl, fun b cs E fz h => ⟨cs, h, rfl⟩, fun _ => Nat.le_refl _, fun b o hb => ⟨hG b o hb, fun hm => by
    rcases hm with hm | hm
    · have := heap_lt (hG b o hb)
      simp only [c] at hm
      omega
    · rw [hgd b hm] at hb; cases hb⟩⟩
  have hR0 : Rel c fn.ntmps ⟨fun _ => undef, fun _ => [], fun _ => 0⟩ ds FS.none { tmps := vals.toArray ++ Array.replicate (fn.ntmps - vals.toArray.size) undef, defers := [] } w :=
    FS.none_rel (by simp; omega) rfl hkeep
  obtain ⟨M, hR, hfr, hlen⟩ := entry_rel (k := 0) (j := 0) (id := 0) (h := 0) hA hR0 (fun i hi => by simp) ⟨by simp [FS.none], by simp [FS.none], by simp [FS.none]⟩ (Nat.le_refl _) (by omega)
    (fun i v hi => by
      have hi' : i < vals.length := by
        rcases Nat.lt_or_ge i vals.length with h | h
        · exact h
        · rw [List.getElem?_eq_none h] at hi; cases hi
      refine ⟨by omega, ?_⟩
      have : (vals.toArray ++ Array.replicate (fn.ntmps - vals.toArray.size) undef)[i]? = some v := by
        rw [Array.getElem?_append_left (by simpa using hi')]
        simpa using hi
      simp only [Array.getD_eq_getD_getElem?, Nat.zero_add]
      rw [this]; rfl)
    (fun b hb => ⟨by
      rintro (h | h)
      · have := hlt.2.1 b hb
        simp only [c] at h; omega
      · exact hro b hb h, hb⟩) (fun b hb => .inr (List.mem_append_left _ hb)) (fun b hb => .inr ⟨hb, List.mem_append_right _ hb⟩) hn (fun b hb => ⟨by simp [FS.none], by simp [FS.none]⟩)
    (ParL_of hl1 rowIds_nodup fun r x h => h) (ParB_of hl2 boxIds_nodup fun r x h => h)
  rw [hp1, hp2, hp3] at hcmp
  have hinv : Inv npK ⟨entry ps 0 0 0 FS.none, npK + hiOf ps 0 0, psLen ps⟩ ds :=
    ⟨hlen.symm, entry_scoped (by simp) ⟨by simp [FS.none], by simp [FS.none]⟩, hfr.mono fun x hx => .inr hx, Nat.le_add_right _ _⟩
  have fin : ∀ M' env' A' (a' : Act) w' cks ls, Rel c fn.ntmps M' env' A' a' w' → retOf P fn s A' = some (cks, ls) → (∀ ck ∈ cks, CkOk env' ck) → ls.map (Lf.ev env') = outs →
      a'.defers = [] ∧ ∃ v, (results fn a'.tmps).run P w' = .ok v w' ∧ Q (.returned v) w' := by
    intro M' env' A' a' w' cks ls hR' hret hck hout
    obtain ⟨vs, hrun, hq⟩ := hQ M' env' A' a' w' cks ls hR' hret hck hout
    refine ⟨hR'.defs, if h : vs.toArray.size = 1 then vs.toArray[0] else .tuple vs.toArray, ?_, hq⟩
    unfold results
    rw [Sem.run_bind]
    have : (fn.results.mapM (resLoad a')).run P w' = .ok vs.toArray w' := by
      rw [← Array.toArray_toList (xs := fn.results), List.mapM_toArray, Sem.run_map, hrun]
      rfl
    show Result.andThen ((fn.results.mapM (resLoad a')).run P w') _ = _
    rw [this]
    rfl
  cases hq : Mw.cmp P sg fn.ntmps npK (retOf P fn s) code (fun _ => none) ⟨entry ps 0 0 0 FS.none, npK + hiOf ps 0 0, psLen ps⟩ hs with
  | none => rw [hq] at hcmp; cases hcmp
  | some r =>
    obtain ⟨l0, e, hs1⟩ := r
    rw [hq] at hcmp
    cases e with
    | none =>
      simp only [cmpEnd, Option.some.injEq] at hcmp
      subst hcmp
      refine cmp_sound (Nat.le_refl _) hpk hm hsg hpb code _ _ _ _ _ _ hq (by simp) ds M _ w hinv hR _ _ hL (by simp) (by simp) ?_
      rintro outs' a' w' ⟨M', env', A', ⟨cks, ls⟩, hR', hret, hck, rfl⟩ ⟨_, hout⟩
      exact fin M' env' A' a' w' cks ls hR' hret hck hout
    | some st =>
      simp only [cmpEnd] at hcmp
      split at hcmp <;> simp only [Option.some.injEq, reduceCtorEq] at hcmp
      rename_i ls hret0
      subst hcmp
      refine cmp_sound (Nat.le_refl _) hpk hm hsg hpb code _ _ _ _ _ _ hq (by simp) ds M _ w hinv hR _ (fun x e' => match x with
        | .normal => wpL (retL ls.1 ls.2) (qRet outs) e'
        | x => qRet outs x e') hL ?_ (by simp) ?_
      · intro st' env' M' a' w' e _ hR' hw
        simp only [Option.some.injEq] at e
        subst e
        obtain ⟨hck, hl⟩ := retL_wp hw
        exact fin M' env' st.A a' w' ls.1 ls.2 hR' hret0 hck hl.2
      · rintro outs' a' w' ⟨M', env', A', ⟨cks, ls⟩, hR', hret, hck, rfl⟩ ⟨_, hout⟩
        exact fin M' env' A' a' w' cks ls hR' hret hck hout

theorem fn_sound {G : Gl} {P : Program} {sg : List (Nat × Sig)} {f : FuncId} {fn : Func} {s : Sig} {hs : List NF} {l : L} (hm : P.follows .mixedOrders = true) (hsg : ∀ f s, sg.lookup f = some s → Contract G P f s)
    (hf : P.funcs[f]? = some fn) (hc : Func.cmp P sg s fn hs = some l) (hL : ∀ ds outs, s.F ds = some outs → wpL l (qRet outs) ds) : Contract G P f s := by
  unfold Func.cmp at hc
  split at hc
  · rename_i code hb
    split at hc
    · rename_i hok
      · have hcmp := hc
        simp only [fnOk, Bool.and_eq_true, decide_eq_true_eq] at hok
        obtain ⟨hids, hps⟩ := hok
        refine ⟨?_, ?_⟩
        · intro w vals ds outs ro rows boxes tk hG hF hA hn hro hgd
          refine fn_run hm hsg hf hb hcmp hids hps ⟨rfl, rfl, rfl, rfl, Nat.le_refl _⟩ hA hG hn hro hgd (hL ds outs hF) ?_
          intro M env A a w' cks ls hR' hret hck hout
          obtain ⟨hl1, hl2, hl3⟩ := hA.lens 0
          have hreg : retOf P fn s A = retReg P fn s A := by
            unfold retOf
            split
            · rename_i hps2
              rw [hps2] at hA
              cases hA
            · rfl
          rw [hreg] at hret
          unfold retReg at hret
          split at hret
          · cases hret
          · rename_i cs hcs
            split at hret <;> simp only [Option.some.injEq, reduceCtorEq] at hret
            rename_i x y z hx hy hz
            simp only [Prod.mk.injEq] at hret
            obtain ⟨rfl, rfl⟩ := hret
            obtain ⟨vs, hrun, hrel⟩ := results_run hR' hcs
            obtain ⟨S, r1, r2, r3, _⟩ := retSCs_rel hR' hx hrel hck
            have hpr := retRows_rel hR' hy (ParL_of hl1 rowIds_nodup fun r x h => h)
            have hpbx := retBoxes_rel hR' hz (ParB_of hl2 boxIds_nodup fun r x h => h) hl3
            refine ⟨vs, hrun, ⟨?_, hR'.keep.to_moved⟩⟩
            refine ⟨_, vs, x.1.map (Lf.ev env), y.map (Lf.ev env), z.map (Lf.ev env), S, ?_, rfl, ?_, r1, r2, fun b hb => ⟨(r3 b hb).2.1.imp id (·.1), (r3 b hb).2.2⟩, hpr, hpbx⟩
            · rw [← hout]; simp
            · unfold retV
              cases vs with
              | nil => simp
              | cons v vs =>
                cases vs with
                | nil => simp
                | cons v' vs => simp
        · intro ks ps hnew w vals ds outs ro hG hF hA
          refine fn_run hm hsg hf hb hcmp hids hps (ps := ps) (by rw [hnew]; exact ⟨rfl, by simp [psLen], rfl, rfl, by simp⟩) hA hG (by simp [ioB]) (by simp [ioB]) (by simp [ioB]) (hL ds outs hF) ?_
          intro M env A a w' cks ls hR' hret hck hout
          unfold retOf at hret
          rw [hnew] at hret
          have hmap : (retNew fn ks A).map (fun ls => (([] : List (Lf × Lf)), ls)) = some (cks, ls) := hret
          clear hret
          obtain ⟨ls', hret, hls⟩ := Option.map_eq_some_iff.1 hmap
          clear hmap
          simp only [Prod.mk.injEq] at hls
          obtain ⟨_, rfl⟩ := hls
          simp only [retNew] at hret
          split at hret
          · rename_i t ht
            split at hret
            · rename_i id hs1
              split at hret
              · rename_i cells hbx
                obtain ⟨us, E, q1, q2, q3, _⟩ := hR'.boxes _ _ hbx
                obtain ⟨S, g1, g2⟩ := newCells_rel hR' hret q2
                have hv : a.tmps.getD t undef = .pointer (some ⟨M.be id, 0, none⟩) := (hR'.slots _ _ _ hs1).2.1 (by simp [GH]) cells hbx
                refine ⟨[a.tmps.getD t undef], by rw [ht]; rfl, ⟨M.be id, us, E, S, ?_, ?_, q1, by rw [← hout]; exact g1, fun x hx => (g2 x hx).2⟩, ?_⟩
                · simp [hv]
                · rcases q3 with h | h
                  · exact h
                  · simp [ioB] at h
                · have := hR'.keep.to_moved
                  simpa [ioB] using this
              · cases hret
            · cases hret
          · cases hret
    · cases hc
  · cases hc

end Go.Mw

namespace Go.Mw

def exN : Nat → (List V → Prop) → Prop
  | 0, k => k []
  | n + 1, k => ∃ v, exN n fun l => k (v :: l)

theorem exN_some : ∀ {n : Nat} {k : List V → Prop}, exN n k → ∃ l, l.length = n ∧ k l
  | 0, _, h => ⟨[], rfl, h⟩
  | n + 1, _, ⟨v, h⟩ => let ⟨l, h1, h2⟩ := exN_some h; ⟨v :: l, by simp [h1], h2⟩

def ifB (v : V) (A B : Prop) : Prop :=
  match v with
  | .bool true => A
  | .bool false => B
  | _ => False

theorem ifB_inv {v : V} {A B : Prop} (h : ifB v A B) : ∃ b, v = .bool b ∧ (b = true → A) ∧ (b = false → B) := by
  unfold ifB at h
  split at h
  · exact ⟨true, rfl, fun _ => h, fun e => (by cases e)⟩
  · exact ⟨false, rfl, fun e => (by cases e), fun _ => h⟩
  · exact h.elim

theorem ifB_mk {v : V} {A B : Prop} {b : Bool} (h : v = .bool b) (h1 : b = true → A) (h2 : b = false → B) : ifB v A B := by
  subst h
  cases b
  · exact h2 rfl
  · exact h1 rfl

def known : Gs → Lf → Option Bool
  | [], _ => none
  | (l', b) :: r, l => if l'.same l then some b else known r l

def setK (env : List V) (l : Lf) (b : Bool) : List V :=
  match l with
  | .v i => env.set i (.bool b)
  | .k _ => env

theorem setK_eq {env : List V} {l : Lf} {b : Bool} (h : l.ev env = .bool b) : setK env l b = env := by
  cases l with
  | k c => rfl
  | v i =>
    simp only [Lf.ev, List.getD_eq_getElem?_getD] at h
    simp only [setK]
    have hi : i < env.length := by
      rcases Nat.lt_or_ge i env.length with h' | h'
      · exact h'
      · rw [List.getElem?_eq_none h'] at h; cases h
    rw [List.getElem?_eq_getElem hi, Option.getD_some] at h
    rw [← h]
    exact List.set_getElem_self hi

def gP : List V → Gs → Gs → (Gs → List V → Prop) → (Gs → List V → Prop) → Prop
  | env, pt, [], A, _ => A pt env
  | env, pt, (l, w) :: gs, A, B =>
    match known pt l, w with
    | some true, true => gP env pt gs A B
    | some false, false => gP env pt gs A B
    | some _, _ => B pt env
    | none, true => ifB (l.ev env) (gP (setK env l true) ((l, true) :: pt) gs A B) (B ((l, false) :: pt) (setK env l false))
    | none, false => ifB (l.ev env) (B ((l, true) :: pt) (setK env l true)) (gP (setK env l false) ((l, false) :: pt) gs A B)

def PtOk (env : List V) (pt : Gs) : Prop := ∀ p ∈ pt, p.1.ev env = .bool p.2

theorem known_ev {env : List V} : ∀ {pt : Gs} {l : Lf} {b : Bool}, PtOk env pt → known pt l = some b → l.ev env = .bool b
  | [], _, _, _, h => by simp [known] at h
  | (l', c) :: r, l, b, hp, h => by
    simp only [known] at h
    split at h
    · rename_i hs
      simp only [Option.some.injEq] at h
      subst h
      rw [← Lf.same_eq hs]
      exact hp (l', c) (by simp)
    · exact known_ev (fun p hp' => hp p (by simp [hp'])) h

theorem gP_or {env : List V} : ∀ {gs pt : Gs} {A B : Gs → List V → Prop}, PtOk env pt → gP env pt gs A B → ∃ pt', PtOk env pt' ∧ ((gsOk env gs = true ∧ A pt' env) ∨ (gsOk env gs = false ∧ B pt' env))
  | [], pt, _, _, hp, h => ⟨pt, hp, .inl ⟨rfl, h⟩⟩
  | (l, w) :: gs, pt, A, B, hp, h => by
    have ext : ∀ {b : Bool}, l.ev env = .bool b → PtOk env ((l, b) :: pt) := fun h1 p hp' => by
      rcases List.mem_cons.1 hp' with rfl | hp'
      · exact h1
      · exact hp p hp'
    have eq : ∀ {b : Bool}, l.ev env = .bool b → gsOk env ((l, w) :: gs) = ((b == w) && gsOk env gs) := fun h1 => by simp only [gsOk, h1]
    cases hk : known pt l with
    | some c =>
      have hev := known_ev hp hk
      cases c <;> cases w <;> simp only [gP, hk] at h
      · obtain ⟨pt', h1, h2⟩ := gP_or hp h
        exact ⟨pt', h1, by rw [eq hev]; simpa using h2⟩
      · exact ⟨pt, hp, .inr ⟨by rw [eq hev]; rfl, h⟩⟩
      · exact ⟨pt, hp, .inr ⟨by rw [eq hev]; rfl, h⟩⟩
      · obtain ⟨pt', h1, h2⟩ := gP_or hp h
        exact ⟨pt', h1, by rw [eq hev]; simpa using h2⟩
    | none =>
      cases w <;> simp only [gP, hk] at h
      · obtain ⟨b, h1, h2, h3⟩ := ifB_inv h
        cases b with
        | false =>
          have h3 := h3 rfl
          rw [setK_eq h1] at h3
          obtain ⟨pt', g1, g2⟩ := gP_or (ext h1) h3
          exact ⟨pt', g1, by rw [eq h1]; simpa using g2⟩
        | true =>
          have h2 := h2 rfl
          rw [setK_eq h1] at h2
          exact ⟨_, ext h1, .inr ⟨by rw [eq h1]; rfl, h2⟩⟩
      · obtain ⟨b, h1, h2, h3⟩ := ifB_inv h
        cases b with
        | true =>
          have h2 := h2 rfl
          rw [setK_eq h1] at h2
          obtain ⟨pt', g1, g2⟩ := gP_or (ext h1) h2
          exact ⟨pt', g1, by rw [eq h1]; simpa using g2⟩
        | false =>
          have h3 := h3 rfl
          rw [setK_eq h1] at h3
          exact ⟨_, ext h1, .inr ⟨by rw [eq h1]; rfl, h3⟩⟩

theorem PtOk.app {env : List V} {pt : Gs} (h : PtOk env pt) (vs : List V) : PtOk (env ++ vs) pt := by
  intro p hp
  have := h p hp
  revert this
  cases p.1 with
  | k c => exact id
  | v i =>
    simp only [Lf.ev, List.getD_eq_getElem?_getD]
    intro h
    have hi : i < env.length := by
      rcases Nat.lt_or_ge i env.length with h' | h'
      · exact h'
      · rw [List.getElem?_eq_none h'] at h; cases h
    rw [List.getElem?_append_left hi]; exact h

def pickK (pt : Gs) (i : In) : Option Lf :=
  match i.p, i.ls, i.outs with
  | .pick, [c, a, b], 1 =>
    match known pt c with
    | some true => some a
    | some false => some b
    | none => none
  | _, _, _ => none

def lfB (pt : Gs) : Lf → Option Bool
  | .k (.bool b) => some b
  | .k _ => none
  | .v i => known pt (.v i)

def learn (pt : Gs) (n : Nat) (l : Lf) : Gs :=
  match lfB pt l with
  | some b => (.v n, b) :: pt
  | none => pt

theorem lfB_ev {env : List V} {pt : Gs} {l : Lf} {b : Bool} (hp : PtOk env pt) (h : lfB pt l = some b) : l.ev env = .bool b := by
  unfold lfB at h
  split at h
  · simp only [Option.some.injEq] at h; subst h; rfl
  · cases h
  · exact known_ev hp h

theorem learn_ok {env : List V} {pt : Gs} (hp : PtOk env pt) (l : Lf) : PtOk (env ++ [l.ev env]) (learn pt env.length l) := by
  unfold learn
  cases h : lfB pt l with
  | none => exact hp.app _
  | some b =>
    intro p hp'
    rcases List.mem_cons.1 hp' with rfl | hp'
    · simp [Lf.ev]
      cases l with
      | k c => have := lfB_ev hp h; simpa [Lf.ev] using this
      | v i => have := lfB_ev hp h; simpa [Lf.ev] using this
    · exact hp.app _ p hp'

def shR : Gs → List In → List V → (List V → Prop) → Prop
  | _, [], env, k => k env
  | pt, i :: r, env, k => gP env pt i.gs (fun pt' env =>
      match pickK pt' i with
      | some l => shR (learn pt' env.length l) r (env ++ [l.ev env]) k
      | none => exN i.outs fun outs => i.p.run (i.ls.map (Lf.ev env)) = some outs ∧ shR pt' r (env ++ outs) k)
      (fun pt' env => shR pt' r (env ++ List.replicate i.outs (.list [] [])) k)

theorem pickK_run {env : List V} {pt : Gs} {i : In} {l : Lf} (hp : PtOk env pt) (h : pickK pt i = some l) : i.p.run (i.ls.map (Lf.ev env)) = some [l.ev env] ∧ i.outs = 1 := by
  unfold pickK at h
  split at h
  · rename_i c a b h1 h2 h3
    refine ⟨?_, h3⟩
    split at h <;> simp only [Option.some.injEq, reduceCtorEq] at h
    · rename_i hk
      subst h
      rw [h1, h2]
      simp [Prim.run, known_ev hp hk]
    · rename_i hk
      subst h
      rw [h1, h2]
      simp [Prim.run, known_ev hp hk]
  · cases h

theorem shR_sound : ∀ {r : List In} {pt : Gs} {env : List V} {k : List V → Prop}, PtOk env pt → shR pt r env k → ∃ env', runIns r env = some env' ∧ k env'
  | [], _, env, k, _, h => ⟨env, rfl, h⟩
  | i :: r, pt, env, k, hp, h => by
    obtain ⟨pt', hp', ⟨hg, h⟩ | ⟨hg, h⟩⟩ := gP_or hp h
    · cases hpk : pickK pt' i with
      | some l =>
        rw [hpk] at h
        obtain ⟨h1, h2⟩ := pickK_run hp' hpk
        obtain ⟨env', h3, h4⟩ := shR_sound (learn_ok hp' l) h
        refine ⟨env', ?_, h4⟩
        simp only [runIns, In.run, hg, h1, h2, List.length_cons, List.length_nil, Nat.zero_add, beq_self_eq_true, if_true]
        exact h3
      | none =>
        rw [hpk] at h
        obtain ⟨outs, hl, h1, h2⟩ := exN_some h
        obtain ⟨env', h3, h4⟩ := shR_sound (hp'.app _) h2
        refine ⟨env', ?_, h4⟩
        simp only [runIns, In.run, hg, h1, hl, beq_self_eq_true, if_true]
        exact h3
    · obtain ⟨env', h3, h4⟩ := shR_sound (hp'.app _) h
      refine ⟨env', ?_, h4⟩
      simp only [runIns, In.run, hg, Bool.false_eq_true, if_false]
      exact h3

abbrev QT := LX → List V → Prop

def qS (k : List V → Prop) (Q : QT) : QT := fun x e => match x with
  | .normal => k e
  | x => Q x e

def qB (id : Nat) (Q : QT) : QT := fun x e => match x with
  | .exit id' => if id' = id then Q .normal e else Q x e
  | x => Q x e

def shL : L → QT → List V → Prop
  | .skip, Q, e => Q .normal e
  | .rg ins, Q, e => shR [] ins e (Q .normal)
  | .tup ls, Q, e => Q .normal (ls.map (Lf.ev e))
  | .seq a b, Q, e => shL a (qS (shL b Q) Q) e
  | .ite l a b, Q, e => ifB (l.ev e) (shL a Q (setK e l true)) (shL b Q (setK e l false))
  | .block id b, Q, e => shL b (qB id Q) e
  | .loop b, Q, e => ∃ (I : List V → Prop) (m : List V → Nat), I e ∧ ∀ e, I e → shL b (qS (fun e' => I e' ∧ m e' < m e) Q) e
  | .exit id, Q, e => Q (.exit id) e
  | .ret ls, Q, e => Q .ret (ls.map (Lf.ev e))

theorem shL_sound : ∀ {l : L} {Q : QT} {e : List V}, shL l Q e → wpL l Q e
  | .skip, _, _, h => h
  | .rg ins, Q, e, h => shR_sound (pt := []) (by simp [PtOk]) h
  | .tup _, _, _, h => h
  | .seq a b, Q, e, h => by
    show wpL a _ e
    refine wpL_mono (shL_sound (l := a) (show shL a (qS (shL b Q) Q) e from h)) ?_
    intro x e h
    cases x with
    | normal => exact shL_sound (l := b) h
    | exit id => exact h
    | ret => exact h
  | .ite l a b, _, _, h => by
    obtain ⟨v, h1, h2, h3⟩ := ifB_inv h
    cases v with
    | true =>
      have h2 := h2 rfl
      rw [setK_eq h1] at h2
      exact .inl ⟨h1, shL_sound (l := a) h2⟩
    | false =>
      have h3 := h3 rfl
      rw [setK_eq h1] at h3
      exact .inr ⟨h1, shL_sound (l := b) h3⟩
  | .block id b, Q, e, h => by
    show wpL b _ e
    refine wpL_mono (shL_sound (l := b) (show shL b (qB id Q) e from h)) ?_
    intro x e h
    cases x <;> exact h
  | .loop b, Q, e, ⟨I, m, h1, h2⟩ => ⟨I, m, h1, fun e he => by
    refine wpL_mono (shL_sound (l := b) (h2 e he)) ?_
    intro x e h
    cases x <;> exact h⟩
  | .exit _, _, _, h => h
  | .ret _, _, _, h => h

theorem fn_sh {G : Gl} {P : Program} {sg : List (Nat × Sig)} {f : FuncId} {fn : Func} {s : Sig} {hs : List NF} {l : L} (hm : P.follows .mixedOrders = true) (hsg : ∀ f s, sg.lookup f = some s → Contract G P f s)
    (hf : P.funcs[f]? = some fn) (hc : Func.cmp P sg s fn hs = some l) (hL : ∀ ds outs, s.F ds = some outs → shL l (qRet outs) ds) : Contract G P f s :=
  fn_sound hm hsg hf hc fun ds outs h => shL_sound (hL ds outs h)

theorem shL_mono : ∀ {Q Q' : QT} {l : L} {e : List V}, (∀ x e, Q x e → Q' x e) → shL l Q e → shL l Q' e := by
  have hx : ∀ {n : Nat} {p p' : List V → Prop}, (∀ l, p l → p' l) → exN n p → exN n p' := by
    intro n
    induction n with
    | zero => intro p p' hp h; exact hp _ h
    | succ n ih => intro p p' hp ⟨v, h⟩; exact ⟨v, ih (fun l => hp _) h⟩
  have hg : ∀ {gs pt : Gs} {env : List V} {A A' B B' : Gs → List V → Prop}, (∀ p e, A p e → A' p e) → (∀ p e, B p e → B' p e) → gP env pt gs A B → gP env pt gs A' B' := by
    intro gs
    induction gs with
    | nil => intro pt env A A' B B' ha _ h; exact ha _ _ h
    | cons p gs ih =>
      intro pt env A A' B B' ha hb h
      obtain ⟨l, w⟩ := p
      simp only [gP] at h ⊢
      split at h
      · exact ih ha hb h
      · exact ih ha hb h
      · exact hb _ _ h
      · obtain ⟨b, h1, h2, h3⟩ := ifB_inv h; exact ifB_mk h1 (fun e => ih ha hb (h2 e)) (fun e => hb _ _ (h3 e))
      · obtain ⟨b, h1, h2, h3⟩ := ifB_inv h; exact ifB_mk h1 (fun e => hb _ _ (h2 e)) (fun e => ih ha hb (h3 e))
  have key : ∀ {r : List In} {pt : Gs} {env : List V} {k k' : List V → Prop}, (∀ e, k e → k' e) → shR pt r env k → shR pt r env k' := by
    intro r
    induction r with
    | nil => intro pt env k k' hk h; exact hk _ h
    | cons i r ih =>
        intro pt env k k' hk h
        refine hg (fun p e h => ?_) (fun p e => ih hk) h
        cases hpk : pickK p i with
        | some l => rw [hpk] at h; exact ih hk h
        | none => rw [hpk] at h; exact hx (fun l h => ⟨h.1, ih hk h.2⟩) h
  intro Q Q' l
  induction l generalizing Q Q' with
  | skip => intro e hq h; exact hq _ _ h
  | rg ins => intro e hq h; exact key (fun e => hq _ e) h
  | tup => intro e hq h; exact hq _ _ h
  | seq a b iha ihb =>
    intro e hq h
    refine iha (Q := qS (shL b Q) Q) (Q' := qS (shL b Q') Q') (fun x e h => ?_) h
    cases x with
    | normal => exact ihb hq h
    | exit id => exact hq _ _ h
    | ret => exact hq _ _ h
  | ite l a b iha ihb =>
    intro e hq h
    obtain ⟨v, h1, h2, h3⟩ := ifB_inv h
    exact ifB_mk h1 (fun e => iha hq (h2 e)) (fun e => ihb hq (h3 e))
  | block id b ih =>
    intro e hq h
    refine ih (Q := qB id Q) (Q' := qB id Q') (fun x e h => ?_) h
    cases x with
    | normal => exact hq _ _ h
    | ret => exact hq _ _ h
    | exit id' =>
      simp only [qB] at h ⊢
      split
      · rename_i e; rw [if_pos e] at h; exact hq _ _ h
      · rename_i e; rw [if_neg e] at h; exact hq _ _ h
  | loop b ih =>
    intro e hq ⟨I, m, h1, h2⟩
    refine ⟨I, m, h1, fun e he => ih (fun x e h => ?_) (h2 e he)⟩
    cases x with
    | normal => exact h
    | exit id => exact hq _ _ h
    | ret => exact hq _ _ h
  | exit => intro e hq h; exact hq _ _ h
  | ret => intro e hq h; exact hq _ _ h


theorem loop_upto {b : L} {Q : QT} {e : List V} (n : Nat) (st : Nat → List V) (hinj : ∀ i j, i ≤ n → j ≤ n → st i = st j → i = j) (P : Nat → Prop) (h0 : e = st 0) (hP : P 0)
    (step : ∀ k, k ≤ n → P k → shL b (qS (fun e' => k < n ∧ e' = st (k + 1) ∧ P (k + 1)) Q) (st k)) : shL (.loop b) Q e := by
  classical
  refine ⟨fun e => ∃ k, k ≤ n ∧ P k ∧ e = st k, fun e => n - (if h : ∃ k, k ≤ n ∧ e = st k then h.choose else 0), ⟨0, by omega, hP, h0⟩, ?_⟩
  rintro _ ⟨k, hk, hp, rfl⟩
  have key : ∀ k, k ≤ n → (if h : ∃ k', k' ≤ n ∧ st k = st k' then h.choose else 0) = k := by
    intro k hk
    have hex : ∃ k', k' ≤ n ∧ st k = st k' := ⟨k, hk, rfl⟩
    rw [dif_pos hex]
    exact (hinj _ _ hk hex.choose_spec.1 hex.choose_spec.2).symm
  refine shL_mono (fun x e h => ?_) (step k hk hp)
  cases x with
  | normal =>
    obtain ⟨h1, rfl, h3⟩ := h
    refine ⟨⟨k + 1, by omega, h3, rfl⟩, ?_⟩
    simp only [key k hk, key (k + 1) (by omega)]
    omega
  | exit id => exact h
  | ret => exact h

theorem loop_st {σ : Type} {b : L} {Q : QT} {e : List V} (en : σ → List V) (hinj : ∀ a b, en a = en b → a = b) (I : σ → Prop) (m : σ → Nat) (s0 : σ) (h0 : e = en s0) (hI : I s0)
    (step : ∀ s, I s → shL b (qS (fun e' => ∃ s', e' = en s' ∧ I s' ∧ m s' < m s) Q) (en s)) : shL (.loop b) Q e := by
  classical
  refine ⟨fun e => ∃ s, I s ∧ e = en s, fun e => if h : ∃ s, e = en s then m h.choose else 0, ⟨s0, hI, h0⟩, ?_⟩
  rintro _ ⟨s, hs, rfl⟩
  have key : ∀ s, (if h : ∃ s', en s = en s' then m h.choose else 0) = m s := by
    intro s
    have hex : ∃ s', en s = en s' := ⟨s, rfl⟩
    rw [dif_pos hex, ← hinj _ _ hex.choose_spec]
  refine shL_mono (fun x e h => ?_) (step s hs)
  cases x with
  | normal =>
    obtain ⟨s', rfl, h2, h3⟩ := h
    exact ⟨⟨s', h2, rfl⟩, by simp only [key]; exact h3⟩
  | exit id => exact h
  | ret => exact h

end Go.Mw

namespace Go.Mw
open Go.RowKit Go.ChangeShapes

inductive TK where
  | int (k : IntKind)
  | bool
  | str
  | list (g : Bool) (ts : List TK)
  deriving Inhabited

mutual
def TK.ak : TK → AK
  | .list _ ts => .sl (TK.aks ts)
  | .int _ => .sc
  | .bool => .sc
  | .str => .sc
def TK.aks : List TK → List AK
  | [] => []
  | t :: ts => TK.ak t :: TK.aks ts
end

mutual
def okTK : TK → V → Prop
  | .int k, .int k' n => k' = k ∧ (Lit.int k n).wf = true
  | .bool, .bool _ => True
  | .str, .str l => l.length ≤ maxLen
  | .list g ts, .list ks es => ks = TK.aks ts ∧ es.length ≤ maxLen ∧ ∀ e ∈ es, (g = true → ∃ cs, e = .agg cs ∧ okTKs ts cs) ∧ (g = false → okTKs ts [e])
  | _, _ => False
def okTKs : List TK → List V → Prop
  | [], [] => True
  | t :: ts, d :: ds => okTK t d ∧ okTKs ts ds
  | _, _ => False
end

theorem okTK_ak {t : TK} {d : V} (h : okTK t d) : akOk t.ak d = true := by
  cases t <;> cases d <;> simp only [okTK] at h <;> simp only [TK.ak, akOk]
  rw [h.1]; exact AK.eqs_refl _

theorem okTKs_aks : ∀ {ts : List TK} {ds : List V}, okTKs ts ds → aksOk (TK.aks ts) ds = true
  | [], [], _ => rfl
  | [], _ :: _, h => by simp [okTKs] at h
  | _ :: _, [], h => by simp [okTKs] at h
  | t :: ts, d :: ds, h => by
    simp only [okTKs] at h
    simp only [TK.aks, aksOk, Bool.and_eq_true]
    exact ⟨okTK_ak h.1, okTKs_aks h.2⟩

theorem TK.aks_length : ∀ (ts : List TK), (TK.aks ts).length = ts.length
  | [] => rfl
  | _ :: ts => by simp [TK.aks, TK.aks_length ts]

theorem TK.aks_append : ∀ (ts ts' : List TK), TK.aks (ts ++ ts') = TK.aks ts ++ TK.aks ts'
  | [], _ => rfl
  | _ :: ts, ts' => by simp [TK.aks, TK.aks_append ts ts']

theorem okTKs_length : ∀ {ts : List TK} {ds : List V}, okTKs ts ds → ts.length = ds.length
  | [], [], _ => rfl
  | [], _ :: _, h => by simp [okTKs] at h
  | _ :: _, [], h => by simp [okTKs] at h
  | t :: ts, d :: ds, h => by simp only [okTKs] at h; simp [okTKs_length h.2]

theorem okTKs_append : ∀ {ts ts' : List TK} {ds ds' : List V}, okTKs ts ds → okTKs ts' ds' → okTKs (ts ++ ts') (ds ++ ds')
  | [], _, [], _, _, h => h
  | [], _, _ :: _, _, h, _ => by simp [okTKs] at h
  | _ :: _, _, [], _, h, _ => by simp [okTKs] at h
  | t :: ts, ts', d :: ds, ds', h, h' => by
    simp only [okTKs] at h
    simp only [List.cons_append, okTKs]
    exact ⟨h.1, okTKs_append h.2 h'⟩

def tksF (rc : TypeId → Option (List TK)) : Nat → List Field → Option (List TK)
  | _, [] => some []
  | j, f :: fs =>
    if f.offset == j then
      match rc f.type with
      | some a => (tksF rc (j + a.length) fs).map (a ++ ·)
      | none => none
    else none

def tks (P : Program) : Nat → TypeId → Option (List TK)
  | 0, _ => none
  | n + 1, t =>
    match P.underlying t with
    | some (.int k) => some [.int k]
    | some .bool => some [.bool]
    | some .string => some [.str]
    | some (.slice e) =>
      match tks P n e with
      | some (a :: as) => some [.list (isStruct P e) (a :: as)]
      | _ => none
    | some (.struct fs) =>
      match tksF (tks P n) 0 fs.toList with
      | some a => if a.length == P.cellsOf t then some a else none
      | none => none
    | _ => none

theorem tks_one {P : Program} {n : Nat} {t : TypeId} {ts : List TK} (h : tks P n t = some ts) (hs : isStruct P t = false) : ∃ k, ts = [k] := by
  cases n with
  | zero => simp [tks] at h
  | succ n =>
    simp only [tks] at h
    unfold isStruct at hs
    split at h
    · simp only [Option.some.injEq] at h; exact ⟨_, h.symm⟩
    · simp only [Option.some.injEq] at h; exact ⟨_, h.symm⟩
    · simp only [Option.some.injEq] at h; exact ⟨_, h.symm⟩
    · split at h <;> simp only [Option.some.injEq, reduceCtorEq] at h
      exact ⟨_, h.symm⟩
    · simp_all
    · cases h

theorem okTKs_one_inv {k : TK} {v : V} {ds : List V} (h : okTKs [k] (v :: ds)) : ds = [] ∧ okTK k v := by
  cases ds with
  | nil => simp only [okTKs] at h; exact ⟨rfl, h.1⟩
  | cons d ds => simp [okTKs] at h

theorem okTK_cells {k : TK} {v : V} (h : okTK k v) : v.cells = [v] := by
  cases k <;> cases v <;> simp only [okTK] at h <;> rfl

section
variable {H : Type} {enc : TypeId × Value → H} {P : Program} {w : World} {held : Bool}

theorem cells?_get {base : Nat} {a : Addr} {n : Nat} {cs : List Value} (h : w.cells? base a n = some cs) : cs.length = n ∧ ∀ j v, cs[j]? = some v → w.cell? (a.add j) = some v := by
  unfold World.cells? at h
  split at h
  · have key : ∀ (l : List Nat) (cs : List Value), l.mapM (fun i => w.cell? (a.add i)) = some cs → cs.length = l.length ∧ ∀ (j : Nat) v, cs[j]? = some v → ∃ i, l[j]? = some i ∧ w.cell? (a.add i) = some v := by
      intro l
      induction l with
      | nil => intro cs h; simp at h; subst h; simp
      | cons i l ih =>
        intro cs h
        rw [List.mapM_cons] at h
        cases h1 : w.cell? (a.add i) with
        | none => simp [h1] at h
        | some v =>
          cases h2 : l.mapM (fun i => w.cell? (a.add i)) with
          | none => simp [h1, h2] at h
          | some vs =>
            simp [h1, h2] at h
            subst h
            obtain ⟨g1, g2⟩ := ih vs h2
            refine ⟨by simp [g1], fun j u hj => ?_⟩
            cases j with
            | zero => simp at hj; subst hj; exact ⟨i, rfl, h1⟩
            | succ j => simpa using g2 j u (by simpa using hj)
    obtain ⟨g1, g2⟩ := key _ _ h
    simp only [List.length_range] at g1
    refine ⟨g1, fun j v hj => ?_⟩
    obtain ⟨i, h1, h2⟩ := g2 j v hj
    rw [List.getElem?_eq_some_iff] at h1
    obtain ⟨_, h1⟩ := h1
    simp only [List.getElem_range] at h1
    subst h1
    exact h2
  · cases h

theorem cell?_inv {a : Addr} {v : Value} (h : w.cell? a = some v) : a.spot = none ∧ ∃ cs E fz, w.heap[a.block]? = some (.cells cs E fz) ∧ cs[a.off]? = some v := by
  unfold World.cell? at h
  split at h
  · rename_i c E fz hb
    split at h
    · cases h
    · rename_i hs
      exact ⟨by simpa using hs, c, E, fz, hb, h⟩
  · cases h

theorem addr_block (a : Addr) (n : Nat) : (a.add n).block = a.block := by unfold Addr.add; split <;> rfl
theorem addr_off (a : Addr) (n : Nat) : (a.add n).off = a.off + n := by unfold Addr.add; split <;> simp_all
theorem addr_zero (a : Addr) : a.add 0 = a := by simp [Addr.add]

theorem trod_rep : ∀ (fuel : Nat) {n : Nat} {t : TypeId} {ts : List TK} {cs : List Value} {x : DataW H × List MemPlace}, tks P n t = some ts → DataW.trod enc P w 0 (fun _ => true) held fuel t cs = some x →
    ∃ ds S, Rep w cs ds S ∧ okTKs ts ds
  | 0, _, _, _, _, _, _, h => by simp [DataW.trod] at h
  | fuel + 1, 0, _, _, _, _, ht, _ => by simp [tks] at ht
  | fuel + 1, n + 1, t, ts, cs, x, ht, h => by
    simp only [tks] at ht
    split at ht
    · rename_i k hu
      simp only [Option.some.injEq] at ht; subst ht
      obtain ⟨m, rfl, _, hwf⟩ := DataW.trod_int hu h
      exact ⟨[.int k m], [], .atom (.int k m) .nil, by simp [okTKs, okTK, hwf]⟩
    · rename_i hu
      simp only [Option.some.injEq] at ht; subst ht
      obtain ⟨b, rfl, _⟩ := DataW.trod_bool hu h
      exact ⟨[.bool b], [], .atom (.bool b) .nil, by simp [okTKs, okTK]⟩
    · rename_i hu
      simp only [Option.some.injEq] at ht; subst ht
      obtain ⟨s, rfl, _, hsz⟩ := DataW.trod_string hu h
      refine ⟨[.str s.data.toList], [], .atom (.str s _ rfl) .nil, ?_⟩
      simp only [okTKs, okTK, and_true]
      simpa using hsz
    · rename_i e hu
      split at ht <;> simp only [Option.some.injEq, reduceCtorEq] at ht
      rename_i k1 kr hte
      subst ht
      have hone := tks_one hte
      generalize hts : k1 :: kr = te at hte hone
      have htp : 0 < te.length := by rw [← hts]; simp
      rcases DataW.trod_slice hu h with ⟨rfl, _⟩ | ⟨a, len, cap, elems, rest, fu, hfu, rfl, _, _, hlc, hcm, hel, helem, hrest, _⟩
      · refine ⟨[.list (TK.aks te) []], [], .atom (.nil _) .nil, ?_⟩
        simp [okTKs, okTK]
      · have hfu' : fuel = fu := by omega
        subst hfu'
        -- one element
        have one : ∀ (j : Nat) (ys : List (DataW H × List MemPlace)) (i : Nat) , (w.cells? 0 (a.add (i * P.cellsOf e)) (P.cellsOf e)).bind (DataW.trod enc P w 0 (fun _ => true) held fuel e) = ys[j]? → j < ys.length →
            ∃ cs ds S, w.cells? 0 (a.add (i * P.cellsOf e)) (P.cellsOf e) = some cs ∧ Rep w cs ds S ∧ okTKs te ds := by
          intro j ys i h1 h2
          rw [List.getElem?_eq_getElem h2] at h1
          cases hc : w.cells? 0 (a.add (i * P.cellsOf e)) (P.cellsOf e) with
          | none => simp [hc] at h1
          | some cs =>
            simp only [hc, Option.bind_some] at h1
            obtain ⟨ds, S, g1, g2⟩ := trod_rep fuel hte h1
            exact ⟨cs, ds, S, rfl, g1, g2⟩
        by_cases hcap : cap = 0
        · subst hcap
          obtain rfl : len = 0 := by omega
          refine ⟨[.list (TK.aks te) []], [], .atom (.nil0 _ _) .nil, ?_⟩
          simp [okTKs, okTK]
        · -- the block
          have hfirst : ∃ cs ds S, w.cells? 0 (a.add (0 * P.cellsOf e)) (P.cellsOf e) = some cs ∧ Rep w cs ds S ∧ okTKs te ds := by
            by_cases h0 : len = 0
            · obtain ⟨r1, r2⟩ := hrest rfl
              have := r2 0 (by omega)
              rw [h0, Nat.zero_add] at this
              exact one 0 rest 0 this (by omega)
            · exact one 0 elems 0 (helem 0 (by omega)) (by omega)
          obtain ⟨cs0, ds0, S0, c1, c2, c3⟩ := hfirst
          obtain ⟨l1, l2⟩ := cells?_get c1
          have hk : P.cellsOf e = te.length := by rw [← l1, c2.length, okTKs_length c3]
          have hne : cs0 ≠ [] := by intro hh; rw [hh] at l1; simp at l1; omega
          obtain ⟨v0, hv0⟩ : ∃ v, cs0[0]? = some v := by cases cs0 with | nil => exact absurd rfl hne | cons v _ => exact ⟨v, rfl⟩
          obtain ⟨s1, blk, E, fz, s2, s3⟩ := cell?_inv (l2 0 v0 hv0)
          simp only [Nat.zero_mul, addr_zero] at s1 s2 s3
          have hspot : a = ⟨a.block, a.off, none⟩ := by
            cases a with | mk b o s => simp only [Addr.mk.injEq, true_and]; exact s1
          -- all the elements
          have all : ∀ m, m ≤ len → ∃ (vs : List Value) (es : List V) (S : List Nat), es.length = m ∧ vs.length = m * te.length ∧ Rep w vs (es.flatMap V.cells) S ∧ (∀ e' ∈ es, aksOk (TK.aks te) e'.cells = true) ∧
              (∀ e' ∈ es, (isStruct P e = true → ∃ cs, e' = .agg cs ∧ okTKs te cs) ∧ (isStruct P e = false → okTKs te [e'])) ∧ ∀ j, j < m * te.length → blk[a.off + j]? = vs[j]? := by
            intro m
            induction m with
            | zero => intro _; exact ⟨[], [], [], rfl, by simp, .nil, by simp, by simp, by simp⟩
            | succ m ih =>
              intro hm
              obtain ⟨vs, es, S, q1, q2, q3, q4, q5, q6⟩ := ih (by omega)
              obtain ⟨cs1, ds1, S1, p1, p2, p3⟩ := one m elems m (helem m (by omega)) (by omega)
              obtain ⟨m1, m2⟩ := cells?_get p1
              have p4 := okTKs_length p3
              obtain ⟨e', he', hok⟩ : ∃ e' : V, e'.cells = ds1 ∧ ((isStruct P e = true → ∃ cs, e' = .agg cs ∧ okTKs te cs) ∧ (isStruct P e = false → okTKs te [e'])) := by
                cases hst : isStruct P e with
                | true => exact ⟨.agg ds1, rfl, ⟨fun _ => ⟨ds1, rfl, p3⟩, fun h => (by cases h)⟩⟩
                | false =>
                  obtain ⟨k, hk1⟩ := hone hst
                  cases ds1 with
                  | nil => rw [hk1] at p4; simp at p4
                  | cons d ds1 =>
                    rw [hk1] at p3
                    obtain ⟨rfl, hd⟩ := okTKs_one_inv p3
                    exact ⟨d, okTK_cells hd, ⟨fun h => (by cases h), fun _ => (by rw [hk1]; exact p3)⟩⟩
              refine ⟨vs ++ cs1, es ++ [e'], S ++ S1, by simp [q1], by rw [List.length_append, q2, m1, hk, Nat.add_mul]; omega, ?_, ?_, ?_, ?_⟩
              · rw [List.flatMap_append]
                refine q3.append ?_
                simpa [he'] using p2
              · intro x hx
                rcases List.mem_append.1 hx with hx | hx
                · exact q4 x hx
                · simp only [List.mem_singleton] at hx
                  subst hx
                  rw [he']; exact okTKs_aks p3
              · intro x hx
                rcases List.mem_append.1 hx with hx | hx
                · exact q5 x hx
                · simp only [List.mem_singleton] at hx
                  subst hx
                  exact hok
              · intro j hj
                rw [Nat.add_mul, Nat.one_mul] at hj
                by_cases hjm : j < m * te.length
                · rw [q6 j hjm, List.getElem?_append_left (by omega)]
                · rw [List.getElem?_append_right (by omega)]
                  have hlt : j - vs.length < cs1.length := by omega
                  have := m2 (j - vs.length) _ (List.getElem?_eq_getElem hlt)
                  rw [List.getElem?_eq_getElem hlt]
                  obtain ⟨_, blk', E', fz', b1, b2⟩ := cell?_inv this
                  have e1 : ((a.add (m * P.cellsOf e)).add (j - vs.length)).block = a.block := by rw [addr_block, addr_block]
                  have e2 : ((a.add (m * P.cellsOf e)).add (j - vs.length)).off = a.off + j := by
                    rw [addr_off, addr_off, hk, q2]; omega
                  rw [e1, s2] at b1
                  rw [e2] at b2
                  simp only [Option.some.injEq, Obj.cells.injEq] at b1
                  obtain ⟨rfl, rfl, rfl⟩ := b1
                  exact b2
          obtain ⟨vs, es, S, q1, q2, q3, q4, q5, q6⟩ := all len (Nat.le_refl _)
          have hroom : a.off + len * te.length ≤ blk.size := by
            rcases Nat.eq_zero_or_pos (len * te.length) with h0 | h0
            · have : a.off < blk.size := (Array.getElem?_eq_some_iff.1 s3).1
              omega
            · have h1 := q6 (len * te.length - 1) (by omega)
              have h2 : len * te.length - 1 < vs.length := by omega
              rw [List.getElem?_eq_getElem h2] at h1
              have := (Array.getElem?_eq_some_iff.1 h1).1
              omega
          refine ⟨[.list (TK.aks te) es], a.block :: S ++ [], ?_, ?_⟩
          · rw [hspot]
            exact .row a.block a.off len cap (TK.aks te) es vs S blk E fz q1 q4 hlc s2 (by rw [TK.aks_length]; exact hroom) (by rw [TK.aks_length]; exact q6) q3 .nil
          · simp only [okTKs, okTK, and_true, true_and]
            exact ⟨by omega, q5⟩
    · rename_i fs hu
      split at ht
      · rename_i al htf
        split at ht <;> simp only [Option.some.injEq, reduceCtorEq] at ht
        rename_i hlen
        simp only [beq_iff_eq] at hlen
        subst ht
        obtain ⟨xs, fu, hfu, _, hcl, hxl, hx⟩ := DataW.trod_struct hu h
        have hfu' : fuel = fu := by omega
        subst hfu'
        have key : ∀ (l : List Field) (j i : Nat) (r : List TK), tksF (tks P n) j l = some r → (∀ (k : Nat) f, l[k]? = some f → fs[i + k]? = some f) → ∃ ds S, Rep w ((cs.drop j).take r.length) ds S ∧ okTKs r ds := by
          intro l
          induction l with
          | nil =>
            intro j i r h1 _
            simp only [tksF, Option.some.injEq] at h1
            subst h1
            exact ⟨[], [], by simpa using Rep.nil, trivial⟩
          | cons f l ih =>
            intro j i r h1 h2
            simp only [tksF] at h1
            split at h1
            · rename_i hoff
              simp only [beq_iff_eq] at hoff
              split at h1
              · rename_i a1 ha1
                simp only [Option.map_eq_some_iff] at h1
                obtain ⟨r1, hr1, rfl⟩ := h1
                have hf := h2 0 f rfl
                simp only [Nat.add_zero] at hf
                have hi : i < fs.size := (Array.getElem?_eq_some_iff.1 hf).1
                have hxi := hx i f hf
                rw [List.getElem?_eq_getElem (by omega)] at hxi
                obtain ⟨ds1, S1, g1, g2⟩ := trod_rep fuel ha1 hxi
                obtain ⟨ds2, S2, g3, g4⟩ := ih (j + a1.length) (i + 1) r1 hr1 (fun k f' hk => by
                  have := h2 (k + 1) f' (by simpa using hk)
                  rw [show i + 1 + k = i + (k + 1) by omega]; exact this)
                have hl1 := g1.length
                rw [← okTKs_length g2, hoff] at hl1
                rw [hoff] at g1
                have e1 : (cs.drop j).take a1.length = (cs.drop j).take (P.cellsOf f.type) := by
                  have hle : a1.length ≤ P.cellsOf f.type := by
                    have := hl1; simp only [List.length_take] at this; omega
                  have hcase : a1.length = P.cellsOf f.type ∨ (cs.drop j).length = a1.length := by
                    simp only [List.length_take] at hl1; omega
                  rcases hcase with h | h
                  · rw [h]
                  · rw [List.take_of_length_le (by omega), List.take_of_length_le (by omega)]
                refine ⟨ds1 ++ ds2, S1 ++ S2, ?_, okTKs_append g2 g4⟩
                rw [List.length_append, List.take_add, e1, List.drop_drop]
                exact g1.append g3
              · cases h1
            · cases h1
        obtain ⟨ds, S, g1, g2⟩ := key fs.toList 0 0 al htf (fun k f hk => by simpa using hk)
        refine ⟨ds, S, ?_, g2⟩
        rw [List.drop_zero, hlen, ← hcl, List.take_length] at g1
        exact g1
      · cases ht
    · cases ht

end

end Go.Mw

namespace Go.Mw
open Go.RowKit Go.ChangeShapes

theorem cellsR_of {w : World} : ∀ {ts : List TK} {us : List Value} {ds : List V} {S : List Nat}, okTKs ts ds → Rep w us ds S → CellsR w (TK.aks ts) us ds S
  | [], us, ds, S, h, hr => by
    cases ds with
    | nil => obtain ⟨rfl, rfl⟩ := hr.nil_inv; exact .nil
    | cons => simp [okTKs] at h
  | t :: ts, us, ds, S, h, hr => by
    cases ds with
    | nil => simp [okTKs] at h
    | cons d ds =>
      simp only [okTKs] at h
      obtain ⟨u, us', S1, S2, rfl, rfl, h1, h2⟩ := hr.cons_inv
      have hk := okTK_ak h.1
      have ih := cellsR_of h.2 h2
      simp only [TK.aks]
      cases t with
      | list g l => exact .sl h1 ih
      | int k => obtain rfl := akOk_scalar (by simpa only [TK.ak] using hk) h1; exact .sc h1 ih
      | bool => obtain rfl := akOk_scalar (by simpa only [TK.ak] using hk) h1; exact .sc h1 ih
      | str => obtain rfl := akOk_scalar (by simpa only [TK.ak] using hk) h1; exact .sc h1 ih

def lawTs (P : Program) (ts : List TypeId) : Option (List (Bool × List TK)) := mapO (fun t => (tks P 6 t).map (isStruct P t, ·)) ts

def lawPs (l : List (Bool × List TK)) : List PK := l.map fun x => .val x.1 (TK.aks x.2)

section
variable {H : Type} {enc : TypeId × Value → H} {P : Program} {W : World}

theorem pack_of {t : TypeId} {v : Value} {base : Nat} {ts : List TK} (h : Value.okWide P W .any base t v) (hts : tks P 6 t = some ts) : packV (isStruct P t) v.cells.toList v := by
  unfold Value.okWide at h
  unfold packV isStruct
  simp only [tks] at hts
  have one : ∀ {td : TypeDesc}, P.underlying t = some td → (∀ fs, td ≠ .struct fs) → Cell.okWide P W .any base t v → (∀ cs, v ≠ .agg cs) → [v] = [v] ∧ v.cells.toList = [v] := by
    intro td _ _ _ hv
    refine ⟨rfl, ?_⟩
    cases v <;> first | rfl | exact absurd rfl (hv _)
  split at hts
  · rename_i k hu
    rw [hu] at h
    simp only at h
    rw [hu]
    simp only [Bool.false_eq_true, if_false]
    refine (one hu (by simp) h fun cs e => ?_).2
    subst e
    simp [Cell.okWide, Cell.ok, hu] at h
  · rename_i hu
    rw [hu] at h
    simp only at h
    rw [hu]
    simp only [Bool.false_eq_true, if_false]
    refine (one hu (by simp) h fun cs e => ?_).2
    subst e
    simp [Cell.okWide, Cell.ok, hu] at h
  · rename_i hu
    rw [hu] at h
    simp only at h
    rw [hu]
    simp only [Bool.false_eq_true, if_false]
    refine (one hu (by simp) h fun cs e => ?_).2
    subst e
    simp [Cell.okWide, Cell.ok, hu] at h
  · rename_i e hu
    rw [hu] at h
    simp only at h
    rw [hu]
    simp only [Bool.false_eq_true, if_false]
    refine (one hu (by simp) h fun cs e => ?_).2
    subst e
    simp [Cell.okWide, Cell.ok, hu] at h
  · rename_i fs hu
    rw [hu] at h
    simp only [hu, if_true] at h ⊢
    obtain ⟨cs, rfl, _⟩ := h
    simp [Value.cells]
  · cases hts

theorem args_of {base : Nat} {held : Bool} : ∀ {ts : List TypeId} {vs : List Value} {ds : List (DataW H)} {p : List MemPlace} {l : List (Bool × List TK)}, DataW.TrodAll enc P W 0 (fun _ => true) held ts vs ds p →
    (∀ (j : Nat) t v, ts[j]? = some t → vs[j]? = some v → Value.okWide P W .any base t v) → lawTs P ts = some l →
    ∃ vds ro, ArgsR W (lawPs l) vs vds ro [] [] [] ∧ okTKs (l.flatMap (·.2)) vds
  | [], [], [], _, l, _, _, hl => by
    simp only [lawTs, mapO, Option.some.injEq] at hl
    subst hl
    exact ⟨[], [], .nil, trivial⟩
  | t :: ts, v :: vs, d :: ds, p, l, h, hv, hl => by
    obtain ⟨p1, q, ⟨fuel, h1⟩, h2, _⟩ := h
    simp only [lawTs, mapO] at hl
    split at hl <;> simp only [Option.some.injEq, reduceCtorEq] at hl
    rename_i b bs hb hbs
    subst hl
    obtain ⟨k, hk, rfl⟩ := Option.map_eq_some_iff.1 hb
    obtain ⟨ds1, S, g1, g2⟩ := trod_rep fuel hk h1
    obtain ⟨vds, ro, g3, g4⟩ := args_of h2 (fun j t v h1 h2 => hv (j + 1) t v (by simpa using h1) (by simpa using h2)) (l := bs) hbs
    refine ⟨ds1 ++ vds, S ++ ro, .val (cellsR_of g2 g1) (pack_of (hv 0 t v rfl rfl) hk) g3, ?_⟩
    rw [List.flatMap_cons]
    exact okTKs_append g2 g4
  | [], _ :: _, _, _, _, h, _, _ => by simp [DataW.TrodAll] at h
  | [], [], _ :: _, _, _, h, _, _ => by simp [DataW.TrodAll] at h
  | _ :: _, [], _, _, _, h, _, _ => by simp [DataW.TrodAll] at h
  | _ :: _, _ :: _, [], _, _, h, _, _ => by simp [DataW.TrodAll] at h

theorem trodAll_stays (hl : laidOutB P = true) : ∀ {ts : List TypeId} {vs : List Value} {ds : List (DataW H)} {p : List MemPlace} {W' : World} {sp : Nat → Bool}, (∀ t ∈ ts, P.readableRec t = true ∧ t < P.types.size) →
    DataW.TrodAll enc P W 0 (fun _ => true) true ts vs ds p → (∀ x ∈ p, W.sameAt W' x) → (∀ x ∈ p, sp x.block = true) → DataW.TrodAll enc P W' 0 sp true ts vs ds p
  | [], [], [], _, _, _, _, h, _, _ => h
  | t :: ts, v :: vs, d :: ds, _, _, _, hr, ⟨p1, q, h1, h2, e⟩, hs, hp => by
    subst e
    exact ⟨p1, q, WideElems.Trod_stays hl (hr t (by simp)).1 (hr t (by simp)).2 h1 (fun x hx => hs x (by simp [hx])) (fun x hx => hp x (by simp [hx])),
      trodAll_stays hl (fun t ht => hr t (by simp [ht])) h2 (fun x hx => hs x (by simp [hx])) (fun x hx => hp x (by simp [hx])), rfl⟩
  | [], _ :: _, _, _, _, _, _, h, _, _ => by simp [DataW.TrodAll] at h
  | [], [], _ :: _, _, _, _, _, h, _, _ => by simp [DataW.TrodAll] at h
  | _ :: _, [], _, _, _, _, _, h, _, _ => by simp [DataW.TrodAll] at h
  | _ :: _, _ :: _, [], _, _, _, _, h, _, _ => by simp [DataW.TrodAll] at h

theorem Moved.same {w w' : World} {gd : Bool} (h : Moved w w' (· ∈ ([] : List Nat)) gd) {p : MemPlace} (hp : p.block < w.heap.size) : w.sameAt w' p := by
  cases p with
  | cell b off =>
    have := h.block b hp (by simp)
    simp only [World.sameAt, World.cell?, this]
  | map b => exact h.block b hp (by simp)

theorem Moved.keptBut {w w' : World} {gd : Bool} (h : Moved w w' (· ∈ ([] : List Nat)) gd) (may : MemPlace → Prop) : w.keptBut w' may := by
  refine ⟨h.os, h.output, fun i hi => ?_⟩
  rw [h.block i hi (by simp)]
  cases hq : w.heap[i]? with
  | none => rfl
  | some o =>
    cases o with
    | cells c t fr => exact ⟨rfl, rfl, rfl, fun _ _ => rfl⟩
    | map es cl => exact .inr ⟨rfl, rfl⟩
    | _ => rfl

theorem law_calls {G : Gl} {f : FuncId} {l : List (Bool × List TK)} {F : List V → Option (List V)} (hC : Contract G P f ⟨lawPs l, [(false, [.sc])], F⟩) (hG : G.Ok W) (hF : ∀ ds, okTKs (l.flatMap (·.2)) ds → F ds = some [.bool true])
    {ts : List TypeId} (hl : lawTs P ts = some l) {base : Nat} {vs : Array Value} {ds : List (DataW H)} {p : List MemPlace} (hA : DataW.TrodAll enc P W 0 (fun _ => true) true ts vs.toList ds p)
    (hv : ∀ (j : Nat) t v, ts[j]? = some t → vs.toList[j]? = some v → Value.okWide P W .any base t v) : Calls P f vs W fun e W' => e = .returned (.bool true) ∧ Moved W W' (· ∈ ([] : List Nat)) G.dr := by
  obtain ⟨vds, ro, h1, h2⟩ := args_of hA hv hl
  have := hC.1 W vs.toList vds [.bool true] ro [] [] [] hG (hF _ h2) h1 (by simp [ioB]) (by simp [ioB]) (by simp [ioB])
  rw [Array.toArray_toList] at this
  refine this.mono fun e W' ⟨⟨v, vs', d1, d2, d3, S, ho, he, hret, hres, _, _, hrows, hboxes⟩, hm⟩ => ⟨?_, hm⟩
  cases hrows
  cases hboxes
  cases hres with
  | cons hc hp t =>
    cases t
    cases hc with
    | sc hrep hc' =>
      cases hc'
      simp only [List.append_nil, List.cons.injEq, and_true] at ho
      subst ho
      cases hrep with
      | atom ha _ =>
        cases ha
        simp only [packV, Bool.false_eq_true, if_false, List.cons.injEq, and_true] at hp
        subst hp
        simp only [retV, List.length_cons, List.length_nil, Nat.zero_add, if_true, List.cons.injEq, and_true] at hret
        rw [he, hret]

end

theorem law_contract {H : Type} {enc : TypeId × Value → H} {C : Checked} {f : FuncId} {fn : Func} {s : ChangeSpec} {tb : TypeId} {l : List (Bool × List TK)} {F : List V → Option (List V)} {G : Gl}
    (hlaid : laidOutB C.prog = true) (hread : (fn.params.toList.all fun t => C.prog.readableRec t && decide (t < C.prog.types.size)) = true) (hres : fn.resultTypes = #[tb]) (hub : C.prog.underlying tb = some .bool) (hvars : s.vars = [])
    (hspec : ∀ ds : List (DataW H), ds.length = fn.params.size → s.fn H ds = { results := [.lit (.bool true)], args := ds }) (hl : lawTs C.prog fn.params.toList = some l)
    (hC : Contract G C.prog f ⟨lawPs l, [(false, [.sc])], F⟩) (hF : ∀ ds, okTKs (l.flatMap (·.2)) ds → F ds = some [.bool true])
    {W : World} {base : Nat} {args : Array Value} {ds gs : List (DataW H)} {before : List MemPlace} (hG : G.Ok W) (hval : ∀ (j : Nat) t v, fn.params[j]? = some t → args[j]? = some v → Value.okWide C.prog W .any base t v)
    (hW : DataW.Whole enc C.prog fn.params.toList s.vars false W args.toList ds gs before) :
    Calls C.prog f args W fun e W' => ∃ v, e = .returned v ∧ s.post enc C.prog fn false true false false W args v W' := by
  have hW' := hW
  obtain ⟨p, q, hA, hV, rfl, _, _⟩ := hW
  rw [hvars] at hV
  obtain ⟨rfl, rfl⟩ := trodVars_none hV
  have hlen : ds.length = fn.params.size := by
    have key : ∀ {ts : List TypeId} {vs : List Value} {ds : List (DataW H)} {p : List MemPlace}, DataW.TrodAll enc C.prog W 0 (fun _ => true) true ts vs ds p → ds.length = ts.length := by
      intro ts
      induction ts with
      | nil => intro vs ds p h; cases vs <;> cases ds <;> simp_all [DataW.TrodAll]
      | cons t ts ih =>
        intro vs ds p h
        cases vs <;> cases ds <;> simp only [DataW.TrodAll] at h
        obtain ⟨_, _, _, h2, _⟩ := h
        simp [ih h2]
    simpa using key hA
  have hs := hspec ds hlen
  have hlt : ∀ x ∈ p ++ [], x.block < W.heap.size := fun x hx => hW'.lt x hx
  refine (law_calls hC hG hF hl hA (fun j t v h1 h2 => hval j t v (by simpa using h1) (by simpa using h2))).mono fun e W' ⟨he, hm⟩ => ?_
  refine ⟨_, he, ds, [], p ++ [], [], p, [], hW', ?_, ?_, ?_, ?_, fun h => by cases h⟩
  · rw [List.append_nil, hs, hres]
    simp only [Value.resultList]
    exact ⟨[], [], shut_bool hub true, rfl, rfl⟩
  · rw [List.append_nil, hs]
    refine trodAll_stays hlaid (fun t ht => ?_) hA (fun x hx => hm.same (hlt x (by simpa using hx))) (fun x hx => ?_)
    · have := List.all_eq_true.1 hread t ht
      simpa using this
    · simpa using hlt x (by simpa using hx)
  · rw [List.append_nil, hs, hvars]
    rfl
  · exact hm.keptBut _

theorem law_lifted {H : Type} {enc : TypeId × Value → H} {C : Checked} {os : Os} {f : FuncId} {fn : Func} {s : ChangeSpec} {conds : List PathCond} {tb : TypeId} {l : List (Bool × List TK)} {F : List V → Option (List V)}
    (own : ownKnob C.prog.godebug = none) (started : os.Started) (noInit : C.prog.inits.idxOf? f = none) (hfn : C.prog.funcs[f]? = some fn)
    (witness : ∃ (w : World) (tape : Tape) (i : Input), w.os = os ∧ (w.forCall tape i).Shaped C.prog ∧ i.vars = [] ∧ Input.okWide C.prog (w.forCall tape i) .any w.heap.size f i ∧
      s.pre6 enc C.prog fn conds false (w.forCall tape i).memory i.args ∧ ({} : Assume).holds C.prog (lone (Frame.enter C.prog f i.args .normal) [] (w.forCall tape i)))
    (hlaid : laidOutB C.prog = true) (hread : (fn.params.toList.all fun t => C.prog.readableRec t && decide (t < C.prog.types.size)) = true) (hres : fn.resultTypes = #[tb]) (hub : C.prog.underlying tb = some .bool) (hvars : s.vars = [])
    (hspec : ∀ ds : List (DataW H), ds.length = fn.params.size → s.fn H ds = { results := [.lit (.bool true)], args := ds }) (hl : lawTs C.prog fn.params.toList = some l)
    (hC : Contract .zero C.prog f ⟨lawPs l, [(false, [.sc])], F⟩) (hF : ∀ ds, okTKs (l.flatMap (·.2)) ds → F ds = some [.bool true]) :
    ReturnsInHanded {} C os f .any (s.pre6 enc C.prog fn conds false) (s.post enc C.prog fn false true false false) := by
  refine returnsInHanded_of_change own started noInit hfn witness ?_
  intro W base args ds gs before hval hW _ _
  exact law_contract hlaid hread hres hub hvars hspec hl hC hF (fun _ _ h => by cases h) hval hW
end Go.Mw

namespace Go.Mw

def P0 (p : Prim) (as : List V) (k : Prop) : Prop := p.run as = some [] ∧ k
@[simp] theorem P0_chkLe {k1 k2 : IntKind} {a b : Int} {k : Prop} : P0 .chkLe [.int k1 a, .int k2 b] k ↔ (a ≤ b ∧ k) := by
  unfold P0
  simp only [Prim.run]
  by_cases h : a ≤ b <;> simp [h]
def P1 (p : Prim) (as : List V) (k : V → Prop) : Prop := ∃ a, p.run as = some [a] ∧ k a
def P2 (p : Prim) (as : List V) (k : V → V → Prop) : Prop := ∃ a b, p.run as = some [a, b] ∧ k a b
def P3 (p : Prim) (as : List V) (k : V → V → V → Prop) : Prop := ∃ a b c, p.run as = some [a, b, c] ∧ k a b c
def P4 (p : Prim) (as : List V) (k : V → V → V → V → Prop) : Prop := ∃ a b c d, p.run as = some [a, b, c, d] ∧ k a b c d
def P5 (p : Prim) (as : List V) (k : V → V → V → V → V → Prop) : Prop := ∃ a b c d e, p.run as = some [a, b, c, d, e] ∧ k a b c d e
def P6 (p : Prim) (as : List V) (k : V → V → V → V → V → V → Prop) : Prop := ∃ a b c d e f, p.run as = some [a, b, c, d, e, f] ∧ k a b c d e f
def P7 (p : Prim) (as : List V) (k : V → V → V → V → V → V → V → Prop) : Prop := ∃ a b c d e f g, p.run as = some [a, b, c, d, e, f, g] ∧ k a b c d e f g
def P8 (p : Prim) (as : List V) (k : V → V → V → V → V → V → V → V → Prop) : Prop := ∃ a b c d e f g h, p.run as = some [a, b, c, d, e, f, g, h] ∧ k a b c d e f g h
def P9 (p : Prim) (as : List V) (k : V → V → V → V → V → V → V → V → V → Prop) : Prop := ∃ a b c d e f g h i, p.run as = some [a, b, c, d, e, f, g, h, i] ∧ k a b c d e f g h i
def P10 (p : Prim) (as : List V) (k : V → V → V → V → V → V → V → V → V → V → Prop) : Prop := ∃ a b c d e f g h i j, p.run as = some [a, b, c, d, e, f, g, h, i, j] ∧ k a b c d e f g h i j
def P11 (p : Prim) (as : List V) (k : V → V → V → V → V → V → V → V → V → V → V → Prop) : Prop := ∃ a b c d e f g h i j l, p.run as = some [a, b, c, d, e, f, g, h, i, j, l] ∧ k a b c d e f g h i j l
def P12 (p : Prim) (as : List V) (k : V → V → V → V → V → V → V → V → V → V → V → V → Prop) : Prop := ∃ a b c d e f g h i j l m, p.run as = some [a, b, c, d, e, f, g, h, i, j, l, m] ∧ k a b c d e f g h i j l m

@[simp] theorem qS_normal (k : List V → Prop) (Q : QT) (e : List V) : qS k Q .normal e = k e := rfl
@[simp] theorem qS_exit (k : List V → Prop) (Q : QT) (i : Nat) (e : List V) : qS k Q (.exit i) e = Q (.exit i) e := rfl
@[simp] theorem qS_ret (k : List V → Prop) (Q : QT) (e : List V) : qS k Q .ret e = Q .ret e := rfl
@[simp] theorem qB_normal (i : Nat) (Q : QT) (e : List V) : qB i Q .normal e = Q .normal e := rfl
@[simp] theorem qB_ret (i : Nat) (Q : QT) (e : List V) : qB i Q .ret e = Q .ret e := rfl
@[simp] theorem qB_exit (i j : Nat) (Q : QT) (e : List V) : qB i Q (.exit j) e = if j = i then Q .normal e else Q (.exit j) e := rfl
@[simp] theorem qRet_ret (outs e : List V) : qRet outs .ret e ↔ e = outs := by simp [qRet]
@[simp] theorem qRet_normal (outs e : List V) : qRet outs .normal e ↔ False := by simp [qRet]
@[simp] theorem qRet_exit (outs e : List V) (i : Nat) : qRet outs (.exit i) e ↔ False := by simp [qRet]

@[simp] theorem ifB_bool (b : Bool) (A B : Prop) : ifB (.bool b) A B ↔ (b = true → A) ∧ (b = false → B) := by
  cases b <;> simp [ifB]

theorem P1_of {p : Prim} {as : List V} {v : V} (h : p.run as = some [v]) (k : V → Prop) : P1 p as k ↔ k v := by
  unfold P1
  rw [h]
  constructor
  · rintro ⟨a, e, h⟩
    simp only [Option.some.injEq, List.cons.injEq, and_true] at e
    subst e
    exact h
  · intro h
    exact ⟨v, rfl, h⟩

theorem P1_opt {p : Prim} {as : List V} {c : Prop} [Decidable c] {v : V} (h : p.run as = if c then some [v] else none) (k : V → Prop) : P1 p as k ↔ c ∧ k v := by
  unfold P1
  rw [h]
  split
  · rename_i hc
    constructor
    · rintro ⟨a, e, h⟩
      simp only [Option.some.injEq, List.cons.injEq, and_true] at e
      subst e
      exact ⟨hc, h⟩
    · intro h
      exact ⟨v, rfl, h.2⟩
  · rename_i hc
    constructor
    · rintro ⟨a, e, _⟩
      cases e
    · intro h
      exact absurd h.1 hc

section
variable {κ : IntKind} {a b : Int} {k : V → Prop}

@[simp] theorem P1_add : P1 (.bin .add) [.int κ a, .int κ b] k ↔ k (.int κ (κ.wrap (a + b))) := P1_of (by simp [Prim.run, binV, binI]) k
@[simp] theorem P1_sub : P1 (.bin .sub) [.int κ a, .int κ b] k ↔ k (.int κ (κ.wrap (a - b))) := P1_of (by simp [Prim.run, binV, binI]) k
@[simp] theorem P1_mul : P1 (.bin .mul) [.int κ a, .int κ b] k ↔ k (.int κ (κ.wrap (a * b))) := P1_of (by simp [Prim.run, binV, binI]) k
@[simp] theorem P1_quo : P1 (.bin .quo) [.int κ a, .int κ b] k ↔ b ≠ 0 ∧ k (.int κ (κ.wrap (a.tdiv b))) := P1_opt (c := b ≠ 0) (by simp [Prim.run, binV, binI]; split <;> simp_all) k
@[simp] theorem P1_rem : P1 (.bin .rem) [.int κ a, .int κ b] k ↔ b ≠ 0 ∧ k (.int κ (a.tmod b)) := P1_opt (c := b ≠ 0) (by simp [Prim.run, binV, binI]; split <;> simp_all) k
@[simp] theorem P1_eql : P1 (.bin .eql) [.int κ a, .int κ b] k ↔ k (.bool (a == b)) := P1_of (by simp [Prim.run, binV, binI]) k
@[simp] theorem P1_neq : P1 (.bin .neq) [.int κ a, .int κ b] k ↔ k (.bool (a != b)) := P1_of (by simp [Prim.run, binV, binI]) k
@[simp] theorem P1_lss : P1 (.bin .lss) [.int κ a, .int κ b] k ↔ k (.bool (decide (a < b))) := P1_of (by simp [Prim.run, binV, binI]) k
@[simp] theorem P1_leq : P1 (.bin .leq) [.int κ a, .int κ b] k ↔ k (.bool (decide (a ≤ b))) := P1_of (by simp [Prim.run, binV, binI]) k
@[simp] theorem P1_gtr : P1 (.bin .gtr) [.int κ a, .int κ b] k ↔ k (.bool (decide (b < a))) := P1_of (by simp [Prim.run, binV, binI]) k
@[simp] theorem P1_geq : P1 (.bin .geq) [.int κ a, .int κ b] k ↔ k (.bool (decide (b ≤ a))) := P1_of (by simp [Prim.run, binV, binI]) k
@[simp] theorem P1_neg : P1 (.un .neg) [.int κ a] k ↔ k (.int κ (κ.wrap (0 - a))) := P1_of (by simp [Prim.run, unV]) k
@[simp] theorem P1_conv {κ' : IntKind} : P1 (.conv κ') [.int κ a] k ↔ k (.int κ' (κ'.wrap a)) := P1_of (by simp [Prim.run]) k
@[simp] theorem P1_mx1 : P1 .mx [.int κ a] k ↔ k (.int κ a) := P1_of (by simp [Prim.run]) k
@[simp] theorem P1_mx2 : P1 .mx [.int κ a, .int κ b] k ↔ k (.int κ (max a b)) := P1_of (by simp [Prim.run, mx2]; omega) k
@[simp] theorem P1_mn2 : P1 .mn [.int κ a, .int κ b] k ↔ k (.int κ (min a b)) := P1_of (by simp [Prim.run, mn2]; omega) k
@[simp] theorem P1_mx3 {c : Int} : P1 .mx [.int κ a, .int κ b, .int κ c] k ↔ k (.int κ (max (max a b) c)) := P1_of (by simp [Prim.run, mx2]; omega) k
@[simp] theorem P1_mn3 {c : Int} : P1 .mn [.int κ a, .int κ b, .int κ c] k ↔ k (.int κ (min (min a b) c)) := P1_of (by simp [Prim.run, mn2]; omega) k
end

section
variable {k : V → Prop}
@[simp] theorem P1_not {b : Bool} : P1 (.un .not) [.bool b] k ↔ k (.bool (!b)) := P1_of (by simp [Prim.run, unV]) k
@[simp] theorem P1_beql {a b : Bool} : P1 (.binb .eql) [.bool a, .bool b] k ↔ k (.bool (a == b)) := P1_of (by simp [Prim.run, binB]) k
@[simp] theorem P1_bneq {a b : Bool} : P1 (.binb .neq) [.bool a, .bool b] k ↔ k (.bool (!(a == b))) := P1_of (by simp [Prim.run, binB]) k
@[simp] theorem P1_pick {c : Bool} {x y : V} : P1 .pick [.bool c, x, y] k ↔ k (if c then x else y) := P1_of (by simp [Prim.run]) k
@[simp] theorem if_bool {c x y : Bool} : (if c = true then V.bool x else V.bool y) = .bool (if c then x else y) := by cases c <;> rfl
end

def vL {α : Type} (ks : List AK) (f : α → V) (l : List α) : V := .list ks (l.map f)

@[simp] theorem vL_nil {α : Type} {ks : List AK} {f : α → V} : vL ks f [] = .list ks [] := rfl
theorem vL_inj {α : Type} {ks : List AK} {f : α → V} (hf : ∀ a b, f a = f b → a = b) {l m : List α} (h : vL ks f l = vL ks f m) : l = m := by
  simp only [vL, V.list.injEq, true_and] at h
  exact List.map_inj_right hf |>.1 h

structure T2 where
  a : Int
  b : Int
  deriving DecidableEq, Inhabited
structure T3 where
  a : Int
  b : Int
  c : Int
  deriving DecidableEq, Inhabited

@[simp] theorem T2.eta (x : T2) : T2.mk x.a x.b = x := rfl
@[simp] theorem T3.eta (x : T3) : T3.mk x.a x.b x.c = x := rfl

def v1 (a : Int) : V := .int .i64 a
def v2 (a : T2) : V := .agg [.int .i64 a.a, .int .i64 a.b]
def v3 (a : T3) : V := .agg [.int .i64 a.a, .int .i64 a.b, .int .i64 a.c]
def vB (b : Bool) : V := .bool b
def vY (b : UInt8) : V := .int .u8 b.toNat
def vS (s : List UInt8) : V := .str s

theorem v1_inj (a b : Int) (h : v1 a = v1 b) : a = b := by simpa [v1] using h
theorem v2_inj (a b : T2) (h : v2 a = v2 b) : a = b := by
  cases a; cases b; simpa [v2] using h
theorem v3_inj (a b : T3) (h : v3 a = v3 b) : a = b := by
  cases a; cases b; simpa [v3] using h

def IL2 : List AK := [.sl [.sc, .sc]]
def IL1 : List AK := [.sl [.sc]]
abbrev I1 : List AK := [.sc]
abbrev I2 : List AK := [.sc, .sc]
abbrev I3 : List AK := [.sc, .sc, .sc]

def vLL2 (l : List T2) : V := vL I2 v2 l
def vLL1 (l : List Int) : V := vL I1 v1 l
theorem vY_eq {a b : UInt8} : (a.toNat : Int) = b.toNat ↔ a = b := by
  rw [Int.ofNat_inj]; exact UInt8.toNat_inj
theorem vY_inj (a b : UInt8) (h : vY a = vY b) : a = b := by simpa [vY, vY_eq] using h
theorem vS_inj (a b : List UInt8) (h : vS a = vS b) : a = b := by simpa [vS] using h
theorem vB_inj (a b : Bool) (h : vB a = vB b) : a = b := by simpa [vB] using h
@[simp] theorem vL_eqY {l m : List UInt8} : vL I1 vY l = vL I1 vY m ↔ l = m := ⟨vL_inj vY_inj, fun h => h ▸ rfl⟩
@[simp] theorem vL_eqS {l m : List (List UInt8)} : vL I1 vS l = vL I1 vS m ↔ l = m := ⟨vL_inj vS_inj, fun h => h ▸ rfl⟩
@[simp] theorem vL_eqB {l m : List Bool} : vL I1 vB l = vL I1 vB m ↔ l = m := ⟨vL_inj vB_inj, fun h => h ▸ rfl⟩
@[simp] theorem vL_eq1 {l m : List Int} : vL I1 v1 l = vL I1 v1 m ↔ l = m := ⟨vL_inj v1_inj, fun h => h ▸ rfl⟩
@[simp] theorem vL_eq2 {l m : List T2} : vL I2 v2 l = vL I2 v2 m ↔ l = m := ⟨vL_inj v2_inj, fun h => h ▸ rfl⟩
@[simp] theorem vL_eqL2 {l m : List (List T2)} : vL IL2 vLL2 l = vL IL2 vLL2 m ↔ l = m := ⟨vL_inj (fun a b h => by simpa [vLL2] using h), fun h => h ▸ rfl⟩
@[simp] theorem vL_eqL1 {l m : List (List Int)} : vL IL1 vLL1 l = vL IL1 vLL1 m ↔ l = m := ⟨vL_inj (fun a b h => by simpa [vLL1] using h), fun h => h ▸ rfl⟩
@[simp] theorem vL_eq3 {l m : List T3} : vL I3 v3 l = vL I3 v3 m ↔ l = m := ⟨vL_inj v3_inj, fun h => h ▸ rfl⟩

section
variable {α : Type} {ks : List AK} {f : α → V} {l m : List α} {k : V → Prop} {κ : IntKind} {i : Int}

@[simp] theorem P1_len : P1 .len [vL ks f l] k ↔ k (.int .i64 l.length) := P1_of (by simp [Prim.run, vL]) k
@[simp] theorem P1_len0 : P1 .len [.list ks []] k ↔ k (.int .i64 0) := P1_of (by simp [Prim.run]) k

theorem idx_run : Prim.run (.idx ks) [vL ks f l, .int κ i] = if 0 ≤ i then (l[i.toNat]?).map (fun x => (f x).cells) else none := by
  simp only [Prim.run, vL, AK.eqs_refl, Bool.true_and, List.getElem?_map, Option.map_map, decide_eq_true_eq]
  rfl

theorem P1_idx : P1 (.idx ks) [vL ks f l, .int κ i] k ↔ 0 ≤ i ∧ ∃ x, l[i.toNat]? = some x ∧ ∃ a, (f x).cells = [a] ∧ k a := by
  unfold P1
  rw [idx_run]
  constructor
  · rintro ⟨a, h, hk⟩
    split at h
    · rename_i h0
      obtain ⟨x, h1, h2⟩ := Option.map_eq_some_iff.1 h
      exact ⟨h0, x, h1, a, h2, hk⟩
    · cases h
  · rintro ⟨h0, x, h1, a, h2, hk⟩
    exact ⟨a, by rw [if_pos h0, h1, Option.map_some, h2], hk⟩

theorem P2_idx {k : V → V → Prop} : P2 (.idx ks) [vL ks f l, .int κ i] k ↔ 0 ≤ i ∧ ∃ x, l[i.toNat]? = some x ∧ ∃ a b, (f x).cells = [a, b] ∧ k a b := by
  unfold P2
  rw [idx_run]
  constructor
  · rintro ⟨a, b, h, hk⟩
    split at h
    · rename_i h0
      obtain ⟨x, h1, h2⟩ := Option.map_eq_some_iff.1 h
      exact ⟨h0, x, h1, a, b, h2, hk⟩
    · cases h
  · rintro ⟨h0, x, h1, a, b, h2, hk⟩
    exact ⟨a, b, by rw [if_pos h0, h1, Option.map_some, h2], hk⟩

theorem P3_idx {k : V → V → V → Prop} : P3 (.idx ks) [vL ks f l, .int κ i] k ↔ 0 ≤ i ∧ ∃ x, l[i.toNat]? = some x ∧ ∃ a b c, (f x).cells = [a, b, c] ∧ k a b c := by
  unfold P3
  rw [idx_run]
  constructor
  · rintro ⟨a, b, c, h, hk⟩
    split at h
    · rename_i h0
      obtain ⟨x, h1, h2⟩ := Option.map_eq_some_iff.1 h
      exact ⟨h0, x, h1, a, b, c, h2, hk⟩
    · cases h
  · rintro ⟨h0, x, h1, a, b, c, h2, hk⟩
    exact ⟨a, b, c, by rw [if_pos h0, h1, Option.map_some, h2], hk⟩

@[simp] theorem P1_idxI {l : List Int} : P1 (.idx [.sc]) [vL I1 v1 l, .int κ i] k ↔ 0 ≤ i ∧ ∃ x, l[i.toNat]? = some x ∧ k (.int .i64 x) := by
  rw [P1_idx]; simp [v1, V.cells]
@[simp] theorem P1_idxB {l : List Bool} : P1 (.idx [.sc]) [vL I1 vB l, .int κ i] k ↔ 0 ≤ i ∧ ∃ x, l[i.toNat]? = some x ∧ k (.bool x) := by
  rw [P1_idx]; simp [vB, V.cells]
@[simp] theorem P1_idxY {l : List UInt8} : P1 (.idx [.sc]) [vL I1 vY l, .int κ i] k ↔ 0 ≤ i ∧ ∃ x, l[i.toNat]? = some x ∧ k (.int .u8 x.toNat) := by
  rw [P1_idx]; simp [vY, V.cells]
@[simp] theorem P1_idxS {l : List (List UInt8)} : P1 (.idx [.sc]) [vL I1 vS l, .int κ i] k ↔ 0 ≤ i ∧ ∃ x, l[i.toNat]? = some x ∧ k (.str x) := by
  rw [P1_idx]; simp [vS, V.cells]
@[simp] theorem P2_idxI {l : List T2} {k : V → V → Prop} : P2 (.idx [.sc, .sc]) [vL I2 v2 l, .int κ i] k ↔ 0 ≤ i ∧ ∃ x, l[i.toNat]? = some x ∧ k (.int .i64 x.a) (.int .i64 x.b) := by
  rw [P2_idx]
  constructor
  · rintro ⟨h, x, h1, a, b, h2, h3⟩
    simp only [v2, V.cells, List.cons.injEq, and_true] at h2
    obtain ⟨rfl, rfl⟩ := h2
    exact ⟨h, x, h1, h3⟩
  · rintro ⟨h, x, h1, h3⟩
    exact ⟨h, x, h1, _, _, rfl, h3⟩
@[simp] theorem P3_idxI {l : List T3} {k : V → V → V → Prop} : P3 (.idx [.sc, .sc, .sc]) [vL I3 v3 l, .int κ i] k ↔ 0 ≤ i ∧ ∃ x, l[i.toNat]? = some x ∧ k (.int .i64 x.a) (.int .i64 x.b) (.int .i64 x.c) := by
  rw [P3_idx]
  constructor
  · rintro ⟨h, x, h1, a, b, c, h2, h3⟩
    simp only [v3, V.cells, List.cons.injEq, and_true] at h2
    obtain ⟨rfl, rfl, rfl⟩ := h2
    exact ⟨h, x, h1, h3⟩
  · rintro ⟨h, x, h1, h3⟩
    exact ⟨h, x, h1, _, _, _, rfl, h3⟩

@[simp] theorem P1_idxL2 {l : List (List T2)} : P1 (.idx [.sl [.sc, .sc]]) [vL IL2 vLL2 l, .int κ i] k ↔ 0 ≤ i ∧ ∃ x, l[i.toNat]? = some x ∧ k (vL I2 v2 x) := by
  show P1 (.idx IL2) _ _ ↔ _
  rw [P1_idx]; simp [vLL2, V.cells, vL]
@[simp] theorem P1_idxL1 {l : List (List Int)} : P1 (.idx [.sl [.sc]]) [vL IL1 vLL1 l, .int κ i] k ↔ 0 ≤ i ∧ ∃ x, l[i.toNat]? = some x ∧ k (vL I1 v1 x) := by
  show P1 (.idx IL1) _ _ ↔ _
  rw [P1_idx]; simp [vLL1, V.cells, vL]

theorem P1_call {F : List V → Option (List V)} {n : Nat} {as : List V} : P1 (.call F 0 n) as k ↔ ∃ a, F as = some [a] ∧ k a := Iff.rfl
theorem P2_call {F : List V → Option (List V)} {n : Nat} {as : List V} {k : V → V → Prop} : P2 (.call F 0 n) as k ↔ ∃ a b, F as = some [a, b] ∧ k a b := Iff.rfl
theorem P3_call {F : List V → Option (List V)} {n : Nat} {as : List V} {k : V → V → V → Prop} : P3 (.call F 0 n) as k ↔ ∃ a b c, F as = some [a, b, c] ∧ k a b c := Iff.rfl
theorem P4_call {F : List V → Option (List V)} {n : Nat} {as : List V} {k : V → V → V → V → Prop} : P4 (.call F 0 n) as k ↔ ∃ a b c d, F as = some [a, b, c, d] ∧ k a b c d := Iff.rfl
theorem P5_call {F : List V → Option (List V)} {n : Nat} {as : List V} {k : V → V → V → V → V → Prop} : P5 (.call F 0 n) as k ↔ ∃ a b c d e, F as = some [a, b, c, d, e] ∧ k a b c d e := Iff.rfl
theorem P6_call {F : List V → Option (List V)} {n : Nat} {as : List V} {k : V → V → V → V → V → V → Prop} : P6 (.call F 0 n) as k ↔ ∃ a b c d e f, F as = some [a, b, c, d, e, f] ∧ k a b c d e f := Iff.rfl
theorem P7_call {F : List V → Option (List V)} {n : Nat} {as : List V} {k : V → V → V → V → V → V → V → Prop} : P7 (.call F 0 n) as k ↔ ∃ a b c d e f g, F as = some [a, b, c, d, e, f, g] ∧ k a b c d e f g := Iff.rfl
theorem P8_call {F : List V → Option (List V)} {n : Nat} {as : List V} {k : V → V → V → V → V → V → V → V → Prop} : P8 (.call F 0 n) as k ↔ ∃ a b c d e f g h, F as = some [a, b, c, d, e, f, g, h] ∧ k a b c d e f g h := Iff.rfl
theorem P9_call {F : List V → Option (List V)} {n : Nat} {as : List V} {k : V → V → V → V → V → V → V → V → V → Prop} : P9 (.call F 0 n) as k ↔ ∃ a b c d e f g h i, F as = some [a, b, c, d, e, f, g, h, i] ∧ k a b c d e f g h i := Iff.rfl
theorem P10_call {F : List V → Option (List V)} {n : Nat} {as : List V} {k : V → V → V → V → V → V → V → V → V → V → Prop} : P10 (.call F 0 n) as k ↔ ∃ a b c d e f g h i j, F as = some [a, b, c, d, e, f, g, h, i, j] ∧ k a b c d e f g h i j := Iff.rfl
theorem P11_call {F : List V → Option (List V)} {n : Nat} {as : List V} {k : V → V → V → V → V → V → V → V → V → V → V → Prop} : P11 (.call F 0 n) as k ↔ ∃ a b c d e f g h i j l, F as = some [a, b, c, d, e, f, g, h, i, j, l] ∧ k a b c d e f g h i j l := Iff.rfl
theorem P12_call {F : List V → Option (List V)} {n : Nat} {as : List V} {k : V → V → V → V → V → V → V → V → V → V → V → V → Prop} : P12 (.call F 0 n) as k ↔ ∃ a b c d e f g h i j l m, F as = some [a, b, c, d, e, f, g, h, i, j, l, m] ∧ k a b c d e f g h i j l m := Iff.rfl
theorem P1_callF {F : List V → Option (List V)} {n : Nat} {as : List V} {v : V} {k : V → Prop} (h : F as = some [v]) : P1 (.call F 0 n) as k ↔ k v := P1_of (p := .call F 0 n) h k
theorem P2_of {p : Prim} {as : List V} {a' b' : V} {k : V → V → Prop} (hF : p.run as = some [a', b']) : P2 p as k ↔ k a' b' := by
  unfold P2
  rw [hF]
  constructor
  · rintro ⟨a, b, e, hk⟩
    simp only [Option.some.injEq, List.cons.injEq, and_true] at e
    obtain ⟨rfl, rfl⟩ := e
    exact hk
  · intro hk
    exact ⟨_, _, rfl, hk⟩
theorem P3_of {p : Prim} {as : List V} {a' b' c' : V} {k : V → V → V → Prop} (hF : p.run as = some [a', b', c']) : P3 p as k ↔ k a' b' c' := by
  unfold P3
  rw [hF]
  constructor
  · rintro ⟨a, b, c, e, hk⟩
    simp only [Option.some.injEq, List.cons.injEq, and_true] at e
    obtain ⟨rfl, rfl, rfl⟩ := e
    exact hk
  · intro hk
    exact ⟨_, _, _, rfl, hk⟩
theorem P4_of {p : Prim} {as : List V} {a' b' c' d' : V} {k : V → V → V → V → Prop} (hF : p.run as = some [a', b', c', d']) : P4 p as k ↔ k a' b' c' d' := by
  unfold P4
  rw [hF]
  constructor
  · rintro ⟨a, b, c, d, e, hk⟩
    simp only [Option.some.injEq, List.cons.injEq, and_true] at e
    obtain ⟨rfl, rfl, rfl, rfl⟩ := e
    exact hk
  · intro hk
    exact ⟨_, _, _, _, rfl, hk⟩
theorem P5_of {p : Prim} {as : List V} {a' b' c' d' e' : V} {k : V → V → V → V → V → Prop} (hF : p.run as = some [a', b', c', d', e']) : P5 p as k ↔ k a' b' c' d' e' := by
  unfold P5
  rw [hF]
  constructor
  · rintro ⟨a, b, c, d, e, e, hk⟩
    simp only [Option.some.injEq, List.cons.injEq, and_true] at e
    obtain ⟨rfl, rfl, rfl, rfl, rfl⟩ := e
    exact hk
  · intro hk
    exact ⟨_, _, _, _, _, rfl, hk⟩
theorem P6_of {p : Prim} {as : List V} {a' b' c' d' e' f' : V} {k : V → V → V → V → V → V → Prop} (hF : p.run as = some [a', b', c', d', e', f']) : P6 p as k ↔ k a' b' c' d' e' f' := by
  unfold P6
  rw [hF]
  constructor
  · rintro ⟨a, b, c, d, e, f, e, hk⟩
    simp only [Option.some.injEq, List.cons.injEq, and_true] at e
    obtain ⟨rfl, rfl, rfl, rfl, rfl, rfl⟩ := e
    exact hk
  · intro hk
    exact ⟨_, _, _, _, _, _, rfl, hk⟩
theorem P7_of {p : Prim} {as : List V} {a' b' c' d' e' f' g' : V} {k : V → V → V → V → V → V → V → Prop} (hF : p.run as = some [a', b', c', d', e', f', g']) : P7 p as k ↔ k a' b' c' d' e' f' g' := by
  unfold P7
  rw [hF]
  constructor
  · rintro ⟨a, b, c, d, e, f, g, e, hk⟩
    simp only [Option.some.injEq, List.cons.injEq, and_true] at e
    obtain ⟨rfl, rfl, rfl, rfl, rfl, rfl, rfl⟩ := e
    exact hk
  · intro hk
    exact ⟨_, _, _, _, _, _, _, rfl, hk⟩
theorem P8_of {p : Prim} {as : List V} {a' b' c' d' e' f' g' h' : V} {k : V → V → V → V → V → V → V → V → Prop} (hF : p.run as = some [a', b', c', d', e', f', g', h']) : P8 p as k ↔ k a' b' c' d' e' f' g' h' := by
  unfold P8
  rw [hF]
  constructor
  · rintro ⟨a, b, c, d, e, f, g, h, e, hk⟩
    simp only [Option.some.injEq, List.cons.injEq, and_true] at e
    obtain ⟨rfl, rfl, rfl, rfl, rfl, rfl, rfl, rfl⟩ := e
    exact hk
  · intro hk
    exact ⟨_, _, _, _, _, _, _, _, rfl, hk⟩
theorem P9_of {p : Prim} {as : List V} {a' b' c' d' e' f' g' h' i' : V} {k : V → V → V → V → V → V → V → V → V → Prop} (hF : p.run as = some [a', b', c', d', e', f', g', h', i']) : P9 p as k ↔ k a' b' c' d' e' f' g' h' i' := by
  unfold P9
  rw [hF]
  constructor
  · rintro ⟨a, b, c, d, e, f, g, h, i, e, hk⟩
    simp only [Option.some.injEq, List.cons.injEq, and_true] at e
    obtain ⟨rfl, rfl, rfl, rfl, rfl, rfl, rfl, rfl, rfl⟩ := e
    exact hk
  · intro hk
    exact ⟨_, _, _, _, _, _, _, _, _, rfl, hk⟩
theorem P10_of {p : Prim} {as : List V} {a' b' c' d' e' f' g' h' i' j' : V} {k : V → V → V → V → V → V → V → V → V → V → Prop} (hF : p.run as = some [a', b', c', d', e', f', g', h', i', j']) : P10 p as k ↔ k a' b' c' d' e' f' g' h' i' j' := by
  unfold P10
  rw [hF]
  constructor
  · rintro ⟨a, b, c, d, e, f, g, h, i, j, e, hk⟩
    simp only [Option.some.injEq, List.cons.injEq, and_true] at e
    obtain ⟨rfl, rfl, rfl, rfl, rfl, rfl, rfl, rfl, rfl, rfl⟩ := e
    exact hk
  · intro hk
    exact ⟨_, _, _, _, _, _, _, _, _, _, rfl, hk⟩
theorem P11_of {p : Prim} {as : List V} {a' b' c' d' e' f' g' h' i' j' l' : V} {k : V → V → V → V → V → V → V → V → V → V → V → Prop} (hF : p.run as = some [a', b', c', d', e', f', g', h', i', j', l']) : P11 p as k ↔ k a' b' c' d' e' f' g' h' i' j' l' := by
  unfold P11
  rw [hF]
  constructor
  · rintro ⟨a, b, c, d, e, f, g, h, i, j, l, e, hk⟩
    simp only [Option.some.injEq, List.cons.injEq, and_true] at e
    obtain ⟨rfl, rfl, rfl, rfl, rfl, rfl, rfl, rfl, rfl, rfl, rfl⟩ := e
    exact hk
  · intro hk
    exact ⟨_, _, _, _, _, _, _, _, _, _, _, rfl, hk⟩
theorem P12_of {p : Prim} {as : List V} {a' b' c' d' e' f' g' h' i' j' l' m' : V} {k : V → V → V → V → V → V → V → V → V → V → V → V → Prop} (hF : p.run as = some [a', b', c', d', e', f', g', h', i', j', l', m']) : P12 p as k ↔ k a' b' c' d' e' f' g' h' i' j' l' m' := by
  unfold P12
  rw [hF]
  constructor
  · rintro ⟨a, b, c, d, e, f, g, h, i, j, l, m, e, hk⟩
    simp only [Option.some.injEq, List.cons.injEq, and_true] at e
    obtain ⟨rfl, rfl, rfl, rfl, rfl, rfl, rfl, rfl, rfl, rfl, rfl, rfl⟩ := e
    exact hk
  · intro hk
    exact ⟨_, _, _, _, _, _, _, _, _, _, _, _, rfl, hk⟩

theorem callIo_run {F : List V → Option (List V)} {as rs outs : List V} {n nr : Nat} (hn : rs.length = n) (h0 : n ≠ 0) (hF : F as = some outs) (hk : ksAll rs (outs.drop nr) = true) (hf : rs.all flatV = true) : Prim.run (.call F n nr) (as ++ rs) = some outs := by
  simp only [Prim.run, if_neg h0, List.length_append, hn, Nat.add_sub_cancel]
  rw [List.take_left' rfl, List.drop_left' rfl, hF]
  simp only [hk, hf, Bool.and_self, if_true]
theorem callNIo_run {F : List V → Option (List V)} {as rs outs : List V} {n nr : Nat} (hn : rs.length = n) (hF : F as = some outs) (hk : ksAll rs (outs.drop nr) = true) : Prim.run (.callN F n nr) (as ++ rs) = some outs := by
  simp only [Prim.run, List.length_append, hn, Nat.add_sub_cancel]
  rw [List.take_left' rfl, List.drop_left' rfl, hF]
  simp only [hk, if_true]
theorem P2_callF {F : List V → Option (List V)} {n : Nat} {as : List V} {a' b' : V} {k : V → V → Prop} (hF : F as = some [a', b']) : P2 (.call F 0 n) as k ↔ k a' b' := P2_of (p := .call F 0 n) hF
theorem P3_callF {F : List V → Option (List V)} {n : Nat} {as : List V} {a' b' c' : V} {k : V → V → V → Prop} (hF : F as = some [a', b', c']) : P3 (.call F 0 n) as k ↔ k a' b' c' := P3_of (p := .call F 0 n) hF
theorem P4_callF {F : List V → Option (List V)} {n : Nat} {as : List V} {a' b' c' d' : V} {k : V → V → V → V → Prop} (hF : F as = some [a', b', c', d']) : P4 (.call F 0 n) as k ↔ k a' b' c' d' := P4_of (p := .call F 0 n) hF
theorem P5_callF {F : List V → Option (List V)} {n : Nat} {as : List V} {a' b' c' d' e' : V} {k : V → V → V → V → V → Prop} (hF : F as = some [a', b', c', d', e']) : P5 (.call F 0 n) as k ↔ k a' b' c' d' e' := P5_of (p := .call F 0 n) hF
theorem P6_callF {F : List V → Option (List V)} {n : Nat} {as : List V} {a' b' c' d' e' f' : V} {k : V → V → V → V → V → V → Prop} (hF : F as = some [a', b', c', d', e', f']) : P6 (.call F 0 n) as k ↔ k a' b' c' d' e' f' := P6_of (p := .call F 0 n) hF
theorem P7_callF {F : List V → Option (List V)} {n : Nat} {as : List V} {a' b' c' d' e' f' g' : V} {k : V → V → V → V → V → V → V → Prop} (hF : F as = some [a', b', c', d', e', f', g']) : P7 (.call F 0 n) as k ↔ k a' b' c' d' e' f' g' := P7_of (p := .call F 0 n) hF
theorem P8_callF {F : List V → Option (List V)} {n : Nat} {as : List V} {a' b' c' d' e' f' g' h' : V} {k : V → V → V → V → V → V → V → V → Prop} (hF : F as = some [a', b', c', d', e', f', g', h']) : P8 (.call F 0 n) as k ↔ k a' b' c' d' e' f' g' h' := P8_of (p := .call F 0 n) hF
theorem P9_callF {F : List V → Option (List V)} {n : Nat} {as : List V} {a' b' c' d' e' f' g' h' i' : V} {k : V → V → V → V → V → V → V → V → V → Prop} (hF : F as = some [a', b', c', d', e', f', g', h', i']) : P9 (.call F 0 n) as k ↔ k a' b' c' d' e' f' g' h' i' := P9_of (p := .call F 0 n) hF
theorem P10_callF {F : List V → Option (List V)} {n : Nat} {as : List V} {a' b' c' d' e' f' g' h' i' j' : V} {k : V → V → V → V → V → V → V → V → V → V → Prop} (hF : F as = some [a', b', c', d', e', f', g', h', i', j']) : P10 (.call F 0 n) as k ↔ k a' b' c' d' e' f' g' h' i' j' := P10_of (p := .call F 0 n) hF
theorem P11_callF {F : List V → Option (List V)} {n : Nat} {as : List V} {a' b' c' d' e' f' g' h' i' j' l' : V} {k : V → V → V → V → V → V → V → V → V → V → V → Prop} (hF : F as = some [a', b', c', d', e', f', g', h', i', j', l']) : P11 (.call F 0 n) as k ↔ k a' b' c' d' e' f' g' h' i' j' l' := P11_of (p := .call F 0 n) hF
theorem P12_callF {F : List V → Option (List V)} {n : Nat} {as : List V} {a' b' c' d' e' f' g' h' i' j' l' m' : V} {k : V → V → V → V → V → V → V → V → V → V → V → V → Prop} (hF : F as = some [a', b', c', d', e', f', g', h', i', j', l', m']) : P12 (.call F 0 n) as k ↔ k a' b' c' d' e' f' g' h' i' j' l' m' := P12_of (p := .call F 0 n) hF

theorem P1_mk {z : V} {bytes : Nat} {n : Int} {κ' : IntKind} (hz : aksOk ks z.cells = true) : P1 (.mk ks z bytes) [.int κ n, .int κ' n] k ↔ (0 ≤ n ∧ n * bytes ≤ 140737488355328 ∧ n ≤ 140737488355328) ∧ k (.list ks (List.replicate n.toNat z)) :=
  P1_opt (by simp [Prim.run, hz]) k

theorem replicate_vL {n : Nat} {x : α} : V.list ks (List.replicate n (f x)) = vL ks f (List.replicate n x) := by simp [vL]

@[simp] theorem P1_mkI {bytes : Nat} {n : Int} {κ' : IntKind} : P1 (.mk [.sc] (.int .i64 0) bytes) [.int κ n, .int κ' n] k ↔ (0 ≤ n ∧ n * bytes ≤ 140737488355328 ∧ n ≤ 140737488355328) ∧ k (vL I1 v1 (List.replicate n.toNat 0)) := by
  rw [P1_mk (by simp [aksOk, akOk, V.cells])]; simp [vL, v1]
@[simp] theorem P1_mkB {bytes : Nat} {n : Int} {κ' : IntKind} : P1 (.mk [.sc] (.bool false) bytes) [.int κ n, .int κ' n] k ↔ (0 ≤ n ∧ n * bytes ≤ 140737488355328 ∧ n ≤ 140737488355328) ∧ k (vL I1 vB (List.replicate n.toNat false)) := by
  rw [P1_mk (by simp [aksOk, akOk, V.cells])]; simp [vL, vB]
@[simp] theorem P1_mkY {bytes : Nat} {n : Int} {κ' : IntKind} : P1 (.mk [.sc] (.int .u8 0) bytes) [.int κ n, .int κ' n] k ↔ (0 ≤ n ∧ n * bytes ≤ 140737488355328 ∧ n ≤ 140737488355328) ∧ k (vL I1 vY (List.replicate n.toNat 0)) := by
  rw [P1_mk (by simp [aksOk, akOk, V.cells])]; simp [vL, vY]
@[simp] theorem P1_mkS {bytes : Nat} {n : Int} {κ' : IntKind} : P1 (.mk [.sc] (.str []) bytes) [.int κ n, .int κ' n] k ↔ (0 ≤ n ∧ n * bytes ≤ 140737488355328 ∧ n ≤ 140737488355328) ∧ k (vL I1 vS (List.replicate n.toNat [])) := by
  rw [P1_mk (by simp [aksOk, akOk, V.cells])]; simp [vL, vS]
@[simp] theorem P1_mk2 {bytes : Nat} {n : Int} {κ' : IntKind} : P1 (.mk [.sc, .sc] (.agg [.int .i64 0, .int .i64 0]) bytes) [.int κ n, .int κ' n] k ↔ (0 ≤ n ∧ n * bytes ≤ 140737488355328 ∧ n ≤ 140737488355328) ∧ k (vL I2 v2 (List.replicate n.toNat ⟨0, 0⟩)) := by
  rw [P1_mk (by simp [aksOk, akOk, V.cells])]; simp [vL, v2]
@[simp] theorem P1_mk3 {bytes : Nat} {n : Int} {κ' : IntKind} : P1 (.mk [.sc, .sc, .sc] (.agg [.int .i64 0, .int .i64 0, .int .i64 0]) bytes) [.int κ n, .int κ' n] k ↔ (0 ≤ n ∧ n * bytes ≤ 140737488355328 ∧ n ≤ 140737488355328) ∧ k (vL I3 v3 (List.replicate n.toNat ⟨0, 0, 0⟩)) := by
  rw [P1_mk (by simp [aksOk, akOk, V.cells])]; simp [vL, v3]
@[simp] theorem P1_mkL2 {bytes : Nat} {n : Int} {κ' : IntKind} : P1 (.mk [.sl [.sc, .sc]] (.list [.sc, .sc] []) bytes) [.int κ n, .int κ' n] k ↔ (0 ≤ n ∧ n * bytes ≤ 140737488355328 ∧ n ≤ 140737488355328) ∧ k (vL IL2 vLL2 (List.replicate n.toNat [])) := by
  rw [P1_mk (by simp [aksOk, akOk, V.cells, AK.eqs_refl])]; simp [vL, vLL2, IL2]
@[simp] theorem P1_mkL1 {bytes : Nat} {n : Int} {κ' : IntKind} : P1 (.mk [.sl [.sc]] (.list [.sc] []) bytes) [.int κ n, .int κ' n] k ↔ (0 ≤ n ∧ n * bytes ≤ 140737488355328 ∧ n ≤ 140737488355328) ∧ k (vL IL1 vLL1 (List.replicate n.toNat [])) := by
  rw [P1_mk (by simp [aksOk, akOk, V.cells, AK.eqs_refl])]; simp [vL, vLL1, IL1]
theorem P1_app {bytes : Nat} : P1 (.app ks bytes) [vL ks f l, vL ks f m] k ↔ ((l.length + m.length) * bytes ≤ 140737488355328 ∧ l.length + m.length ≤ 140737488355328) ∧ k (vL ks f (l ++ m)) :=
  P1_opt (by simp [Prim.run, vL, AK.eqs_refl]) k
theorem P1_app0 {bytes : Nat} : P1 (.app ks bytes) [.list ks [], vL ks f m] k ↔ (m.length * bytes ≤ 140737488355328 ∧ m.length ≤ 140737488355328) ∧ k (vL ks f m) :=
  P1_opt (by simp [Prim.run, vL, AK.eqs_refl]) k
theorem P1_app1 {bytes : Nat} : P1 (.app ks bytes) [vL ks f l, .list ks []] k ↔ (l.length * bytes ≤ 140737488355328 ∧ l.length ≤ 140737488355328) ∧ k (vL ks f l) :=
  P1_opt (by simp [Prim.run, vL, AK.eqs_refl]) k
theorem P1_app2 {bytes : Nat} : P1 (.app ks bytes) [.list ks [], .list ks []] k ↔ k (.list ks []) := P1_of (by simp [Prim.run, AK.eqs_refl]) k
end

section
variable {k : V → Prop} {κ : IntKind} {i : Int}

@[simp] theorem P1_lst1 {a : Int} : P1 (.lst [.sc] false 1) [.int .i64 a] k ↔ k (vL I1 v1 [a]) := P1_of (by simp [Prim.run, aksOk, akOk, chunk, V.pack, vL, v1]) k
@[simp] theorem P1_lst2 {a b : Int} : P1 (.lst [.sc, .sc] true 1) [.int .i64 a, .int .i64 b] k ↔ k (vL I2 v2 [⟨a, b⟩]) := P1_of (by simp [Prim.run, aksOk, akOk, chunk, V.pack, vL, v2]) k
@[simp] theorem P1_lst3 {a b c : Int} : P1 (.lst [.sc, .sc, .sc] true 1) [.int .i64 a, .int .i64 b, .int .i64 c] k ↔ k (vL I3 v3 [⟨a, b, c⟩]) := P1_of (by simp [Prim.run, aksOk, akOk, chunk, V.pack, vL, v3]) k
@[simp] theorem P1_lst0 {ks : List AK} {g : Bool} : P1 (.lst ks g 0) [] k ↔ k (.list ks []) := P1_of (by simp [Prim.run, aksOk, chunk]) k

theorem set_run {α : Type} {ks : List AK} {f : α → V} {l : List α} {off : Nat} {news : List V} (hn : aksOk ((ks.drop off).take news.length) news = true) :
    Prim.run (.set ks off) (vL ks f l :: .int κ i :: news) = if 0 ≤ i then (l[i.toNat]?).map (fun x => [.list ks ((l.map f).set i.toNat ((f x).put off news))]) else none := by
  simp only [Prim.run, vL, AK.eqs_refl, Bool.true_and, hn, Bool.and_true, List.getElem?_map, Option.map_map, decide_eq_true_eq]
  rfl

theorem P1_set {α : Type} {ks : List AK} {f : α → V} {l : List α} {off : Nat} {news : List V} (hn : aksOk ((ks.drop off).take news.length) news = true) (up : α → α) (hup : ∀ x, (f x).put off news = f (up x)) :
    P1 (.set ks off) (vL ks f l :: .int κ i :: news) k ↔ 0 ≤ i ∧ ∃ x, l[i.toNat]? = some x ∧ k (vL ks f (l.set i.toNat (up x))) := by
  unfold P1
  rw [set_run hn]
  constructor
  · rintro ⟨a, h, hk⟩
    split at h
    · rename_i h0
      obtain ⟨x, h1, h2⟩ := Option.map_eq_some_iff.1 h
      simp only [List.cons.injEq, and_true] at h2
      subst h2
      refine ⟨h0, x, h1, ?_⟩
      rw [hup, ← List.map_set] at hk
      exact hk
    · cases h
  · rintro ⟨h0, x, h1, hk⟩
    refine ⟨_, by rw [if_pos h0, h1, Option.map_some], ?_⟩
    rw [hup, ← List.map_set]
    exact hk

@[simp] theorem P1_setI {l : List Int} {a : Int} : P1 (.set [.sc] 0) [vL I1 v1 l, .int κ i, .int .i64 a] k ↔ 0 ≤ i ∧ ∃ x, l[i.toNat]? = some x ∧ k (vL I1 v1 (l.set i.toNat a)) :=
  P1_set (news := [.int .i64 a]) (by simp [aksOk, akOk]) (fun _ => a) (fun x => rfl)
@[simp] theorem P1_setB {l : List Bool} {a : Bool} : P1 (.set [.sc] 0) [vL I1 vB l, .int κ i, .bool a] k ↔ 0 ≤ i ∧ ∃ x, l[i.toNat]? = some x ∧ k (vL I1 vB (l.set i.toNat a)) :=
  P1_set (news := [.bool a]) (by simp [aksOk, akOk]) (fun _ => a) (fun x => rfl)
@[simp] theorem P1_setS {l : List (List UInt8)} {a : List UInt8} : P1 (.set [.sc] 0) [vL I1 vS l, .int κ i, .str a] k ↔ 0 ≤ i ∧ ∃ x, l[i.toNat]? = some x ∧ k (vL I1 vS (l.set i.toNat a)) :=
  P1_set (news := [.str a]) (by simp [aksOk, akOk]) (fun _ => a) (fun x => rfl)
@[simp] theorem P1_setL2 {l : List (List T2)} {a : List T2} : P1 (.set [.sl [.sc, .sc]] 0) [vL IL2 vLL2 l, .int κ i, vL I2 v2 a] k ↔ 0 ≤ i ∧ ∃ x, l[i.toNat]? = some x ∧ k (vL IL2 vLL2 (l.set i.toNat a)) :=
  P1_set (ks := IL2) (news := [vL I2 v2 a]) (by simp [IL2, aksOk, akOk, vL, AK.eqs_refl]) (fun _ => a) (fun x => rfl)
@[simp] theorem P1_setL1 {l : List (List Int)} {a : List Int} : P1 (.set [.sl [.sc]] 0) [vL IL1 vLL1 l, .int κ i, vL I1 v1 a] k ↔ 0 ≤ i ∧ ∃ x, l[i.toNat]? = some x ∧ k (vL IL1 vLL1 (l.set i.toNat a)) :=
  P1_set (ks := IL1) (news := [vL I1 v1 a]) (by simp [IL1, aksOk, akOk, vL, AK.eqs_refl]) (fun _ => a) (fun x => rfl)
@[simp] theorem P1_set2 {l : List T2} {a b : Int} : P1 (.set [.sc, .sc] 0) [vL I2 v2 l, .int κ i, .int .i64 a, .int .i64 b] k ↔ 0 ≤ i ∧ ∃ x, l[i.toNat]? = some x ∧ k (vL I2 v2 (l.set i.toNat ⟨a, b⟩)) :=
  P1_set (news := [.int .i64 a, .int .i64 b]) (by simp [aksOk, akOk]) (fun _ => T2.mk a b) (fun x => rfl)
@[simp] theorem P1_set20 {l : List T2} {a : Int} : P1 (.set [.sc, .sc] 0) [vL I2 v2 l, .int κ i, .int .i64 a] k ↔ 0 ≤ i ∧ ∃ x, l[i.toNat]? = some x ∧ k (vL I2 v2 (l.set i.toNat ⟨a, x.b⟩)) :=
  P1_set (news := [.int .i64 a]) (by simp [aksOk, akOk]) (fun x : T2 => T2.mk a x.b) (fun x => rfl)
@[simp] theorem P1_set21 {l : List T2} {a : Int} : P1 (.set [.sc, .sc] 1) [vL I2 v2 l, .int κ i, .int .i64 a] k ↔ 0 ≤ i ∧ ∃ x, l[i.toNat]? = some x ∧ k (vL I2 v2 (l.set i.toNat ⟨x.a, a⟩)) :=
  P1_set (news := [.int .i64 a]) (by simp [aksOk, akOk]) (fun x : T2 => T2.mk x.a a) (fun x => rfl)
@[simp] theorem P1_set3 {l : List T3} {a b c : Int} : P1 (.set [.sc, .sc, .sc] 0) [vL I3 v3 l, .int κ i, .int .i64 a, .int .i64 b, .int .i64 c] k ↔ 0 ≤ i ∧ ∃ x, l[i.toNat]? = some x ∧ k (vL I3 v3 (l.set i.toNat ⟨a, b, c⟩)) :=
  P1_set (news := [.int .i64 a, .int .i64 b, .int .i64 c]) (by simp [aksOk, akOk]) (fun _ => T3.mk a b c) (fun x => rfl)
@[simp] theorem P1_set30 {l : List T3} {a : Int} : P1 (.set [.sc, .sc, .sc] 0) [vL I3 v3 l, .int κ i, .int .i64 a] k ↔ 0 ≤ i ∧ ∃ x, l[i.toNat]? = some x ∧ k (vL I3 v3 (l.set i.toNat ⟨a, x.b, x.c⟩)) :=
  P1_set (news := [.int .i64 a]) (by simp [aksOk, akOk]) (fun x : T3 => T3.mk a x.b x.c) (fun x => rfl)
@[simp] theorem P1_set31 {l : List T3} {a : Int} : P1 (.set [.sc, .sc, .sc] 1) [vL I3 v3 l, .int κ i, .int .i64 a] k ↔ 0 ≤ i ∧ ∃ x, l[i.toNat]? = some x ∧ k (vL I3 v3 (l.set i.toNat ⟨x.a, a, x.c⟩)) :=
  P1_set (news := [.int .i64 a]) (by simp [aksOk, akOk]) (fun x : T3 => T3.mk x.a a x.c) (fun x => rfl)
@[simp] theorem P1_set32 {l : List T3} {a : Int} : P1 (.set [.sc, .sc, .sc] 2) [vL I3 v3 l, .int κ i, .int .i64 a] k ↔ 0 ≤ i ∧ ∃ x, l[i.toNat]? = some x ∧ k (vL I3 v3 (l.set i.toNat ⟨x.a, x.b, a⟩)) :=
  P1_set (news := [.int .i64 a]) (by simp [aksOk, akOk]) (fun x : T3 => T3.mk x.a x.b a) (fun x => rfl)
end

theorem wrap_id {x : Int} (h1 : -9223372036854775808 ≤ x) (h2 : x ≤ 9223372036854775807) : IntKind.i64.wrap x = x := by
  unfold IntKind.wrap
  simp [IntKind.bits, IntKind.signed]
  omega

theorem take_succ_get {α : Type} {l : List α} {k : Nat} (h : k < l.length) : l.take (k + 1) = l.take k ++ [l[k]] := (List.take_append_getElem h).symm

theorem all_take_succ {α : Type} {l : List α} {k : Nat} {P : α → Prop} (h : k < l.length) : (∀ x ∈ l.take (k + 1), P x) ↔ (∀ x ∈ l.take k, P x) ∧ P l[k] := by
  rw [take_succ_get h]
  constructor
  · intro hh
    exact ⟨fun x hx => hh x (List.mem_append_left _ hx), hh _ (List.mem_append_right _ (List.mem_singleton.2 rfl))⟩
  · rintro ⟨h1, h2⟩ x hx
    rcases List.mem_append.1 hx with hx | hx
    · exact h1 x hx
    · rw [List.mem_singleton.1 hx]; exact h2

theorem fill_set {α : Type} {l : List α} {k : Nat} {z : α} (h : k < l.length) : (l.take k ++ List.replicate (l.length - k) z).set k l[k] = l.take (k + 1) ++ List.replicate (l.length - (k + 1)) z := by
  have e : l.length - k = (l.length - (k + 1)) + 1 := by omega
  have e2 : k - (l.take k).length = 0 := by simp; omega
  rw [e, List.replicate_succ, List.set_append, if_neg (by simp; omega), e2, take_succ_get h, List.set_cons_zero, List.append_assoc]
  rfl

theorem fill_get {α : Type} {l : List α} {k n : Nat} {z : α} (h : k < l.length) (hn : 0 < n) : (l.take k ++ List.replicate n z)[k]? = some z := by
  rw [List.getElem?_append_right (by simp; omega)]
  have : k - (l.take k).length = 0 := by simp; omega
  rw [this]
  simp [hn]

def markL1 (n : Nat) (k : Int) : List Int := (List.range n).map fun i : Nat => k + (i : Int)
def markL2 (n : Nat) (k : Int) : List T2 := (List.range n).map fun i : Nat => ⟨k + 2 * (i : Int), k + 2 * (i : Int) + 1⟩
def markL3 (n : Nat) (k : Int) : List T3 := (List.range n).map fun i : Nat => ⟨k + 3 * (i : Int), k + 3 * (i : Int) + 1, k + 3 * (i : Int) + 2⟩
@[simp] theorem markL1_len {n : Nat} {k : Int} : (markL1 n k).length = n := by simp [markL1]
@[simp] theorem markL2_len {n : Nat} {k : Int} : (markL2 n k).length = n := by simp [markL2]
@[simp] theorem markL3_len {n : Nat} {k : Int} : (markL3 n k).length = n := by simp [markL3]

theorem mark_set {α : Type} {l m : List α} {k : Nat} (hm : m.length = l.length) (h : k < l.length) : (m.take k ++ l.drop k).set k (m[k]'(by omega)) = m.take (k + 1) ++ l.drop (k + 1) := by
  have e2 : k - (m.take k).length = 0 := by simp; omega
  rw [List.set_append, if_neg (by simp; omega), e2, take_succ_get (by omega), List.drop_eq_getElem_cons h, List.set_cons_zero, List.append_assoc]
  rfl
theorem mark_get {α : Type} {l m : List α} {k : Nat} (hm : m.length = l.length) (h : k < l.length) : (m.take k ++ l.drop k)[k]? = some l[k] := by
  rw [List.getElem?_append_right (by simp; omega), List.drop_eq_getElem_cons h]
  have : k - (m.take k).length = 0 := by simp; omega
  rw [this]; rfl

open Classical in
noncomputable def mkF {α : Type} (en : α → List V) (pre : α → Prop) (f : α → List V) (ds : List V) : Option (List V) :=
  if h : ∃ x, en x = ds ∧ pre x then some (f h.choose) else none

theorem mkF_eq {α : Type} {en : α → List V} {pre : α → Prop} {f : α → List V} (hinj : ∀ x y, en x = en y → x = y) (x : α) (hp : pre x) : mkF en pre f (en x) = some (f x) := by
  have hex : ∃ y, en y = en x ∧ pre y := ⟨x, rfl, hp⟩
  unfold mkF
  rw [dif_pos hex, hinj _ _ hex.choose_spec.1]

theorem mkF_inv {α : Type} {en : α → List V} {pre : α → Prop} {f : α → List V} {ds outs : List V} (h : mkF en pre f ds = some outs) : ∃ x, ds = en x ∧ pre x ∧ outs = f x := by
  unfold mkF at h
  split at h
  · rename_i hex
    simp only [Option.some.injEq] at h
    exact ⟨hex.choose, hex.choose_spec.1.symm, hex.choose_spec.2, h.symm⟩
  · cases h

end Go.Mw

