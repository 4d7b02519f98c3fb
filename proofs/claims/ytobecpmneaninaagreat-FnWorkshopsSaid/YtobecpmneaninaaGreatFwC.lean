/- A part of the framework that turns Go code into small pure programs and shows that they are sound: no condition. -/
import Derived.Test.YtobecpmneaninaaGreatFwB
namespace Go.Mw

theorem moved_rel {c : Cx} {nt : Nat} {M : Mp} {env : List V} {A : FS} {a : Act} {w : World} (hR : Rel c nt M env A a w) : ∀ {ks : List AK} {cells : List At} {us : List Value} {ls : List Lf} {gone : List Nat},
    moved A.ob ks cells = some (ls, gone) → RelAts c M env w A.ob cells us →
    ∃ S, Rep w us (ls.map (Lf.ev env)) S ∧ S.Nodup ∧ (∀ b ∈ S, (∃ r ∈ gone, b ∈ M.ph r) ∧ Wr w b) ∧ gone.Nodup ∧ (∀ r ∈ gone, ∃ ver l app, A.ob r = some (.row ver l app)) ∧ ls.length = cells.length ∧ ks.length = cells.length
  | [], [], us, ls, gone, h, hr => by
    simp only [moved, Option.some.injEq, Prod.mk.injEq] at h
    obtain ⟨rfl, rfl⟩ := h
    obtain rfl : us = [] := by cases us with
      | nil => rfl
      | cons => exact hr.elim
    exact ⟨[], .nil, by simp, by simp, by simp, by simp, rfl, rfl⟩
  | [], _ :: _, _, _, _, h, _ => by simp [moved] at h
  | _ :: _, [], _, _, _, h, _ => by simp [moved] at h
  | k :: ks, cell :: cells, us, ls, gone, h, hr => by
    cases us with
    | nil => exact hr.elim
    | cons u us =>
    obtain ⟨hu, hr⟩ := hr
    cases k with
    | sc =>
      cases cell with
      | sc l =>
        simp only [moved] at h
        cases hm : moved A.ob ks cells with
        | none => simp [hm] at h
        | some x =>
          simp only [hm, Option.map_some, Option.some.injEq, Prod.mk.injEq] at h
          obtain ⟨rfl, rfl⟩ := h
          obtain ⟨S, h1, h2, h3, h4, h5, h6, h7⟩ := moved_rel hR (ls := x.1) (gone := x.2) hm hr
          exact ⟨S, by simpa using Rep.cons_mk hu.2 h1, h2, h3, h4, h5, by simp [h6], by simp [h7]⟩
      | _ => simp [moved] at h
    | sl k =>
      cases cell with
      | nil =>
        simp only [moved] at h
        cases hm : moved A.ob ks cells with
        | none => simp [hm] at h
        | some x =>
          simp only [hm, Option.map_some, Option.some.injEq, Prod.mk.injEq] at h
          obtain ⟨rfl, rfl⟩ := h
          obtain ⟨S, h1, h2, h3, h4, h5, h6, h7⟩ := moved_rel hR (ls := x.1) (gone := x.2) hm hr
          have hn := hu.2
          simp only at hn
          subst hn
          exact ⟨S, Rep.cons_mk (S1 := []) (.atom (.nil k) .nil) h1, h2, h3, h4, h5, by simp [h6], by simp [h7]⟩
      | own r =>
        simp only [moved] at h
        split at h
        · rename_i ver l x hor hm
          split at h <;> simp only [Option.some.injEq, Prod.mk.injEq, reduceCtorEq] at h
          rename_i hnc
          obtain ⟨rfl, rfl⟩ := h
          obtain ⟨S, h1, h2, h3, h4, h5, h6, h7⟩ := moved_rel hR (ls := x.1) (gone := x.2) hm hr
          obtain ⟨⟨S0, r1, r2, r3⟩, _⟩ := hR.rows _ _ _ _ hor
          have hnot : r ∉ x.2 := by simpa using hnc
          rw [← hu.2 _ _ _ hor] at r1
          refine ⟨S0 ++ S, Rep.cons_mk r1 h1, ?_, ?_, ?_, ?_, by simp [h6], by simp [h7]⟩
          · rw [List.nodup_append]
            refine ⟨r2, h2, ?_⟩
            intro b hb b' hb' e
            subst e
            obtain ⟨⟨q, hq, hbq⟩, _⟩ := h3 b hb'
            obtain ⟨v2, l2, a2, hoq⟩ := h5 q hq
            exact hR.dRR _ _ _ _ _ _ _ _ hor hoq (fun e => hnot (e ▸ hq)) b (r3 b hb).1 hbq
          · intro b hb
            rcases List.mem_append.1 hb with hb | hb
            · exact ⟨⟨r, by simp, (r3 b hb).1⟩, (r3 b hb).2⟩
            · obtain ⟨⟨q, hq, hbq⟩, hw⟩ := h3 b hb
              exact ⟨⟨q, by simp [hq], hbq⟩, hw⟩
          · exact List.nodup_cons.2 ⟨hnot, h4⟩
          · intro q hq
            rcases List.mem_cons.1 hq with rfl | hq
            · exact ⟨_, _, _, hor⟩
            · exact h5 q hq
        · cases h
      | _ => simp [moved] at h

theorem moved_app {ob : Nat → Option SO} : ∀ {ks : List AK} {cells : List At} {ls : List Lf} {gone : List Nat}, moved ob ks cells = some (ls, gone) → ∀ r ∈ gone, ∃ ver l, ob r = some (.row ver l true)
  | [], [], ls, gone, h => by simp only [moved, Option.some.injEq, Prod.mk.injEq] at h; obtain ⟨_, rfl⟩ := h; simp
  | [], _ :: _, _, _, h => by simp [moved] at h
  | k :: _, [], _, _, h => by cases k <;> simp [moved] at h
  | .sc :: ks, a :: as, ls, gone, h => by
    cases a <;> simp only [moved, Option.map_eq_some_iff, reduceCtorEq, Prod.mk.injEq] at h
    obtain ⟨x, h1, _, rfl⟩ := h
    exact moved_app (ls := x.1) h1
  | .sl js :: ks, a :: as, ls, gone, h => by
    cases a <;> simp only [moved, Option.map_eq_some_iff, reduceCtorEq, Prod.mk.injEq] at h
    · obtain ⟨x, h1, _, rfl⟩ := h
      exact moved_app (ls := x.1) h1
    · split at h
      · rename_i ver l x h1 h2
        split at h <;> simp only [Option.some.injEq, Prod.mk.injEq, reduceCtorEq] at h
        obtain ⟨_, rfl⟩ := h
        intro r hr
        rcases List.mem_cons.1 hr with rfl | hr
        · exact ⟨_, _, h1⟩
        · exact moved_app (ls := x.1) h2 r hr
      · cases h

theorem Rep.noAgg {w : World} {us : List Value} {ds : List V} {S : List Nat} (h : Rep w us ds S) : ∀ d ∈ ds, d.cells = [d] := by
  induction h with
  | nil => simp
  | atom h _ ih =>
    intro d hd
    rcases List.mem_cons.1 hd with rfl | hd
    · cases h <;> rfl
    · exact ih d hd
  | row => 
    rename_i ih
    intro d hd
    rcases List.mem_cons.1 hd with rfl | hd
    · rfl
    · exact ih d hd

theorem pack_cells {g : Bool} {cs : List V} (h : g = false → cs.length = 1) (hc : ∀ d ∈ cs, d.cells = [d]) : (V.pack g cs).cells = cs := by
  cases g with
  | true => rfl
  | false =>
    match cs, h rfl with
    | [d], _ => exact hc d (by simp)

theorem aksOk_append : ∀ {ks js : List AK} {ds es : List V}, aksOk ks ds = true → aksOk js es = true → aksOk (ks ++ js) (ds ++ es) = true
  | [], _, [], _, _, h => h
  | [], _, _ :: _, _, h, _ => by simp [aksOk] at h
  | _ :: _, _, [], _, h, _ => by simp [aksOk] at h
  | _ :: ks, js, _ :: ds, es, h, h' => by
    simp only [aksOk, Bool.and_eq_true] at h
    simp [aksOk, h.1, aksOk_append h.2 h']

theorem aksOk_append_inv : ∀ {ks js : List AK} {ds : List V}, aksOk (ks ++ js) ds = true → aksOk ks (ds.take ks.length) = true ∧ aksOk js (ds.drop ks.length) = true
  | [], _, _, h => ⟨by simp [aksOk], h⟩
  | _ :: _, _, [], h => by simp [aksOk] at h
  | _ :: ks, js, _ :: ds, h => by
    simp only [List.cons_append, aksOk, Bool.and_eq_true] at h
    obtain ⟨h1, h2⟩ := aksOk_append_inv h.2
    simp [aksOk, h.1, h1, h2]

theorem chunk_ok {ks : List AK} {g : Bool} (hg : g = false → ks.length = 1) : ∀ (n : Nat) (l : List V), aksOk (List.replicate n ks).flatten l = true → (∀ d ∈ l, d.cells = [d]) → ∀ e ∈ chunk ks.length g n l, aksOk ks e.cells = true
  | 0, l, _, _ => by simp [chunk]
  | n + 1, l, h, hc => by
    rw [List.replicate_succ, List.flatten_cons] at h
    obtain ⟨h1, h2⟩ := aksOk_append_inv h
    intro e he
    simp only [chunk, List.mem_cons] at he
    rcases he with rfl | he
    · rw [pack_cells (fun e => by have := aksOk_length h1; rw [← this]; exact hg e) fun d hd => hc d (List.mem_of_mem_take hd)]
      exact h1
    · exact chunk_ok hg n (l.drop ks.length) h2 (fun d hd => hc d (List.mem_of_mem_drop hd)) e he

theorem chunk_spec {k : Nat} {g : Bool} (hg : g = false → k = 1) : ∀ (n : Nat) (l : List V), l.length = n * k → (∀ d ∈ l, d.cells = [d]) →
    (chunk k g n l).flatMap V.cells = l ∧ (chunk k g n l).length = n ∧ ∀ e ∈ chunk k g n l, e.cells.length = k
  | 0, l, hl, _ => by
    have : l = [] := List.eq_nil_of_length_eq_zero (by simpa using hl)
    subst this
    simp [chunk]
  | n + 1, l, hl, hc => by
    rw [Nat.add_mul] at hl
    have h1 : (l.take k).length = k := by simp; omega
    have hp : (V.pack g (l.take k)).cells = l.take k := pack_cells (fun e => by rw [h1, hg e]) fun d hd => hc d (List.mem_of_mem_take hd)
    obtain ⟨h2, h3, h4⟩ := chunk_spec hg n (l.drop k) (by simp; omega) fun d hd => hc d (List.mem_of_mem_drop hd)
    refine ⟨?_, by simp [chunk, h3], ?_⟩
    · simp only [chunk, List.flatMap_cons, hp, h2, List.take_append_drop]
    · intro e he
      simp only [chunk, List.mem_cons] at he
      rcases he with rfl | he
      · rw [hp, h1]
      · exact h4 e he

theorem Rep.made {w : World} {es : List V} {ks : List AK} {us rest : List Value} {S : List Nat} (hr : Rep w us (es.flatMap V.cells) S) (hk : ∀ e ∈ es, aksOk ks e.cells = true) {cap : Nat} (hc : es.length ≤ cap)
    (hrest : us.length + rest.length = cap * ks.length) (hcap : cap ≤ maxLen) (E : TypeId) (hm : ∀ b, b < w.heap.size → (w.alloc (.cells (us ++ rest).toArray E)).heap[b]? = w.heap[b]?) (ho : OwnCs w us (es.flatMap V.cells)) :
    Rep (w.alloc (.cells (us ++ rest).toArray E)) [.slice (some ⟨w.heap.size, 0, none⟩) es.length cap] [.list ks es] (w.heap.size :: S) ∧
    OwnHd (w.alloc (.cells (us ++ rest).toArray E)) (.slice (some ⟨w.heap.size, 0, none⟩) es.length cap) (.list ks es) := by
  have hl := hr.flat_length (lens hk)
  have hnew := heap_alloc_new w (.cells (us ++ rest).toArray E)
  refine ⟨?_, .inr ⟨w.heap.size, es.length, cap, ks, es, rfl, rfl, fun _ => ⟨(us ++ rest).toArray, E, _, hnew, .zero, by simp; omega⟩, hc, hcap⟩, Inn.mk hnew (vs := us) (fun j hj => by
    simp only [Nat.zero_add]
    rw [List.getElem?_toArray, List.getElem?_append_left (by omega)]) (ho.frame hr fun b hb => hm b (hr.lt b hb))⟩
  have := Rep.row (w := w.alloc (.cells (us ++ rest).toArray E)) w.heap.size 0 es.length cap ks es us S (us ++ rest).toArray E (0, 0) rfl hk hc hnew
    (by have : es.length * ks.length ≤ cap * ks.length := Nat.mul_le_mul_right _ hc
        simp; omega) (fun j hj => by
      simp only [Nat.zero_add]
      rw [List.getElem?_toArray, List.getElem?_append_left (by omega)]) (hr.frame fun b hb => hm b (hr.lt b hb)) .nil
  simpa using this

theorem moved_own {c : Cx} {nt : Nat} {M : Mp} {env : List V} {A : FS} {a : Act} {w : World} (hR : Rel c nt M env A a w) : ∀ {ks : List AK} {cells : List At} {us : List Value} {ls : List Lf} {gone : List Nat},
    moved A.ob ks cells = some (ls, gone) → RelAts c M env w A.ob cells us → aksOk ks (ls.map (Lf.ev env)) = true → OwnCs w us (ls.map (Lf.ev env))
  | [], [], us, ls, gone, h, hr, _ => by
    simp only [moved, Option.some.injEq, Prod.mk.injEq] at h
    obtain ⟨rfl, rfl⟩ := h
    intro j u js es' _ hd
    simp at hd
  | [], _ :: _, _, _, _, h, _, _ => by simp [moved] at h
  | k :: _, [], _, _, _, h, _, _ => by cases k <;> simp [moved] at h
  | k :: ks, x :: cs, us, ls, gone, h, hr, hk => by
    cases us with
    | nil => exact hr.elim
    | cons u us =>
    obtain ⟨hu, hr⟩ := hr
    have fin : ∀ {l : Lf} {ls' : List Lf}, (∀ js es', l.ev env = .list js es' → OwnH1 w u (.list js es')) → OwnCs w us (ls'.map (Lf.ev env)) → OwnCs w (u :: us) ((l :: ls').map (Lf.ev env)) := by
      intro l ls' h1 h2 j v js es' hv hd
      cases j with
      | zero =>
        simp only [List.map_cons, List.getElem?_cons_zero, Option.some.injEq] at hv hd
        subst hv
        rw [← hd]; exact hd ▸ h1 js es' hd
      | succ j =>
        simp only [List.map_cons, List.getElem?_cons_succ] at hv hd
        exact h2 j v js es' hv hd
    cases k with
    | sc =>
      cases x <;> simp only [moved, Option.map_eq_some_iff, reduceCtorEq, Prod.mk.injEq] at h
      rename_i l
      obtain ⟨y, h1, rfl, rfl⟩ := h
      simp only [List.map_cons, aksOk, Bool.and_eq_true] at hk
      refine fin (fun js es' e => ?_) (moved_own hR (ls := y.1) (gone := y.2) h1 hr hk.2)
      rw [e] at hk
      simp [akOk] at hk
    | sl js =>
      cases x <;> simp only [moved, Option.map_eq_some_iff, reduceCtorEq, Prod.mk.injEq] at h
      · obtain ⟨y, h1, rfl, rfl⟩ := h
        simp only [List.map_cons, aksOk, Bool.and_eq_true] at hk
        have hn := hu.2
        simp only at hn
        exact fin (fun _ _ _ => .inl hn) (moved_own hR (ls := y.1) (gone := y.2) h1 hr hk.2)
      · rename_i r
        split at h
        · rename_i ver l y h1 h2
          split at h <;> simp only [Option.some.injEq, reduceCtorEq, Prod.mk.injEq] at h
          obtain ⟨rfl, rfl⟩ := h
          simp only [List.map_cons, aksOk, Bool.and_eq_true] at hk
          refine fin (fun js es' e => ?_) (moved_own hR (ls := y.1) (gone := y.2) h2 hr hk.2)
          obtain ⟨_, _, r5, _⟩ := hR.rows _ _ _ _ h1
          rw [hu.2 _ _ _ h1, ← e]
          exact (r5 rfl).1.1
        · cases h

theorem replicate_flatten_get {α : Type} (l : List α) (hl : 0 < l.length) : ∀ (n j : Nat), j < n * l.length → (List.replicate n l).flatten[j]? = l[j % l.length]?
  | 0, j, h => by simp at h
  | n + 1, j, h => by
    rw [List.replicate_succ, List.flatten_cons]
    by_cases hj : j < l.length
    · rw [List.getElem?_append_left hj, Nat.mod_eq_of_lt hj]
    · rw [List.getElem?_append_right (by omega), replicate_flatten_get l hl n (j - l.length) (by rw [Nat.add_mul] at h; omega)]
      rw [show j % l.length = (j - l.length) % l.length from Nat.mod_eq_sub_mod (by omega)]

theorem madeCells_flatten (z : Array Value) (hz : 0 < z.size) (n : Nat) : (madeCells z (n * z.size)).toList = (List.replicate n z.toList).flatten := by
  apply List.ext_getElem?
  intro j
  by_cases hj : j < n * z.size
  · rw [replicate_flatten_get z.toList (by simpa using hz) n j (by simpa using hj)]
    have : j % z.size < z.size := Nat.mod_lt _ hz
    simp [madeCells, hj, this]
  · have h1 : (madeCells z (n * z.size)).toList.length = n * z.size := by simp [madeCells]
    have h2 : (List.replicate n z.toList).flatten.length = n * z.size := by simp
    rw [List.getElem?_eq_none (by omega), List.getElem?_eq_none (by omega)]

theorem RelAts.replicate {c : Cx} {M : Mp} {env : List V} {w : World} {ob : Nat → Option SO} {as : List At} {vs : List Value} (h : RelAts c M env w ob as vs) : ∀ n, RelAts c M env w ob (List.replicate n as).flatten (List.replicate n vs).flatten
  | 0 => trivial
  | n + 1 => by
    rw [List.replicate_succ, List.replicate_succ, List.flatten_cons, List.flatten_cons]
    exact h.append (h.replicate n)

theorem fill_fill {c : Cx} {nt : Nat} {M : Mp} {env : List V} {A : FS} {a : Act} {w : World} (hR : Rel c nt M env A a w) {gs : Gs} (hg : GH env gs) (size : Nat) : ∀ (parts : List (Nat × Operand)) (cells out : List At) (cs : Array Value), RelAts c M env w A.ob cells cs.toList →
    coreFill (look A.sl gs) size cells parts = some out → ∃ cs', Instr.fill (fun i => some (i * size, size)) cs (parts.map fun (i, x) => (i, a.eval x)) = some cs' ∧ RelAts c M env w A.ob out cs'.toList ∧ out.length = cells.length
  | [], cells, out, cs, hr, h => by
    simp only [coreFill, Option.some.injEq] at h
    subst h
    exact ⟨cs, rfl, hr, rfl⟩
  | (i, x) :: rest, cells, out, cs, hr, h => by
    simp only [coreFill] at h
    split at h
    · rename_i y hy
      split at h
      · rename_i hsz
        simp only [beq_iff_eq] at hsz
        split at h
        · rename_i cells' hov
          obtain ⟨h1, h2⟩ := overlay_some hov
          obtain ⟨ws, e1, e2⟩ := (look_rel0 hR hy hg : RelSC c M env w A.ob y (a.eval x)).cells
          have l1 := e2.length
          have l2 := hr.length
          simp only [List.map_cons, Instr.fill]
          have hcs : cs.size = cells.length := by rw [l2]; simp
          have hok : ((decide ((a.eval x).cells.size ≠ size)) || decide (i * size + (a.eval x).cells.size > cs.size)) = false := by
            simp only [e1, List.size_toArray, Bool.or_eq_false_iff, decide_eq_false_iff_not, ne_eq, Decidable.not_not]
            exact ⟨by omega, by omega⟩
          rw [if_neg (by rw [hok]; simp)]
          have hzip : (a.eval x).cells.zipIdx = (ws.zipIdx 0).toArray := by rw [e1]; simp
          have hfold := fold_set ws cs (i * size) 0 (by omega)
          simp only [Nat.add_zero] at hfold
          have hst : RelAts c M env w A.ob cells' ((a.eval x).cells.zipIdx.foldl (fun cs (x : Value × Nat) => cs.setIfInBounds (i * size + x.2) x.1) cs).toList := by
            rw [hzip, List.foldl_toArray' _ _ _ (by simp), hfold, h2]
            exact hr.overlay e2
          obtain ⟨cs', q1, q2, q3⟩ := fill_fill hR hg size rest cells' out _ hst h
          refine ⟨cs', q1, q2, ?_⟩
          rw [q3, h2]; simp; omega
        · cases h
      · cases h
    · cases h

section
variable {P : Program} {c : Cx} {nt : Nat} {M : Mp} {env : List V} {A : FS} {a : Act} {w : World} {o : Oper} {gs : Gs} {fid nv : Nat} {K : Act → World → Prop} {Q : Exit → Act → World → Prop} {out : Out}
variable (hR : Rel c nt M env A a w) (hg : GH env gs) (hd : ∀ d, o.dst = some d → d < nt) (hf : Fresh A (· = fid)) (hh : Holds env nv out) (hK : Kont c nt env gs A a o out K)
include hR hg hd hf hh hK

omit hR hg hd hh hK in
theorem fid_fresh {gone : List Nat} (h : ∀ r ∈ gone, ∃ ver l app, A.ob r = some (.row ver l app)) : fid ∉ gone := fun hm => by
  obtain ⟨_, _, _, h1⟩ := h fid hm
  rw [hf.2.2 fid rfl] at h1; cases h1

theorem op_buildSlice {t : TypeId} {len : Nat} {parts : Array (Nat × Operand)} (ho : o.op = .buildSlice t len parts) (hc : coreBuildSlice P (look A.sl gs) A.ob fid nv t len parts.toList = some out) : o.wp P a w K Q := by
  unfold coreBuildSlice at hc
  split at hc
  · rename_i e hu
    split at hc
    · rename_i ks z size hks hz hsz
      split at hc
      · rename_i hcond
        simp only [Bool.and_eq_true, beq_iff_eq, bne_iff_ne, decide_eq_true_eq, Bool.or_eq_true] at hcond
        obtain ⟨⟨⟨⟨c1, c2⟩, c3⟩, c4⟩, c5⟩ := hcond
        split at hc
        · rename_i cells hfill
          split at hc <;> simp only [Option.some.injEq, reduceCtorEq] at hc
          rename_i ls gone hmv
          subst hc
          obtain ⟨zv, ti, h1, h2, h3, h4, h5⟩ := zero_rel (c := c) (M := M) (env := env) (w := w) (ob := A.ob) hz
          have hzs : zv.cells.size = size := by have := h4.length; simp at this; omega
          have hmade := madeCells_flatten zv.cells (by omega) len
          obtain ⟨cs', f1, f2, f3⟩ := fill_fill hR hg size parts.toList (List.replicate len z).flatten cells (madeCells zv.cells (len * zv.cells.size)) (by rw [hmade]; exact h4.replicate len) hfill
          obtain ⟨S, m1, m2, m3, m4, m5, m6, m7⟩ := moved_rel hR hmv f2
          obtain ⟨d, p1, p2⟩ := hh.one
          simp only [Prim.run] at p1
          by_cases hak : aksOk (List.replicate len ks).flatten (ls.map (Lf.ev env)) = true
          case neg => rw [if_neg hak] at p1; cases p1
          rw [if_pos hak] at p1
          simp only [Option.some.injEq, List.cons.injEq, and_true] at p1
          subst c1
          have hgk : isStruct P e = false → ks.length = 1 := fun h => by
            rcases c5 with c5 | c5
            · rw [h] at c5; cases c5
            · exact c5
          have k4 := chunk_ok hgk len _ hak m1.noAgg
          have hlen : (ls.map (Lf.ev env)).length = len * ks.length := by
            rw [List.length_map, m6, f3]; simp; rw [c2]
          obtain ⟨k1, k2, k3⟩ := chunk_spec (k := ks.length) (g := isStruct P e) hgk len (ls.map (Lf.ev env)) hlen m1.noAgg
          generalize hes : chunk ks.length (isStruct P e) len (ls.map (Lf.ev env)) = es at k1 k2 k3 k4 p1
          have m1' : Rep w cs'.toList (es.flatMap V.cells) S := by rw [k1]; exact m1
          have hcl : len ≤ 16777216 := Nat.le_trans (Nat.le_mul_of_pos_right len (by omega)) c4
          have hlu : cs'.toList.length = len * ks.length := by rw [m1'.flat_length k3, k2]
          obtain ⟨r1, r2⟩ := Rep.made (rest := []) m1' k4 (cap := len) (by omega) (by simpa using hlu) (by unfold maxLen; omega) e (fun b hb => heap_alloc_old w _ hb) (by rw [k1]; exact moved_own hR hmv f2 hak)
          rw [k2] at r1 r2
          simp only [List.append_nil, Array.toArray_toList] at r1 r2
          have hmvd := Moved.alloc w (.cells cs' e) (fun b => (∃ r ∈ gone, b ∈ M.ph r) ∨ ((∃ x, A.ob fid = some x) ∧ b ∈ M.ph fid)) c.G.dr
          have hlf : (Lf.v nv).ev env = .list ks es := by rw [p2, ← p1]
          obtain ⟨M', hR'⟩ := hR.new_row m5 (fid_fresh hf m5) (ver := 0) (l := .v nv) (app := true) (.inl ⟨hf, rfl⟩) hmvd (v := .slice (some ⟨w.heap.size, 0, none⟩) len len) (S := w.heap.size :: S)
            (by rw [hlf]; exact r1) (List.nodup_cons.2 ⟨fun hm => Nat.lt_irrefl _ (m1.lt _ hm), m2⟩)
            (fun b hb => by
              rcases List.mem_cons.1 hb with rfl | hb
              · exact ⟨.inl (Nat.le_refl _), .mk (heap_alloc_new w _)⟩
              · exact ⟨.inr (.inl (m3 b hb).1), (m3 b hb).2.of_eq (heap_alloc_old w _ (m1.lt b hb))⟩)
            (fun _ => moved_app hmv) (fun h => by cases h) (fun _ => by rw [hlf]; exact r2) hd hg (sv := some (.ofAt (.own fid))) (u := .slice (some ⟨w.heap.size, 0, none⟩) len len) (fun s hs _ => by cases hs; exact ⟨rfl, rfl⟩)
          refine wp_value ?_ (hK _ _ _ hR')
          have hparts : (parts.map fun x => (x.1, a.eval x.2)).toList = parts.toList.map fun (i, x) => (i, a.eval x) := by simp
          have hnz : ¬ (2 ^ 24 < len * ks.length) := by omega
          have hsz' := run_sizeOf (P := P) w hsz
          rw [hzs] at f1
          by_cases h0 : len * ks.length = 0
          · have hcells : (Array.range (len * ks.length)).map (fun x => (#[] : Array Value)[x % (#[] : Array Value).size]!) = madeCells zv.cells (len * ks.length) := by rw [h0]; simp [madeCells]
            simp only [execOp, ho, Instr.buildSlice, Sem.run_bind, run_underlying hu, Result.andThen_ok, hsz', gt_iff_lt, hnz, if_false, if_pos h0, Sem.run_pure, hcells, hparts, f1, newRow, run_newObj]
            rfl
          · have hcells : (Array.range (len * ks.length)).map (fun x => zv.cells[x % zv.cells.size]!) = madeCells zv.cells (len * ks.length) := rfl
            simp only [execOp, ho, Instr.buildSlice, Sem.run_bind, run_underlying hu, Result.andThen_ok, hsz', gt_iff_lt, hnz, if_false, if_neg h0, h3, Sem.run_pure, hcells, hparts, f1, newRow, run_newObj]
            rfl
        · cases hc
      · cases hc
    · cases hc
  · cases hc

end
end Go.Mw

namespace Go.Mw

theorem Rep.replicate {w : World} {us : List Value} {ds : List V} (h : Rep w us ds []) : ∀ n, Rep w (List.replicate n us).flatten (List.replicate n ds).flatten []
  | 0 => .nil
  | n + 1 => by
    rw [List.replicate_succ, List.replicate_succ, List.flatten_cons, List.flatten_cons]
    exact h.append (h.replicate n)

theorem ev_isK {env : List V} {ls : List Lf} (h : ls.all Lf.isK = true) : ls.map (Lf.ev env) = ls.map (Lf.ev []) := by
  apply List.map_congr_left
  intro l hl
  have := List.all_eq_true.1 h l hl
  cases l with
  | v i => simp [Lf.isK] at this
  | k c => rfl

theorem put_cells {e : V} {off : Nat} {news : List V} (h : off + news.length ≤ e.cells.length) (hn : news ≠ []) (hc : ∀ d ∈ news, d.cells = [d]) : (e.put off news).cells = e.cells.take off ++ news ++ e.cells.drop (off + news.length) := by
  cases e with
  | agg cs => rfl
  | _ =>
    simp only [V.cells, List.length_singleton] at h ⊢
    have h1 : news.length ≠ 0 := by simpa using hn
    obtain ⟨n, rfl⟩ : ∃ n, news = [n] := by
      match news, h, h1 with
      | [n], _, _ => exact ⟨n, rfl⟩
      | a :: b :: r, h, _ => simp at h; omega
    simp only [List.length_singleton] at h
    obtain rfl : off = 0 := by omega
    simp only [V.put, List.take_zero, List.nil_append, List.length_singleton, Nat.zero_add, List.drop_succ_cons, List.drop_zero, List.append_nil]
    exact hc n (by simp)

theorem flat_set {es : List V} {k i : Nat} (hk : ∀ e ∈ es, e.cells.length = k) {e e' : V} (he : es[i]? = some e) {off m : Nat} {news : List V} (hm : off + m ≤ k) (h' : e'.cells = e.cells.take off ++ news ++ e.cells.drop (off + m)) :
    (es.set i e').flatMap V.cells = (es.flatMap V.cells).take (i * k + off) ++ news ++ (es.flatMap V.cells).drop (i * k + off + m) := by
  induction es generalizing i with
  | nil => simp at he
  | cons x es ih =>
    have hx := hk x (by simp)
    cases i with
    | zero =>
      simp only [List.getElem?_cons_zero, Option.some.injEq] at he
      subst he
      simp only [List.set_cons_zero, List.flatMap_cons, h', Nat.zero_mul, Nat.zero_add]
      rw [List.take_append_of_le_length (by omega), List.drop_append_of_le_length (by omega)]
      simp [List.append_assoc]
    | succ i =>
      simp only [List.getElem?_cons_succ] at he
      simp only [List.set_cons_succ, List.flatMap_cons]
      rw [ih (fun y hy => hk y (by simp [hy])) he]
      have e1 : (i + 1) * k + off = x.cells.length + (i * k + off) := by rw [Nat.add_mul, hx]; omega
      have e2 : (i + 1) * k + off + m = x.cells.length + (i * k + off + m) := by rw [Nat.add_mul, hx]; omega
      rw [e2, e1, List.take_length_add_append, List.drop_length_add_append]
      simp [List.append_assoc]

theorem splice_get {cs vs us : List Value} {o p m len : Nat} (hm : us.length = m) (hp : p + m ≤ len) (hcs : o + len ≤ cs.length) (hvs : len ≤ vs.length) (h : ∀ j, j < len → cs[o + j]? = vs[j]?) :
    ∀ j, j < len → (cs.take (o + p) ++ us ++ cs.drop (o + p + m))[o + j]? = (vs.take p ++ us ++ vs.drop (p + m))[j]? := by
  intro j hj
  have e1 : (cs.take (o + p)).length = o + p := by simp; omega
  have e2 : (vs.take p).length = p := by simp; omega
  by_cases h1 : j < p
  · have L : (cs.take (o + p) ++ us ++ cs.drop (o + p + m))[o + j]? = cs[o + j]? := by
      rw [List.append_assoc, List.getElem?_append_left (by omega), List.getElem?_take_of_lt (by omega)]
    have R : (vs.take p ++ us ++ vs.drop (p + m))[j]? = vs[j]? := by
      rw [List.append_assoc, List.getElem?_append_left (by omega), List.getElem?_take_of_lt h1]
    rw [L, R]; exact h j hj
  · by_cases h2 : j < p + m
    · have L : (cs.take (o + p) ++ us ++ cs.drop (o + p + m))[o + j]? = us[j - p]? := by
        rw [List.append_assoc, List.getElem?_append_right (by omega), e1, List.getElem?_append_left (by omega), show o + j - (o + p) = j - p by omega]
      have R : (vs.take p ++ us ++ vs.drop (p + m))[j]? = us[j - p]? := by
        rw [List.append_assoc, List.getElem?_append_right (by omega), e2, List.getElem?_append_left (by omega)]
      rw [L, R]
    · have e3 : (cs.take (o + p) ++ us).length = o + p + m := by rw [List.length_append, e1, hm]
      have e4 : (vs.take p ++ us).length = p + m := by rw [List.length_append, e2, hm]
      have L : (cs.take (o + p) ++ us ++ cs.drop (o + p + m))[o + j]? = cs[o + j]? := by
        rw [List.getElem?_append_right (by omega), e3, List.getElem?_drop, show o + p + m + (o + j - (o + p + m)) = o + j by omega]
      have R : (vs.take p ++ us ++ vs.drop (p + m))[j]? = vs[j]? := by
        rw [List.getElem?_append_right (by omega), e4, List.getElem?_drop, show p + m + (j - (p + m)) = j by omega]
      rw [L, R]; exact h j hj

theorem split3 {α : Type} (l : List α) (p m : Nat) : l = l.take p ++ ((l.drop p).take m ++ l.drop (p + m)) := by
  rw [← List.drop_drop, List.take_append_drop, List.take_append_drop]

theorem aksOk_splice {ks : List AK} {ds news : List V} {off m : Nat} (h : aksOk ks ds = true) (_hm : news.length = m) (_hle : off + m ≤ ks.length) (h' : aksOk ((ks.drop off).take m) news = true) :
    aksOk ks (ds.take off ++ news ++ ds.drop (off + m)) = true := by
  have e := split3 ks off m
  rw [e]
  rw [List.append_assoc]
  exact aksOk_append (aksOk_take off h) (aksOk_append h' (aksOk_drop (off + m) h))

section
variable {P : Program} {c : Cx} {nt : Nat} {M : Mp} {env : List V} {A : FS} {a : Act} {w : World} {o : Oper} {gs : Gs} {fid nv : Nat} {K : Act → World → Prop} {Q : Exit → Act → World → Prop} {out : Out}
variable (hR : Rel c nt M env A a w) (hg : GH env gs) (hd : ∀ d, o.dst = some d → d < nt) (hf : Fresh A (· = fid)) (hh : Holds env nv out) (hK : Kont c nt env gs A a o out K)
include hR hg hd hf hh hK

theorem op_make {t : TypeId} {x y : Operand} (ho : o.op = .makeSlice t x y) {sx sy : SV} (h1 : look A.sl gs [] x = some sx) (h2 : look A.sl gs [] y = some sy) (hc : coreMake P A.ob fid nv t sx sy = some out) : o.wp P a w K Q := by
  have rx := look_rel0 hR h1 hg
  have ry := look_rel0 hR h2 hg
  unfold coreMake at hc
  split at hc
  · rename_i e hu
    split at hc
    · rename_i ks z ti ll lc hks hz hti hll hlc
      split at hc
      · rename_i hcond
        simp only [Bool.and_eq_true, beq_iff_eq, bne_iff_ne, Bool.or_eq_true] at hcond
        obtain ⟨⟨⟨c1, c2⟩, c3⟩, c5⟩ := hcond
        split at hc
        · rename_i ls hmv
          split at hc <;> simp only [Option.some.injEq, reduceCtorEq] at hc
          rename_i hisK
          simp only [Bool.not_eq_true', Bool.not_eq_false] at hisK
          have hisK' : ls.all Lf.isK = true := by simpa using hisK
          subst hc
          obtain ⟨zv, ti', z1, z2, z3, z4, z5⟩ := zero_rel (c := c) (M := M) (env := env) (w := w) (ob := A.ob) hz
          rw [hti] at z1
          simp only [Option.some.injEq] at z1
          subst z1
          obtain ⟨S, m1, m2, m3, m4, m5, m6, m7⟩ := moved_rel hR hmv z4
          obtain rfl : S = [] := by
            cases S with
            | nil => rfl
            | cons b S => obtain ⟨⟨r, hr, _⟩, _⟩ := m3 b (by simp); simp at hr
          obtain ⟨d, p1, p2⟩ := hh.one
          simp only [List.map_cons, List.map_nil] at p1
          have sx' := rx.scl hll
          have sy' := ry.scl hlc
          cases hlx : ll.ev env <;> rw [hlx] at p1 sx' <;> (try (simp only [Prim.run, reduceCtorEq] at p1; done))
          cases hly : lc.ev env <;> rw [hly] at p1 sy' <;> (try (simp only [Prim.run, reduceCtorEq] at p1; done))
          rename_i k1 n k2 m
          simp only [Prim.run] at p1
          by_cases hcnd : n = m ∧ 0 ≤ n ∧ n * (ti.bytes : Int) ≤ 140737488355328 ∧ n ≤ 140737488355328 ∧ aksOk ks (V.pack (isStruct P e) (ls.map (Lf.ev []))).cells = true
          case neg => rw [if_neg hcnd] at p1; cases p1
          rw [if_pos hcnd] at p1
          obtain ⟨rfl, hn0, hnb, hnn, hak⟩ := hcnd
          simp only [Option.some.injEq, List.cons.injEq, and_true] at p1
          obtain ⟨e1, _⟩ := sx'.int_inv
          obtain ⟨e2, _⟩ := sy'.int_inv
          have hzs : zv.cells.size = ti.size := by have := z4.length; simp at this; omega
          have hlen1 : (ls.map (Lf.ev env)).length = ti.size := by rw [List.length_map, m6]; exact c2
          have hpk : (V.pack (isStruct P e) (ls.map (Lf.ev []))).cells = ls.map (Lf.ev env) := by
            rw [← ev_isK (env := env) hisK']
            refine pack_cells (fun h => ?_) m1.noAgg
            rcases c5 with c5 | c5
            · rw [h] at c5; cases c5
            · omega
          generalize hzV : V.pack (isStruct P e) (ls.map (Lf.ev [])) = zV at hpk p1 hak
          have hflat : (List.replicate n.toNat zV).flatMap V.cells = (List.replicate n.toNat (ls.map (Lf.ev env))).flatten := by
            rw [List.flatMap_def, List.map_replicate, hpk]
          have hrep : Rep w (madeCells zv.cells (n.toNat * ti.size)).toList ((List.replicate n.toNat zV).flatMap V.cells) [] := by
            rw [hflat, ← hzs, madeCells_flatten _ (by omega)]
            exact m1.replicate _
          have hk : ∀ x ∈ List.replicate n.toNat zV, aksOk ks x.cells = true := fun x hx => by
            rw [(List.mem_replicate.1 hx).2]; exact hak
          have hown0 : OwnCs w zv.cells.toList (ls.map (Lf.ev env)) := moved_own hR hmv z4 (by rw [← hpk]; exact hak)
          have hown : OwnCs w (madeCells zv.cells (n.toNat * ti.size)).toList ((List.replicate n.toNat zV).flatMap V.cells) := by
            have l1 : zv.cells.toList.length = ti.size := by rw [Array.length_toList]; exact hzs
            have hts : ti.size ≠ 0 := by rw [← hlen1]; intro h0; rw [hlen1] at h0; simp [h0] at c3
            rw [hflat, ← hzs, madeCells_flatten _ (by omega)]
            intro j u js es' hu hd
            have hj : j < n.toNat * zv.cells.toList.length := by
              rcases Nat.lt_or_ge j (List.replicate n.toNat zv.cells.toList).flatten.length with h | h
              · simpa using h
              · rw [List.getElem?_eq_none h] at hu; cases hu
            rw [replicate_flatten_get _ (by omega) _ _ hj] at hu
            rw [replicate_flatten_get _ (by omega) _ _ (by rw [hlen1, ← l1]; exact hj), hlen1, ← l1] at hd
            exact hown0 _ u js es' hu hd
          obtain ⟨r1, r2⟩ := Rep.made (rest := []) hrep hk (cap := n.toNat) (by simp) (by simp [madeCells, c1]) (by unfold maxLen; omega) e (fun b hb => heap_alloc_old w _ hb) hown
          simp only [List.append_nil, Array.toArray_toList, List.length_replicate] at r1 r2
          have hmvd := Moved.alloc w (.cells (madeCells zv.cells (n.toNat * ti.size)) e) (fun b => (∃ r ∈ ([] : List Nat), b ∈ M.ph r) ∨ ((∃ x, A.ob fid = some x) ∧ b ∈ M.ph fid)) c.G.dr
          have hlf : (Lf.v nv).ev env = .list ks (List.replicate n.toNat zV) := by rw [p2, ← p1]
          obtain ⟨M', hR'⟩ := hR.new_row (gone := []) (by simp) (by simp) (ver := 0) (l := .v nv) (app := true) (.inl ⟨hf, rfl⟩) hmvd (v := .slice (some ⟨w.heap.size, 0, none⟩) n.toNat n.toNat) (S := [w.heap.size])
            (by rw [hlf]; exact r1) (by simp)
            (fun b hb => by
              simp only [List.mem_singleton] at hb
              subst hb
              exact ⟨.inl (Nat.le_refl _), .mk (heap_alloc_new w _)⟩)
            (fun _ r hr => by cases hr) (fun h => by cases h) (fun _ => by rw [hlf]; exact r2) hd hg (sv := some (.ofAt (.own fid))) (u := .slice (some ⟨w.heap.size, 0, none⟩) n.toNat n.toNat) (fun s hs _ => by cases hs; exact ⟨rfl, rfl⟩)
          refine wp_value ?_ (hK _ _ _ hR')
          have hrun := run_make (P := P) w t e ti zv hu hti z2 k1 k2 n n hn0 (Int.le_refl _) (by rw [Int.mul_comm]; omega) (by omega)
          simp only [execOp, ho, e1, e2, Sem.run_bind, hrun, Result.andThen_ok]
          rfl
        · cases hc
      · cases hc
    · cases hc
  · cases hc

omit hf in
theorem op_storeElem {t : TypeId} {x y : Operand} (ho : o.op = .store t x y) {r ver : Nat} {ll ix : Lf} {el off : Nat} {kk : List AK} {s : SC} (h1 : look A.sl gs [] x = some (.elem (.own r) ver ll ix el off kk))
    (h2 : look A.sl gs [] y = some (.sc s)) (hsz : tsize P t = some s.cs.length) {l : Lf} {app : Bool} (hrow : A.ob r = some (.row ver l app)) (hle : off + s.cs.length ≤ kk.length) (hne : s.cs.length ≠ 0)
    {ls : List Lf} {gone : List Nat} (hmv : moved A.ob ((kk.drop off).take s.cs.length) s.cs = some (ls, gone)) (hrg : r ∉ gone) (hga : app = false → gone = [])
    (hout : out = ⟨some (.set kk off, l :: ix :: ls), 1, none, gone.map (fun q => (q, none)) ++ [(r, some (.row (ver + 1) (.v nv) app))]⟩) : o.wp P a w K Q := by
  subst hout
  obtain ⟨us, e1, e2⟩ := (look_rel0 hR h2 hg : RelSC c M env w A.ob s (a.eval y)).cells
  obtain ⟨u, hb, bb, oo, n, cap, es, i, ik, e, q1, q2, q3, q4, q5, q6, q7, q8⟩ := look_rel0 hR h1 hg
  obtain ⟨_, hb2⟩ := hb _ _ _ hrow
  obtain ⟨hb3, hb4⟩ := hb2 rfl
  obtain ⟨⟨S, s1, s2, s3⟩, s4, s5⟩ := hR.rows _ _ _ _ hrow
  have hrowok := hR.rows _ _ _ _ hrow
  obtain ⟨Sm, m1, m2, m3, m4, m5, m6, m7⟩ := moved_rel hR hmv e2
  have lus := e2.length
  rw [hb3, q2] at s1 s5
  rw [← hb4, q1] at s1
  rcases s1.list_inv with ⟨_, q, _⟩ | ⟨b', off', n', cap', vs, S', cs, E, fz, hv, rfl, hn, hk, hcap, hbl, hs, hvs, hin⟩
  · subst q; simp at q5
  simp only [Value.slice.injEq, Option.some.injEq, Addr.mk.injEq, and_true] at hv
  obtain ⟨⟨rfl, rfl⟩, rfl, rfl⟩ := hv
  have hblr := hbl
  have hfz : FzOk cs.size fz := by
    obtain ⟨cs2, E2, fz2, hw, hz⟩ := (s3 bb (by simp)).2
    rw [hbl] at hw
    simp only [Option.some.injEq, Obj.cells.injEq] at hw
    obtain ⟨rfl, rfl, rfl⟩ := hw
    exact hz
  have hlt : i.toNat < es.length := by
    rcases Nat.lt_or_ge i.toNat es.length with h | h
    · exact h
    · simp [List.getElem?_eq_none h] at q5
  have hpos : i.toNat * kk.length + off + us.length ≤ n * kk.length := by
    have : (i.toNat + 1) * kk.length ≤ n * kk.length := Nat.mul_le_mul_right _ (by omega)
    rw [Nat.add_mul] at this; omega
  have hvl : vs.length = n * kk.length := by rw [hin.flat_length (lens hk), hn]
  obtain ⟨d, p1, p2⟩ := hh.one
  rw [List.map_cons, List.map_cons, hb3, q2, q3] at p1
  simp only [Prim.run] at p1
  by_cases hcnd : (AK.eqs kk kk && decide (0 ≤ i) && aksOk ((kk.drop off).take (ls.map (Lf.ev env)).length) (ls.map (Lf.ev env))) = true
  case neg => rw [if_neg hcnd] at p1; cases p1
  rw [if_pos hcnd, q5] at p1
  simp only [Option.map_some, Option.some.injEq, List.cons.injEq, and_true] at p1
  simp only [Bool.and_eq_true] at hcnd
  have hakn := hcnd.2
  have hk2 := lens hk
  have hnews : (ls.map (Lf.ev env)).length = us.length := by rw [m1.length]
  have hput := put_cells (e := e) (off := off) (news := ls.map (Lf.ev env)) (by rw [hnews, hk2 e (List.mem_of_getElem? q5)]; omega) (by intro h0; rw [h0] at hnews; simp at hnews; omega) m1.noAgg
  have hflat := flat_set (e' := e.put off (ls.map (Lf.ev env))) hk2 q5 (off := off) (m := us.length) (news := ls.map (Lf.ev env)) (by omega) (by rw [hput, hnews])
  -- the machine's step
  let new := cs.toList.take (oo + (i.toNat * kk.length + off)) ++ us ++ cs.toList.drop (oo + (i.toNat * kk.length + off) + us.length)
  have hst : (storeCells ⟨bb, oo + (i.toNat * kk.length + off), none⟩ us 0).run P w = .ok () (w.setRow bb new.toArray) := by
    have := run_storeCells_z P bb (oo + (i.toNat * kk.length + off)) E fz us 0 cs w hblr hfz (by omega) e2.one1
    simpa [new] using this
  have hrun : (execOp a.eval o).run P w = .ok .skip (w.setRow bb new.toArray) := by
    have q8' : a.eval x = .pointer (some ⟨bb, oo + (i.toNat * kk.length + off), none⟩) := by rw [q8, Nat.add_assoc]
    simp only [execOp, ho, Instr.storeAt, q8', Instr.sureAddr, storeVar, e1, Sem.run_bind, Sem.run_pure, Result.andThen_ok, run_sizeOf w hsz, List.size_toArray, lus, ne_eq, not_true_eq_false, if_false, hst]
  have hbr : bb ∈ M.ph r := (s3 bb (by simp)).1
  have hmvd : Moved w (w.setRow bb new.toArray) (fun b => (∃ q ∈ gone, b ∈ M.ph q) ∨ ((∃ x, A.ob r = some x) ∧ b ∈ M.ph r)) c.G.dr :=
    ⟨rfl, rfl, rfl, by simp, fun b _ hb => setRow_other w _ _ _ fun e => hb (.inr ⟨⟨_, hrow⟩, e ▸ hbr⟩), setRow_sz hblr (by simp only [new, List.size_toArray, List.length_append, List.length_take, List.length_drop, Array.length_toList]; omega), fun _ => Nat.le_refl _⟩
  -- the cells behind it
  have hsplit : es.flatMap V.cells = (es.flatMap V.cells).take (i.toNat * kk.length + off) ++ (((es.flatMap V.cells).drop (i.toNat * kk.length + off)).take us.length ++ (es.flatMap V.cells).drop (i.toNat * kk.length + off + us.length)) := split3 _ _ _
  have hin2 := hin
  rw [hsplit] at hin2
  obtain ⟨vx, v2, Sx, S2, ev, eS, rx, r2⟩ := hin2.split
  obtain ⟨vy, vz, Sy, Sz, ev2, eS2, ry, rz⟩ := r2.split
  have lfl : (es.flatMap V.cells).length = n * kk.length := by rw [flatMap_length hk2, hn]
  have lvx : vx.length = i.toNat * kk.length + off := by rw [rx.length, List.length_take]; omega
  have lvy : vy.length = us.length := by rw [ry.length, List.length_take, List.length_drop]; omega
  have evx : vx = vs.take (i.toNat * kk.length + off) := by rw [ev, ← lvx]; simp
  have evz : vz = vs.drop (i.toNat * kk.length + off + us.length) := by
    rw [ev, ev2, ← lvx, ← lvy, ← List.drop_drop, List.drop_left', List.drop_left'] <;> rfl
  have hnd : (Sx ++ (Sy ++ Sz)).Nodup ∧ bb ∉ Sx ++ (Sy ++ Sz) := by
    rw [← eS2, ← eS]
    simp only [List.nodup_cons] at s2
    exact ⟨s2.2, s2.1⟩
  have hsub : ∀ b ∈ Sx ++ (Sy ++ Sz), b ∈ M.ph r ∧ Wr w b := by
    rw [← eS2, ← eS]; exact fun b hb => s3 b (by simp [hb])
  have hne2 : ∀ b, b ≠ bb → (w.setRow bb new.toArray).heap[b]? = w.heap[b]? := fun b hb => setRow_other w _ _ _ hb
  have hSm : ∀ b ∈ Sm, b ≠ bb := by
    intro b hb e
    subst e
    obtain ⟨⟨q, hq, hbq⟩, _⟩ := m3 b hb
    obtain ⟨v3, l3, a3, hoq⟩ := m5 q hq
    exact hR.dRR _ _ _ _ _ _ _ _ hrow hoq (fun e => hrg (e ▸ hq)) b hbr hbq
  have hinner : Rep (w.setRow bb new.toArray) (vs.take (i.toNat * kk.length + off) ++ us ++ vs.drop (i.toNat * kk.length + off + us.length)) ((es.set i.toNat (e.put off (ls.map (Lf.ev env)))).flatMap V.cells) (Sx ++ Sm ++ Sz) := by
    rw [hflat, ← evx, ← evz]
    refine Rep.append (Rep.append ?_ ?_) ?_
    · exact rx.frame fun b hb => hne2 b fun e => hnd.2 (by subst e; simp [hb])
    · exact m1.frame fun b hb => hne2 b (hSm b hb)
    · exact rz.frame fun b hb => hne2 b fun e => hnd.2 (by subst e; simp [hb])
  have hnewheap : (w.setRow bb new.toArray).heap[bb]? = some (.cells new.toArray E fz) := setRow_heap w _ _ _ _ _ hblr
  have hnewsize : new.length = cs.size := by
    simp only [new, List.length_append, List.length_take, List.length_drop, Array.length_toList]; omega
  have hrep : Rep (w.setRow bb new.toArray) [.slice (some ⟨bb, oo, none⟩) n cap] [d] (bb :: (Sx ++ Sm ++ Sz)) := by
    rw [← p1]
    have := Rep.row (w := w.setRow bb new.toArray) bb oo n cap kk (es.set i.toNat (e.put off (ls.map (Lf.ev env)))) _ _ new.toArray E fz (by simp [hn]) (fun x hx => by
        rcases List.mem_or_eq_of_mem_set hx with hx | rfl
        · exact hk x hx
        · rw [hput]
          exact aksOk_splice (hk e (List.mem_of_getElem? q5)) rfl (by rw [hnews]; omega) hakn) hcap hnewheap
      (by simp only [List.size_toArray, hnewsize]; exact hs) (fun j hj => by
        rw [List.getElem?_toArray]
        exact splice_get (cs := cs.toList) (vs := vs) rfl hpos (by rw [Array.length_toList]; exact hs) (by omega) (fun j hj => by rw [Array.getElem?_toList]; exact hvs j hj) j hj) hinner .nil
    simpa using this
  have hSxz : (Sx ++ Sz).Nodup := by
    have := hnd.1
    simp only [List.nodup_append, List.mem_append] at this ⊢
    exact ⟨this.1, this.2.1.2.1, fun a ha b hb => this.2.2 a ha b (.inr hb)⟩
  obtain ⟨M', hR'⟩ := hR.new_row m5 hrg (ver := ver + 1) (l := .v nv) (app := app) (.inr ⟨ver, l, hrow, Nat.lt_succ_self _, rfl⟩) hmvd (S := bb :: (Sx ++ Sm ++ Sz))
    (by rw [p2, ← hb4, q1]; exact hrep)
    (by
      rw [List.nodup_cons]
      refine ⟨?_, ?_⟩
      · simp only [List.mem_append, not_or]
        exact ⟨⟨fun h => hnd.2 (by simp [h]), fun h => hSm bb h rfl⟩, fun h => hnd.2 (by simp [h])⟩
      · have hdis : ∀ b ∈ Sm, b ∉ M.ph r := by
          intro b hb hbr'
          obtain ⟨⟨q, hq, hbq⟩, _⟩ := m3 b hb
          obtain ⟨v3, l3, a3, hoq⟩ := m5 q hq
          exact hR.dRR _ _ _ _ _ _ _ _ hrow hoq (fun e => hrg (e ▸ hq)) b hbr' hbq
        simp only [List.nodup_append, List.mem_append] at hSxz ⊢
        refine ⟨⟨hSxz.1, m2, fun a ha b hb e => hdis b hb (e ▸ (hsub a (by simp [ha])).1)⟩, hSxz.2.1, ?_⟩
        rintro a (ha | ha) b hb e
        · exact hSxz.2.2 a ha b hb e
        · exact hdis a ha (e ▸ (hsub b (by simp [hb])).1))
    (fun b hb => by
      rcases List.mem_cons.1 hb with rfl | hb
      · exact ⟨.inr (.inr ⟨⟨_, hrow⟩, hbr⟩), _, _, _, hnewheap, by simp only [List.size_toArray, hnewsize]; exact hfz⟩
      · simp only [List.mem_append] at hb
        rcases hb with (hb | hb) | hb
        · have := hsub b (by simp [hb])
          exact ⟨.inr (.inr ⟨⟨_, hrow⟩, this.1⟩), this.2.of_eq (hne2 b fun e => hnd.2 (by rw [← e]; simp [hb]))⟩
        · have := m3 b hb
          exact ⟨.inr (.inl this.1), this.2.of_eq (hne2 b (hSm b hb))⟩
        · have := hsub b (by simp [hb])
          exact ⟨.inr (.inr ⟨⟨_, hrow⟩, this.1⟩), this.2.of_eq (hne2 b fun e => hnd.2 (by rw [← e]; simp [hb]))⟩)
    (fun _ => moved_app hmv) (fun ha => ⟨hga ha, ⟨_, hrow⟩, fun b hb => by
      have hg0 := hga ha
      rcases List.mem_cons.1 hb with rfl | hb
      · exact hbr
      · simp only [List.mem_append] at hb
        rcases hb with (hb | hb) | hb
        · exact (hsub b (by simp [hb])).1
        · obtain ⟨⟨q, hq, _⟩, _⟩ := m3 b hb
          rw [hg0] at hq; cases hq
        · exact (hsub b (by simp [hb])).1⟩)
    (fun ha => by
      rw [p2, ← p1]
      refine ⟨?_, ?_⟩
      rotate_left
      · have hi0 := (s5.1 ha).1.2
        rw [← hb4, q1] at hi0
        have hc0 := hi0.cells hblr hvl hvs
        rw [← hb4, q1]
        refine Inn.mk hnewheap (vs := vs.take (i.toNat * kk.length + off) ++ us ++ vs.drop (i.toNat * kk.length + off + us.length)) (fun j hj => ?_) ?_
        · rw [List.getElem?_toArray]
          exact splice_get (cs := cs.toList) (vs := vs) rfl hpos (by rw [Array.length_toList]; exact hs) (by omega) (fun j hj => by rw [Array.getElem?_toList]; exact hvs j hj) j hj
        · rw [hflat]
          refine OwnCs.append (OwnCs.append ?_ ?_ (by simp [lfl, hvl])) ?_ (by simp only [List.length_append, List.length_take, hnews, lfl, hvl])
          · rw [← evx]
            exact (evx ▸ hc0.take (i.toNat * kk.length + off)).frame rx fun b hb => hne2 b fun e => hnd.2 (by subst e; simp [hb])
          · exact (moved_own hR hmv e2 (by rw [lus, ← hnews]; exact hakn)).frame m1 fun b hb => hne2 b (hSm b hb)
          · rw [← evz]
            exact (evz ▸ hc0.drop (i.toNat * kk.length + off + us.length)).frame rz fun b hb => hne2 b fun e => hnd.2 (by subst e; simp [hb])
      rcases (s5.1 ha).1.1 with h0 | ⟨g, n2, cap2, k2, es2, h3, h4, h5, h7, h8⟩
      · exact .inl h0
      · rw [← hb4, q1] at h3
        simp only [Value.slice.injEq, Option.some.injEq, Addr.mk.injEq, and_true] at h3
        obtain ⟨⟨rfl, rfl⟩, rfl, rfl⟩ := h3
        simp only [V.list.injEq] at h4
        obtain ⟨rfl, rfl⟩ := h4
        refine .inr ⟨bb, n, cap, kk, _, by rw [← hb4, q1], rfl, fun hp => ?_, h7, h8⟩
        obtain ⟨cur, E2, fz2, h5, _, h6⟩ := h5 hp
        rw [hblr] at h5
        simp only [Option.some.injEq, Obj.cells.injEq] at h5
        obtain ⟨rfl, rfl, _⟩ := h5
        exact ⟨_, E, fz, hnewheap, by simp only [List.size_toArray, hnewsize]; exact hfz, by simp only [List.size_toArray, hnewsize]; exact h6⟩)
    hd hg (sv := none) (u := undef) (fun s hs => by cases hs)
  exact wp_skip' hrun (hK _ _ _ (by simpa using hR'))

end
end Go.Mw

namespace Go.Mw

section
variable {P : Program} (w : World)

theorem run_app_nil0 (t u ty e : TypeId) (i : TypeInfo) (ht : P.underlying t = some (.slice e)) (hu : P.underlying u = some .string ∨ ∃ e', P.underlying u = some (.slice e')) (hi : P.info? e = some i) (y : Value)
    (hm : (Builtin.lenOf y).run P w = .ok 0 w) (hn : (Builtin.firstCells i.size 0 y).run P w = .ok #[] w) :
    (Builtin.append_ #[t, u] ty #[.slice none 0 0, y]).run P w = .ok (.slice none 0 0) w := by
  rcases hu with hu | ⟨e', hu⟩ <;> simp [Builtin.append_, run_underlying ht, run_underlying hu, sizeOf, typeInfo, hi, hm, hn]

theorem run_app_none (t u ty e : TypeId) (i : TypeInfo) (ht : P.underlying t = some (.slice e)) (hu : P.underlying u = some .string ∨ ∃ e', P.underlying u = some (.slice e')) (hi : P.info? e = some i) (y : Value)
    (hm : (Builtin.lenOf y).run P w = .ok 0 w) (hn : (Builtin.firstCells i.size 0 y).run P w = .ok #[] w) (g : Nat) :
    (Builtin.append_ #[t, u] ty #[.slice (some ⟨g, 0, none⟩) 0 0, y]).run P w = .ok (.slice (some ⟨g, 0, none⟩) 0 0) w := by
  rcases hu with hu | ⟨e', hu⟩ <;> simp [Builtin.append_, run_underlying ht, run_underlying hu, sizeOf, typeInfo, hi, hm, hn, storeCells]

theorem run_app_nil (t u ty e : TypeId) (i : TypeInfo) (z : Value) (ht : P.underlying t = some (.slice e)) (hu : P.underlying u = some .string ∨ ∃ e', P.underlying u = some (.slice e')) (hi : P.info? e = some i) (hz : i.zero = some z)
    (y : Value) (m : Nat) (news : List Value) (hm : (Builtin.lenOf y).run P w = .ok m w) (hn : (Builtin.firstCells i.size m y).run P w.drew = .ok news.toArray w.drew) (h0 : 0 < m) (hb : m * i.bytes ≤ 140737488355328) (h63 : m ≤ 140737488355328) :
    (Builtin.append_ #[t, u] ty #[.slice none 0 0, y]).run P w = .ok (.slice (some ⟨w.heap.size, 0, none⟩) m (grownCap w m 0 e)) (w.drew.alloc (.cells (news.toArray ++ Builtin.zeroCells z.cells (grownCap w m 0 e - m)) e)) := by
  have hn0 : m ≠ 0 := by omega
  have h63' : ¬ (9223372036854775807 < (m : Int)) := by omega
  have h48' : ¬ (281474976710656 < Builtin.nextslicecap m 0 * i.bytes) := by rw [nextslicecap_zero h0]; omega
  rcases hu with hu | ⟨e', hu⟩ <;>
    simp [Builtin.append_, run_underlying ht, run_underlying hu, sizeOf, typeInfo, zeroValue, hi, hz, hm, hn0, h63', h48', Question.forced, run_firstCells_none, hn, newRow, grownCap]

theorem run_app_room (t u ty e : TypeId) (i : TypeInfo) (ht : P.underlying t = some (.slice e)) (hu : P.underlying u = some .string ∨ ∃ e', P.underlying u = some (.slice e')) (hi : P.info? e = some i)
    (y : Value) (m : Nat) (news : List Value) (hm : (Builtin.lenOf y).run P w = .ok m w) (hn : (Builtin.firstCells i.size m y).run P w = .ok news.toArray w) (g n cap : Nat) (cur : Array Value) (E : TypeId) {fz : Nat × Nat} (hg : w.heap[g]? = some (.cells cur E fz)) (hfz : FzOk cur.size fz)
    (hroom : n + m ≤ cap) (hfit : n * i.size + news.length ≤ cur.size) (h1 : ∀ v ∈ news, v.oneCell' = true) :
    (Builtin.append_ #[t, u] ty #[.slice (some ⟨g, 0, none⟩) n cap, y]).run P w = .ok (.slice (some ⟨g, 0, none⟩) (n + m) cap) (w.setRow g (cur.toList.take (n * i.size) ++ news ++ cur.toList.drop (n * i.size + news.length)).toArray) := by
  have hst := run_storeCells_z P g (n * i.size) E fz news 0 cur w hg hfz (by simpa using hfit) h1
  simp only [Nat.add_zero] at hst
  rcases hu with hu | ⟨e', hu⟩ <;>
    simp [Builtin.append_, run_underlying ht, run_underlying hu, sizeOf, typeInfo, hi, hm, hroom, hn, Addr.add_lit, hst]

theorem run_app_grow (t u ty e : TypeId) (i : TypeInfo) (z : Value) (ht : P.underlying t = some (.slice e)) (hu : P.underlying u = some .string ∨ ∃ e', P.underlying u = some (.slice e')) (hi : P.info? e = some i) (hz : i.zero = some z)
    (y : Value) (m : Nat) (news : List Value) (hm : (Builtin.lenOf y).run P w = .ok m w) (hn : (Builtin.firstCells i.size m y).run P w.drew = .ok news.toArray w.drew) (g n cap : Nat) (olds : List Value) (hlo : olds.length = n * i.size)
    (ho : ∀ j v, olds[j]? = some v → w.cell? ⟨g, j, none⟩ = some v) (hgrow : cap < n + m) (hb : (n + m) * i.bytes ≤ 140737488355328) (h63 : n + m ≤ 140737488355328) :
    (Builtin.append_ #[t, u] ty #[.slice (some ⟨g, 0, none⟩) n cap, y]).run P w = .ok (.slice (some ⟨w.heap.size, 0, none⟩) (n + m) (grownCap w (n + m) cap e))
      (w.drew.alloc (.cells (olds.toArray ++ news.toArray ++ Builtin.zeroCells z.cells (grownCap w (n + m) cap e - (n + m))) e)) := by
  have hnr : ¬ (n + m ≤ cap) := by omega
  have h63' : ¬ (9223372036854775807 < ((n : Int) + (m : Int))) := by omega
  have h48' : ¬ (281474976710656 < Builtin.nextslicecap (n + m) cap * i.bytes) := by have := growslice_fits hgrow hb; omega
  have hfo := run_firstCells_some (P := P) w.drew i.size n ⟨g, 0, none⟩ n cap olds hlo (fun j v hj => by rw [Addr.add_lit]; simpa using ho j v hj)
  rcases hu with hu | ⟨e', hu⟩ <;>
    (simp [Builtin.append_, run_underlying ht, run_underlying hu, sizeOf, typeInfo, zeroValue, hi, hz, hm, hnr, h63', h48', Question.forced, hn, hfo, newRow, grownCap]
     congr 2
     apply Array.ext'
     simp [List.append_assoc])

end

theorem Rep.append_inv1 {w : World} {us : List Value} {es : List V} {ks : List AK} {S : List Nat} (h : Rep w us (es.flatMap V.cells) S) (hk : ∀ e ∈ es, aksOk ks e.cells = true) (hs : ks.all (AK.eqb .sc) = true) : S = [] := by
  have key : ∀ (ks : List AK) (ds : List V) (us : List Value) (S : List Nat), ks.all (AK.eqb .sc) = true → aksOk ks ds = true → Rep w us ds S → S = [] := by
    intro ks
    induction ks with
    | nil =>
      intro ds us S _ hk h
      have := aksOk_length hk
      obtain rfl : ds = [] := List.eq_nil_of_length_eq_zero this.symm
      exact h.nil_inv.2
    | cons k ks ih =>
      intro ds us S hs hk h
      cases ds with
      | nil => simp [aksOk] at hk
      | cons d ds =>
        simp only [aksOk, Bool.and_eq_true] at hk
        simp only [List.all_cons, Bool.and_eq_true] at hs
        obtain ⟨u, us', S1, S2, rfl, rfl, h1, h2⟩ := h.cons_inv
        have hk0 := AK.eqb_eq hs.1
        subst hk0
        rw [akOk_scalar hk.1 h1, ih ds us' S2 hs.2 hk.2 h2]
        rfl
  induction es generalizing us S with
  | nil => exact h.nil_inv.2
  | cons e es ih =>
    rw [List.flatMap_cons] at h
    obtain ⟨us1, us2, S1, S2, rfl, rfl, h1, h2⟩ := h.split
    rw [key ks e.cells us1 S1 hs (hk e (by simp)) h1, ih h2 fun x hx => hk x (by simp [hx])]
    rfl

theorem app_rep {P : Program} {w : World} {t u ty e : TypeId} {i : TypeInfo} {z : Value} (ht : P.underlying t = some (.slice e)) (hu : P.underlying u = some .string ∨ ∃ e', P.underlying u = some (.slice e')) (hi : P.info? e = some i) (hz : i.zero = some z)
    {ks : List AK} (hks : ks.length = i.size) (_hsz : i.size ≠ 0) (hzs : z.cells.size = i.size) {vx : Value} {es : List V} {Sx : List Nat} (hx : Rep w [vx] [.list ks es] Sx) (hxo : OwnHd w vx (.list ks es)) (hxw : ∀ b ∈ Sx, Wr w b) (hxn : Sx.Nodup)
    {vy : Value} {es' : List V} {news : List Value} {Sy : List Nat} (hy : Rep w news (es'.flatMap V.cells) Sy) (hyk : ∀ e ∈ es', aksOk ks e.cells = true) (hyw : ∀ b ∈ Sy, Wr w b) (hyn : Sy.Nodup) (hxy : ∀ b ∈ Sx, b ∉ Sy) (hyo : OwnCs w news (es'.flatMap V.cells))
    (hm : (Builtin.lenOf vy).run P w = .ok es'.length w) (hn : ∀ w', w' = w ∨ w' = w.drew → (Builtin.firstCells i.size es'.length vy).run P w' = .ok news.toArray w')
    (hb : (es.length + es'.length) * i.bytes ≤ 140737488355328) (h63 : es.length + es'.length ≤ 140737488355328) :
    ∃ v' w' S', (Builtin.append_ #[t, u] ty #[vx, vy]).run P w = .ok v' w' ∧ Rep w' [v'] [.list ks (es ++ es')] S' ∧ OwnHd w' v' (.list ks (es ++ es')) ∧ S'.Nodup ∧ (∀ b ∈ S', (w.heap.size ≤ b ∨ b ∈ Sx ∨ b ∈ Sy) ∧ Wr w' b) ∧
      Moved w w' (fun b => b ∈ Sx) true := by
  have hyl : news.length = es'.length * i.size := by rw [hy.flat_length (lens hyk), hks]
  have hall : ∀ x ∈ es ++ es', aksOk ks x.cells = true := by
    intro x hx2
    rcases List.mem_append.1 hx2 with h | h
    · rcases hx.list_inv with ⟨_, h2, _⟩ | ⟨_, _, _, _, _, _, _, _, _, _, _, _, hk, _⟩
      · subst h2; simp at h
      · exact hk x h
    · exact hyk x h
  have hone : ∀ v ∈ news, v.oneCell' = true := by
    intro v hv
    obtain ⟨j, hj⟩ := List.mem_iff_getElem?.1 hv
    obtain ⟨d, hd⟩ : ∃ d, (es'.flatMap V.cells)[j]? = some d := by
      have := hy.length
      have hlt : j < news.length := by
        rcases Nat.lt_or_ge j news.length with h | h
        · exact h
        · rw [List.getElem?_eq_none h] at hj; cases hj
      exact ⟨_, List.getElem?_eq_getElem (by omega)⟩
    obtain ⟨u, S', h1, h2, _⟩ := hy.get j d hd
    rw [hj] at h1
    simp only [Option.some.injEq] at h1
    subst h1
    exact h2.oneCell
  -- a new block for the old cells and the new ones
  have grown : ∀ (old : Nat) (olds : List Value) (So : List Nat), old < es.length + es'.length → Rep w olds (es.flatMap V.cells) So → (∀ b ∈ So, b ∈ Sx) → So.Nodup → OwnCs w olds (es.flatMap V.cells) →
      ∃ S', Rep (w.drew.alloc (.cells (olds.toArray ++ news.toArray ++ Builtin.zeroCells z.cells (grownCap w (es.length + es'.length) old e - (es.length + es'.length))) e)) [.slice (some ⟨w.heap.size, 0, none⟩) (es.length + es'.length) (grownCap w (es.length + es'.length) old e)] [.list ks (es ++ es')] S' ∧
        OwnHd (w.drew.alloc (.cells (olds.toArray ++ news.toArray ++ Builtin.zeroCells z.cells (grownCap w (es.length + es'.length) old e - (es.length + es'.length))) e)) (.slice (some ⟨w.heap.size, 0, none⟩) (es.length + es'.length) (grownCap w (es.length + es'.length) old e)) (.list ks (es ++ es')) ∧ S'.Nodup ∧
        (∀ b ∈ S', (w.heap.size ≤ b ∨ b ∈ Sx ∨ b ∈ Sy) ∧ Wr (w.drew.alloc (.cells (olds.toArray ++ news.toArray ++ Builtin.zeroCells z.cells (grownCap w (es.length + es'.length) old e - (es.length + es'.length))) e)) b) ∧
        Moved w (w.drew.alloc (.cells (olds.toArray ++ news.toArray ++ Builtin.zeroCells z.cells (grownCap w (es.length + es'.length) old e - (es.length + es'.length))) e)) (fun b => b ∈ Sx) true := by
    intro old olds So hold hro hsub hnd hoo
    have hge := grownCap_ge w (es.length + es'.length) old e
    have hcm : grownCap w (es.length + es'.length) old e ≤ maxLen := grownCap_le_maxLen w _ old e (by unfold maxLen; omega)
    generalize hcap : grownCap w (es.length + es'.length) old e = cap at hge hcm
    have hro' : Rep w.drew (olds ++ news) ((es ++ es').flatMap V.cells) (So ++ Sy) := by
      rw [List.flatMap_append]
      exact (hro.append hy).frame fun b _ => rfl
    have hol : olds.length = es.length * i.size := by
      rcases hx.list_inv with ⟨_, h2, _⟩ | ⟨_, _, _, _, _, _, _, _, _, _, _, _, hk, _⟩
      · subst h2
        have := hro.length
        simpa using this
      · rw [hro.flat_length (lens hk), hks]
    obtain ⟨r1, r2⟩ := Rep.made (rest := (Builtin.zeroCells z.cells (cap - (es.length + es'.length))).toList) hro' hall (cap := cap) (by simp; omega)
      (by
        have hz0 : (Builtin.zeroCells z.cells (cap - (es.length + es'.length))).toList.length = (cap - (es.length + es'.length)) * i.size := by
          have := size_zeroCells z.cells (cap - (es.length + es'.length))
          rw [hzs] at this
          simpa using this
        rw [List.length_append, hol, hyl, hz0, hks, ← Nat.add_mul, ← Nat.add_mul]; congr 1; omega) hcm e (fun b hb => heap_alloc_old w.drew _ hb) (by rw [List.flatMap_append]; exact OwnCs.append hoo hyo hro.length)
    have earr : (olds ++ news ++ (Builtin.zeroCells z.cells (cap - (es.length + es'.length))).toList).toArray = olds.toArray ++ news.toArray ++ Builtin.zeroCells z.cells (cap - (es.length + es'.length)) := by
      apply Array.ext'; simp
    rw [earr, List.length_append] at r1 r2
    have hold2 : ∀ b, b < w.heap.size → (w.drew.alloc (.cells (olds.toArray ++ news.toArray ++ Builtin.zeroCells z.cells (cap - (es.length + es'.length))) e)).heap[b]? = w.heap[b]? := fun b hb => heap_alloc_old w.drew _ hb
    refine ⟨_, r1, r2, ?_, ?_, ⟨rfl, rfl, rfl, by simp, fun b hb _ => hold2 b hb, fun b cs E fz h => ⟨cs, by rw [hold2 b (heap_lt h)]; exact h, rfl⟩, fun _ => Nat.le_succ _⟩⟩
    · rw [List.nodup_cons, List.nodup_append]
      refine ⟨?_, hnd, hyn, fun a ha b hb e => hxy a (hsub a ha) (e ▸ hb)⟩
      intro hm2
      rcases List.mem_append.1 hm2 with h | h
      · exact Nat.lt_irrefl _ (hro.lt _ h)
      · exact Nat.lt_irrefl _ (hy.lt _ h)
    · intro b hb2
      rcases List.mem_cons.1 hb2 with rfl | hb2
      · exact ⟨.inl (Nat.le_refl _), .mk (heap_alloc_new w.drew _)⟩
      · rcases List.mem_append.1 hb2 with h | h
        · exact ⟨.inr (.inl (hsub b h)), (hxw b (hsub b h)).of_eq (hold2 b (hro.lt b h))⟩
        · exact ⟨.inr (.inr h), (hyw b h).of_eq (hold2 b (hy.lt b h))⟩
  obtain ⟨hxo, hxi⟩ := hxo
  rcases hxo with rfl | ⟨g, n, cap, ks2, es2, rfl, hd2, hg0, hnc, hcm⟩
  · obtain ⟨_, rfl⟩ : True ∧ es = [] := by
      rcases hx.list_inv with ⟨_, h2, _⟩ | ⟨_, _, _, _, _, _, _, _, _, h2, _⟩
      · exact ⟨trivial, h2⟩
      · cases h2
    by_cases h0 : es'.length = 0
    · obtain rfl : es' = [] := List.eq_nil_of_length_eq_zero h0
      have hnn : news = [] := List.eq_nil_of_length_eq_zero (by simpa using hyl)
      subst hnn
      refine ⟨_, w, [], run_app_nil0 w t u ty e i ht hu hi vy hm (hn w (.inl rfl)), .atom (.nil _) .nil, ⟨.inl rfl, Inn.nil⟩, by simp, by simp, ⟨rfl, rfl, rfl, Nat.le_refl _, fun _ _ _ => rfl, fun _ cs _ _ h => ⟨cs, h, rfl⟩, fun _ => Nat.le_refl _⟩⟩
    · obtain ⟨S', h1, h2, h3, h4, h5⟩ := grown 0 [] [] (by simp; omega) (by simpa using Rep.nil) (by simp) (by simp) (by intro j u js es' hu; simp at hu)
      have hr := run_app_nil w t u ty e i z ht hu hi hz vy es'.length news hm (hn _ (.inr rfl)) (by omega) (by simpa using hb) (by simpa using h63)
      simp only [List.length_nil, Nat.zero_add, Array.empty_append] at h1 h2 h4 h5
      exact ⟨_, _, S', hr, h1, h2, h3, h4, h5⟩
  · simp only [V.list.injEq] at hd2
    obtain ⟨rfl, rfl⟩ := hd2
    rcases hx.list_inv with ⟨⟨xx, h2⟩, hes, hSx⟩ | ⟨b', off', n', cap', vs, S', cs, E', fz, hv, hSx, hnl, hk, hc, hbl, hs, hvs, hin⟩
    · simp only [Value.slice.injEq] at h2
      obtain ⟨rfl, rfl, rfl⟩ := h2
      subst hes
      subst hSx
      by_cases h0 : es'.length = 0
      · obtain rfl : es' = [] := List.eq_nil_of_length_eq_zero h0
        have hnn : news = [] := List.eq_nil_of_length_eq_zero (by simpa using hyl)
        subst hnn
        refine ⟨_, w, [], run_app_none w t u ty e i ht hu hi vy hm (hn w (.inl rfl)) g, .atom (.nil0 _ _) .nil, ⟨.inr ⟨g, 0, 0, ks, [], rfl, rfl, fun h => absurd h (by simp), by simp, by simp⟩, Inn.nil0⟩, by simp, by simp, ⟨rfl, rfl, rfl, Nat.le_refl _, fun _ _ _ => rfl, fun _ cs _ _ h => ⟨cs, h, rfl⟩, fun _ => Nat.le_refl _⟩⟩
      · obtain ⟨S', h1, h2, h3, h4, h5⟩ := grown 0 [] [] (by simp; omega) (by simpa using Rep.nil) (by simp) (by simp) (by intro j u js es' hu; simp at hu)
        have hr := run_app_grow w t u ty e i z ht hu hi hz vy es'.length news hm (hn _ (.inr rfl)) g 0 0 [] (by simp) (fun j v hj => by simp at hj) (by omega) (by simpa using hb) (by simpa using h63)
        simp only [List.length_nil, Nat.zero_add] at h1 h2 h4 h5 hr
        exact ⟨_, _, S', hr, h1, h2, h3, h4, h5⟩
    simp only [Value.slice.injEq, Option.some.injEq, Addr.mk.injEq, and_true] at hv
    obtain ⟨⟨rfl, rfl⟩, rfl, rfl⟩ := hv
    obtain ⟨cur, E, fz', hg, hfz⟩ := hxw g (by rw [hSx]; simp)
    rw [hg] at hbl
    simp only [Option.some.injEq, Obj.cells.injEq] at hbl
    obtain ⟨rfl, rfl, rfl⟩ := hbl
    have hcur : 0 < cap → cur.size = cap * ks.length := by
      intro hp
      obtain ⟨cur2, E2, fz2, q1, _, q2⟩ := hg0 hp
      rw [hg] at q1
      simp only [Option.some.injEq, Obj.cells.injEq] at q1
      obtain ⟨rfl, rfl, _⟩ := q1
      exact q2
    subst hSx
    subst hnl
    have hci : OwnCs w vs (es.flatMap V.cells) := hxi.cells hg (hin.flat_length (lens hk)) hvs
    rw [hks] at hs hvs hcur
    have hvl : vs.length = es.length * i.size := by rw [hin.flat_length (lens hk), hks]
    simp only [Nat.zero_add] at hs hvs
    by_cases hroom : es.length + es'.length ≤ cap
    · have hfit : es.length * i.size + news.length ≤ cur.size := by
        rcases Nat.eq_zero_or_pos cap with h0 | h0
        · have q1 : es.length = 0 := by omega
          have q2 : es'.length = 0 := by omega
          rw [hyl, q1, q2]; simp
        · rw [hyl, hcur h0, ← Nat.add_mul]; exact Nat.mul_le_mul_right _ hroom
      have hr := run_app_room (P := P) w t u ty e i ht hu hi vy es'.length news hm (hn w (.inl rfl)) g es.length cap cur E hg hfz hroom hfit hone
      have hnew := setRow_heap w g cur (cur.toList.take (es.length * i.size) ++ news ++ cur.toList.drop (es.length * i.size + news.length)).toArray E _ hg
      generalize hnl : cur.toList.take (es.length * i.size) ++ news ++ cur.toList.drop (es.length * i.size + news.length) = new at hr hnew
      have hns : new.length = cur.size := by rw [← hnl]; simp; omega
      have hoth : ∀ b, b ≠ g → (w.setRow g new.toArray).heap[b]? = w.heap[b]? := fun b hb => setRow_other w _ _ _ hb
      have hSn : g ∉ S' := by rw [List.nodup_cons] at hxn; exact hxn.1
      have hgy : ∀ b ∈ Sy, b ≠ g := fun b hb e => hxy g (by simp) (e ▸ hb)
      have hin2 : Rep (w.setRow g new.toArray) (vs ++ news) ((es ++ es').flatMap V.cells) (S' ++ Sy) := by
        rw [List.flatMap_append]
        exact (hin.frame fun b hb => hoth b fun e => hSn (e ▸ hb)).append (hy.frame fun b hb => hoth b (hgy b hb))
      have hcells : ∀ j, j < (es.length + es'.length) * ks.length → new.toArray[0 + j]? = (vs ++ news)[j]? := fun j hj => by
          rw [hks, Nat.add_mul] at hj
          simp only [Nat.zero_add, List.getElem?_toArray, ← hnl]
          by_cases h1 : j < es.length * i.size
          · rw [List.append_assoc, List.getElem?_append_left (by simp; omega), List.getElem?_take_of_lt h1, List.getElem?_append_left (by omega)]
            have := hvs j h1
            simpa using this
          · have e1 : (cur.toList.take (es.length * i.size)).length = es.length * i.size := by simp; omega
            rw [List.append_assoc, List.getElem?_append_right (by omega), e1, List.getElem?_append_left (by omega), List.getElem?_append_right (by omega), hvl]
      have hrep := Rep.row (w := w.setRow g new.toArray) g 0 (es.length + es'.length) cap ks (es ++ es') (vs ++ news) (S' ++ Sy) new.toArray E _ (by simp) hall hroom hnew
        (by simp only [Nat.zero_add, List.size_toArray, hns, hks, Nat.add_mul]; rw [← hyl]; exact hfit) (fun j hj => hcells j hj) hin2 .nil
      refine ⟨_, _, _, hr, by simpa using hrep, ⟨.inr ⟨g, _, cap, ks, _, rfl, rfl, fun hp => ⟨new.toArray, E, _, hnew, by simp only [List.size_toArray, hns]; exact hfz, by simp only [List.size_toArray, hns, hcur hp, hks]⟩, hroom, hcm⟩, Inn.mk hnew hcells (by
        rw [List.flatMap_append]
        exact OwnCs.append (hci.frame hin fun b hb => hoth b fun e => hSn (e ▸ hb)) (hyo.frame hy fun b hb => hoth b (hgy b hb)) hin.length)⟩, ?_, ?_, ⟨rfl, rfl, rfl, by simp, fun b _ hb => hoth b fun e => hb (by simp [e]), setRow_sz hg (by simp [hns]), fun _ => Nat.le_refl _⟩⟩
      · rw [List.nodup_cons] at hxn ⊢
        rw [List.nodup_append, List.mem_append]
        exact ⟨fun h => h.elim hSn fun h => hgy g h rfl, hxn.2, hyn, fun a ha b hb e => hxy a (by simp [ha]) (e ▸ hb)⟩
      · intro b hb2
        rcases List.mem_cons.1 hb2 with rfl | hb2
        · exact ⟨.inr (.inl (by simp)), _, _, _, hnew, by simp only [List.size_toArray, hns]; exact hfz⟩
        · rcases List.mem_append.1 hb2 with h | h
          · exact ⟨.inr (.inl (by simp [h])), (hxw b (by simp [h])).of_eq (hoth b fun e => hSn (e ▸ h))⟩
          · exact ⟨.inr (.inr h), (hyw b h).of_eq (hoth b (hgy b h))⟩
    · obtain ⟨S2, h1, h2, h3, h4, h5⟩ := grown cap vs S' (by omega) hin (fun b hb => by simp [hb]) (by rw [List.nodup_cons] at hxn; exact hxn.2) hci
      have hr := run_app_grow w t u ty e i z ht hu hi hz vy es'.length news hm (hn _ (.inr rfl)) g es.length cap vs hvl (fun j v hj => by
        have hjlt : j < es.length * i.size := by
          rcases Nat.lt_or_ge j vs.length with h | h
          · omega
          · rw [List.getElem?_eq_none h] at hj; cases hj
        simp only [World.cell?, hg]
        have := hvs j hjlt
        rw [hj] at this
        simpa using this) (by omega) hb h63
      exact ⟨_, _, S2, hr, h1, h2, h3, h4, h5⟩

end Go.Mw

namespace Go.Mw

theorem run_firstCells_rep {P : Program} {w : World} {b off n cap size : Nat} {vs : List Value} {cs : Array Value} {E : TypeId} {fz : Nat × Nat} (hb : w.heap[b]? = some (.cells cs E fz)) (hl : vs.length = n * size)
    (h : ∀ j, j < n * size → cs[off + j]? = vs[j]?) : ∀ w', w' = w ∨ w' = w.drew → (Builtin.firstCells size n (.slice (some ⟨b, off, none⟩) n cap)).run P w' = .ok vs.toArray w' := by
  intro w' hw
  have hb' : w'.heap[b]? = some (.cells cs E fz) := by rcases hw with rfl | rfl <;> exact hb
  refine run_firstCells_some (P := P) w' size n ⟨b, off, none⟩ n cap vs hl fun j v hj => ?_
  have hlt : j < n * size := by
    rcases Nat.lt_or_ge j vs.length with h | h
    · omega
    · rw [List.getElem?_eq_none h] at hj; cases hj
  rw [Addr.add_lit]
  simp only [World.cell?, hb']
  have := h j hlt
  rw [hj] at this
  simpa using this

theorem Rep.u8s {w : World} : ∀ (l : List UInt8), Rep w (l.map fun b => Value.int .u8 b.toNat) ((l.map fun b => V.int .u8 b.toNat).flatMap V.cells) []
  | [] => .nil
  | b :: l => by
    simp only [List.map_cons, List.flatMap_cons, V.cells, List.singleton_append]
    exact .atom (.int _ _) (Rep.u8s l)

theorem OwnCs.u8s {w : World} {us : List Value} (l : List UInt8) : OwnCs w us ((l.map fun b => V.int .u8 b.toNat).flatMap V.cells) := by
  intro j u js es' _ hd
  obtain ⟨e, he, hm⟩ := List.mem_flatMap.1 (List.mem_of_getElem? hd)
  obtain ⟨b, _, rfl⟩ := List.mem_map.1 he
  simp [V.cells] at hm

theorem OwnCs.flat {w : World} {us : List Value} {es : List V} {ks : List AK} (hk : ∀ e ∈ es, aksOk ks e.cells = true) (hf : flatK ks = true) : OwnCs w us (es.flatMap V.cells) := by
  intro j u js es' _ hd
  obtain ⟨e, he, hm⟩ := List.mem_flatMap.1 (List.mem_of_getElem? hd)
  exact absurd hm (aks_flat (hk e he) hf _ _)

theorem appHead_rel {c : Cx} {nt : Nat} {M : Mp} {env : List V} {A : FS} {a : Act} {w : World} (hR : Rel c nt M env A a w) {b : At} {v : Value} (h : RelAt c M env w A.ob b v) {ks : List AK} {l : Lf} {gone : List Nat}
    (hh : appHead A.ob ks b = some (l, gone)) : ∃ S, Rep w [v] [l.ev env] S ∧ OwnHd w v (l.ev env) ∧ S.Nodup ∧ (∀ x ∈ S, (∃ r ∈ gone, x ∈ M.ph r) ∧ Wr w x) ∧ ∀ r ∈ gone, ∃ ver l, A.ob r = some (.row ver l true) := by
  cases b with
  | nil =>
    simp only [appHead, Option.some.injEq, Prod.mk.injEq] at hh
    obtain ⟨rfl, rfl⟩ := hh
    have := h.2
    simp only at this
    subst this
    exact ⟨[], .atom (.nil ks) .nil, ⟨.inl rfl, Inn.nil⟩, by simp, by simp, by simp⟩
  | own r =>
    simp only [appHead] at hh
    split at hh <;> simp only [Option.some.injEq, Prod.mk.injEq, reduceCtorEq] at hh
    rename_i ver l' ho
    obtain ⟨rfl, rfl⟩ := hh
    obtain ⟨⟨S, h1, h2, h3⟩, h4, h5⟩ := hR.rows _ _ _ _ ho
    rw [h.2 _ _ _ ho]
    exact ⟨S, h1, (h5.1 rfl).1, h2, fun x hx => ⟨⟨r, by simp, (h3 x hx).1⟩, (h3 x hx).2⟩, fun q hq => by simp only [List.mem_singleton] at hq; subst hq; exact ⟨_, _, ho⟩⟩
  | _ => simp [appHead] at hh

section
variable {P : Program} {c : Cx} {nt : Nat} {M : Mp} {env : List V} {A : FS} {a : Act} {w : World} {o : Oper} {gs : Gs} {fid nv : Nat} {K : Act → World → Prop} {Q : Exit → Act → World → Prop} {out : Out}
variable (hR : Rel c nt M env A a w) (hg : GH env gs) (hd : ∀ d, o.dst = some d → d < nt) (hf : Fresh A (· = fid)) (hh : Holds env nv out) (hK : Kont c nt env gs A a o out K)
include hR hg hd hf hh hK

omit hh in
theorem app_step {x y : Operand} {t u e : TypeId} {i : TypeInfo} {z : Value} (ho : o.op = .call { callee := .builtin .append, args := #[x, y], argTypes := #[t, u] })
    (ht : P.underlying t = some (.slice e)) (hu : P.underlying u = some .string ∨ ∃ e', P.underlying u = some (.slice e')) (hi : P.info? e = some i) (hz : i.zero = some z) {ks : List AK} (hks : ks.length = i.size) (hsz : i.size ≠ 0) (hzs : z.cells.size = i.size)
    {es : List V} {Sx : List Nat} (hx : Rep w [a.eval x] [.list ks es] Sx) (hxo : OwnHd w (a.eval x) (.list ks es)) (hxn : Sx.Nodup) {gone : List Nat} (hgone : ∀ r ∈ gone, ∃ ver l, A.ob r = some (.row ver l true))
    (hxs : ∀ b ∈ Sx, (∃ r ∈ gone, b ∈ M.ph r) ∧ Wr w b) {es' : List V} {news : List Value} {Sy : List Nat} (hy : Rep w news (es'.flatMap V.cells) Sy) (hyk : ∀ e ∈ es', aksOk ks e.cells = true) (hyn : Sy.Nodup) (hxy : ∀ b ∈ Sx, b ∉ Sy) (hyo : OwnCs w news (es'.flatMap V.cells))
    (hys : ∀ b ∈ Sy, (∃ r ∈ gone, b ∈ M.ph r) ∧ Wr w b) (hm : (Builtin.lenOf (a.eval y)).run P w = .ok es'.length w)
    (hn : ∀ w', w' = w ∨ w' = w.drew → (Builtin.firstCells i.size es'.length (a.eval y)).run P w' = .ok news.toArray w')
    (hb : (es.length + es'.length) * i.bytes ≤ 140737488355328) (h63 : es.length + es'.length ≤ 140737488355328) (hl : (Lf.v nv).ev env = .list ks (es ++ es'))
    (hsv : out.sv = some (.ofAt (.own fid))) (hobs : out.obs = gone.map (fun r => (r, none)) ++ [(fid, some (.row 0 (.v nv) true))]) : o.wp P a w K Q := by
  obtain ⟨v', w', S', h1, h2, h3, h4, h5, h6⟩ := app_rep (ty := o.type) ht hu hi hz hks hsz hzs hx hxo (fun b hb => (hxs b hb).2) hxn hy hyk (fun b hb => (hys b hb).2) hyn hxy hyo hm hn hb h63
  have hgone' : ∀ r ∈ gone, ∃ ver l app, A.ob r = some (.row ver l app) := fun r hr => let ⟨v, l, h⟩ := hgone r hr; ⟨v, l, true, h⟩
  obtain ⟨M', hR'⟩ := hR.new_row hgone' (fid_fresh hf hgone') (ver := 0) (l := .v nv) (app := true) (.inl ⟨hf, rfl⟩)
    ⟨h6.os, h6.tape, h6.output, h6.size, fun b hb hnb => h6.block b hb fun hbx => hnb (.inl (hxs b hbx).1), h6.sz, fun _ => h6.dr rfl⟩ (v := v') (S := S') (by rw [hl]; exact h2) h4
    (fun b hb => ⟨(h5 b hb).1.imp id fun h => .inl (h.elim (fun h => (hxs b h).1) fun h => (hys b h).1), (h5 b hb).2⟩) (fun _ => hgone) (fun h => by cases h) (fun _ => by rw [hl]; exact h3) hd hg (sv := some (.ofAt (.own fid))) (u := v') (fun s hs _ => by cases hs; exact ⟨rfl, rfl⟩)
  have hk := hK M' w' v'
  rw [hsv, hobs] at hk
  refine wp_value ?_ (hk hR')
  simp only [execOp, ho, resolve, invoke, builtin, Sem.run_bind, Sem.run_pure, Result.andThen_ok, List.map_toArray, List.map_cons, List.map_nil, h1]

theorem op_app {x y : Operand} {t u : TypeId} (ho : o.op = .call { callee := .builtin .append, args := #[x, y], argTypes := #[t, u] }) {sx sy : SV} (h1 : look A.sl gs [] x = some sx) (h2 : look A.sl gs [] y = some sy)
    (hc : coreApp P A.ob fid nv t u sx sy = some out) : o.wp P a w K Q := by
  have rx := look_rel0 hR h1 hg
  have ry := look_rel0 hR h2 hg
  unfold coreApp at hc
  split at hc
  · rename_i e hut
    split at hc
    · rename_i ks i zs b hks hi hzz hb
      split at hc
      · rename_i hcond
        simp only [Bool.and_eq_true, beq_iff_eq, bne_iff_ne] at hcond
        obtain ⟨⟨c1, c2⟩, c3⟩ := hcond
        obtain ⟨zv, ti, z1, z2, z3, z4, z5⟩ := zero_rel (c := c) (M := M) (env := env) (w := w) (ob := A.ob) hzz
        rw [hi] at z1
        simp only [Option.some.injEq] at z1
        subst z1
        have hzs : zv.cells.size = i.size := by have := z4.length; simp at this; omega
        split at hc
        · rename_i lx gone hhead
          obtain ⟨Sx, x1, x2, x3, x4, x5⟩ := appHead_rel hR (rx.at1 hb) hhead
          split at hc
          · rename_i huu
            split at hc
            · rename_i hk1
              have hk1' := AK.eqs_eq hk1
              cases hly : sy.scl with
              | none => simp [hly] at hc
              | some ly =>
                simp only [hly, Option.map_some, Option.some.injEq] at hc
                subst hc
                have sy' := ry.scl hly
                obtain ⟨d, p1, p2⟩ := hh.one
                simp only [List.map_cons, List.map_nil] at p1
                cases hlx : lx.ev env <;> rw [hlx] at p1 x1 x2 <;> (try (simp only [Prim.run, reduceCtorEq] at p1; done))
                cases hlyv : ly.ev env <;> rw [hlyv] at p1 sy' <;> (try (simp only [Prim.run, reduceCtorEq] at p1; done))
                rename_i js es l
                simp only [Prim.run] at p1
                by_cases hcnd : (AK.eqs js [.sc] && decide ((es.length + l.length) * i.bytes ≤ 140737488355328) && decide (es.length + l.length ≤ 140737488355328)) = true
                case neg => rw [if_neg hcnd] at p1; cases p1
                rw [if_pos hcnd] at p1
                simp only [Bool.and_eq_true, decide_eq_true_eq] at hcnd
                obtain ⟨⟨e1, e2⟩, e3⟩ := hcnd
                have e1' := AK.eqs_eq e1
                subst hk1'
                subst e1'
                simp only [Option.some.injEq, List.cons.injEq, and_true] at p1
                obtain ⟨s, q1, q2, _⟩ := sy'.str_inv
                have hsl : s.size = l.length := by rw [← q2, Array.length_toList]; rfl
                refine app_step hR hg hd hf hK ho hut (.inl huu) hi z2 c1 c2 hzs x1 x2 x3 x5 x4 (es' := l.map fun b => V.int .u8 b.toNat) (news := l.map fun b => Value.int .u8 b.toNat) (Sy := []) (Rep.u8s l)
                  (fun e he => by obtain ⟨b, _, rfl⟩ := List.mem_map.1 he; rfl) (by simp) (by simp) (OwnCs.u8s l) (by simp) (by rw [q1]; simp [Builtin.lenOf, hsl]) (fun w' _ => ?_) (by simpa using e2) (by simpa using e3) (by rw [p2, ← p1]) rfl rfl
                rw [q1]
                simp only [Builtin.firstCells, List.length_map, Sem.run_pure]
                congr 1
                apply Array.ext'
                have : (s.extract 0 l.length).data.toList = l := by rw [Go.Lib.extract_data, q2]; simp
                rw [Array.toList_map, this]
            · cases hc
          · rename_i e' huu
            split at hc
            · rename_i cy hcy
              split at hc
              · rename_i vy ly hly
                have ray := ry.at1 hcy
                obtain ⟨Sy, hyr⟩ := At.lst_rep hR ray hly
                have fin : ∀ (gone2 : List Nat), out = ⟨some (.app ks i.bytes, [lx, ly]), 1, some (.ofAt (.own fid)), gone2.map (fun r => (r, none)) ++ [(fid, some (.row 0 (.v nv) true))]⟩ →
                    (∀ r ∈ gone2, ∃ ver l, A.ob r = some (.row ver l true)) → (∀ r ∈ gone, r ∈ gone2) →
                    (∀ es', ly.ev env = .list ks es' → ((∃ x, a.eval y = .slice x 0 0) ∧ es' = []) ∨ ∃ b off n' cap vs S' cs E fz, a.eval y = .slice (some ⟨b, off, none⟩) n' cap ∧ es'.length = n' ∧ (∀ e ∈ es', aksOk ks e.cells = true) ∧ w.heap[b]? = some (.cells cs E fz) ∧
                      (∀ j, j < n' * ks.length → cs[off + j]? = vs[j]?) ∧ Rep w vs (es'.flatMap V.cells) S' ∧ S'.Nodup ∧ (∀ b ∈ Sx, b ∉ S') ∧ (∀ b ∈ S', (∃ r ∈ gone2, b ∈ M.ph r) ∧ Wr w b) ∧ OwnCs w vs (es'.flatMap V.cells)) → o.wp P a w K Q := by
                  intro gone2 hout hg2 hsub hinner
                  subst hout
                  obtain ⟨d, p1, p2⟩ := hh.one
                  simp only [List.map_cons, List.map_nil] at p1
                  cases hlx : lx.ev env <;> rw [hlx] at p1 x1 x2 <;> (try (simp only [Prim.run, reduceCtorEq] at p1; done))
                  cases hlyv : ly.ev env <;> rw [hlyv] at p1 <;> (try (simp only [Prim.run, reduceCtorEq] at p1; done))
                  rename_i js es js2 es'
                  simp only [Prim.run] at p1
                  by_cases hcnd : (AK.eqs js ks && AK.eqs js2 ks && decide ((es.length + es'.length) * i.bytes ≤ 140737488355328) && decide (es.length + es'.length ≤ 140737488355328)) = true
                  case neg => rw [if_neg hcnd] at p1; cases p1
                  rw [if_pos hcnd] at p1
                  simp only [Bool.and_eq_true, decide_eq_true_eq] at hcnd
                  obtain ⟨⟨⟨e0, e1⟩, e2⟩, e3⟩ := hcnd
                  have e0' := AK.eqs_eq e0
                  have e1' := AK.eqs_eq e1
                  subst e0'
                  subst e1'
                  simp only [Option.some.injEq, List.cons.injEq, and_true] at p1
                  have hxs : ∀ b ∈ Sx, (∃ r ∈ gone2, b ∈ M.ph r) ∧ Wr w b := fun b hb => ⟨let ⟨r, hr, h⟩ := (x4 b hb).1; ⟨r, hsub r hr, h⟩, (x4 b hb).2⟩
                  rcases hinner es' hlyv with ⟨q1, rfl⟩ | ⟨b, off, n', cap, vs, S', cs, E, fz, q1, q2, q3, q4, q5, q6, q7, q8, q9, q10⟩
                  · exact app_step hR hg hd hf hK ho hut (.inr ⟨e', huu⟩) hi z2 c1 c2 hzs x1 x2 x3 hg2 hxs (es' := []) (news := []) (Sy := []) .nil (by simp) (by simp) (by simp) (by intro j u js es' hu; simp at hu) (by simp) (by obtain ⟨xx, q1⟩ := q1; rw [q1]; simp [Builtin.lenOf]) (fun w' _ => by
                      obtain ⟨xx, q1⟩ := q1
                      rw [q1]
                      cases xx with
                      | none => simp [Builtin.firstCells]
                      | some xx => simpa [Builtin.firstCells] using run_loadCells_list (P := P) w' xx [] (fun j v hj => by simp at hj))
                      (by simpa using e2) (by simpa using e3) (by rw [p2, ← p1]) rfl rfl
                  · subst q2
                    have hvl : vs.length = es'.length * i.size := by rw [q6.flat_length (lens q3), c1]
                    rw [c1] at q5
                    exact app_step hR hg hd hf hK ho hut (.inr ⟨e', huu⟩) hi z2 c1 c2 hzs x1 x2 x3 hg2 hxs q6 q3 q7 q8 q10 q9 (by rw [q1]; simp [Builtin.lenOf])
                      (by rw [q1]; exact run_firstCells_rep q4 hvl q5) (by simpa using e2) (by simpa using e3) (by rw [p2, ← p1]) rfl rfl
                split at hc
                · rename_i hall
                  simp only [Option.some.injEq] at hc
                  refine fin gone hc.symm x5 (fun r hr => hr) fun es' hes' => ?_
                  rw [hes'] at hyr
                  rcases hyr.list_inv with ⟨q1, q2, _⟩ | ⟨b, off, n', cap, vs, S', cs, E, fz, hv, _, hn, hkk, hcap, hbb, hs, hvs, hin⟩
                  · exact .inl ⟨q1, q2⟩
                  · have hS := hin.append_inv1 hkk hall
                    subst hS
                    exact .inr ⟨b, off, n', cap, vs, [], cs, E, fz, hv, hn, hkk, hbb, hvs, hin, by simp, by simp, by simp, OwnCs.flat hkk hall⟩
                · split at hc
                  · rename_i q
                    split at hc <;> simp only [Option.some.injEq, reduceCtorEq] at hc
                    rename_i hqg
                    simp only [Bool.or_eq_true, List.contains_eq_mem, decide_eq_true_eq, Bool.not_eq_true', not_or, Bool.not_eq_false] at hqg
                    have hqg' : q ∉ gone := hqg.1
                    have hqa := hqg.2
                    have hrow : ∃ ver l app, A.ob q = some (.row ver l app) := by
                      simp only [At.lst] at hly
                      split at hly <;> simp only [Option.some.injEq, Prod.mk.injEq, reduceCtorEq] at hly
                      rename_i v0 l0 a0 h0
                      exact ⟨_, _, _, h0⟩
                    obtain ⟨v0, l0, a0, h0⟩ := hrow
                    have ha0 : a0 = true := by simpa [appOf, h0] using hqa
                    subst ha0
                    obtain ⟨⟨Sq, s1, s2, s3⟩, _⟩ := hR.rows _ _ _ _ h0
                    refine fin (gone ++ [q]) ?_ ?_ (fun r hr => by simp [hr]) fun es' hes' => ?_
                    · rw [← hc]; simp [List.append_assoc]
                    · intro r hr
                      rcases List.mem_append.1 hr with hr | hr
                      · exact x5 r hr
                      · simp only [List.mem_singleton] at hr; subst hr; exact ⟨_, _, h0⟩
                    · have hl0 : l0 = ly := by
                        simp only [At.lst, h0, Option.some.injEq, Prod.mk.injEq] at hly
                        exact hly.2
                      rw [← ray.2 _ _ _ h0, hl0, hes'] at s1
                      rcases s1.list_inv with ⟨q1, q2, _⟩ | ⟨b, off, n', cap, vs, S', cs, E, fz, hv, hSq, hn, hkk, hcap, hbb, hs, hvs, hin⟩
                      · exact .inl ⟨q1, q2⟩
                      · subst hSq
                        rw [List.nodup_cons] at s2
                        refine .inr ⟨b, off, n', cap, vs, S', cs, E, fz, hv, hn, hkk, hbb, hvs, hin, s2.2, ?_, ?_, ?_⟩
                        rotate_left 2
                        · have hi0 := ((hR.rows _ _ _ _ h0).2.2.1 rfl).1.2
                          rw [← ray.2 _ _ _ h0, hl0, hes', hv] at hi0
                          exact hi0.cells hbb (by rw [hin.flat_length (lens hkk), hn]) hvs
                        · intro b' hb' hbs
                          obtain ⟨⟨r, hr, hbr⟩, _⟩ := x4 b' hb'
                          obtain ⟨v1, l1, h1⟩ := x5 r hr
                          exact hR.dRR _ _ _ _ _ _ _ _ h1 h0 (fun e => hqg' (e ▸ hr)) b' hbr (s3 b' (by simp [hbs])).1
                        · intro b' hb'
                          exact ⟨⟨q, by simp, (s3 b' (by simp [hb'])).1⟩, (s3 b' (by simp [hb'])).2⟩
                  · cases hc
              · cases hc
            · cases hc
          · cases hc
        · cases hc
      · cases hc
    · cases hc
  · cases hc

end
end Go.Mw

namespace Go.Mw

inductive CellsR (w : World) : List AK → List Value → List V → List Nat → Prop
  | nil : CellsR w [] [] [] []
  | sc {u : Value} {d : V} {ks : List AK} {us : List Value} {ds : List V} {S : List Nat} (h : Rep w [u] [d] []) (t : CellsR w ks us ds S) : CellsR w (.sc :: ks) (u :: us) (d :: ds) S
  | sl {u : Value} {d : V} {js ks : List AK} {us : List Value} {ds : List V} {S1 S : List Nat} (h : Rep w [u] [d] S1) (t : CellsR w ks us ds S) : CellsR w (.sl js :: ks) (u :: us) (d :: ds) (S1 ++ S)

inductive CellsIo (w : World) : List AK → List Value → List V → List (Value × List Nat) → Prop
  | nil : CellsIo w [] [] [] []
  | sc {u : Value} {d : V} {ks : List AK} {us : List Value} {ds : List V} {R : List (Value × List Nat)} (h : Rep w [u] [d] []) (t : CellsIo w ks us ds R) : CellsIo w (.sc :: ks) (u :: us) (d :: ds) R
  | sl {u : Value} {d : V} {js ks : List AK} {us : List Value} {ds : List V} {S : List Nat} {R : List (Value × List Nat)} (h : Rep w [u] [d] S) (hn : S.Nodup) (hw : ∀ b ∈ S, Wr w b) (t : CellsIo w ks us ds R) :
      CellsIo w (.sl js :: ks) (u :: us) (d :: ds) ((u, S) :: R)

abbrev Bx := Nat × List AK × List Value

inductive ResC (w : World) : List AK → List Value → List V → List Nat → Prop
  | nil : ResC w [] [] [] []
  | sc {u : Value} {d : V} {ks : List AK} {us : List Value} {ds : List V} {S : List Nat} (h : Rep w [u] [d] []) (t : ResC w ks us ds S) : ResC w (.sc :: ks) (u :: us) (d :: ds) S
  | sl {u : Value} {d : V} {js ks : List AK} {us : List Value} {ds : List V} {S1 S : List Nat} (h : Rep w [u] [d] S1) (ho : OwnHd w u d) (t : ResC w ks us ds S) : ResC w (.sl js :: ks) (u :: us) (d :: ds) (S1 ++ S)

inductive ArgsR (w : World) : List PK → List Value → List V → List Nat → List (Value × List Nat) → List Bx → List Nat → Prop
  | nil : ArgsR w [] [] [] [] [] [] []
  | val {g : Bool} {ks : List AK} {ps : List PK} {us : List Value} {ds ds' : List V} {S ro : List Nat} {v : Value} {vs : List Value} {rows : List (Value × List Nat)} {boxes : List Bx} {tk : List Nat}
      (hc : CellsR w ks us ds S) (hp : packV g us v) (t : ArgsR w ps vs ds' ro rows boxes tk) : ArgsR w (.val g ks :: ps) (v :: vs) (ds ++ ds') (S ++ ro) rows boxes tk
  | io {g : Bool} {ks : List AK} {ps : List PK} {us : List Value} {ds ds' : List V} {ro : List Nat} {v : Value} {vs : List Value} {R rows : List (Value × List Nat)} {boxes : List Bx} {tk : List Nat}
      (hc : CellsIo w ks us ds R) (hp : packV g us v) (t : ArgsR w ps vs ds' ro rows boxes tk) : ArgsR w (.io g ks :: ps) (v :: vs) (ds ++ ds') ro (R ++ rows) boxes tk
  | ptr {o : Nat} {ks : List AK} {ps : List PK} {us : List Value} {ds ds' : List V} {S ro : List Nat} {b : Nat} {E : TypeId} {vs : List Value} {rows : List (Value × List Nat)} {boxes : List Bx} {tk : List Nat}
      (hb : w.heap[b]? = some (.cells us.toArray E (0, 0))) (hc : CellsR w ks us ds S) (t : ArgsR w ps vs ds' ro rows boxes tk) :
      ArgsR w (.ptr o ks :: ps) (ptrV b o :: vs) (ds ++ ds') (S ++ ro) rows ((b, ks, us) :: boxes) tk
  | tk {g : Bool} {ks : List AK} {ps : List PK} {us : List Value} {ds ds' : List V} {S ro : List Nat} {v : Value} {vs : List Value} {rows : List (Value × List Nat)} {boxes : List Bx} {tk : List Nat}
      (hc : ResC w ks us ds S) (hw : ∀ b ∈ S, Wr w b) (hp : packV g us v) (t : ArgsR w ps vs ds' ro rows boxes tk) : ArgsR w (.tk g ks :: ps) (v :: vs) (ds ++ ds') ro rows boxes (S ++ tk)
  | cst {f : Nat} {ps : List PK} {ds : List V} {ro : List Nat} {v : Value} {vs : List Value} {rows : List (Value × List Nat)} {boxes : List Bx} {tk : List Nat}
      (hf : Rep w [v] [.fn f] []) (t : ArgsR w ps vs ds ro rows boxes tk) : ArgsR w (.cst f :: ps) (v :: vs) ds ro rows boxes tk

inductive ResR (w : World) : List (Bool × List AK) → List Value → List V → List Nat → Prop
  | nil : ResR w [] [] [] []
  | cons {g : Bool} {ks : List AK} {rs : List (Bool × List AK)} {us : List Value} {ds ds' : List V} {S S' : List Nat} {v : Value} {vs : List Value} (hc : ResC w ks us ds S) (hp : packV g us v) (t : ResR w rs vs ds' S') :
      ResR w ((g, ks) :: rs) (v :: vs) (ds ++ ds') (S ++ S')

inductive PostRows (w : World) : List (Value × List Nat) → List V → Prop
  | nil : PostRows w [] []
  | cons {u : Value} {S S' : List Nat} {d : V} {rows : List (Value × List Nat)} {ds : List V} (h : Rep w [u] [d] S') (hn : S'.Nodup) (hs : ∀ b ∈ S', b ∈ S ∧ Wr w b) (t : PostRows w rows ds) : PostRows w ((u, S) :: rows) (d :: ds)

inductive BoxC (w : World) : List AK → List Value → List Value → List V → Prop
  | nil : BoxC w [] [] [] []
  | sc {u u' : Value} {d : V} {ks : List AK} {us us' : List Value} {ds : List V} (h : Rep w [u'] [d] []) (t : BoxC w ks us us' ds) : BoxC w (.sc :: ks) (u :: us) (u' :: us') (d :: ds)
  | sl {u : Value} {js ks : List AK} {us us' : List Value} {ds : List V} (t : BoxC w ks us us' ds) : BoxC w (.sl js :: ks) (u :: us) (u :: us') ds

inductive PostBoxes (w : World) : List Bx → List V → Prop
  | nil : PostBoxes w [] []
  | cons {b : Nat} {ks : List AK} {us us' : List Value} {E : TypeId} {boxes : List Bx} {ds ds' : List V} (hb : w.heap[b]? = some (.cells us'.toArray E (0, 0))) (hc : BoxC w ks us us' ds) (t : PostBoxes w boxes ds') :
      PostBoxes w ((b, ks, us) :: boxes) (ds ++ ds')

def ioB (rows : List (Value × List Nat)) (boxes : List Bx) : List Nat := rows.flatMap (·.2) ++ boxes.map (·.1)

def retV (vs : List Value) (v : Value) : Prop := if vs.length = 1 then vs = [v] else v = .tuple vs.toArray

structure PostC (G : Gl) (s : Sig) (w : World) (rows : List (Value × List Nat)) (boxes : List Bx) (tk : List Nat) (outs : List V) (e : Ending) (w' : World) : Prop where
  out : ∃ v vs d1 d2 d3 S, outs = d1 ++ d2 ++ d3 ∧ e = .returned v ∧ retV vs v ∧ ResR w' s.rs vs d1 S ∧ S.Nodup ∧ (∀ b ∈ S, (w.heap.size ≤ b ∨ b ∈ tk) ∧ Wr w' b) ∧ PostRows w' rows d2 ∧ PostBoxes w' boxes d3
  mv : Moved w w' (· ∈ ioB rows boxes ++ tk) G.dr

def Reg (G : Gl) (P : Program) (f : FuncId) (s : Sig) : Prop :=
  ∀ (w : World) (vals : List Value) (ds outs : List V) (ro : List Nat) (rows : List (Value × List Nat)) (boxes : List Bx) (tk : List Nat), G.Ok w → s.F ds = some outs → ArgsR w s.ps vals ds ro rows boxes tk →
    (ioB rows boxes ++ tk).Nodup → (∀ b ∈ ro, b ∉ ioB rows boxes ++ tk) → (∀ b ∈ ioB rows boxes ++ tk, G.blk b = none) → Calls P f vals.toArray w (PostC G s w rows boxes tk outs)

def NewC (G : Gl) (P : Program) (f : FuncId) (s : Sig) : Prop :=
  ∀ ks ps, s.ps = .new ks :: ps → ∀ (w : World) (vals : List Value) (ds outs : List V) (ro : List Nat), G.Ok w → s.F ds = some outs → ArgsR w ps vals ds ro [] [] [] →
    Calls P f vals.toArray w fun e w' => (∃ b us E S, e = .returned (.pointer (some ⟨b, 0, none⟩)) ∧ w.heap.size ≤ b ∧ w'.heap[b]? = some (.cells us.toArray E (0, 0)) ∧ CellsR w' ks us outs S ∧ ∀ x ∈ S, x ∈ ro) ∧ Moved w w' (fun _ => False) G.dr

def Contract (G : Gl) (P : Program) (f : FuncId) (s : Sig) : Prop := Reg G P f s ∧ NewC G P f s


def atIds (cs : List At) : List Nat := cs.filterMap (fun | .own r => some r | .inn r _ _ _ => some r | _ => none)

section
variable {c : Cx} {nt : Nat} {M : Mp} {env : List V} {A : FS} {a : Act} {w : World}

theorem leaves_rel (hR : Rel c nt M env A a w) : ∀ {ks : List AK} {cs : List At} {ls : List Lf} {us : List Value}, leaves A.ob ks cs = some ls → RelAts c M env w A.ob cs us →
    ∃ S, CellsR w ks us (ls.map (Lf.ev env)) S ∧ ∀ b ∈ S, c.rd b ∨ ∃ r ∈ atIds cs, b ∈ M.ph r ∧ ∃ ver l app, A.ob r = some (.row ver l app)
  | [], [], ls, us, h, hr => by
    simp only [leaves, Option.some.injEq] at h
    subst h
    cases us with
    | nil => exact ⟨[], .nil, by simp⟩
    | cons => exact hr.elim
  | [], _ :: _, _, _, h, _ => by simp [leaves] at h
  | _ :: _, [], _, _, h, _ => by simp [leaves] at h
  | k :: ks, at0 :: cs, ls, us, h, hr => by
    cases us with
    | nil => exact hr.elim
    | cons u us =>
    simp only [leaves] at h
    split at h <;> simp only [Option.some.injEq, reduceCtorEq] at h
    rename_i l ls' h1 h2
    subst h
    obtain ⟨S, h3, h4⟩ := leaves_rel hR h2 hr.2
    have hmono : ∀ b ∈ S, c.rd b ∨ ∃ r ∈ atIds (at0 :: cs), b ∈ M.ph r ∧ ∃ ver l app, A.ob r = some (.row ver l app) := by
      intro b hb
      rcases h4 b hb with h | ⟨r, hr, h⟩
      · exact .inl h
      · refine .inr ⟨r, ?_, h⟩
        unfold atIds at hr ⊢
        rw [List.filterMap_cons]
        split <;> simp [hr]
    cases k with
    | sc => exact ⟨S, .sc (hr.1.scl h1) h3, hmono⟩
    | sl js =>
      simp only [At.leaf] at h1
      cases hl : at0.lst A.ob js with
      | none => simp [hl] at h1
      | some q =>
        obtain ⟨ver, l'⟩ := q
        simp only [hl, Option.map_some, Option.some.injEq] at h1
        subst h1
        have key : ∃ S1, Rep w [u] [l'.ev env] S1 ∧ ∀ b ∈ S1, c.rd b ∨ ∃ r ∈ atIds (at0 :: cs), b ∈ M.ph r ∧ ∃ ver l app, A.ob r = some (.row ver l app) := by
          cases at0 with
          | sc l => simp [At.lst] at hl
          | nil =>
            obtain ⟨S1, r1⟩ := At.lst_rep hR hr.1 hl
            have := hr.1.2
            simp only at this
            subst this
            simp only [At.lst, Option.some.injEq, Prod.mk.injEq] at hl
            obtain ⟨rfl, rfl⟩ := hl
            exact ⟨[], .atom (.nil js) .nil, by simp⟩
          | ro l =>
            simp only [At.lst, Option.some.injEq, Prod.mk.injEq] at hl
            obtain ⟨rfl, rfl⟩ := hl
            obtain ⟨S1, r1, r2⟩ := hr.1.2
            exact ⟨S1, r1, fun b hb => .inl (r2 b hb)⟩
          | own r =>
            simp only [At.lst] at hl
            split at hl <;> simp only [Option.some.injEq, Prod.mk.injEq, reduceCtorEq] at hl
            rename_i v0 l0 a0 ho
            obtain ⟨rfl, rfl⟩ := hl
            obtain ⟨⟨S1, r1, r2, r3⟩, _⟩ := hR.rows _ _ _ _ ho
            rw [← hr.1.2 _ _ _ ho] at r1
            exact ⟨S1, r1, fun b hb => .inr ⟨r, by simp [atIds], (r3 b hb).1, _, _, _, ho⟩⟩
          | inn r ver' l0 _ =>
            simp only [At.lst] at hl
            split at hl
            · rename_i v0 l1 a0 ho
              split at hl <;> simp only [Option.some.injEq, Prod.mk.injEq, reduceCtorEq] at hl
              rename_i hvv
              obtain ⟨rfl, rfl⟩ := hl
              obtain ⟨S1, r1, r2⟩ := (hr.1.2.1 _ _ _ ho).2 (by simpa using hvv)
              exact ⟨S1, r1, fun b hb => .inr ⟨r, by simp [atIds], r2 b hb, _, _, _, ho⟩⟩
            · cases hl
        obtain ⟨S1, r1, r2⟩ := key
        refine ⟨S1 ++ S, .sl r1 h3, fun b hb => ?_⟩
        rcases List.mem_append.1 hb with hb | hb
        · exact r2 b hb
        · exact hmono b hb

inductive RowsM (M : Mp) (ob : Nat → Option SO) : List Nat → List (Value × List Nat) → Prop
  | nil : RowsM M ob [] []
  | cons {r : Nat} {S : List Nat} {rs : List Nat} {rows : List (Value × List Nat)} (h : ∃ ver l app, ob r = some (.row ver l app)) (hs : ∀ b ∈ S, b ∈ M.ph r) (t : RowsM M ob rs rows) : RowsM M ob (r :: rs) ((M.hd r, S) :: rows)

theorem RowsM.append {M : Mp} {ob : Nat → Option SO} {rs rs' : List Nat} {R R' : List (Value × List Nat)} (h : RowsM M ob rs R) (h' : RowsM M ob rs' R') : RowsM M ob (rs ++ rs') (R ++ R') := by
  induction h with
  | nil => exact h'
  | cons h hs _ ih => exact .cons h hs ih

theorem ioCells_rel (hR : Rel c nt M env A a w) : ∀ {ks : List AK} {cs : List At} {ls : List Lf} {rs : List Nat} {us : List Value}, ioCells A.ob ks cs = some (ls, rs) → RelAts c M env w A.ob cs us →
    ∃ R, CellsIo w ks us (ls.map (Lf.ev env)) R ∧ RowsM M A.ob rs R ∧ rs.Nodup
  | [], [], ls, rs, us, h, hr => by
    simp only [ioCells, Option.some.injEq, Prod.mk.injEq] at h
    obtain ⟨rfl, rfl⟩ := h
    cases us with
    | nil => exact ⟨[], .nil, .nil, by simp⟩
    | cons => exact hr.elim
  | [], _ :: _, _, _, _, h, _ => by simp [ioCells] at h
  | _ :: _, [], _, _, _, h, _ => by simp [ioCells] at h
  | k :: ks, at0 :: cs, ls, rs, us, h, hr => by
    cases us with
    | nil => exact hr.elim
    | cons u us =>
    cases k with
    | sc =>
      cases at0 with
      | sc l =>
        simp only [ioCells] at h
        cases hm : ioCells A.ob ks cs with
        | none => simp [hm] at h
        | some x =>
          simp only [hm, Option.map_some, Option.some.injEq, Prod.mk.injEq] at h
          obtain ⟨rfl, rfl⟩ := h
          obtain ⟨R, h1, h2, h3⟩ := ioCells_rel hR (ls := x.1) (rs := x.2) hm hr.2
          exact ⟨R, .sc hr.1.2 h1, h2, h3⟩
      | _ => simp [ioCells] at h
    | sl js =>
      cases at0 with
      | own r =>
        simp only [ioCells] at h
        split at h
        · rename_i ver l app x ho hm
          split at h <;> simp only [Option.some.injEq, Prod.mk.injEq, reduceCtorEq] at h
          rename_i hnc
          obtain ⟨rfl, rfl⟩ := h
          obtain ⟨R, h1, h2, h3⟩ := ioCells_rel hR (ls := x.1) (rs := x.2) hm hr.2
          obtain ⟨⟨S, r1, r2, r3⟩, _⟩ := hR.rows _ _ _ _ ho
          have hu := hr.1.2 _ _ _ ho
          subst hu
          exact ⟨(M.hd r, S) :: R, .sl r1 r2 (fun b hb => (r3 b hb).2) h1, .cons ⟨_, _, _, ho⟩ (fun b hb => (r3 b hb).1) h2, List.nodup_cons.2 ⟨by simpa using hnc, h3⟩⟩
        · cases h
      | _ => simp [ioCells] at h

inductive BoxM (c : Cx) (M : Mp) (env : List V) (w : World) (ob : Nat → Option SO) : List (Nat × List AK × List At) → List Bx → Prop
  | nil : BoxM c M env w ob [] []
  | cons {id : Nat} {ks : List AK} {cells : List At} {us : List Value} {xs : List (Nat × List AK × List At)} {boxes : List Bx} (h : ob id = some (.box cells)) (hr : RelAts c M env w ob cells us) (hu : ∃ E, w.heap[M.be id]? = some (.cells us.toArray E (0, 0))) (hl : ∃ l, leaves ob ks cells = some l) (t : BoxM c M env w ob xs boxes) :
      BoxM c M env w ob ((id, ks, cells) :: xs) ((M.be id, ks, us) :: boxes)

def RelVs (c : Cx) (M : Mp) (env : List V) (w : World) (ob : Nat → Option SO) : List SV → List Value → Prop
  | [], [] => True
  | s :: ss, v :: vs => RelSV c M env w ob s v ∧ RelVs c M env w ob ss vs
  | _, _ => False

theorem fnOf_rel {x : SV} {v : Value} {f : Nat} (h : RelSV c M env w A.ob x v) (hx : x.fnOf = some f) : Rep w [v] [.fn f] [] := by
  unfold SV.fnOf at hx
  split at hx <;> simp only [Option.some.injEq, reduceCtorEq] at hx
  rename_i f' hs
  subst hx
  unfold SV.scl SV.at1 at hs
  split at hs
  · rename_i a
    simp only [Option.bind_some] at hs
    cases a <;> simp only [At.scl, Option.some.injEq, reduceCtorEq] at hs
    subst hs
    obtain ⟨us, h1, h2⟩ := h
    match us, h1, h2 with
    | [u], h1, h2 =>
      simp only [packV, Bool.false_eq_true, if_false, List.cons.injEq, and_true] at h2
      subst h2
      exact h1.1.2
    | [], h1, _ => exact h1.elim
    | _ :: _ :: _, h1, _ => exact h1.2.elim
  · simp at hs

theorem moved_resC (hR : Rel c nt M env A a w) : ∀ {ks : List AK} {cs : List At} {us : List Value} {ls : List Lf} {rs : List Nat}, moved A.ob ks cs = some (ls, rs) → RelAts c M env w A.ob cs us →
    ∃ S, ResC w ks us (ls.map (Lf.ev env)) S ∧ S.Nodup ∧ (∀ b ∈ S, (∃ r ∈ rs, b ∈ M.ph r) ∧ c.own b ∧ b < w.heap.size ∧ Wr w b) ∧ rs.Nodup ∧ ∀ r ∈ rs, ∃ ver l app, A.ob r = some (.row ver l app)
  | [], [], us, ls, rs, h, hr => by
    simp only [moved, Option.some.injEq, Prod.mk.injEq] at h
    obtain ⟨rfl, rfl⟩ := h
    cases us with
    | nil => exact ⟨[], .nil, by simp, by simp, by simp, by simp⟩
    | cons => exact hr.elim
  | [], _ :: _, _, _, _, h, _ => by simp [moved] at h
  | k :: _, [], _, _, _, h, _ => by cases k <;> simp [moved] at h
  | k :: ks, x :: cs, us, ls, rs, h, hr => by
    cases us with
    | nil => exact hr.elim
    | cons u us =>
    obtain ⟨hu, hr⟩ := hr
    cases k with
    | sc =>
      cases x <;> simp only [moved, Option.map_eq_some_iff, reduceCtorEq, Prod.mk.injEq] at h
      obtain ⟨y, h1, rfl, rfl⟩ := h
      obtain ⟨S, g1, g2, g3, g4, g5⟩ := moved_resC hR (ls := y.1) (rs := y.2) h1 hr
      exact ⟨S, .sc hu.2 g1, g2, g3, g4, g5⟩
    | sl js =>
      cases x <;> simp only [moved, Option.map_eq_some_iff, reduceCtorEq, Prod.mk.injEq] at h
      · obtain ⟨y, h1, rfl, rfl⟩ := h
        obtain ⟨S, g1, g2, g3, g4, g5⟩ := moved_resC hR (ls := y.1) (rs := y.2) h1 hr
        have hn := hu.2
        simp only at hn
        subst hn
        exact ⟨S, .sl (S1 := []) (.atom (.nil js) .nil) ⟨.inl rfl, Inn.nil⟩ g1, g2, g3, g4, g5⟩
      · rename_i r
        split at h
        · rename_i ver l y h1 h2
          split at h <;> simp only [Option.some.injEq, reduceCtorEq, Prod.mk.injEq] at h
          rename_i hnc
          obtain ⟨rfl, rfl⟩ := h
          obtain ⟨S, g1, g2, g3, g4, g5⟩ := moved_resC hR (ls := y.1) (rs := y.2) h2 hr
          obtain ⟨⟨S0, r1, r2, r3⟩, r4, r5, _⟩ := hR.rows _ _ _ _ h1
          obtain ⟨o1, o2⟩ := r5 rfl
          have hv := hu.2 _ _ _ h1
          rw [← hv] at r1 o1
          have hnot : r ∉ y.2 := by simpa using hnc
          refine ⟨S0 ++ S, .sl r1 o1 g1, ?_, ?_, List.nodup_cons.2 ⟨hnot, g4⟩, ?_⟩
          · rw [List.nodup_append]
            refine ⟨r2, g2, ?_⟩
            intro b hb b' hb' e
            subst e
            obtain ⟨⟨q, hq, hbq⟩, _⟩ := g3 b hb'
            obtain ⟨v2, l2, a2, hoq⟩ := g5 q hq
            exact hR.dRR _ _ _ _ _ _ _ _ h1 hoq (fun e => hnot (e ▸ hq)) b (r3 b hb).1 hbq
          · intro b hb
            rcases List.mem_append.1 hb with hb | hb
            · exact ⟨⟨r, by simp, (r3 b hb).1⟩, o2 b (r3 b hb).1, (r4 b (r3 b hb).1).2, (r3 b hb).2⟩
            · obtain ⟨⟨q, hq, hbq⟩, hw⟩ := g3 b hb
              exact ⟨⟨q, by simp [hq], hbq⟩, hw⟩
          · intro q hq
            rcases List.mem_cons.1 hq with rfl | hq
            · exact ⟨_, _, _, h1⟩
            · exact g5 q hq
        · cases h

theorem coreArgs_rel (hR : Rel c nt M env A a w) : ∀ {ps : List PK} {xs : List SV} {vs : List Value} {ar : Args}, coreArgs A.ob ps xs = some ar → RelVs c M env w A.ob xs vs →
    ∃ ro rows boxes tk, ArgsR w ps vs (ar.ls.map (Lf.ev env)) ro rows boxes tk ∧ RowsM M A.ob ar.rows rows ∧ BoxM c M env w A.ob ar.boxes boxes ∧
      (∀ b ∈ ro, c.rd b ∨ ∃ r ∈ roRows A.ob ps xs, b ∈ M.ph r ∧ ∃ ver l app, A.ob r = some (.row ver l app)) ∧ ar.rows.Nodup ∧ (ar.boxes.map (·.1)).Nodup ∧
      tk.Nodup ∧ (∀ b ∈ tk, c.own b ∧ b < w.heap.size ∧ ∃ r ∈ ar.tk, b ∈ M.ph r) ∧ ar.tk.Nodup ∧ ∀ r ∈ ar.tk, ∃ ver l app, A.ob r = some (.row ver l app)
  | [], [], vs, ar, h, hv => by
    simp only [coreArgs, Option.some.injEq] at h
    subst h
    cases vs with
    | nil => exact ⟨[], [], [], [], .nil, .nil, .nil, by simp, by simp, by simp, by simp, by simp, by simp, by simp⟩
    | cons => exact hv.elim
  | [], _ :: _, _, _, h, _ => by simp [coreArgs] at h
  | p :: _, [], _, _, h, _ => by cases p <;> simp [coreArgs] at h
  | p :: ps, x :: xs, vs, ar, h, hv => by
    cases vs with
    | nil => exact hv.elim
    | cons v vs =>
    cases p with
    | val g ks =>
      cases x with
      | sc s =>
        simp only [coreArgs] at h
        split at h
        · rename_i hcond
          simp only [Bool.and_eq_true, beq_iff_eq] at hcond
          split at h <;> simp only [Option.some.injEq, reduceCtorEq] at h
          rename_i l ar' hl ha
          subst h
          obtain ⟨ro, rows, boxes, tk, h1, h2, h3, h4, h5, h6, h7⟩ := coreArgs_rel hR ha hv.2
          obtain ⟨us, q1, q2⟩ := (hv.1 : RelSC c M env w A.ob s v)
          obtain ⟨S, q3, q4⟩ := leaves_rel hR hl q1
          refine ⟨S ++ ro, rows, boxes, tk, ?_, h2, h3, ?_, h5, h6, h7⟩
          · rw [List.map_append]; exact .val q3 (hcond.1 ▸ q2) h1
          · intro b hb
            rcases List.mem_append.1 hb with hb | hb
            · rcases q4 b hb with h | ⟨r, hr, h⟩
              · exact .inl h
              · exact .inr ⟨r, by simp only [roRows]; exact List.mem_append_left _ hr, h⟩
            · rcases h4 b hb with h | ⟨r, hr, h⟩
              · exact .inl h
              · exact .inr ⟨r, by simp only [roRows]; exact List.mem_append_right _ hr, h⟩
        · cases h
      | _ => simp [coreArgs] at h
    | io g ks =>
      cases x with
      | sc s =>
        simp only [coreArgs] at h
        split at h
        · rename_i hcond
          simp only [Bool.and_eq_true, beq_iff_eq] at hcond
          split at h
          · rename_i l rs ar' hl ha
            split at h <;> simp only [Option.some.injEq, reduceCtorEq] at h
            rename_i hno
            subst h
            obtain ⟨ro, rows, boxes, tk, h1, h2, h3, h4, h5, h6, h7⟩ := coreArgs_rel hR ha hv.2
            obtain ⟨us, q1, q2⟩ := (hv.1 : RelSC c M env w A.ob s v)
            obtain ⟨R, q3, q4, q5⟩ := ioCells_rel hR hl q1
            refine ⟨ro, R ++ rows, boxes, tk, ?_, q4.append h2, h3, ?_, ?_, h6, h7⟩
            · rw [List.map_append]; exact .io q3 (hcond.1 ▸ q2) h1
            · intro b hb
              rcases h4 b hb with h | ⟨r, hr, h⟩
              · exact .inl h
              · exact .inr ⟨r, by simpa only [roRows] using hr, h⟩
            · rw [List.nodup_append]
              refine ⟨q5, h5, fun x hx y hy e => hno ?_⟩
              exact List.any_eq_true.2 ⟨x, hx, by rw [e]; simpa using hy⟩
          · cases h
        · cases h
      | _ => simp [coreArgs] at h
    | ptr po ks =>
      cases x with
      | ptr id off =>
        simp only [coreArgs] at h
        split at h
        · cases h
        rename_i hpo
        obtain rfl : po = off := by simpa using hpo
        split at h
        · rename_i cells ho
          split at h
          · rename_i l ar' hl ha
            split at h <;> simp only [Option.some.injEq, reduceCtorEq] at h
            rename_i hno
            subst h
            obtain ⟨ro, rows, boxes, tk, h1, h2, h3, h4, h5, h6, h7⟩ := coreArgs_rel hR ha hv.2
            obtain ⟨us, E, q1, q2, q3⟩ := hR.boxes _ _ ho
            obtain ⟨S, q4, q5⟩ := leaves_rel hR hl q2
            have hv1 := hv.1 cells ho
            subst hv1
            refine ⟨S ++ ro, rows, (M.be id, ks, us) :: boxes, tk, ?_, h2, .cons ho q2 ⟨E, q1⟩ ⟨_, hl⟩ h3, ?_, h5, ?_, h7⟩
            · rw [List.map_append]; exact .ptr q1 q4 h1
            · intro b hb
              rcases List.mem_append.1 hb with hb | hb
              · rcases q5 b hb with h | ⟨r, hr, h⟩
                · exact .inl h
                · refine .inr ⟨r, ?_, h⟩
                  simp only [roRows, ho]; exact List.mem_append_left _ hr
              · rcases h4 b hb with h | ⟨r, hr, h⟩
                · exact .inl h
                · refine .inr ⟨r, ?_, h⟩
                  simp only [roRows, ho]; exact List.mem_append_right _ hr
            · simp only [List.map_cons, List.nodup_cons]
              refine ⟨fun hm => hno ?_, h6⟩
              obtain ⟨y, hy, e⟩ := List.mem_map.1 hm
              exact List.any_eq_true.2 ⟨y, hy, by simpa using e⟩
          · cases h
        · cases h
      | _ => simp [coreArgs] at h
    | tk g ks =>
      cases x with
      | sc s =>
        simp only [coreArgs] at h
        split at h
        · rename_i hcond
          simp only [Bool.and_eq_true, beq_iff_eq] at hcond
          split at h
          · rename_i l rs ar' hl ha
            split at h <;> simp only [Option.some.injEq, reduceCtorEq] at h
            rename_i hno
            subst h
            obtain ⟨ro, rows, boxes, tk, h1, h2, h3, h4, h5, h6, h7, h8, h9, h10⟩ := coreArgs_rel hR ha hv.2
            obtain ⟨us, q1, q2⟩ := (hv.1 : RelSC c M env w A.ob s v)
            obtain ⟨S, q3, q4, q5, q6, q7⟩ := moved_resC hR hl q1
            refine ⟨ro, rows, boxes, S ++ tk, ?_, h2, h3, ?_, h5, h6, ?_, ?_, ?_, ?_⟩
            · rw [List.map_append]; exact .tk q3 (fun b hb => (q5 b hb).2.2.2) (hcond.1 ▸ q2) h1
            · intro b hb
              rcases h4 b hb with h | ⟨r, hr, h⟩
              · exact .inl h
              · exact .inr ⟨r, by simpa only [roRows] using hr, h⟩
            · rw [List.nodup_append]
              refine ⟨q4, h7, fun b hb b' hb' e => ?_⟩
              subst e
              obtain ⟨⟨r, hr, hbr⟩, _⟩ := q5 b hb
              obtain ⟨_, _, r', hr', hbr'⟩ := h8 b hb'
              obtain ⟨_, _, _, o1⟩ := q7 r hr
              obtain ⟨_, _, _, o2⟩ := h10 r' hr'
              refine hR.dRR _ _ _ _ _ _ _ _ o1 o2 (fun e => hno ?_) b hbr hbr'
              exact List.any_eq_true.2 ⟨r, hr, by rw [e]; simpa using hr'⟩
            · intro b hb
              rcases List.mem_append.1 hb with hb | hb
              · obtain ⟨⟨r, hr, hbr⟩, g1, g2, _⟩ := q5 b hb
                exact ⟨g1, g2, r, by simp [hr], hbr⟩
              · obtain ⟨g1, g2, r, hr, hbr⟩ := h8 b hb
                exact ⟨g1, g2, r, by simp [hr], hbr⟩
            · rw [List.nodup_append]
              refine ⟨q6, h9, fun x hx y hy e => hno ?_⟩
              exact List.any_eq_true.2 ⟨x, hx, by rw [e]; simpa using hy⟩
            · intro r hr
              rcases List.mem_append.1 hr with hr | hr
              · exact q7 r hr
              · exact h10 r hr
          · cases h
        · cases h
      | _ => simp [coreArgs] at h
    | cst f =>
      simp only [coreArgs] at h
      split at h
      · rename_i hx
        simp only [beq_iff_eq] at hx
        obtain ⟨ro, rows, boxes, tk, h1, h2, h3, h4, h5, h6, h7⟩ := coreArgs_rel hR h hv.2
        refine ⟨ro, rows, boxes, tk, .cst (fnOf_rel hv.1 hx) h1, h2, h3, fun b hb => ?_, h5, h6, h7⟩
        rcases h4 b hb with h | ⟨r, hr, h⟩
        · exact .inl h
        · exact .inr ⟨r, by simpa only [roRows] using hr, h⟩
      · cases h
    | new ks => simp [coreArgs] at h

theorem RowsM.blocks {rs : List Nat} {rows : List (Value × List Nat)} (h : RowsM M A.ob rs rows) : ∀ b ∈ rows.flatMap (·.2), ∃ r ∈ rs, b ∈ M.ph r ∧ ∃ ver l app, A.ob r = some (.row ver l app) := by
  induction h with
  | nil => simp
  | @cons r S rs rows h hs t ih =>
    intro b hb
    rw [List.flatMap_cons] at hb
    rcases List.mem_append.1 hb with hb | hb
    · exact ⟨r, by simp, hs b hb, h⟩
    · obtain ⟨q, hq, h1⟩ := ih b hb
      exact ⟨q, by simp [hq], h1⟩

theorem BoxM.blocks {xs : List (Nat × List AK × List At)} {boxes : List Bx} (h : BoxM c M env w A.ob xs boxes) : ∀ b ∈ boxes.map (·.1), ∃ x ∈ xs, b = M.be x.1 ∧ A.ob x.1 = some (.box x.2.2) := by
  induction h with
  | nil => simp
  | @cons id ks cells us xs boxes h hr hu hl t ih =>
    intro b hb
    simp only [List.map_cons, List.mem_cons] at hb
    rcases hb with rfl | hb
    · exact ⟨(id, ks, cells), by simp, rfl, h⟩
    · obtain ⟨x, hx, h1⟩ := ih b hb
      exact ⟨x, by simp [hx], h1⟩

theorem io_nodup (hR : Rel c nt M env A a w) {rs : List Nat} {rows : List (Value × List Nat)} (h : RowsM M A.ob rs rows) (hn : rs.Nodup) (hs : ∀ x ∈ rows, x.2.Nodup) {xs : List (Nat × List AK × List At)} {boxes : List Bx}
    (hb : BoxM c M env w A.ob xs boxes) (hbn : (xs.map (·.1)).Nodup) : (ioB rows boxes).Nodup := by
  unfold ioB
  rw [List.nodup_append]
  refine ⟨?_, ?_, ?_⟩
  · clear hb hbn
    induction h with
    | nil => simp
    | @cons r S rs rows h1 h2 t ih =>
      rw [List.nodup_cons] at hn
      rw [List.flatMap_cons, List.nodup_append]
      refine ⟨hs (M.hd r, S) (by simp), ih hn.2 (fun x hx => hs x (by simp [hx])), ?_⟩
      intro b hb b' hb' e
      subst e
      obtain ⟨q, hq, h3, v1, l1, a1, h4⟩ := RowsM.blocks t b hb'
      obtain ⟨v0, l0, a0, h0⟩ := h1
      exact hR.dRR _ _ _ _ _ _ _ _ h0 h4 (fun e => hn.1 (e ▸ hq)) b (h2 b hb) h3
  · clear h hn hs
    induction hb with
    | nil => simp
    | @cons id ks cells us xs boxes h1 h2 hu hl t ih =>
      simp only [List.map_cons, List.nodup_cons] at hbn ⊢
      refine ⟨fun hm => ?_, ih hbn.2⟩
      obtain ⟨x, hx, h3, h4⟩ := BoxM.blocks t _ hm
      exact hR.dBB _ _ _ _ h1 h4 (fun e => hbn.1 (by rw [e]; exact List.mem_map.2 ⟨x, hx, rfl⟩)) h3
  · intro b hb1 b' hb2 e
    subst e
    obtain ⟨q, hq, h3, v1, l1, a1, h4⟩ := RowsM.blocks h b hb1
    obtain ⟨x, hx, h5, h6⟩ := BoxM.blocks hb b hb2
    exact hR.dBR _ _ _ _ _ _ h6 h4 (h5 ▸ h3)

theorem ArgsR.rows_nodup {w : World} {ps : List PK} {vs : List Value} {ds : List V} {ro : List Nat} {rows : List (Value × List Nat)} {boxes : List Bx} {tk : List Nat} (h : ArgsR w ps vs ds ro rows boxes tk) : ∀ x ∈ rows, x.2.Nodup := by
  have hio : ∀ {ks : List AK} {us : List Value} {ds : List V} {R : List (Value × List Nat)}, CellsIo w ks us ds R → ∀ x ∈ R, x.2.Nodup := by
    intro ks us ds R h
    induction h with
    | nil => simp
    | sc _ _ ih => exact ih
    | sl _ hn _ _ ih =>
      intro x hx
      rcases List.mem_cons.1 hx with rfl | hx
      · exact hn
      · exact ih x hx
  induction h with
  | nil => simp
  | val _ _ _ ih => exact ih
  | io hc _ _ ih =>
    intro x hx
    rcases List.mem_append.1 hx with hx | hx
    · exact hio hc x hx
    · exact ih x hx
  | ptr _ _ _ ih => exact ih
  | tk _ _ _ _ ih => exact ih
  | cst _ _ ih => exact ih

end
end Go.Mw

