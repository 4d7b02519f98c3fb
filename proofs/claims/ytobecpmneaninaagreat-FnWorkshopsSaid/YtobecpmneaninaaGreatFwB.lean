/- A part of the framework that turns Go code into small pure programs and shows that they are sound: no condition. -/
import Derived.Lib.Strings
import Derived.Test.YtobecpmneaninaaGreatFwA
namespace Go.Mw

section
variable {P : Program} (w : World)

theorem run_sizeOf {t : TypeId} {n : Nat} (h : tsize P t = some n) : (sizeOf t).run P w = .ok n w := by
  unfold tsize at h
  cases hi : P.info? t with
  | none => simp [hi] at h
  | some i =>
    simp only [hi, Option.map_some, Option.some.injEq] at h
    simp [sizeOf, typeInfo, hi, h]

theorem run_typeInfo {t : TypeId} {i : TypeInfo} (h : P.info? t = some i) : (typeInfo t).run P w = .ok i w := by simp [typeInfo, h]

theorem run_loadStruct {t : TypeId} {vs : List Value} {b off : Nat} (hs : isStruct P t = true) (ht : tsize P t = some vs.length)
    (hv : ∀ j v, vs[j]? = some v → w.cell? ⟨b, off + j, none⟩ = some v) : (loadVar t ⟨b, off, none⟩).run P w = .ok (.agg vs.toArray) w := by
  unfold isStruct at hs
  split at hs
  · rename_i fs hu
    have hl := run_loadCells_list (P := P) w ⟨b, off, none⟩ vs (fun j v h => by rw [Addr.add_lit]; exact hv j v h)
    simp [loadVar, run_isAgg w hu, run_sizeOf w ht, hl]
  · cases hs

theorem run_loadPlain {t : TypeId} {v : Value} {b off : Nat} (hs : isPlain P t = true) (hv : w.cell? ⟨b, off, none⟩ = some v) : (loadVar t ⟨b, off, none⟩).run P w = .ok v w := by
  unfold isPlain at hs
  cases hu : P.underlying t with
  | none => simp [hu] at hs
  | some d =>
    have hi := run_isAgg (P := P) w hu
    cases d <;> simp [hu] at hs <;> simp [loadVar, hi, hv]

end

theorem At.lst_rep {c : Cx} {nt : Nat} {M : Mp} {env : List V} {A : FS} {a : Act} {w : World} (hR : Rel c nt M env A a w) {b : At} {v : Value} (h : RelAt c M env w A.ob b v) {ks : List AK} {ver : Nat} {l : Lf}
    (hl : b.lst A.ob ks = some (ver, l)) : ∃ S, Rep w [v] [l.ev env] S := by
  cases b with
  | sc l => simp [At.lst] at hl
  | nil =>
    simp only [At.lst, Option.some.injEq, Prod.mk.injEq] at hl
    obtain ⟨rfl, rfl⟩ := hl
    have := h.2
    simp only at this
    subst this
    exact ⟨[], .atom (.nil ks) .nil⟩
  | ro l' =>
    simp only [At.lst, Option.some.injEq, Prod.mk.injEq] at hl
    obtain ⟨rfl, rfl⟩ := hl
    obtain ⟨S, h1, _⟩ := h.2
    exact ⟨S, h1⟩
  | own r =>
    simp only [At.lst] at hl
    split at hl <;> simp only [Option.some.injEq, Prod.mk.injEq, reduceCtorEq] at hl
    rename_i ver' l' app ho
    obtain ⟨rfl, rfl⟩ := hl
    obtain ⟨⟨S, h1, _⟩, _⟩ := hR.rows _ _ _ _ ho
    rw [h.2 _ _ _ ho]
    exact ⟨S, h1⟩
  | inn r ver' l' _ =>
    simp only [At.lst] at hl
    split at hl
    · rename_i ver2 l2 app ho
      split at hl <;> simp only [Option.some.injEq, Prod.mk.injEq, reduceCtorEq] at hl
      rename_i hv
      obtain ⟨rfl, rfl⟩ := hl
      obtain ⟨S, h1, _⟩ := (h.2.1 _ _ _ ho).2 (by simpa using hv)
      exact ⟨S, h1⟩
    · cases hl

theorem At.lst_base {c : Cx} {nt : Nat} {M : Mp} {env : List V} {A : FS} {a : Act} {w : World} (_hR : Rel c nt M env A a w) {b : At} {v : Value} (h : RelAt c M env w A.ob b v) {ks : List AK} {ver : Nat} {l : Lf}
    (hl : b.lst A.ob ks = some (ver, l)) : (v = .slice none 0 0 ∧ l = .k (.list ks []) ∧ b = .nil) ∨ RelBase c M env w A.ob b ver l v := by
  cases b with
  | sc l => simp [At.lst] at hl
  | nil =>
    simp only [At.lst, Option.some.injEq, Prod.mk.injEq] at hl
    obtain ⟨rfl, rfl⟩ := hl
    exact .inl ⟨h.2, rfl, rfl⟩
  | ro l' =>
    simp only [At.lst, Option.some.injEq, Prod.mk.injEq] at hl
    obtain ⟨rfl, rfl⟩ := hl
    exact .inr h.2
  | own r =>
    right
    simp only [At.lst] at hl
    split at hl <;> simp only [Option.some.injEq, Prod.mk.injEq, reduceCtorEq] at hl
    rename_i ver' l' app ho
    obtain ⟨rfl, rfl⟩ := hl
    intro v2 l2 a2 h2
    rw [ho] at h2
    simp only [Option.some.injEq, SO.row.injEq] at h2
    obtain ⟨rfl, rfl, rfl⟩ := h2
    exact ⟨Nat.le_refl _, fun _ => ⟨rfl, h.2 _ _ _ ho⟩⟩
  | inn r ver' l' _ =>
    right
    simp only [At.lst] at hl
    split at hl
    · rename_i ver2 l2 app ho
      split at hl <;> simp only [Option.some.injEq, Prod.mk.injEq, reduceCtorEq] at hl
      obtain ⟨rfl, rfl⟩ := hl
      exact ⟨h.2.1, fun _ _ _ e => (h.2.1 _ _ _ e).1, h.2.2⟩
    · cases hl

theorem elem_cells {w : World} {b o n cap i : Nat} {ks : List AK} {es : List V} {e : V} {S : List Nat} (h : Rep w [.slice (some ⟨b, o, none⟩) n cap] [.list ks es] S) (he : es[i]? = some e) :
    n = es.length ∧ n ≤ cap ∧ aksOk ks e.cells = true ∧ ∃ ws S', ws.length = ks.length ∧ (∀ j v, ws[j]? = some v → w.cell? ⟨b, o + i * ks.length + j, none⟩ = some v) ∧ Rep w ws e.cells S' ∧ (∀ x ∈ S', x ∈ S) := by
  have hlt : i < es.length := by
    rcases Nat.lt_or_ge i es.length with h | h
    · exact h
    · simp [List.getElem?_eq_none h] at he
  rcases h.list_inv with ⟨_, h1, _⟩ | ⟨b', off, n', cap', vs, S', cs, E, fz, hv, rfl, hn, hk, hc, hb, hs, hvs, hin⟩
  · subst h1; simp at hlt
  · simp only [Value.slice.injEq, Option.some.injEq, Addr.mk.injEq, and_true] at hv
    obtain ⟨⟨rfl, rfl⟩, rfl, rfl⟩ := hv
    refine ⟨hn.symm, hc, hk e (List.mem_of_getElem? he), ?_⟩
    generalize hkl : ks.length = k at *
    have hk' : ∀ e ∈ es, e.cells.length = k := fun e he => by rw [← hkl]; exact lens hk e he
    have hd : es = es.take i ++ e :: es.drop (i + 1) := by
      have : es[i] = e := by simpa [List.getElem?_eq_getElem hlt] using he
      rw [← this, List.getElem_cons_drop hlt, List.take_append_drop]
    have hmem : e ∈ es := List.mem_of_getElem? he
    have hin' : Rep w vs ((es.take i).flatMap V.cells ++ (e.cells ++ (es.drop (i + 1)).flatMap V.cells)) S' := by
      have e2 : es.flatMap V.cells = (es.take i).flatMap V.cells ++ (e.cells ++ (es.drop (i + 1)).flatMap V.cells) := by
        conv => lhs; rw [hd]
        simp [List.flatMap_append, List.flatMap_cons]
      rw [← e2]; exact hin
    obtain ⟨us1, us2, S1, S2, rfl, rfl, r1, r2⟩ := hin'.split
    obtain ⟨ws, us3, S3, S4, rfl, rfl, r3, r4⟩ := r2.split
    have l1 : us1.length = i * k := by
      rw [r1.length, flatMap_length (fun x hx => hk' x (List.mem_of_mem_take hx))]
      simp; rw [Nat.min_eq_left (by omega)]
    have l2 : ws.length = k := by rw [r3.length]; exact hk' e hmem
    refine ⟨ws, S3, l2, ?_, r3, fun x hx => by simp [hx]⟩
    intro j v hj
    have hjlt : j < k := by
      rcases Nat.lt_or_ge j ws.length with h | h
      · omega
      · simp [List.getElem?_eq_none h] at hj
    have hb2 : i * k + j < n * k := by
      have : (i + 1) * k ≤ n * k := Nat.mul_le_mul_right k (by omega)
      rw [Nat.add_mul] at this; omega
    have := hvs (i * k + j) hb2
    rw [List.getElem?_append_right (by omega), l1, show i * k + j - i * k = j by omega, List.getElem?_append_left (by omega), hj] at this
    simp only [World.cell?, hb]
    rw [show o + i * k + j = o + (i * k + j) by omega]
    simpa using this

theorem aksOk_drop : ∀ (n : Nat) {ks : List AK} {ds : List V}, aksOk ks ds = true → aksOk (ks.drop n) (ds.drop n) = true
  | 0, _, _, h => by simpa using h
  | n + 1, [], [], _ => by simp [aksOk]
  | n + 1, [], _ :: _, h => by simp [aksOk] at h
  | n + 1, _ :: _, [], h => by simp [aksOk] at h
  | n + 1, _ :: ks, _ :: ds, h => by simp only [aksOk, Bool.and_eq_true] at h; simpa using aksOk_drop n h.2

theorem aksOk_take : ∀ (n : Nat) {ks : List AK} {ds : List V}, aksOk ks ds = true → aksOk (ks.take n) (ds.take n) = true
  | 0, _, _, _ => by simp [aksOk]
  | n + 1, [], [], _ => by simp [aksOk]
  | n + 1, [], _ :: _, h => by simp [aksOk] at h
  | n + 1, _ :: _, [], h => by simp [aksOk] at h
  | n + 1, _ :: ks, _ :: ds, h => by simp only [aksOk, Bool.and_eq_true] at h; simp [aksOk, h.1, aksOk_take n h.2]

theorem akOk_scalar {v : Value} {d : V} {w : World} {S : List Nat} (hk : akOk .sc d = true) (h : Rep w [v] [d] S) : S = [] := by
  cases d <;> simp [akOk] at hk
  case fn f => cases h with | atom _ t => exact t.nil_inv.2
  · exact h.int_inv.2
  · exact h.bool_inv.2
  · obtain ⟨_, _, _, e⟩ := h.str_inv; exact e

def Cnd (c : Cx) (M : Mp) (ob : Nat → Option SO) (b : At) (ver : Nat) (S : List Nat) : Prop :=
  match b with
  | .own r | .inn r _ _ _ => ∀ ver' l' app, ob r = some (.row ver' l' app) → ver ≤ ver' ∧ (ver = ver' → ∀ x ∈ S, x ∈ M.ph r)
  | .ro _ => ∀ x ∈ S, c.rd x
  | _ => False

theorem elemAts_rel {c : Cx} {M : Mp} {env : List V} {w : World} {ob : Nat → Option SO} {b : At} {ver : Nat} {pw : Nat → Option Pth} : ∀ {ks : List AK} {ds : List V} {ws : List Value} {S : List Nat} {el : Nat}, aksOk ks ds = true →
    Rep w ws ds S → (∀ j, j < ks.length → env[el + j]? = ds[j]?) → Cnd c M ob b ver S → (∀ r, b = .own r → ∀ j u, ws[j]? = some u → RelPth M env w ob (pw (el + j)) r ver (.v (el + j)) u) → RelAts c M env w ob (elemAts pw b ver el ks) ws
  | [], ds, ws, S, el, hk, h, _, _, _ => by
    have := aksOk_length hk
    obtain rfl : ds = [] := List.eq_nil_of_length_eq_zero this.symm
    obtain ⟨rfl, _⟩ := h.nil_inv
    trivial
  | k :: ks, [], _, _, _, hk, _, _, _, _ => by simp [aksOk] at hk
  | k :: ks, d :: ds, ws, S, el, hk, h, he, hc, hp => by
    simp only [aksOk, Bool.and_eq_true] at hk
    obtain ⟨u, ws', S1, S2, rfl, rfl, h1, h2⟩ := h.cons_inv
    have e0 : (Lf.v el).ev env = d := by
      have := he 0 (by simp)
      simp only [Nat.add_zero, List.getElem?_cons_zero] at this
      simp [Lf.ev, this]
    have hc1 : Cnd c M ob b ver S1 := by
      unfold Cnd at hc ⊢
      cases b with
      | own r => exact fun v l a ho => ⟨(hc v l a ho).1, fun e x hx => (hc v l a ho).2 e x (by simp [hx])⟩
      | inn r _ _ _ => exact fun v l a ho => ⟨(hc v l a ho).1, fun e x hx => (hc v l a ho).2 e x (by simp [hx])⟩
      | ro l => exact fun x hx => hc x (by simp [hx])
      | sc l => exact hc.elim
      | nil => exact hc.elim
    have hc2 : Cnd c M ob b ver S2 := by
      unfold Cnd at hc ⊢
      cases b with
      | own r => exact fun v l a ho => ⟨(hc v l a ho).1, fun e x hx => (hc v l a ho).2 e x (by simp [hx])⟩
      | inn r _ _ _ => exact fun v l a ho => ⟨(hc v l a ho).1, fun e x hx => (hc v l a ho).2 e x (by simp [hx])⟩
      | ro l => exact fun x hx => hc x (by simp [hx])
      | sc l => exact hc.elim
      | nil => exact hc.elim
    refine ⟨⟨h1.oneCell, ?_⟩, elemAts_rel hk.2 h2 (fun j hj => ?_) hc2 (fun r hb j u hu => by
      have := hp r hb (j + 1) u (by simpa using hu)
      rw [show el + (j + 1) = el + 1 + j by omega] at this; exact this)⟩
    · cases k with
      | sc =>
        have := akOk_scalar hk.1 h1
        subst this
        show Rep w [u] [(Lf.v el).ev env] []
        rw [e0]; exact h1
      | sl k =>
        cases b with
        | own r => exact ⟨fun v l a ho => ⟨(hc1 v l a ho).1, fun e => ⟨S1, by rw [e0]; exact h1, (hc1 v l a ho).2 e⟩⟩, by simpa using hp r rfl 0 u (by simp)⟩
        | inn r _ _ _ => exact ⟨fun v l a ho => ⟨(hc1 v l a ho).1, fun e => ⟨S1, by rw [e0]; exact h1, (hc1 v l a ho).2 e⟩⟩, trivial⟩
        | ro l => exact ⟨S1, by rw [e0]; exact h1, hc1⟩
        | sc l => exact hc1.elim
        | nil => exact hc1.elim
    · have := he (j + 1) (by simp; omega)
      simp only [List.getElem?_cons_succ] at this
      rw [show el + 1 + j = el + (j + 1) by omega]; exact this

theorem Rep.drop {w : World} {us : List Value} {ds : List V} {S : List Nat} (h : Rep w us ds S) (n : Nat) : ∃ S', Rep w (us.drop n) (ds.drop n) S' ∧ ∀ x ∈ S', x ∈ S := by
  by_cases hn : n ≤ ds.length
  · rw [← List.take_append_drop n ds] at h
    obtain ⟨us1, us2, S1, S2, rfl, rfl, h1, h2⟩ := h.split
    have : us1.length = n := by rw [h1.length]; simp; omega
    rw [List.drop_left' this]
    exact ⟨S2, h2, fun x hx => by simp [hx]⟩
  · have := h.length
    rw [List.drop_eq_nil_of_le (by omega), List.drop_eq_nil_of_le (by omega)]
    exact ⟨[], .nil, by simp⟩

theorem Rep.take {w : World} {us : List Value} {ds : List V} {S : List Nat} (h : Rep w us ds S) (n : Nat) : ∃ S', Rep w (us.take n) (ds.take n) S' ∧ ∀ x ∈ S', x ∈ S := by
  by_cases hn : n ≤ ds.length
  · rw [← List.take_append_drop n ds] at h
    obtain ⟨us1, us2, S1, S2, rfl, rfl, h1, h2⟩ := h.split
    have : us1.length = n := by rw [h1.length]; simp; omega
    rw [List.take_left' this]
    exact ⟨S1, h1, fun x hx => by simp [hx]⟩
  · have := h.length
    rw [List.take_of_length_le (by omega), List.take_of_length_le (by omega)]
    exact ⟨S, h, fun x hx => hx⟩

section
variable {P : Program} {c : Cx} {nt : Nat} {M : Mp} {env : List V} {A : FS} {a : Act} {w : World} {o : Oper} {gs : Gs} {fid nv : Nat} {K : Act → World → Prop} {Q : Exit → Act → World → Prop} {out : Out}
variable (hR : Rel c nt M env A a w) (hg : GH env gs) (hd : ∀ d, o.dst = some d → d < nt) (hh : Holds env nv out) (hK : Kont c nt env gs A a o out K)
include hR hg hd hh hK

theorem op_index {t : TypeId} {x i : Operand} (ho : o.op = .indexAddr t x i) {sx si : SV} (h1 : look A.sl gs [] x = some sx) (h2 : look A.sl gs [] i = some si)
    (hc : coreIndex P A.ob nv t sx si = some out) : o.wp P a w K Q := by
  unfold coreIndex at hc
  split at hc
  · rename_i e hu
    split at hc
    · rename_i ks n b li hks hn hb hli
      split at hc
      · rename_i hcond
        simp only [Bool.and_eq_true, beq_iff_eq, bne_iff_ne] at hcond
        split at hc <;> simp only [Option.some.injEq, reduceCtorEq] at hc
        rename_i ver ll hl
        subst hc
        have ra := (look_rel0 hR h1 hg).at1 hb
        have ri := (look_rel0 hR h2 hg).scl hli
        obtain ⟨vs, p1, p2, p3⟩ := hh
        simp only [List.map_cons, List.map_nil] at p1
        obtain ⟨S, hrep⟩ := At.lst_rep hR ra hl
        cases hll : ll.ev env <;> rw [hll] at p1 hrep <;> (try (simp only [Prim.run, reduceCtorEq] at p1; done))
        rename_i k es
        cases hlj : li.ev env <;> rw [hlj] at p1 ri <;> (try (simp only [Prim.run, reduceCtorEq] at p1; done))
        rename_i kk ii
        simp only [Prim.run] at p1
        by_cases hcnd : (AK.eqs k ks && decide (0 ≤ ii)) = true
        case neg => rw [if_neg hcnd] at p1; cases p1
        rw [if_pos hcnd] at p1
        simp only [Bool.and_eq_true, decide_eq_true_eq] at hcnd
        obtain ⟨hke, h0⟩ := hcnd
        have hke' := AK.eqs_eq hke
        subst hke'
        cases hee : es[ii.toNat]? with
        | none => rw [hee] at p1; cases p1
        | some ee =>
          rw [hee] at p1
          simp only [Option.map_some, Option.some.injEq] at p1
          subst p1
          obtain ⟨ei, _⟩ := ri.int_inv
          rcases At.lst_base hR ra hl with ⟨hnil, hl2, _⟩ | hbase
          · rw [hl2] at hll
            simp only [Lf.ev, V.list.injEq] at hll
            rw [← hll.2] at hee
            simp at hee
          · rcases hrep.list_inv with ⟨_, h3, _⟩ | ⟨bb, off, n', cap, vs', S', cs, E, fz, hv, _, hnn, hkk, hcap, _⟩
            · rw [h3] at hee; simp at hee
            · have hlt : ii.toNat < n' := by
                rw [← hnn]
                rcases Nat.lt_or_ge ii.toNat es.length with h | h
                · exact h
                · simp [List.getElem?_eq_none h] at hee
              have hin : 0 ≤ ii ∧ ii < (n' : Int) := ⟨h0, by omega⟩
              have hak := hkk ee (List.mem_of_getElem? hee)
              refine op_val hR hg hd (sv := .elem b ver ll li nv 0 k) rfl rfl (v := .pointer (some ⟨bb, off + ii.toNat * k.length, none⟩)) ?_ ?_ hK
              · have hel : P.underlying t = some (.slice (P.elem t)) := by simp [Program.elem, hu]
                have he2 : P.elem t = e := by simp [Program.elem, hu]
                simp only [execOp, ho, Sem.run_bind, hv, ei]
                rw [run_indexAt_slice w t _ n' cap kk ii hel, if_pos hin, he2, run_sizeOf w hn]
                simp only [Result.andThen_ok, Addr.add_lit, Sem.run_pure, hcond.1]
              · refine ⟨a.eval x, hbase, bb, off, n', cap, es, ii, kk, ee, hv, hll, hlj, h0, hee, hak, ?_, by simp⟩
                intro j hj
                have := aksOk_length hak
                exact p3 j (by simp only; omega)
      · cases hc
    · cases hc
  · cases hc

theorem op_addr {t : TypeId} {x : Operand} {f : Nat} (ho : o.op = .fieldAddr t x f) {sx : SV} (h1 : look A.sl gs [] x = some sx) (hc : coreAddr P A.ob t sx f = some out) : o.wp P a w K Q := by
  have r1 := look_rel0 hR h1 hg
  unfold coreAddr at hc
  split at hc
  · rename_i fs hu
    split at hc
    · rename_i fd hfd
      split at hc
      · rename_i m hm
        have run : ∀ b off, a.eval x = .pointer (some ⟨b, off, none⟩) → (execOp a.eval o).run P w = .ok (.value (.pointer (some ⟨b, off + fd.offset, none⟩))) w := by
          intro b off e
          have hsz := run_sizeOf (P := P) w hm
          simp only [execOp, ho, Sem.run_bind, e, Instr.fieldAt, run_underlying hu, Result.andThen_ok, hfd, Instr.sureAddr, Sem.run_pure, fieldPlace, hsz]
          simp [Addr.add_lit]
        split at hc
        · rename_i id off
          split at hc
          · rename_i cells hbx
            split at hc <;> simp only [Option.some.injEq, reduceCtorEq] at hc
            rename_i hlt
            subst hc
            have e : a.eval x = .pointer (some ⟨M.be id, off, none⟩) := by rw [r1 cells hbx, ptrV_lt (by omega)]
            exact op_val hR hg hd (sv := .ptr id (off + fd.offset)) rfl rfl (run _ _ e) (fun cells' _ => (ptrV_lt hlt).symm) hK
          · cases hc
        · rename_i b ver ll ix el off ks
          simp only [Option.some.injEq] at hc
          subst hc
          obtain ⟨u, hb, bb, oo, n, cap, es, i, kk, e, q1, q2, q3, q4, q5, q6, q7, q8⟩ := r1
          exact op_val hR hg hd (sv := .elem b ver ll ix el (off + fd.offset) ks) rfl rfl (run _ _ q8) ⟨u, hb, bb, oo, n, cap, es, i, kk, e, q1, q2, q3, q4, q5, q6, q7, by simp [Nat.add_assoc]⟩ hK
        · cases hc
      · cases hc
    · cases hc
  · cases hc

end
end Go.Mw

namespace Go.Mw

theorem RelAts.cells {c : Cx} {M : Mp} {env : List V} {w : World} {ob : Nat → Option SO} {as : List At} {vs : List Value} (h : RelAts c M env w ob as vs) (off n : Nat) :
    RelAts c M env w ob ((as.drop off).take n) ((vs.drop off).take n) := RelAts.take n (RelAts.drop off h)

theorem RelAts.one1 : ∀ {c : Cx} {M : Mp} {env : List V} {w : World} {ob : Nat → Option SO} {as : List At} {vs : List Value}, RelAts c M env w ob as vs → ∀ v ∈ vs, v.oneCell' = true
  | _, _, _, _, _, [], [], _, v, hv => by simp at hv
  | _, _, _, _, _, [], _ :: _, h, _, _ => h.elim
  | _, _, _, _, _, _ :: _, [], h, _, _ => h.elim
  | _, _, _, _, _, _ :: _, u :: us, h, v, hv => by
    rcases List.mem_cons.1 hv with rfl | hv
    · exact h.1.1
    · exact RelAts.one1 h.2 v hv

section
variable {P : Program} {c : Cx} {nt : Nat} {M : Mp} {env : List V} {A : FS} {a : Act} {w : World} {o : Oper} {gs : Gs} {fid nv : Nat} {K : Act → World → Prop} {Q : Exit → Act → World → Prop} {out : Out}
variable (hR : Rel c nt M env A a w) (hg : GH env gs) (hd : ∀ d, o.dst = some d → d < nt) (hh : Holds env nv out) (hK : Kont c nt env gs A a o out K)
include hR hg hd hh hK

theorem load_cells {t : TypeId} {x : Operand} (ho : o.op = .load t x) {n : Nat} (hn : tsize P t = some n) (hk : (isStruct P t || (isPlain P t && n == 1)) = true) {b off : Nat} (hx : a.eval x = .pointer (some ⟨b, off, none⟩))
    {cs : List At} {vs : List Value} (hl : vs.length = n) (hv : ∀ j v, vs[j]? = some v → w.cell? ⟨b, off + j, none⟩ = some v) (hr : RelAts c M env w A.ob cs vs)
    (hout : out = .val (.sc ⟨isStruct P t, cs⟩)) : o.wp P a w K Q := by
  subst hout
  by_cases hs : isStruct P t = true
  · refine op_val hR hg hd (sv := .sc ⟨isStruct P t, cs⟩) rfl rfl (v := .agg vs.toArray) ?_ ⟨vs, hr, by simp [packV, hs]⟩ hK
    have := run_loadStruct (P := P) w (b := b) (off := off) (vs := vs) hs (by rw [hn, hl]) hv
    simp only [execOp, ho, Instr.loadAt, hx, Instr.sureAddr, Sem.run_bind, Sem.run_pure, Result.andThen_ok, this]
  · have hs' : isStruct P t = false := by simpa using hs
    simp only [hs', Bool.false_or, Bool.and_eq_true, beq_iff_eq] at hk
    obtain ⟨v, rfl⟩ : ∃ v, vs = [v] := by
      match vs, hl.trans hk.2 with
      | [v], _ => exact ⟨v, rfl⟩
    refine op_val hR hg hd (sv := .sc ⟨isStruct P t, cs⟩) rfl rfl (v := v) ?_ ⟨[v], hr, by simp [packV, hs']⟩ hK
    have h0 := hv 0 v rfl
    have := run_loadPlain (P := P) w (b := b) (off := off) hk.1 h0
    simp only [execOp, ho, Instr.loadAt, hx, Instr.sureAddr, Sem.run_bind, Sem.run_pure, Result.andThen_ok, this]

theorem op_load {t : TypeId} {x : Operand} (ho : o.op = .load t x) {sx : SV} (h1 : look A.sl gs [] x = some sx) (hc : coreLoad P A.ob t sx = some out) : o.wp P a w K Q := by
  have r1 := look_rel0 hR h1 hg
  unfold coreLoad at hc
  split at hc
  · rename_i n ks hn hks
    split at hc
    · rename_i hcond
      simp only [Bool.and_eq_true, beq_iff_eq] at hcond
      split at hc
      · rename_i id off
        split at hc
        · rename_i cells hbx
          split at hc <;> simp only [Option.some.injEq, reduceCtorEq] at hc
          rename_i hle
          have hle1 := hle.1
          obtain ⟨us, E, q1, q2, q3⟩ := hR.boxes _ _ hbx
          have hlen := q2.length
          refine load_cells hR hg hd hh hK ho hn hcond.2 (by rw [r1 cells hbx, ptrV_lt hle.2]) (vs := (us.drop off).take n) (by simp; omega) ?_ (q2.cells off n) hc.symm
          intro j v hj
          simp only [World.cell?, q1]
          have hjn : j < n := by
            rcases Nat.lt_or_ge j n with h | h
            · exact h
            · rw [List.getElem?_eq_none (by simp; omega)] at hj; cases hj
          rw [List.getElem?_take_of_lt hjn, List.getElem?_drop] at hj
          simpa using hj
        · cases hc
      · rename_i b ver ll ix el off kk
        split at hc <;> simp only [Option.some.injEq, reduceCtorEq] at hc
        rename_i hal
        simp only [Bool.and_eq_true, decide_eq_true_eq] at hal
        obtain ⟨⟨hal, hle⟩, heq0⟩ := hal
        have heq := AK.eqs_eq heq0
        obtain ⟨u, hb, bb, oo, m, cap, es, i, ik, e, q1, q2, q3, q4, q5, q6, q7, q8⟩ := r1
        have hbase : ∃ S, Rep w [u] [ll.ev env] S ∧ Cnd c M A.ob b ver S := by
          unfold alive at hal
          cases b with
          | sc l => simp at hal
          | nil => simp at hal
          | ro l => exact hb
          | own r =>
            simp only at hal
            split at hal
            · rename_i v' l' ap hor
              simp only [beq_iff_eq] at hal
              obtain ⟨p1, p2⟩ := hb _ _ _ hor
              obtain ⟨p3, p4⟩ := p2 hal
              obtain ⟨⟨S, s1, s2, s3⟩, _⟩ := hR.rows _ _ _ _ hor
              refine ⟨S, by rw [p4, ← p3]; exact s1, fun v2 l2 a2 h2 => ⟨(hb _ _ _ h2).1, fun _ x hx => (s3 x hx).1⟩⟩
            · simp at hal
          | inn r _ _ _ =>
            simp only at hal
            split at hal
            · rename_i v' l' ap hor
              simp only [beq_iff_eq] at hal
              obtain ⟨p1, p2⟩ := hb.1 _ _ _ hor
              obtain ⟨S, s1, s2⟩ := p2 hal
              exact ⟨S, s1, fun v2 l2 a2 h2 => ⟨(hb.1 _ _ _ h2).1, fun _ => s2⟩⟩
            · simp at hal
        obtain ⟨S, hrep, hcnd⟩ := hbase
        rw [q1, q2] at hrep
        obtain ⟨hm, hcap, _, ws, S', w1, w2, w3, w4⟩ := elem_cells hrep q5
        obtain ⟨S2, w5, w6⟩ := w3.drop off
        obtain ⟨S3, w7, w8⟩ := w5.take n
        have hcnd3 : Cnd c M A.ob b ver S3 := by
          have hsub : ∀ x ∈ S3, x ∈ S := fun x hx => w4 x (w6 x (w8 x hx))
          unfold Cnd at hcnd ⊢
          cases b with
          | own r => exact fun v l a ho => ⟨(hcnd v l a ho).1, fun e x hx => (hcnd v l a ho).2 e x (hsub x hx)⟩
          | inn r _ _ _ => exact fun v l a ho => ⟨(hcnd v l a ho).1, fun e x hx => (hcnd v l a ho).2 e x (hsub x hx)⟩
          | ro l => exact fun x hx => hcnd x (hsub x hx)
          | sc l => exact hcnd.elim
          | nil => exact hcnd.elim
        have hak : aksOk ks ((e.cells.drop off).take n) = true := by rw [← heq]; exact aksOk_take n (aksOk_drop off q6)
        have hlen := aksOk_length q6
        refine load_cells hR hg hd hh hK ho hn hcond.2 q8 (cs := elemAts (pthOf ll ix el kk) b ver (el + off) ks) (vs := (ws.drop off).take n) (by simp; omega) ?_ ?_ hc.symm
        · intro j v hj
          have hjn : j < n := by
            rcases Nat.lt_or_ge j n with h | h
            · exact h
            · rw [List.getElem?_eq_none (by simp; omega)] at hj; cases hj
          rw [List.getElem?_take_of_lt hjn, List.getElem?_drop] at hj
          have := w2 (off + j) v hj
          rw [show oo + i.toNat * kk.length + (off + j) = oo + i.toNat * kk.length + off + j by omega] at this
          exact this
        · refine elemAts_rel hak w7 ?_ hcnd3 ?_
          · intro j hj
            have := q7 (off + j) (by omega)
            rw [show el + off + j = el + (off + j) by omega, this, List.getElem?_take_of_lt (by omega), List.getElem?_drop]
          · intro r hbr j x hx
            subst hbr
            have hjn : j < n := by
              rcases Nat.lt_or_ge j n with h | h
              · exact h
              · rw [List.getElem?_eq_none (by simp; omega)] at hx; cases hx
            rw [List.getElem?_take_of_lt hjn, List.getElem?_drop] at hx
            have hcell := w2 (off + j) x hx
            refine ⟨u, bb, oo + i.toNat * kk.length + (off + j), by simp only; congr 1; omega, ⟨bb, oo, m, cap, es, i, ik, e, q1, q2, q3, q4, q5, q6, q7, by simp only; congr 4; omega⟩, fun ver' l' app ho e => ?_⟩
            obtain ⟨_, p2⟩ := hb _ _ _ ho
            obtain ⟨p3, p4⟩ := p2 e
            refine ⟨p3, p4, ?_, hcell⟩
            have hin : bb ∈ S := by
              cases hrep with
              | atom h _ => cases h; simp at q5
              | row => simp
            exact (hcnd _ _ _ ho).2 e _ hin
      · cases hc
    · cases hc
  · cases hc

theorem op_sindex {t : TypeId} {x i : Operand} (ho : o.op = .index t x i) (hu : P.underlying t = some .string) {lx li : Lf} (h1 : (look A.sl gs [] x).bind SV.scl = some lx) (h2 : (look A.sl gs [] i).bind SV.scl = some li)
    (hout : out = .scal nv .sidx [lx, li]) : o.wp P a w K Q := by
  refine op_scal hR hg hd hout hh ?_ hK
  intro d h
  have r1 := look_scl hR h1 (by simpa using hg)
  have r2 := look_scl hR h2 (by simpa using hg)
  simp only [List.map_cons, List.map_nil] at h
  cases hl : lx.ev env <;> rw [hl] at h r1 <;> (try (simp only [Prim.run, reduceCtorEq] at h; done))
  cases hi : li.ev env <;> rw [hi] at h r2 <;> (try (simp only [Prim.run, reduceCtorEq] at h; done))
  rename_i l kk n
  simp only [Prim.run] at h
  by_cases h0 : 0 ≤ n
  case neg => rw [if_neg h0] at h; cases h
  rw [if_pos h0] at h
  obtain ⟨s, e1, hs, _⟩ := r1.str_inv
  obtain ⟨e2, _⟩ := r2.int_inv
  subst hs
  cases hb : s.data.toList[n.toNat]? with
  | none => simp [hb] at h
  | some b =>
    simp only [hb, Option.map_some, Option.some.injEq, List.cons.injEq, and_true] at h
    subst h
    refine ⟨.int .u8 b.toNat, ?_, .int _ _⟩
    have hlt : n.toNat < s.data.toList.length := by
      rcases Nat.lt_or_ge n.toNat s.data.toList.length with h | h
      · exact h
      · simp [List.getElem?_eq_none h] at hb
    have hsz : n.toNat < s.size := by rw [Array.length_toList] at hlt; exact hlt
    have hg2 : s[n.toNat]? = some b := by
      rw [getElem?_pos s n.toNat hsz]
      congr 1
      have : s.data.toList[n.toNat] = b := by simpa [List.getElem?_eq_getElem hlt] using hb
      rw [← this]; rfl
    simp [execOp, ho, e1, e2, Instr.index, asIntOf, run_underlying hu, h0, hg2]

theorem op_len {x : Operand} {t : TypeId} {args : Array Operand} {argTypes : Array TypeId} (ho : o.op = .call { callee := .builtin .len, args := args, argTypes := argTypes }) (ha : args.toList = [x]) (ht : argTypes.toList = [t])
    {sx : SV} (h1 : look A.sl gs [] x = some sx) (hc : coreLen P A.ob nv t sx = some out) : o.wp P a w K Q := by
  have r1 := look_rel0 hR h1 hg
  obtain rfl : args = #[x] := by cases args; simp_all
  obtain rfl : argTypes = #[t] := by cases argTypes; simp_all
  unfold coreLen at hc
  split at hc
  · rename_i hu
    cases hl : sx.scl with
    | none => simp [hl] at hc
    | some l =>
      simp only [hl, Option.map_some, Option.some.injEq] at hc
      refine op_scal hR hg hd hc.symm hh ?_ hK
      intro d h
      have r2 := r1.scl hl
      simp only [List.map_cons, List.map_nil] at h
      cases hll : l.ev env <;> rw [hll] at h r2 <;> simp only [Prim.run, reduceCtorEq, Option.some.injEq, List.cons.injEq, and_true] at h
      subst h
      · obtain ⟨s, e1, hs, _⟩ := r2.str_inv
        subst hs
        refine ⟨.int .i64 s.size, ?_, by rw [show s.size = s.data.toList.length by rw [Array.length_toList]; rfl]; exact .int _ _⟩
        simp [execOp, ho, resolve, invoke, builtin, Builtin.len_, run_underlying hu, e1, goInt]
  · rename_i e hu
    split at hc
    · rename_i k b hk hb
      cases hl : b.lst A.ob k with
      | none => simp [hl] at hc
      | some q =>
        obtain ⟨ver, l⟩ := q
        simp only [hl, Option.map_some, Option.some.injEq] at hc
        refine op_scal hR hg hd hc.symm hh ?_ hK
        intro d h
        obtain ⟨S, r2⟩ := At.lst_rep hR (r1.at1 hb) hl
        simp only [List.map_cons, List.map_nil] at h
        cases hll : l.ev env <;> rw [hll] at h r2 <;> simp only [Prim.run, reduceCtorEq, Option.some.injEq, List.cons.injEq, and_true] at h
        subst h
        rename_i k' es
        refine ⟨.int .i64 es.length, ?_, .int _ _⟩
        have hel : P.underlying t = some (.slice (P.elem t)) := by simp [Program.elem, hu]
        rcases r2.list_inv with ⟨q1, q2, _⟩ | ⟨b', off, n', cap, vs, S', cs, E, fz, hv, _, hn, _⟩
        · subst q2
          obtain ⟨xx, q1⟩ := q1
          have := run_len_slice (P := P) w t o.type xx 0 0 hel
          simp only [execOp, ho, resolve, invoke, builtin, Sem.run_bind, Sem.run_pure, Result.andThen_ok, List.map_toArray, List.map_cons, List.map_nil, q1, this]
          rfl
        · have := run_len_slice (P := P) w t o.type (some ⟨b', off, none⟩) n' cap hel
          simp only [execOp, ho, resolve, invoke, builtin, Sem.run_bind, Sem.run_pure, Result.andThen_ok, List.map_toArray, List.map_cons, List.map_nil, hv, this, hn]
          rfl
    · cases hc
  · cases hc

end
end Go.Mw

namespace Go.Mw

theorem Rep.sub {w : World} {b off n cap l h : Nat} {ks : List AK} {es : List V} {S : List Nat} (hr : Rep w [.slice (some ⟨b, off, none⟩) n cap] [.list ks es] S) (h1 : l ≤ h) (h2 : h ≤ n) :
    ∃ S', Rep w [.slice (some ⟨b, off + (if cap = l then 0 else l * ks.length), none⟩) (h - l) (cap - l)] [.list ks ((es.take h).drop l)] S' ∧ ∀ x ∈ S', x ∈ S := by
  rcases hr.list_inv with ⟨⟨_, q⟩, q2, _⟩ | ⟨b', off', n', cap', vs, S', cs, E, fz, hv, rfl, hn, hk, hc, hb, hs, hvs, hin⟩
  · simp only [Value.slice.injEq] at q
    obtain ⟨_, rfl, rfl⟩ := q
    subst q2
    obtain rfl : h = 0 := by omega
    obtain rfl : l = 0 := by omega
    exact ⟨[], by simpa using .atom (.nil0 _ _) .nil, by simp⟩
  · simp only [Value.slice.injEq, Option.some.injEq, Addr.mk.injEq, and_true] at hv
    obtain ⟨⟨rfl, rfl⟩, rfl, rfl⟩ := hv
    have hk2 := lens hk
    generalize hkl : ks.length = k at *
    obtain ⟨S1, r1, s1⟩ := hin.take (h * k)
    obtain ⟨S2, r2, s2⟩ := r1.drop (l * k)
    have hmul : h * k ≤ n * k := Nat.mul_le_mul_right k h2
    have hmul2 : l * k ≤ h * k := Nat.mul_le_mul_right k h1
    have hsub : (h - l) * k = h * k - l * k := Nat.sub_mul h l k
    have hmem : ∀ e ∈ (es.take h).drop l, aksOk ks e.cells = true := fun e he => hk e (List.mem_of_mem_take (List.mem_of_mem_drop he))
    have hlen : ((es.take h).drop l).length = h - l := by simp; omega
    have hlv := hin.flat_length hk2
    have hoff : off + (if cap = l then 0 else l * k) + (h - l) * k ≤ cs.size := by
      split
      · have : h - l = 0 := by omega
        rw [this]; omega
      · omega
    have hcells : ∀ j, j < (h - l) * k → cs[off + (if cap = l then 0 else l * k) + j]? = (((vs.take (h * k)).drop (l * k)))[j]? := by
      intro j hj
      split
      · have : h - l = 0 := by omega
        rw [this] at hj; omega
      · rw [List.getElem?_drop, List.getElem?_take_of_lt (by omega), Nat.add_assoc]
        exact hvs (l * k + j) (by omega)
    have hflat : ((es.flatMap V.cells).take (h * k)).drop (l * k) = ((es.take h).drop l).flatMap V.cells := by
      rw [flatMap_take hk2, flatMap_drop (fun e he => hk2 e (List.mem_of_mem_take he))]
    rw [hflat] at r2
    have := Rep.row b (off + (if cap = l then 0 else l * k)) (h - l) (cap - l) ks ((es.take h).drop l) _ S2 cs E fz hlen hmem (by omega) hb (by rw [hkl]; exact hoff) (by rw [hkl]; exact hcells) r2 .nil
    refine ⟨b :: S2, by simpa using this, ?_⟩
    intro x hx
    simp only [List.mem_cons] at hx ⊢
    rcases hx with hx | hx
    · exact .inl hx
    · exact .inr (s1 x (s2 x hx))

theorem subAt_rel {c : Cx} {nt : Nat} {M : Mp} {env : List V} {A : FS} {a : Act} {w : World} (hR : Rel c nt M env A a w) {b b' : At} {u v : Value} {ks : List AK} {ver nv : Nat} {l : Lf} {p : Option Pth} (h : RelAt c M env w A.ob b u)
    (hl : b.lst A.ob ks = some (ver, l)) (hs : subAt b ver nv p = some b') (hp : p = none ∨ ∃ hi, p = some (.pre l hi) ∧ PreOf env l hi (.v nv) u v) (hv : ∀ S, Rep w [u] [l.ev env] S → ∃ S', Rep w [v] [(Lf.v nv).ev env] S' ∧ ∀ x ∈ S', x ∈ S) : RelAt c M env w A.ob b' v := by
  cases b with
  | sc l => simp [subAt] at hs
  | nil => simp [subAt] at hs
  | ro l' =>
    simp only [subAt, Option.some.injEq] at hs
    subst hs
    simp only [At.lst, Option.some.injEq, Prod.mk.injEq] at hl
    obtain ⟨rfl, rfl⟩ := hl
    obtain ⟨S, h1, h2⟩ := h.2
    obtain ⟨S', h3, h4⟩ := hv S h1
    exact ⟨h3.oneCell, S', h3, fun x hx => h2 x (h4 x hx)⟩
  | own r =>
    simp only [subAt, Option.some.injEq] at hs
    subst hs
    simp only [At.lst] at hl
    split at hl <;> simp only [Option.some.injEq, Prod.mk.injEq, reduceCtorEq] at hl
    rename_i ver' l' app ho
    obtain ⟨rfl, rfl⟩ := hl
    obtain ⟨⟨S, h1, h2, h3⟩, _⟩ := hR.rows _ _ _ _ ho
    rw [← h.2 _ _ _ ho] at h1
    obtain ⟨S', h4, h5⟩ := hv S h1
    refine ⟨h4.oneCell, fun v2 l2 a2 h6 => ?_, ?_⟩
    · rw [ho] at h6
      simp only [Option.some.injEq, SO.row.injEq] at h6
      obtain ⟨rfl, rfl, rfl⟩ := h6
      exact ⟨Nat.le_refl _, fun _ => ⟨S', h4, fun x hx => (h3 x (h5 x hx)).1⟩⟩
    · rcases hp with rfl | ⟨hi, rfl, hp⟩
      · trivial
      · refine ⟨u, hp, fun v2 l2 a2 h6 _ => ?_⟩
        rw [ho] at h6
        simp only [Option.some.injEq, SO.row.injEq] at h6
        obtain ⟨rfl, rfl, rfl⟩ := h6
        exact ⟨rfl, h.2 _ _ _ ho⟩
  | inn r ver' l' _ =>
    simp only [subAt, Option.some.injEq] at hs
    subst hs
    simp only [At.lst] at hl
    split at hl
    · rename_i ver2 l2 app ho
      split at hl <;> simp only [Option.some.injEq, Prod.mk.injEq, reduceCtorEq] at hl
      rename_i hvv
      obtain ⟨rfl, rfl⟩ := hl
      obtain ⟨S, h1, h2⟩ := (h.2.1 _ _ _ ho).2 (by simpa using hvv)
      obtain ⟨S', h4, h5⟩ := hv S h1
      refine ⟨h4.oneCell, fun v2 l2 a2 h6 => ?_, trivial⟩
      obtain ⟨h7, h8⟩ := h.2.1 _ _ _ h6
      exact ⟨h7, fun _ => ⟨S', h4, fun x hx => h2 x (h5 x hx) |> fun hh => hh⟩⟩
    · cases hl

theorem optScl_rel {c : Cx} {nt : Nat} {M : Mp} {env : List V} {A : FS} {a : Act} {w : World} (hR : Rel c nt M env A a w) {gs : Gs} (hg : GH env gs) {x : Option Operand} {l : Option Lf}
    (h : optScl (look A.sl gs) x = some l) : (x = none ∧ l = none) ∨ ∃ y l', x = some y ∧ l = some l' ∧ Rep w [a.eval y] [l'.ev env] [] := by
  unfold optScl at h
  split at h
  · simp only [Option.some.injEq] at h; exact .inl ⟨rfl, h.symm⟩
  · rename_i y
    split at h <;> simp only [Option.some.injEq, reduceCtorEq] at h
    rename_i l' hl
    exact .inr ⟨y, l', rfl, h.symm, look_scl hR hl (by simpa using hg)⟩

theorem run_slice_str {P : Program} (w : World) {t : TypeId} (hu : P.underlying t = some .string) (s : ByteArray) (lo hi : Option Value) (l h : Nat)
    (hb : (Instr.sliceBounds false s.size s.size lo hi none).run P w = .ok (l, h, s.size) w) : (Instr.sliceAt t (.string s) lo hi none).run P w = .ok (.string (s.extract l h)) w := by
  rw [run_sliceAt_string w t _ _ _ _ hu]
  simp [Instr.slice, run_underlying hu, hb]

theorem run_slice_lst {P : Program} (w : World) {t e : TypeId} {k : Nat} (hu : P.underlying t = some (.slice e)) (hk : tsize P e = some k) (ad : Option Addr) (n cap : Nat) (lo hi : Option Value) (l h : Nat)
    (hb : (Instr.sliceBounds true n cap lo hi none).run P w = .ok (l, h, cap) w) : (Instr.sliceAt t (.slice ad n cap) lo hi none).run P w = .ok (.slice (if cap = l then ad else ad.map (·.add (l * k))) (h - l) (cap - l)) w := by
  have hel : P.underlying t = some (.slice (P.elem t)) := by simp [Program.elem, hu]
  rw [run_sliceAt_slice w t _ _ _ _ hel]
  simp [Instr.slice, run_underlying hu, hb, run_sizeOf w hk]

theorem run_bounds {P : Program} {w : World} {a : Act} {env : List V} {lo hi : Option Operand} {ll lh : Option Lf} (r2 : (lo = none ∧ ll = none) ∨ ∃ y l', lo = some y ∧ ll = some l' ∧ Rep w [a.eval y] [l'.ev env] [])
    (r3 : (hi = none ∧ lh = none) ∨ ∃ y l', hi = some y ∧ lh = some l' ∧ Rep w [a.eval y] [l'.ev env] []) (q : Bool) {n cap l h : Nat} (hb : subB n ((ll.getD (.k (.int .i64 0)) :: lh.toList).map (Lf.ev env)) = some (l, h)) (hn : n ≤ cap) :
    (Instr.sliceBounds q n cap (lo.map a.eval) (hi.map a.eval) none).run P w = .ok (l, h, cap) w ∧ l ≤ h ∧ h ≤ n := by
  have r2' : ∃ v, (ll.getD (.k (.int .i64 0))).ev env = v ∧ ((lo = none ∧ v = .int .i64 0) ∨ ∃ y, lo = some y ∧ Rep w [a.eval y] [v] []) := by
    rcases r2 with ⟨rfl, rfl⟩ | ⟨y, l', rfl, rfl, r⟩
    · exact ⟨_, rfl, .inl ⟨rfl, rfl⟩⟩
    · exact ⟨_, rfl, .inr ⟨y, rfl, r⟩⟩
  obtain ⟨v, e1, r2'⟩ := r2'
  rw [List.map_cons, e1] at hb
  rcases r3 with ⟨rfl, rfl⟩ | ⟨z, l3, rfl, rfl, rz⟩
  · simp only [Option.toList_none, List.map_nil] at hb
    cases v <;> simp only [subB, reduceCtorEq] at hb
    rename_i kk x
    by_cases hc : 0 ≤ x ∧ x ≤ (n : Int)
    case neg => rw [if_neg hc] at hb; cases hb
    rw [if_pos hc] at hb
    simp only [Option.some.injEq, Prod.mk.injEq] at hb
    obtain ⟨rfl, rfl⟩ := hb
    refine ⟨?_, by omega, Nat.le_refl _⟩
    rcases r2' with ⟨rfl, hv⟩ | ⟨y, rfl, r⟩
    · simp only [V.int.injEq] at hv
      obtain ⟨rfl, rfl⟩ := hv
      simp [Instr.sliceBounds]
    · obtain ⟨e2, _⟩ := r.int_inv
      have e3 := run_sliceBound (P := P) w kk x n (if false = true then .slice3C else .sliceB) hc.1 hc.2
      simp only [Bool.false_eq_true, if_false] at e3
      simp [Instr.sliceBounds, e2, e3]
  · simp only [Option.toList_some, List.map_cons, List.map_nil] at hb
    cases hz : l3.ev env <;> rw [hz] at hb rz <;> (try (cases v <;> simp only [subB, reduceCtorEq] at hb; done))
    cases v <;> simp only [subB, reduceCtorEq] at hb
    rename_i k2 m kk x
    by_cases hc : 0 ≤ x ∧ x ≤ m ∧ m ≤ (n : Int)
    case neg => rw [if_neg hc] at hb; cases hb
    rw [if_pos hc] at hb
    simp only [Option.some.injEq, Prod.mk.injEq] at hb
    obtain ⟨rfl, rfl⟩ := hb
    refine ⟨?_, by omega, by omega⟩
    obtain ⟨e4, _⟩ := rz.int_inv
    have e5 : ∀ code, (Instr.sliceBound (.int k2 m) cap code).run P w = .ok m.toNat w := fun code => run_sliceBound w k2 m cap code (by omega) (by omega)
    rcases r2' with ⟨rfl, hv⟩ | ⟨y, rfl, r⟩
    · simp only [V.int.injEq] at hv
      obtain ⟨rfl, rfl⟩ := hv
      simp [Instr.sliceBounds, e4, e5]
    · obtain ⟨e2, _⟩ := r.int_inv
      have e3 : ∀ code, (Instr.sliceBound (.int kk x) m.toNat code).run P w = .ok x.toNat w := fun code => run_sliceBound w kk x m.toNat code hc.1 (by omega)
      simp only [Instr.sliceBounds, Option.map_some, e4, e2, Sem.run_bind, Sem.run_pure, Result.andThen_ok, e5, e3]

section
variable {P : Program} {c : Cx} {nt : Nat} {M : Mp} {env : List V} {A : FS} {a : Act} {w : World} {o : Oper} {gs : Gs} {fid nv : Nat} {K : Act → World → Prop} {Q : Exit → Act → World → Prop} {out : Out}
variable (hR : Rel c nt M env A a w) (hg : GH env gs) (hd : ∀ d, o.dst = some d → d < nt) (hh : Holds env nv out) (hK : Kont c nt env gs A a o out K)
include hR hg hd hh hK

theorem op_slice {t : TypeId} {x : Operand} {lo hi : Option Operand} (ho : o.op = .slice t x lo hi none) {sx : SV} (h1 : look A.sl gs [] x = some sx) {ll lh : Option Lf} (h2 : optScl (look A.sl gs) lo = some ll) (h3 : optScl (look A.sl gs) hi = some lh)
    (hc : coreSlice P A.ob nv t sx ll lh = some out) : o.wp P a w K Q := by
  have r1 := look_rel0 hR h1 hg
  have r2 := optScl_rel hR hg h2
  have r3 := optScl_rel hR hg h3
  unfold coreSlice at hc
  split at hc
  · rename_i hu
    cases hl : sx.scl with
    | none => simp [hl] at hc
    | some l =>
      simp only [hl, Option.map_some, Option.some.injEq] at hc
      refine op_scal hR hg hd hc.symm hh ?_ hK
      intro d h
      have rs := r1.scl hl
      rw [List.map_cons] at h
      cases hll : l.ev env <;> rw [hll] at h rs <;> (try (simp only [Prim.run, reduceCtorEq] at h; done))
      rename_i ls
      simp only [Prim.run] at h
      cases hb : subB ls.length ((ll.getD (.k (.int .i64 0)) :: lh.toList).map (Lf.ev env)) with
      | none => rw [hb] at h; cases h
      | some b =>
        obtain ⟨lo', hi'⟩ := b
        rw [hb] at h
        simp only [Option.map_some, Option.some.injEq, List.cons.injEq, and_true] at h
        subst h
        obtain ⟨s, e1, hs, _⟩ := rs.str_inv
        have hsz : s.size = ls.length := by rw [← hs, Array.length_toList]; rfl
        obtain ⟨q1, q2, q3⟩ := run_bounds (P := P) (w := w) (a := a) r2 r3 false (n := ls.length) (cap := s.size) hb (by omega)
        rw [← hsz] at q1
        refine ⟨.string (s.extract lo' hi'), ?_, .str _ _ ?_⟩
        · have := run_slice_str (P := P) w hu s _ _ lo' hi' q1
          simp only [execOp, ho, e1, Option.map_none, Sem.run_bind, this, Result.andThen_ok]
          rfl
        · rw [Go.Lib.extract_data, hs, List.drop_take]
  · rename_i e hu
    split at hc
    · rename_i ks k b hks hk hb
      split at hc
      · cases hc
      rename_i hkl0
      have hkl : ks.length = k := by simpa using hkl0
      subst hkl
      split at hc
      · rename_i ver l hl
        cases hs : subAt b ver nv (preOf l ll lh) with
        | none => simp [hs] at hc
        | some b' =>
          simp only [hs, Option.map_some, Option.some.injEq] at hc
          subst hc
          obtain ⟨d, p1, p2⟩ := hh.one
          have ra := r1.at1 hb
          obtain ⟨S, rs⟩ := At.lst_rep hR ra hl
          rw [List.map_cons] at p1
          cases hll : l.ev env <;> rw [hll] at p1 rs <;> (try (simp only [Prim.run, reduceCtorEq] at p1; done))
          rename_i k' es
          simp only [Prim.run] at p1
          by_cases hk' : AK.eqs k' ks = true
          case neg => rw [if_neg hk'] at p1; cases p1
          rw [if_pos hk'] at p1
          have hk2 := AK.eqs_eq hk'
          subst hk2
          cases hb' : subB es.length ((ll.getD (.k (.int .i64 0)) :: lh.toList).map (Lf.ev env)) with
          | none => rw [hb'] at p1; cases p1
          | some bb =>
            obtain ⟨lo', hi'⟩ := bb
            rw [hb'] at p1
            simp only [Option.map_some, Option.some.injEq, List.cons.injEq, and_true] at p1
            have hpre : ∀ (v : Value) (xx : Option Addr) (cap : Nat), a.eval x = .slice xx es.length cap → (lo' = 0 → v = .slice xx hi' cap) → preOf l ll lh = none ∨ ∃ hi, preOf l ll lh = some (.pre l hi) ∧ PreOf env l hi (.v nv) (a.eval x) v := by
              intro v xx cap hx hv
              cases ll with
              | some _ => exact .inl rfl
              | none =>
                cases lh with
                | none => exact .inl rfl
                | some h =>
                  refine .inr ⟨h, rfl, ?_⟩
                  simp only [Option.getD_none, Option.toList_some, List.map_cons, List.map_nil] at hb'
                  rw [show (Lf.k (V.int .i64 0)).ev env = V.int .i64 0 from rfl] at hb'
                  cases hm : h.ev env <;> rw [hm] at hb' <;> (try (simp only [subB, reduceCtorEq] at hb'; done))
                  rename_i k m
                  simp only [subB] at hb'
                  split at hb'
                  · rename_i hcond
                    simp only [Option.some.injEq, Prod.mk.injEq] at hb'
                    obtain ⟨rfl, rfl⟩ := hb'
                    obtain ⟨_, c2, c3⟩ := hcond
                    refine ⟨k', es, k, m, xx, cap, hll, hm, c2, by omega, ?_, hx, hv rfl⟩
                    rw [p2, ← p1]; simp
                  · cases hb'
            rcases rs.list_inv with ⟨q1, q2, _⟩ | ⟨bb, off, n', cap, vs, S', cs, E, fz, hv, _, hn, hkk, hcap, _⟩
            · subst q2
              obtain ⟨xx, q1⟩ := q1
              obtain ⟨b1, b2, b3⟩ := run_bounds (P := P) (w := w) (a := a) r2 r3 true (n := 0) (cap := 0) hb' (Nat.le_refl _)
              obtain ⟨rfl, rfl⟩ : lo' = 0 ∧ hi' = 0 := by omega
              have hrun := run_slice_lst (P := P) w hu hk xx 0 0 _ _ 0 0 b1
              cases xx with
              | none =>
                refine op_val hR hg hd (sv := .ofAt b') rfl rfl (v := .slice none 0 0) ?_ (.ofAt (subAt_rel hR ra hl hs (hpre (.slice none 0 0) none 0 q1 fun _ => rfl) fun S _ => ⟨[], ?_, by simp⟩)) hK
                · simp only [execOp, ho, q1, Option.map_none, Sem.run_bind, hrun, Result.andThen_ok]
                  rfl
                · rw [p2, ← p1]; exact .atom (.nil _) .nil
              | some xx =>
                refine op_val hR hg hd (sv := .ofAt b') rfl rfl (v := .slice (some xx) 0 0) ?_ (.ofAt (subAt_rel hR ra hl hs (hpre (.slice (some xx) 0 0) (some xx) 0 q1 fun _ => rfl) fun S _ => ⟨[], ?_, by simp⟩)) hK
                · simp only [execOp, ho, q1, Option.map_none, Sem.run_bind, hrun, Result.andThen_ok]
                  rfl
                · rw [p2, ← p1]; exact .atom (.nil0 _ _) .nil
            · subst hn
              obtain ⟨b1, b2, b3⟩ := run_bounds (P := P) (w := w) (a := a) r2 r3 true (n := es.length) (cap := cap) hb' hcap
              have hrun := run_slice_lst (P := P) w hu hk (some ⟨bb, off, none⟩) es.length cap _ _ lo' hi' b1
              refine op_val hR hg hd (sv := .ofAt b') rfl rfl (v := .slice (some ⟨bb, off + (if cap = lo' then 0 else lo' * k'.length), none⟩) (hi' - lo') (cap - lo')) ?_ (.ofAt (subAt_rel hR ra hl hs (hpre _ (some ⟨bb, off, none⟩) cap hv fun e => by subst e; simp) fun S hS => ?_)) hK
              · simp only [execOp, ho, hv, Option.map_none, Sem.run_bind, hrun, Result.andThen_ok]
                split <;> simp_all [Addr.add_lit]
              · rw [hv, hll] at hS
                obtain ⟨S', q1, q2⟩ := hS.sub b2 b3
                exact ⟨S', by rw [p2, ← p1]; exact q1, q2⟩
      · cases hc
    · cases hc
  · cases hc

end
end Go.Mw

namespace Go.Mw

theorem foldl_push (ns : List Int) : ∀ s : ByteArray, (ns.foldl (fun r n => r.push (UInt8.ofNat n.toNat)) s).data.toList = s.data.toList ++ ns.map (fun n => UInt8.ofNat n.toNat) := by
  induction ns with
  | nil => simp
  | cons n ns ih => intro s; rw [List.foldl_cons, ih]; simp [ByteArray.push]

theorem bytesV_inv : ∀ {es : List V} {l : List UInt8}, bytesV es = some l → ∃ ns : List Int, es = ns.map (fun n => V.int .u8 n) ∧ l = ns.map fun n => UInt8.ofNat n.toNat
  | [], l, h => by simp only [bytesV, Option.some.injEq] at h; exact ⟨[], rfl, h.symm⟩
  | e :: es, l, h => by
    have key : ∃ n, e = .int .u8 n := by
      cases e with
      | int k n => cases k <;> simp only [bytesV, reduceCtorEq] at h; exact ⟨n, rfl⟩
      | _ => simp only [bytesV, reduceCtorEq] at h
    obtain ⟨n, rfl⟩ := key
    simp only [bytesV] at h
    cases hb : bytesV es with
    | none => simp [hb] at h
    | some l' =>
      simp only [hb, Option.map_some, Option.some.injEq] at h
      obtain ⟨ns, rfl, rfl⟩ := bytesV_inv hb
      exact ⟨n :: ns, rfl, h.symm⟩

theorem Rep.bytes_inv {w : World} : ∀ {ns : List Int} {vs : List Value} {S : List Nat}, Rep w vs ((ns.map fun n => V.int .u8 n).flatMap V.cells) S → vs = ns.map (Value.int .u8)
  | [], vs, S, h => by simpa using h.nil_inv.1
  | n :: ns, vs, S, h => by
    simp only [List.map_cons, List.flatMap_cons, V.cells, List.singleton_append] at h
    obtain ⟨u, vs', S1, S2, rfl, rfl, h1, h2⟩ := h.cons_inv
    rw [h1.int_inv.1, Rep.bytes_inv h2]
    rfl

theorem RelSCs.get {c : Cx} {M : Mp} {env : List V} {w : World} {ob : Nat → Option SO} : ∀ {cs : List SC} {vs : List Value} {i : Nat} {x : SC}, RelSCs c M env w ob cs vs → cs[i]? = some x → ∃ v, vs[i]? = some v ∧ RelSC c M env w ob x v
  | [], _, _, _, _, h => by simp at h
  | _ :: _, [], _, _, h, _ => h.elim
  | a :: as, v :: vs, 0, x, h, hx => by simp only [List.getElem?_cons_zero, Option.some.injEq] at hx; subst hx; exact ⟨v, rfl, h.1⟩
  | a :: as, v :: vs, i + 1, x, h, hx => by simpa using RelSCs.get h.2 (by simpa using hx)

theorem mapScl_scs {c : Cx} {nt : Nat} {M : Mp} {env : List V} {A : FS} {a : Act} {w : World} (hR : Rel c nt M env A a w) {gs : Gs} (hg : GH env gs) : ∀ {xs : List Operand} {ls : List Lf}, mapScl (look A.sl gs) xs = some ls →
    Scs w (xs.map a.eval) (ls.map (Lf.ev env))
  | [], ls, h => by simp only [mapScl, Option.some.injEq] at h; subst h; exact .nil
  | x :: xs, ls, h => by
    simp only [mapScl] at h
    split at h <;> simp only [Option.some.injEq, reduceCtorEq] at h
    rename_i l ls' h1 h2
    subst h
    exact .cons (look_scl hR h1 (by simpa using hg)) (mapScl_scs hR hg h2)

theorem run_mx {P : Program} (w : World) : ∀ (us : List Value) (ds : List V) (u : Value) (x d : V), Rep w [u] [x] [] → Scs w us ds → ds.foldlM mx2 x = some d → ∃ v, (us.foldlM Builtin.max2 u).run P w = .ok v w ∧ Rep w [v] [d] []
  | [], ds, u, x, d, h1, h2, h => by
    cases h2
    simp only [List.foldlM_nil, Option.pure_def, Option.some.injEq] at h
    subst h
    exact ⟨u, rfl, h1⟩
  | y :: us, ds, u, x, d, h1, h2, h => by
    cases h2 with
    | cons h3 h4 =>
      rename_i e ds
      simp only [List.foldlM_cons, Option.bind_eq_bind] at h
      cases hm : mx2 x e with
      | none => simp [hm] at h
      | some z =>
        simp only [hm, Option.bind_some] at h
        cases x <;> cases e <;> simp only [mx2, reduceCtorEq, Option.some.injEq] at hm
        rename_i k m k' n
        subst hm
        obtain ⟨rfl, _⟩ := h1.int_inv
        obtain ⟨rfl, _⟩ := h3.int_inv
        obtain ⟨v, q1, q2⟩ := run_mx (P := P) w us ds (.int k (if n > m then n else m)) _ d (.atom (.int _ _) .nil) h4 h
        exact ⟨v, by simp only [List.foldlM_cons, Builtin.max2, Sem.run_bind, Sem.run_pure, Result.andThen_ok, q1], q2⟩

theorem run_mn {P : Program} (w : World) : ∀ (us : List Value) (ds : List V) (u : Value) (x d : V), Rep w [u] [x] [] → Scs w us ds → ds.foldlM mn2 x = some d → ∃ v, (us.foldlM Builtin.min2 u).run P w = .ok v w ∧ Rep w [v] [d] []
  | [], ds, u, x, d, h1, h2, h => by
    cases h2
    simp only [List.foldlM_nil, Option.pure_def, Option.some.injEq] at h
    subst h
    exact ⟨u, rfl, h1⟩
  | y :: us, ds, u, x, d, h1, h2, h => by
    cases h2 with
    | cons h3 h4 =>
      rename_i e ds
      simp only [List.foldlM_cons, Option.bind_eq_bind] at h
      cases hm : mn2 x e with
      | none => simp [hm] at h
      | some z =>
        simp only [hm, Option.bind_some] at h
        cases x <;> cases e <;> simp only [mn2, reduceCtorEq, Option.some.injEq] at hm
        rename_i k m k' n
        subst hm
        obtain ⟨rfl, _⟩ := h1.int_inv
        obtain ⟨rfl, _⟩ := h3.int_inv
        obtain ⟨v, q1, q2⟩ := run_mn (P := P) w us ds (.int k (if n < m then n else m)) _ d (.atom (.int _ _) .nil) h4 h
        exact ⟨v, by simp only [List.foldlM_cons, Builtin.min2, Sem.run_bind, Sem.run_pure, Result.andThen_ok, q1], q2⟩

section
variable {P : Program} {c : Cx} {nt : Nat} {M : Mp} {env : List V} {A : FS} {a : Act} {w : World} {o : Oper} {gs : Gs} {fid nv : Nat} {K : Act → World → Prop} {Q : Exit → Act → World → Prop} {out : Out}
variable (hR : Rel c nt M env A a w) (hg : GH env gs) (hd : ∀ d, o.dst = some d → d < nt) (hh : Holds env nv out) (hK : Kont c nt env gs A a o out K)
include hR hg hd hh hK

theorem op_conv {s t : TypeId} {x : Operand} (ho : o.op = .convert s t x) {sx : SV} (h1 : look A.sl gs [] x = some sx) (hc : coreConv P A.ob nv s t sx = some out) : o.wp P a w K Q := by
  have r1 := look_rel0 hR h1 hg
  unfold coreConv at hc
  split at hc
  · rename_i ks k hus hut
    cases hl : sx.scl with
    | none => simp [hl] at hc
    | some l =>
      simp only [hl, Option.map_some, Option.some.injEq] at hc
      refine op_scal hR hg hd hc.symm hh ?_ hK
      intro d h
      have rs := r1.scl hl
      simp only [List.map_cons, List.map_nil] at h
      cases hll : l.ev env <;> rw [hll] at h rs <;> simp only [Prim.run, reduceCtorEq, Option.some.injEq, List.cons.injEq, and_true] at h
      subst h
      obtain ⟨e1, _⟩ := rs.int_inv
      refine ⟨_, ?_, .int _ _⟩
      simp [execOp, ho, e1, convert, run_underlying hus, run_underlying hut, Conv.intToInt]
  · rename_i e hus hut
    split at hc
    · rename_i b hue hb
      cases hl : b.lst A.ob [.sc] with
      | none => simp [hl] at hc
      | some q =>
        obtain ⟨ver, l⟩ := q
        simp only [hl, Option.map_some, Option.some.injEq] at hc
        refine op_scal hR hg hd hc.symm hh ?_ hK
        intro d h
        obtain ⟨S, rs⟩ := At.lst_rep hR (r1.at1 hb) hl
        simp only [List.map_cons, List.map_nil] at h
        cases hll : l.ev env <;> rw [hll] at h rs <;> (try (simp only [Prim.run, reduceCtorEq] at h; done))
        rename_i k es
        simp only [Prim.run] at h
        cases hbv : bytesV es with
        | none => rw [hbv] at h; cases h
        | some ls =>
          rw [hbv] at h
          simp only [Option.map_some, Option.some.injEq, List.cons.injEq, and_true] at h
          subst h
          obtain ⟨ns, rfl, rfl⟩ := bytesV_inv hbv
          rcases rs.list_inv with ⟨q1, q2, _⟩ | ⟨bb, off, n', cap, vs, S', cs, E, fz, hv, _, hn, hkk, hcap, hbb, hs, hvs, hin⟩
          · have : ns = [] := by simpa using q2
            subst this
            obtain ⟨xx, q1⟩ := q1
            refine ⟨.string ByteArray.empty, ?_, .str _ _ rfl⟩
            cases xx with
            | none => simp [execOp, ho, q1, convert, run_underlying hus, run_underlying hut, run_underlying hue, Conv.bytesToString]
            | some xx =>
              have hl2 : (loadCells xx 0).run P w = .ok (([] : List Int).map (Value.int .u8)).toArray w := by
                simpa using run_loadCells_list (P := P) w xx [] (fun j v hj => by simp at hj)
              have hbs := run_bytesToString (P := P) w xx 0 0 [] hl2
              have hcv := run_convert_bytes_string (P := P) w s t e (some xx) 0 0 hus hue hut
              simp only [execOp, ho, q1, Sem.run_bind, hcv, hbs, Result.andThen_ok]
              rfl
          · have hvv := Rep.bytes_inv hin
            have hk1 : ∀ n ∈ ns, k.length = 1 := fun n hn => by
              have := lens hkk (.int .u8 n) (List.mem_map.2 ⟨n, hn, rfl⟩)
              simpa [V.cells] using this.symm
            have hlen : ns.length = n' := by simpa using hn
            have hl2 : (loadCells ⟨bb, off, none⟩ n').run P w = .ok (ns.map (Value.int .u8)).toArray w := by
              have := run_loadCells_list (P := P) w ⟨bb, off, none⟩ (ns.map (Value.int .u8)) (fun j v hj => by
                rw [Addr.add_lit]
                have hjlt : j < ns.length := by
                  rcases Nat.lt_or_ge j (ns.map (Value.int .u8)).length with h | h
                  · simpa using h
                  · rw [List.getElem?_eq_none h] at hj; cases hj
                have hk1' := hk1 ns[j] (List.getElem_mem hjlt)
                simp only [World.cell?, hbb]
                have := hvs j (by rw [hk1']; omega)
                rw [hvv, hj] at this
                simpa using this)
              rw [← hlen]; simpa using this
            have hbs := run_bytesToString (P := P) w ⟨bb, off, none⟩ n' cap ns hl2
            refine ⟨_, ?_, .str _ _ (foldl_push ns ByteArray.empty)⟩
            have hcv := run_convert_bytes_string (P := P) w s t e (some ⟨bb, off, none⟩) n' cap hus hue hut
            simp only [execOp, ho, hv, Sem.run_bind, hcv, hbs, Result.andThen_ok]
            rfl
    · cases hc
  · cases hc

omit hh in
theorem op_extract {x : Operand} {i : Nat} (ho : o.op = .extract x i) {cs : List SC} (h1 : look A.sl gs [] x = some (.tup cs)) {y : SC} (hy : cs[i]? = some y) (hout : out = .val (.sc y)) : o.wp P a w K Q := by
  subst hout
  obtain ⟨vs, h2, h3⟩ := look_rel0 hR h1 hg
  obtain ⟨v, h4, h5⟩ := RelSCs.get h3 hy
  refine op_val hR hg hd (sv := .sc y) rfl rfl (v := v) ?_ h5 hK
  simp [execOp, ho, h2, Instr.extract, h4]

omit hh in
theorem op_nilCheck {x : Operand} (ho : o.op = .nilCheck x) {id off : Nat} (h1 : look A.sl gs [] x = some (.ptr id off)) {cells : List At} (hb : A.ob id = some (.box cells)) (hlt : off < cloK) (hout : out = .val (.ptr id off)) : o.wp P a w K Q := by
  subst hout
  have h2 : a.eval x = .pointer (some ⟨M.be id, off, none⟩) := by rw [look_rel0 hR h1 hg cells hb, ptrV_lt hlt]
  refine op_val hR hg hd (sv := .ptr id off) rfl rfl (v := a.eval x) ?_ (fun _ _ => by rw [h2, ptrV_lt hlt]) hK
  simp [execOp, ho, h2]

omit hh in
theorem op_makeFunc {g : Nat} {first captured : Array Operand} (ho : o.op = .makeFunc (.func g) first captured) (hfi : first.toList = []) {x : Operand} (hca : captured.toList = [x]) {id : Nat} (h1 : look A.sl gs [] x = some (.ptr id 0))
    (hout : out = .val (.ptr id (cloK + g))) : o.wp P a w K Q := by
  subst hout
  have e1 : first = #[] := Array.toList_inj.1 hfi
  have e2 : captured = #[x] := Array.toList_inj.1 hca
  subst e1 e2
  have h2 := look_rel0 hR h1 hg
  refine op_val hR hg hd (sv := .ptr id (cloK + g)) rfl rfl (v := .func (.func g) #[] #[a.eval x]) ?_ (fun cells hb => ?_) hK
  · simp [execOp, ho, Instr.makeFunc]
  · have := h2 cells hb
    rw [ptrV_zero] at this
    rw [ptrV_clo, this]

theorem op_mx {args : Array Operand} {argTypes : Array TypeId} (ho : o.op = .call { callee := .builtin .max, args := args, argTypes := argTypes }) {l : Lf} {ls : List Lf} (h1 : mapScl (look A.sl gs) args.toList = some (l :: ls))
    (hout : out = .scal nv .mx (l :: ls)) : o.wp P a w K Q := by
  refine op_scal hR hg hd hout hh ?_ hK
  intro d h
  have hs := mapScl_scs hR hg h1
  rw [List.map_cons] at hs h
  generalize hargs : args.toList.map a.eval = us at hs
  cases hs with
  | cons h2 h3 =>
    rename_i u us
    simp only [Prim.run] at h
    obtain ⟨v, q1, q2⟩ := run_mx (P := P) w us _ u _ d h2 h3 (Prim.one_of h)
    refine ⟨v, ?_, q2.atom_of⟩
    have hargs2 : (args.map a.eval).toList = u :: us := by simpa using hargs
    simp only [execOp, ho, resolve, invoke, builtin, Builtin.max_, Sem.run_bind, Sem.run_pure, Result.andThen_ok, hargs2, q1]

theorem op_mn {args : Array Operand} {argTypes : Array TypeId} (ho : o.op = .call { callee := .builtin .min, args := args, argTypes := argTypes }) {l : Lf} {ls : List Lf} (h1 : mapScl (look A.sl gs) args.toList = some (l :: ls))
    (hout : out = .scal nv .mn (l :: ls)) : o.wp P a w K Q := by
  refine op_scal hR hg hd hout hh ?_ hK
  intro d h
  have hs := mapScl_scs hR hg h1
  rw [List.map_cons] at hs h
  generalize hargs : args.toList.map a.eval = us at hs
  cases hs with
  | cons h2 h3 =>
    rename_i u us
    simp only [Prim.run] at h
    obtain ⟨v, q1, q2⟩ := run_mn (P := P) w us _ u _ d h2 h3 (Prim.one_of h)
    refine ⟨v, ?_, q2.atom_of⟩
    have hargs2 : (args.map a.eval).toList = u :: us := by simpa using hargs
    simp only [execOp, ho, resolve, invoke, builtin, Builtin.min_, Sem.run_bind, Sem.run_pure, Result.andThen_ok, hargs2, q1]

end


theorem fold_set (ws : List Value) : ∀ (cs : Array Value) (off j0 : Nat), off + j0 + ws.length ≤ cs.size →
    ((ws.zipIdx j0).foldl (fun cs (x : Value × Nat) => cs.setIfInBounds (off + x.2) x.1) cs).toList = cs.toList.take (off + j0) ++ ws ++ cs.toList.drop (off + j0 + ws.length) := by
  induction ws with
  | nil => intro cs off j0 h; simp
  | cons v ws ih =>
    intro cs off j0 h
    simp only [List.zipIdx_cons, List.foldl_cons]
    rw [ih (cs.setIfInBounds (off + j0) v) off (j0 + 1) (by simp at h ⊢; omega), Array.toList_setIfInBounds, ← Nat.add_assoc]
    have e := list_seg_step cs.toList (off + j0) v ws (by simp at h ⊢; omega)
    simpa [Nat.add_assoc] using e

theorem overlay_some {α : Type} {cells : List α} {off : Nat} {news r : List α} (h : overlay cells off news = some r) : off + news.length ≤ cells.length ∧ r = cells.take off ++ news ++ cells.drop (off + news.length) := by
  unfold overlay at h
  split at h <;> simp only [Option.some.injEq, reduceCtorEq] at h
  exact ⟨by assumption, h.symm⟩

theorem RelAts.overlay {c : Cx} {M : Mp} {env : List V} {w : World} {ob : Nat → Option SO} {as bs : List At} {vs us : List Value} {off : Nat} (h : RelAts c M env w ob as vs) (h' : RelAts c M env w ob bs us) :
    RelAts c M env w ob (as.take off ++ bs ++ as.drop (off + bs.length)) (vs.take off ++ us ++ vs.drop (off + us.length)) := by
  have := h'.length
  rw [this]
  exact ((h.take off).append h').append (h.drop _)

theorem packV_cells {g : Bool} {vs : List Value} {v : Value} (h : packV g vs v) (h1 : g = false → ∀ x ∈ vs, x.oneCell' = true) : v.cells = vs.toArray := by
  unfold packV at h
  cases g with
  | true => simp only [if_true] at h; subst h; rfl
  | false =>
    simp only [Bool.false_eq_true, if_false] at h
    subst h
    have := h1 rfl v (by simp)
    cases v <;> first | rfl | simp [Value.oneCell'] at this

theorem RelSC.cells {c : Cx} {M : Mp} {env : List V} {w : World} {ob : Nat → Option SO} {x : SC} {v : Value} (h : RelSC c M env w ob x v) : ∃ vs, v.cells = vs.toArray ∧ RelAts c M env w ob x.cs vs := by
  obtain ⟨vs, h1, h2⟩ := h
  exact ⟨vs, packV_cells h2 fun _ => h1.one1, h1⟩

theorem fill_build {P : Program} {c : Cx} {nt : Nat} {M : Mp} {env : List V} {A : FS} {a : Act} {w : World} (hR : Rel c nt M env A a w) {gs : Gs} (hg : GH env gs) (fs : Array Field) (place : Nat → Option (Nat × Nat))
    (hp : ∀ i f n, fs[i]? = some f → tsize P f.type = some n → place i = some (f.offset, n)) : ∀ (parts : List (Nat × Operand)) (cells out : List At) (cs : Array Value), RelAts c M env w A.ob cells cs.toList →
    coreBuild P (look A.sl gs) fs cells parts = some out → ∃ cs', Instr.fill place cs (parts.map fun (i, x) => (i, a.eval x)) = some cs' ∧ RelAts c M env w A.ob out cs'.toList
  | [], cells, out, cs, hr, h => by
    simp only [coreBuild, Option.some.injEq] at h
    subst h
    exact ⟨cs, rfl, hr⟩
  | (i, x) :: rest, cells, out, cs, hr, h => by
    simp only [coreBuild] at h
    split at h
    · rename_i f y hf hy
      split at h
      · rename_i hsz
        simp only [beq_iff_eq] at hsz
        split at h
        · rename_i cells' hov
          obtain ⟨h1, h2⟩ := overlay_some hov
          obtain ⟨ws, e1, e2⟩ := (look_rel0 hR hy hg : RelSC c M env w A.ob y (a.eval x)).cells
          have l1 := e2.length
          have l2 := hr.length
          have hpl := hp i f _ hf hsz
          simp only [List.map_cons, Instr.fill, hpl]
          have hok : ((a.eval x).cells.size ≠ y.cs.length || decide (f.offset + (a.eval x).cells.size > cs.size)) = false := by
            simp only [e1, List.size_toArray, Bool.or_eq_false_iff, decide_eq_false_iff_not, ne_eq, Decidable.not_not]
            refine ⟨l1.symm, ?_⟩
            have : cs.size = cells.length := by rw [l2]; simp
            omega
          have hok' : ((decide ((a.eval x).cells.size ≠ y.cs.length)) || decide (f.offset + (a.eval x).cells.size > cs.size)) = false := hok
          rw [if_neg (by rw [hok']; simp)]
          have hzip : (a.eval x).cells.zipIdx = (ws.zipIdx 0).toArray := by rw [e1]; simp
          have hfold := fold_set ws cs f.offset 0 (by
            have : cs.size = cells.length := by rw [l2]; simp
            omega)
          simp only [Nat.add_zero] at hfold
          refine fill_build hR hg fs place hp rest cells' out _ ?_ h
          rw [hzip, List.foldl_toArray', hfold, h2]
          exact hr.overlay e2
          simp
        · cases h
      · cases h
    · cases h

end Go.Mw

namespace Go.Mw

theorem upOb_append (ob : Nat → Option SO) (l l' : List (Nat × Option SO)) : upOb ob (l ++ l') = upOb (upOb ob l) l' := by
  induction l generalizing ob with
  | nil => rfl
  | cons x l ih => obtain ⟨i, y⟩ := x; exact ih _

theorem upOb_gone (ob : Nat → Option SO) (gone : List Nat) (r : Nat) : upOb ob (gone.map fun r => (r, none)) r = if r ∈ gone then none else ob r := by
  induction gone generalizing ob with
  | nil => simp [upOb]
  | cons x gone ih =>
    simp only [List.map_cons, upOb]
    rw [ih]
    by_cases h1 : r ∈ gone
    · simp [h1]
    · by_cases h2 : r = x <;> simp [h1, h2]

theorem look_men {A : FS} {fr : Nat → Prop} (hf : Fresh A fr) {gs ex : Gs} {x : Operand} {sv : SV} (h : look A.sl gs ex x = some sv) : ∀ y, sv.men y → ¬ fr y := by
  unfold look at h
  split at h
  · rename_i v
    cases hc : cstC v with
    | none => simp [hc] at h
    | some s =>
      simp only [hc, Option.map_some, Option.some.injEq] at h
      subst h
      have c1 : ∀ v a, cst1 v = some a → ∀ y, ¬ a.men y := by
        intro v a ha y
        unfold cst1 at ha
        split at ha <;> simp only [Option.some.injEq, reduceCtorEq] at ha
        all_goals subst ha; exact id
      have cm : ∀ (vs : List Value) as, mapO cst1 vs = some as → ∀ y, ¬ atsMen as y := by
        intro vs
        induction vs with
        | nil => intro as ha y; simp only [mapO, Option.some.injEq] at ha; subst ha; simp [atsMen]
        | cons v vs ih =>
          intro as ha y
          simp only [mapO] at ha
          split at ha <;> simp only [Option.some.injEq, reduceCtorEq] at ha
          rename_i b bs h1 h2
          subst ha
          rintro ⟨a, hm, hy⟩
          rcases List.mem_cons.1 hm with rfl | hm
          · exact c1 _ _ h1 y hy
          · exact ih bs h2 y ⟨a, hm, hy⟩
      intro y hy
      exfalso
      unfold cstC at hc
      split at hc
      · rename_i cells
        cases hm : mapO cst1 cells.toList with
        | none => simp [hm] at hc
        | some as => simp only [hm, Option.map_some, Option.some.injEq] at hc; subst hc; exact cm _ _ hm y hy
      · cases hm : cst1 v with
        | none => simp [hm] at hc
        | some b =>
          simp only [hm, Option.map_some, Option.some.injEq] at hc; subst hc
          obtain ⟨a, hm2, hy2⟩ := hy
          simp only [List.mem_singleton] at hm2
          subst hm2
          exact c1 _ _ hm y hy2
  · rename_i t
    split at h
    · rename_i gs' sv' hs
      split at h <;> simp only [Option.some.injEq, reduceCtorEq] at h
      subst h
      exact hf.1 t gs' _ hs
    · cases h
  · simp only [Option.some.injEq] at h
    subst h
    rintro y ⟨b, hb, hy⟩
    simp only [List.mem_singleton] at hb
    subst hb
    exact hy.elim
  · cases h

section
variable {c : Cx} {nt : Nat} {M : Mp} {env : List V} {A : FS} {a : Act} {w : World}

theorem Rel.be_lt (hR : Rel c nt M env A a w) {id : Nat} {cells : List At} (h : A.ob id = some (.box cells)) : M.be id < w.heap.size := by
  obtain ⟨us, E, h1, _⟩ := hR.boxes _ _ h
  exact (Array.getElem?_eq_some_iff.1 h1).1

theorem Keep.mine_new (h : Keep c w) : c.mine w.heap.size := .inl h.size

structure Moved (w w' : World) (X : Nat → Prop) (gd : Bool) : Prop where
  os : w'.os = w.os
  tape : w'.tape = w.tape
  output : w'.output = w.output
  size : w.heap.size ≤ w'.heap.size
  block : ∀ b, b < w.heap.size → ¬ X b → w'.heap[b]? = w.heap[b]?
  sz : ∀ (b : Nat) (cs : Array Value) (E : TypeId) (fz : Nat × Nat), w.heap[b]? = some (.cells cs E fz) → ∃ cs' : Array Value, w'.heap[b]? = some (.cells cs' E fz) ∧ cs'.size = cs.size
  dr : gd = true → w.drawn ≤ w'.drawn

theorem heap_lt {w : World} {b : Nat} {o : Obj} (h : w.heap[b]? = some o) : b < w.heap.size := (Array.getElem?_eq_some_iff.1 h).1

theorem Moved.alloc (w : World) (o : Obj) (X : Nat → Prop) (gd : Bool) : Moved w (w.alloc o) X gd :=
  ⟨rfl, rfl, rfl, by simp, fun b hb _ => heap_alloc_old w o hb, fun b cs E fz h => ⟨cs, by rw [heap_alloc_old w o (heap_lt h)]; exact h, rfl⟩, fun _ => Nat.le_refl _⟩

theorem Keep.moved {w' : World} {X : Nat → Prop} (h : Keep c w) (hm : Moved w w' X c.G.dr) (hX : ∀ b, X b → c.mine b) : Keep c w' where
  os := hm.os.trans h.os
  tape := hm.tape.trans h.tape
  output := hm.output.trans h.output
  size := Nat.le_trans h.size hm.size
  block := fun b hb hi => by
    rw [hm.block b (Nat.lt_of_lt_of_le hb h.size) (fun hx => ?_), h.block b hb hi]
    rcases hX b hx with h1 | h1
    · omega
    · exact hi h1
  sz := fun b cs E fz hb => by
    obtain ⟨cs1, h1, h2⟩ := h.sz b cs E fz hb
    obtain ⟨cs2, h3, h4⟩ := hm.sz b cs1 E fz h1
    exact ⟨cs2, h3, h4.trans h2⟩
  dr := fun e => Nat.le_trans (h.dr e) (hm.dr e)
  gl := fun b o hb => ⟨by rw [hm.block b (heap_lt (h.gl b o hb).1) fun hx => (h.gl b o hb).2 (hX b hx)]; exact (h.gl b o hb).1, (h.gl b o hb).2⟩

theorem Keep.glOk (h : Keep c w) : c.G.Ok w := fun b o hb => (h.gl b o hb).1
theorem Keep.glNone (h : Keep c w) {b : Nat} (hm : c.mine b) : c.G.blk b = none := by
  cases hb : c.G.blk b with
  | none => rfl
  | some o => exact absurd hm (h.gl b o hb).2

theorem Rel.alloc_box (hR : Rel c nt M env A a w) {fid : Nat} (hf : Fresh A (· = fid)) (hpb : c.parB fid = none) {cs : List At} {us : List Value} (hr : RelAts c M env w A.ob cs us) (hm : ∀ x, atsMen cs x → x ≠ fid) (E : TypeId)
    {dst : Option Nat} (hd : ∀ d, dst = some d → d < nt) {gs : Gs} (hg : GH env gs) :
    ∃ M', Rel c nt M' env ⟨upSl A.sl dst (some (gs, .ptr fid 0)), upOb A.ob [(fid, some (.box cs))]⟩ (a.put dst (.pointer (some ⟨w.heap.size, 0, none⟩))) (w.alloc (.cells us.toArray E)) := by
  refine ⟨⟨M.hd, M.ph, fun i => if i = fid then w.heap.size else M.be i⟩, ?_⟩
  have hmv := Moved.alloc w (.cells us.toArray E) (fun _ => False) c.G.dr
  have hob : ∀ i, upOb A.ob [(fid, some (.box cs))] i = if i = fid then some (.box cs) else A.ob i := fun i => rfl
  have E1 : Ext c (· = fid) M A.ob w ⟨M.hd, M.ph, fun i => if i = fid then w.heap.size else M.be i⟩ (upOb A.ob [(fid, some (.box cs))]) (w.alloc (.cells us.toArray E)) := by
    refine ⟨fun r ver l app hr1 ho => ?_, fun id cells hi ho => ?_, fun b hb _ => hmv.block b hb id⟩
    · rw [hob, if_neg hr1] at ho
      exact ⟨ver, l, app, ho, rfl, Nat.le_refl _, fun _ => ⟨rfl, fun b hb hlt => ⟨hb, hmv.block b hlt id⟩⟩⟩
    · rw [hob, if_neg hi] at ho
      exact ⟨⟨cells, ho⟩, if_neg hi⟩
  have hne : ∀ i x, A.ob i = some x → i ≠ fid := fun i x h e => by rw [hf.2.2 i e] at h; cases h
  refine ⟨by rw [Act.put_size]; exact hR.size, by rw [Act.put_defs]; exact hR.defs, ?_, ?_, ?_, ?_, ?_, ?_, hR.keep.moved hmv (fun _ h => h.elim)⟩
  · have := slots_put hR E1 hf (dst := dst) (gs := gs) (sv := some (.ptr fid 0)) (v := .pointer (some ⟨w.heap.size, 0, none⟩)) hd
      (fun s hs _ => ⟨fun _ => by cases hs; intro cells _; simp, fun hn => absurd hg hn⟩)
    simpa using this
  · intro r ver l app ho
    have ho' : upOb A.ob [(fid, some (.box cs))] r = some (.row ver l app) := ho
    rw [hob] at ho'
    split at ho'
    · cases ho'
    · exact (hR.rows _ _ _ _ ho').keep rfl rfl hmv.size fun b hb => hmv.block b ((hR.rows _ _ _ _ ho').2.1 b hb).2 id
  · intro id cells ho
    have ho' : upOb A.ob [(fid, some (.box cs))] id = some (.box cells) := ho
    rw [hob] at ho'
    split at ho'
    · rename_i hi
      subst hi
      simp only [Option.some.injEq, SO.box.injEq] at ho'
      subst ho'
      refine ⟨us, E, ?_, RelAts.ext E1 (fun x hx => hm x hx) hr, ?_, fun b t hb => by rw [hpb] at hb; cases hb⟩
      · simp only [if_true]; exact heap_alloc_new w _
      · simp only [if_true]; exact hR.keep.mine_new
    · rename_i hi
      exact (hR.boxes _ _ ho').keep E1 (if_neg hi) (hmv.block _ (hR.be_lt ho') (fun h => h)) (hf.2.1 _ _ ho')
  · intro i j x y h1 h2 hij
    have h1' : upOb A.ob [(fid, some (.box cs))] i = some (.box x) := h1
    have h2' : upOb A.ob [(fid, some (.box cs))] j = some (.box y) := h2
    rw [hob] at h1' h2'
    simp only
    split at h1' <;> split at h2' <;> simp_all
    · exact Nat.ne_of_gt (hR.be_lt h2')
    · exact Nat.ne_of_lt (hR.be_lt h1')
    · exact hR.dBB _ _ _ _ h1' h2' hij
  · intro i j vi li ai vj lj aj h1 h2 hij
    have h1' : upOb A.ob [(fid, some (.box cs))] i = some (.row vi li ai) := h1
    have h2' : upOb A.ob [(fid, some (.box cs))] j = some (.row vj lj aj) := h2
    rw [hob] at h1' h2'
    split at h1'
    · cases h1'
    split at h2'
    · cases h2'
    exact hR.dRR _ _ _ _ _ _ _ _ h1' h2' hij
  · intro i j x vj lj aj h1 h2
    have h1' : upOb A.ob [(fid, some (.box cs))] i = some (.box x) := h1
    have h2' : upOb A.ob [(fid, some (.box cs))] j = some (.row vj lj aj) := h2
    rw [hob] at h1' h2'
    simp only
    split at h2'
    · cases h2'
    · split at h1'
      · rename_i hi
        subst hi
        simp only [if_true]
        intro hm
        exact Nat.lt_irrefl _ ((hR.rows _ _ _ _ h2').2.1 _ hm).2
      · rename_i hi
        rw [if_neg hi]
        exact hR.dBR _ _ _ _ _ _ h1' h2'

theorem Rel.new_row (hR : Rel c nt M env A a w) {fid : Nat} {gone : List Nat} (hgone : ∀ r ∈ gone, ∃ ver l app, A.ob r = some (.row ver l app)) (hfg : fid ∉ gone) {ver : Nat} {l : Lf} {app : Bool} {w' : World} {v : Value} {S : List Nat}
    (hcase : (Fresh A (· = fid) ∧ ver = 0) ∨ ∃ ver0 l0, A.ob fid = some (.row ver0 l0 app) ∧ ver0 < ver ∧ v = M.hd fid)
    (hmv : Moved w w' (fun b => (∃ r ∈ gone, b ∈ M.ph r) ∨ ((∃ x, A.ob fid = some x) ∧ b ∈ M.ph fid)) c.G.dr)
    (hrep : Rep w' [v] [l.ev env] S) (hnd : S.Nodup) (hS : ∀ b ∈ S, (w.heap.size ≤ b ∨ (∃ r ∈ gone, b ∈ M.ph r) ∨ ((∃ x, A.ob fid = some x) ∧ b ∈ M.ph fid)) ∧ Wr w' b)
    (happ : app = true → ∀ r ∈ gone, ∃ ver l, A.ob r = some (.row ver l true)) (hpar : app = false → gone = [] ∧ (∃ x, A.ob fid = some x) ∧ ∀ b ∈ S, b ∈ M.ph fid) (hown : app = true → OwnHd w' v (l.ev env))
    {dst : Option Nat} (hd : ∀ d, dst = some d → d < nt) {gs : Gs} (hg : GH env gs) {sv : Option SV} {u : Value}
    (hsv : ∀ s, sv = some s → dst ≠ none → s = .ofAt (.own fid) ∧ u = v) :
    ∃ M', Rel c nt M' env ⟨upSl A.sl dst (sv.map fun s => (gs, s)), upOb A.ob (gone.map (fun r => (r, none)) ++ [(fid, some (.row ver l app))])⟩ (a.put dst u) w' := by
  -- the ids below are those that were there
  have hob : ∀ i, upOb A.ob (gone.map (fun r => (r, none)) ++ [(fid, some (.row ver l app))]) i = if i = fid then some (.row ver l app) else if i ∈ gone then none else A.ob i := by
    intro i
    rw [upOb_append]
    simp only [upOb]
    split
    · rfl
    · exact upOb_gone _ _ _
  have old : ∀ i vi li ai, A.ob i = some (.row vi li ai) → i ∉ gone → i ≠ fid → ∀ b ∈ M.ph i, b < w.heap.size ∧ w'.heap[b]? = w.heap[b]? := by
    intro i vi li ai h h1 h2 b hb
    have hlt := ((hR.rows _ _ _ _ h).2.1 b hb).2
    refine ⟨hlt, hmv.block b hlt ?_⟩
    rintro (⟨r, hr, hbr⟩ | ⟨⟨x, hx⟩, hbf⟩)
    · obtain ⟨vr, lr, ar, hor⟩ := hgone r hr
      exact hR.dRR _ _ _ _ _ _ _ _ h hor (fun e => h1 (e ▸ hr)) b hb hbr
    · rcases hcase with ⟨hf, _⟩ | ⟨ver0, l0, h0, _⟩
      · rw [hf.2.2 fid rfl] at hx; cases hx
      · exact hR.dRR _ _ _ _ _ _ _ _ h h0 h2 b hb hbf
  have oldB : ∀ i x, A.ob i = some (.box x) → w'.heap[M.be i]? = w.heap[M.be i]? := by
    intro i x h
    refine hmv.block _ (hR.be_lt h) ?_
    rintro (⟨r, hr, hbr⟩ | ⟨⟨y, hy⟩, hbf⟩)
    · obtain ⟨vr, lr, ar, hor⟩ := hgone r hr
      exact hR.dBR _ _ _ _ _ _ h hor hbr
    · rcases hcase with ⟨hf, _⟩ | ⟨ver0, l0, h0, _⟩
      · rw [hf.2.2 fid rfl] at hy; cases hy
      · exact hR.dBR _ _ _ _ _ _ h h0 hbf
  have hX : ∀ b, ((∃ r ∈ gone, b ∈ M.ph r) ∨ ((∃ x, A.ob fid = some x) ∧ b ∈ M.ph fid)) → c.mine b := by
    rintro b (⟨r, hr, hbr⟩ | ⟨⟨x, hx⟩, hbf⟩)
    · obtain ⟨vr, lr, ar, hor⟩ := hgone r hr
      exact ((hR.rows _ _ _ _ hor).2.1 b hbr).1
    · rcases hcase with ⟨hf, _⟩ | ⟨ver0, l0, h0, _⟩
      · rw [hf.2.2 fid rfl] at hx; cases hx
      · exact ((hR.rows _ _ _ _ h0).2.1 b hbf).1
  refine ⟨⟨fun i => if i = fid then v else M.hd i, fun i => if i = fid then S else M.ph i, M.be⟩, ?_⟩
  have E1 : Ext c (fun x => x = fid ∧ Fresh A (· = fid)) M A.ob w ⟨fun i => if i = fid then v else M.hd i, fun i => if i = fid then S else M.ph i, M.be⟩
      (upOb A.ob (gone.map (fun r => (r, none)) ++ [(fid, some (.row ver l app))])) w' := by
    refine ⟨fun r ver1 l1 app1 hr1 ho => ?_, fun id cells hi ho => ?_, fun b hb hm => hmv.block b hb fun hx => hm (hX b hx)⟩
    · rw [hob] at ho
      split at ho
      · rename_i hrf
        subst hrf
        simp only [Option.some.injEq, SO.row.injEq] at ho
        obtain ⟨rfl, rfl, rfl⟩ := ho
        rcases hcase with ⟨hf, _⟩ | ⟨ver0, l0, h0, hlt, hv⟩
        · exact absurd ⟨rfl, hf⟩ hr1
        · exact ⟨ver0, l0, app, h0, by simp [hv], by omega, fun e => absurd e (by omega)⟩
      · rename_i hrf
        split at ho
        · cases ho
        · rename_i hrg
          exact ⟨ver1, l1, app1, ho, by simp [hrf], Nat.le_refl _, fun _ => ⟨rfl, fun b hb _ => ⟨by simp [hrf, hb], (old r _ _ _ ho hrg hrf b hb).2⟩⟩⟩
    · rw [hob] at ho
      split at ho
      · cases ho
      · split at ho
        · cases ho
        · exact ⟨⟨cells, ho⟩, rfl⟩
  have hfr : Fresh A (fun x => x = fid ∧ Fresh A (· = fid)) := by
    refine ⟨fun s gs sv h x hx hh => hh.2.1 s gs sv h x hx hh.1, fun id cells h x hx hh => hh.2.2.1 id cells h x hx hh.1, fun x hx => hx.2.2.2 x hx.1⟩
  have hnewsep : ∀ i vi li ai, A.ob i = some (.row vi li ai) → i ∉ gone → i ≠ fid → ∀ b ∈ M.ph i, b ∉ S := by
    intro i vi li ai h h1 h2 b hb hbS
    have hlt := ((hR.rows _ _ _ _ h).2.1 b hb).2
    rcases (hS b hbS).1 with h3 | ⟨r, hr, hbr⟩ | ⟨⟨x, hx⟩, hbf⟩
    · omega
    · obtain ⟨vr, lr, ar, hor⟩ := hgone r hr
      exact hR.dRR _ _ _ _ _ _ _ _ h hor (fun e => h1 (e ▸ hr)) b hb hbr
    · rcases hcase with ⟨hf, _⟩ | ⟨ver0, l0, h0, _⟩
      · rw [hf.2.2 fid rfl] at hx; cases hx
      · exact hR.dRR _ _ _ _ _ _ _ _ h h0 h2 b hb hbf
  refine ⟨by rw [Act.put_size]; exact hR.size, by rw [Act.put_defs]; exact hR.defs, ?_, ?_, ?_, ?_, ?_, ?_, hR.keep.moved hmv hX⟩
  · refine slots_put hR E1 hfr (dst := dst) (gs := gs) (sv := sv) (v := u) hd ?_
    intro s hs hne
    obtain ⟨rfl, rfl⟩ := hsv s hs hne
    refine ⟨fun _ => RelSV.ofAt ⟨hrep.oneCell, ?_⟩, fun hn => absurd hg hn⟩
    intro ver1 l1 app1 _
    simp
  · intro r ver1 l1 app1 ho
    have ho' := ho
    simp only at ho'
    rw [hob] at ho'
    split at ho'
    · rename_i hrf
      subst hrf
      simp only [Option.some.injEq, SO.row.injEq] at ho'
      obtain ⟨rfl, rfl, rfl⟩ := ho'
      refine ⟨⟨S, by simpa using hrep, hnd, fun b hb => ⟨by simpa using hb, (hS b hb).2⟩⟩, ?_, fun ha => ⟨by simpa using hown ha, fun b hb => ?_⟩, fun ha v0 S0 hv0 => ?_⟩
      rotate_left
      · have hb' : b ∈ S := by simpa using hb
        rcases (hS b hb').1 with h3 | ⟨r, hr, hbr⟩ | ⟨⟨x, hx⟩, hbf⟩
        · exact .inl (Nat.le_trans hR.keep.size h3)
        · obtain ⟨vr, lr, hor⟩ := happ ha r hr
          exact ((hR.rows _ _ _ _ hor).2.2.1 rfl).2 b hbr
        · rcases hcase with ⟨hf, _⟩ | ⟨ver0, l0, h0, _⟩
          · rw [hf.2.2 _ rfl] at hx; cases hx
          · exact ((hR.rows _ _ _ _ h0).2.2.1 ha).2 b hbf
      · obtain ⟨_, ⟨x, hx⟩, hsub⟩ := hpar ha
        rcases hcase with ⟨hf, _⟩ | ⟨ver0, l0, h0, _, hv⟩
        · rw [hf.2.2 _ rfl] at hx; cases hx
        · obtain ⟨g1, g2⟩ := (hR.rows _ _ _ _ h0).2.2.2 ha v0 S0 hv0
          exact ⟨by simp [hv, g1], fun b hb => g2 b (hsub b (by simpa using hb))⟩
      intro b hb
      have hb' : b ∈ S := by simpa using hb
      refine ⟨?_, hrep.lt b hb'⟩
      rcases (hS b hb').1 with h3 | h3
      · exact .inl (Nat.le_trans hR.keep.size h3)
      · exact hX b h3
    · rename_i hrf
      split at ho'
      · cases ho'
      · rename_i hrg
        exact (hR.rows _ _ _ _ ho').keep (by simp [hrf]) (by simp [hrf]) hmv.size fun b hb => (old r _ _ _ ho' hrg hrf b hb).2
  · intro id cells ho
    have ho' := ho
    simp only at ho'
    rw [hob] at ho'
    split at ho'
    · cases ho'
    · split at ho'
      · cases ho'
      · exact (hR.boxes _ _ ho').keep E1 rfl (oldB _ _ ho') (hfr.2.1 _ _ ho')
  · intro i j x y h1 h2 hij
    simp only at h1 h2
    rw [hob] at h1 h2
    split at h1
    · cases h1
    · split at h1
      · cases h1
      · split at h2
        · cases h2
        · split at h2
          · cases h2
          · exact hR.dBB _ _ _ _ h1 h2 hij
  · intro i j vi li ai vj lj aj h1 h2 hij b hb
    simp only at h1 h2 hb
    rw [hob] at h1 h2
    split at h1
    · rename_i hi
      subst hi
      simp only [if_true] at hb
      rw [if_neg (Ne.symm hij)] at h2
      simp only [if_neg (Ne.symm hij)]
      split at h2
      · cases h2
      · rename_i hjg
        exact fun hbj => hnewsep j _ _ _ h2 hjg (Ne.symm hij) b hbj hb
    · rename_i hi
      rw [if_neg hi] at hb
      split at h1
      · cases h1
      · rename_i hig
        split at h2
        · rename_i hj
          subst hj
          simp only [if_true]
          exact hnewsep i _ _ _ h1 hig hi b hb
        · rename_i hj
          simp only [if_neg hj]
          split at h2
          · cases h2
          · exact hR.dRR _ _ _ _ _ _ _ _ h1 h2 hij b hb
  · intro i j x vj lj aj h1 h2
    simp only at h1 h2
    rw [hob] at h1 h2
    split at h1
    · cases h1
    · split at h1
      · cases h1
      · split at h2
        · rename_i hj
          subst hj
          simp only [if_true]
          intro hm
          rcases (hS _ hm).1 with h3 | ⟨r, hr, hbr⟩ | ⟨⟨y, hy⟩, hbf⟩
          · have := hR.be_lt h1; omega
          · obtain ⟨vr, lr, ar, hor⟩ := hgone r hr
            exact hR.dBR _ _ _ _ _ _ h1 hor hbr
          · rcases hcase with ⟨hf, _⟩ | ⟨ver0, l0, h0, _⟩
            · rw [hf.2.2 j rfl] at hy; cases hy
            · exact hR.dBR _ _ _ _ _ _ h1 h0 hbf
        · rename_i hj
          simp only [if_neg hj]
          split at h2
          · cases h2
          · exact hR.dBR _ _ _ _ _ _ h1 h2

end
end Go.Mw

namespace Go.Mw

theorem run_storeCells_z (P : Program) (g o : Nat) (t : TypeId) (fz : Nat × Nat) : ∀ (vs : List Value) (i : Nat) (cur : Array Value) (w : World), w.heap[g]? = some (.cells cur t fz) → FzOk cur.size fz → o + i + vs.length ≤ cur.size → (∀ v ∈ vs, v.oneCell' = true) →
    (storeCells ⟨g, o, none⟩ vs i).run P w = .ok () (w.setRow g (cur.toList.take (o + i) ++ vs ++ cur.toList.drop (o + i + vs.length)).toArray)
  | [], i, cur, w, hg, _, _, _ => by
    simp only [storeCells, List.append_nil, List.length_nil, Nat.add_zero, List.take_append_drop, Array.toArray_toList]
    rw [setRow_self w g cur t fz hg]
    rfl
  | v :: rest, i, cur, w, hg, hfz, hl, h1 => by
    have hi : o + i < cur.size := by simp at hl; omega
    have hadd : (⟨g, o, none⟩ : Addr).add i = ⟨g, o + i, none⟩ := by unfold Addr.add; split <;> simp_all
    have hcell : w.cell? ⟨g, o + i, none⟩ = some cur[o + i] := by simp [World.cell?, hg, hi]
    have hfro : w.frozen? ⟨g, o + i, none⟩ = false := by
      rcases hfz with rfl | hfz
      · simp [World.frozen?, hg]
      · obtain ⟨lo, hi'⟩ := fz
        simp only [World.frozen?, hg, Bool.and_eq_false_iff, decide_eq_false_iff_not]
        left
        simp only at hfz
        omega
    have hst : (store ((⟨g, o, none⟩ : Addr).add i) v).run P w = .ok () (w.setRow g (cur.setIfInBounds (o + i) v)) := by
      rw [hadd, run_store P w _ v _ (h1 v (by simp)), hcell]
      simp [hfro, setCell_eq_setRow w g (o + i) cur t fz v hg]
    have ih := run_storeCells_z P g o t fz rest (i + 1) (cur.setIfInBounds (o + i) v) (w.setRow g (cur.setIfInBounds (o + i) v)) (setRow_heap w g cur _ t _ hg) (by simpa using hfz) (by simp at hl ⊢; omega) (fun x hx => h1 x (by simp [hx]))
    simp only [storeCells, Sem.run_bind, hst, Result.andThen_ok, ih, setRow_setRow]
    congr 3
    have e := list_seg_step cur.toList (o + i) v rest (by simp at hl ⊢; omega)
    simpa [Array.toList_setIfInBounds, Nat.add_assoc] using e

theorem cst1_men {v : Value} {a : At} (ha : cst1 v = some a) : ∀ y, ¬ a.men y := by
  intro y
  unfold cst1 at ha
  split at ha <;> simp only [Option.some.injEq, reduceCtorEq] at ha
  all_goals subst ha; exact id

theorem mapO_cst_men : ∀ {vs : List Value} {as : List At}, mapO cst1 vs = some as → ∀ y, ¬ atsMen as y
  | [], as, h, y => by simp only [mapO, Option.some.injEq] at h; subst h; simp [atsMen]
  | v :: vs, as, h, y => by
    simp only [mapO] at h
    split at h <;> simp only [Option.some.injEq, reduceCtorEq] at h
    rename_i b bs h1 h2
    subst h
    rintro ⟨a, hm, hy⟩
    rcases List.mem_cons.1 hm with rfl | hm
    · exact cst1_men h1 y hy
    · exact mapO_cst_men h2 y ⟨a, hm, hy⟩

theorem cstC_men {v : Value} {x : SC} (hc : cstC v = some x) : ∀ y, ¬ atsMen x.cs y := by
  intro y hy
  unfold cstC at hc
  split at hc
  · rename_i cells
    cases hm : mapO cst1 cells.toList with
    | none => simp [hm] at hc
    | some as => simp only [hm, Option.map_some, Option.some.injEq] at hc; subst hc; exact mapO_cst_men hm _ hy
  · cases hm : cst1 v with
    | none => simp [hm] at hc
    | some b =>
      simp only [hm, Option.map_some, Option.some.injEq] at hc; subst hc
      obtain ⟨a, hm2, hy2⟩ := hy
      simp only [List.mem_singleton] at hm2
      subst hm2
      exact cst1_men hm y hy2

theorem zero_rel {P : Program} {c : Cx} {M : Mp} {env : List V} {w : World} {ob : Nat → Option SO} {t : TypeId} {z : List At} (h : zeroAts P t = some z) :
    ∃ zv i, P.info? t = some i ∧ i.zero = some zv ∧ (∀ w', (zeroValue t).run P w' = .ok zv w') ∧ RelAts c M env w ob z zv.cells.toList ∧ ∀ y, ¬ atsMen z y := by
  unfold zeroAts at h
  split at h
  · rename_i i hi
    split at h
    · rename_i zv hz
      cases hc : cstC zv with
      | none => simp [hc] at h
      | some x =>
        simp only [hc, Option.map_some, Option.some.injEq] at h
        subst h
        obtain ⟨vs, e1, e2⟩ := (cstC_rel (c := c) (M := M) (env := env) (w := w) (ob := ob) hc).cells
        exact ⟨zv, i, hi, hz, fun w' => by simp [zeroValue, typeInfo, hi, hz], by rw [e1]; exact e2, cstC_men hc⟩
    · cases h
  · cases h

section
variable {P : Program} {c : Cx} {nt : Nat} {M : Mp} {env : List V} {A : FS} {a : Act} {w : World} {o : Oper} {gs : Gs} {fid nv : Nat} {K : Act → World → Prop} {Q : Exit → Act → World → Prop} {out : Out}
variable (hR : Rel c nt M env A a w) (hg : GH env gs) (hd : ∀ d, o.dst = some d → d < nt) (hK : Kont c nt env gs A a o out K)
include hR hg hd hK

theorem op_alloc {t : TypeId} (ho : o.op = .alloc t) (hf : Fresh A (· = fid)) (hpb : c.parB fid = none) {z : List At} (hz : zeroAts P t = some z) (hout : out = ⟨none, 0, some (.ptr fid 0), [(fid, some (.box z))]⟩) : o.wp P a w K Q := by
  subst hout
  obtain ⟨zv, i, h1, h2, h3, h4, h5⟩ := zero_rel (c := c) (M := M) (env := env) (w := w) (ob := A.ob) hz
  obtain ⟨M', hR'⟩ := hR.alloc_box hf hpb h4 (fun x hx => absurd hx (h5 x)) t hd hg
  refine wp_value (w' := w.alloc (.cells zv.cells t)) (v := .pointer (some ⟨w.heap.size, 0, none⟩)) ?_ (hK _ _ _ hR')
  simp [execOp, ho, Instr.alloc, h3, newVar, newRow]

theorem op_box {t : TypeId} {x : Operand} (ho : o.op = .box t x) (hf : Fresh A (· = fid)) (hpb : c.parB fid = none) {y : SC} (h1 : look A.sl gs [] x = some (.sc y)) (hout : out = ⟨none, 0, some (.ptr fid 0), [(fid, some (.box y.cs))]⟩) : o.wp P a w K Q := by
  subst hout
  obtain ⟨us, h2, h3⟩ := (look_rel0 hR h1 hg : RelSC c M env w A.ob y (a.eval x)).cells
  obtain ⟨M', hR'⟩ := hR.alloc_box hf hpb h3 (fun z hz e => look_men hf h1 z hz e) t hd hg
  refine wp_value (w' := w.alloc (.cells us.toArray t)) (v := .pointer (some ⟨w.heap.size, 0, none⟩)) ?_ (hK _ _ _ hR')
  simp [execOp, ho, Instr.box, newVar, newRow, h2]

omit hR hg hd hK in
theorem run_places {P : Program} (w : World) : ∀ (fs : List Field), (∀ f ∈ fs, (tsize P f.type).isSome = true) →
    (fs.mapM fun (f : Field) => (do pure (f.offset, ← sizeOf f.type) : Sem (Nat × Nat))).run P w = .ok (fs.map fun f => (f.offset, (tsize P f.type).getD 0)) w
  | [], _ => by simp
  | f :: fs, h => by
    obtain ⟨n, hn⟩ := Option.isSome_iff_exists.1 (h f (by simp))
    have ih := run_places w fs fun g hg => h g (by simp [hg])
    simp only [List.mapM_cons, Sem.run_bind, run_sizeOf w hn, Result.andThen_ok, Sem.run_pure, ih, List.map_cons, hn, Option.getD_some]

theorem op_build {t : TypeId} {parts : Array (Nat × Operand)} (ho : o.op = .build t parts) {fs : Array Field} (hu : P.underlying t = some (.struct fs)) {z : List At} (hz : zeroAts P t = some z)
    (hall : (fs.toList.all fun f => (tsize P f.type).isSome) = true) (hc : (coreBuild P (look A.sl gs) fs z parts.toList).map (fun cs => Out.val (.sc ⟨true, cs⟩)) = some out) : o.wp P a w K Q := by
  cases hb : coreBuild P (look A.sl gs) fs z parts.toList with
  | none => simp [hb] at hc
  | some cs =>
    simp only [hb, Option.map_some, Option.some.injEq] at hc
    subst hc
    obtain ⟨zv, i, h1, h2, h3, h4, h5⟩ := zero_rel (c := c) (M := M) (env := env) (w := w) (ob := A.ob) hz
    have hpl := run_places (P := P) w fs.toList fun f hf => by simpa using List.all_eq_true.1 hall f hf
    have hplA : (fs.mapM fun (f : Field) => (do pure (f.offset, ← sizeOf f.type) : Sem (Nat × Nat))).run P w = .ok (fs.map fun f => (f.offset, (tsize P f.type).getD 0)) w := by
      rw [Array.mapM_eq_mapM_toList, Sem.run_map, hpl]
      simp only [Result.andThen_ok]
      congr 1
      apply Array.ext'
      simp
    obtain ⟨cs', h6, h7⟩ := fill_build hR hg fs (fun j => (fs.map fun f => (f.offset, (tsize P f.type).getD 0))[j]?) (fun j f n hf hn => by simp [hf, hn]) parts.toList z cs zv.cells h4 hb
    refine op_val hR hg hd (sv := .sc ⟨true, cs⟩) rfl rfl (v := .agg cs') ?_ ⟨cs'.toList, h7, by simp [packV]⟩ hK
    have hparts : (parts.map fun x => (x.1, a.eval x.2)).toList = parts.toList.map fun (i, x) => (i, a.eval x) := by simp
    simp only [execOp, ho, Instr.build, Sem.run_bind, h3, Result.andThen_ok, run_underlying hu, hplA, hparts, h6, Sem.run_pure]

omit hR hg hd hK in
theorem setRow_sz {w : World} {b0 : Nat} {cs0 new : Array Value} {E0 : TypeId} {fz : Nat × Nat} (h0 : w.heap[b0]? = some (.cells cs0 E0 fz)) (hn : new.size = cs0.size) :
    ∀ (b : Nat) (cs : Array Value) (E : TypeId) (fz : Nat × Nat), w.heap[b]? = some (.cells cs E fz) → ∃ cs' : Array Value, (w.setRow b0 new).heap[b]? = some (.cells cs' E fz) ∧ cs'.size = cs.size := by
  intro b cs E fz h
  by_cases e : b = b0
  · subst e
    rw [h0] at h
    simp only [Option.some.injEq, Obj.cells.injEq] at h
    obtain ⟨rfl, rfl, rfl⟩ := h
    exact ⟨new, setRow_heap w _ _ _ _ _ h0, hn⟩
  · exact ⟨cs, by rw [setRow_other w _ _ _ e]; exact h, rfl⟩

theorem op_storeBox {t : TypeId} {x y : Operand} (ho : o.op = .store t x y) {id off : Nat} {s : SC} (h1 : look A.sl gs [] x = some (.ptr id off)) (h2 : look A.sl gs [] y = some (.sc s)) (hsz : tsize P t = some s.cs.length)
    {cells cells' : List At} (hb : A.ob id = some (.box cells)) (hov : overlay cells off s.cs = some cells') (hstat : c.parB id = none ∨ ((cells.drop off).take s.cs.length).all At.isSc = true) (hlt : off < cloK) (hout : out = ⟨none, 0, none, [(id, some (.box cells'))]⟩) : o.wp P a w K Q := by
  subst hout
  obtain ⟨us, e1, e2⟩ := (look_rel0 hR h2 hg : RelSC c M env w A.ob s (a.eval y)).cells
  have hp : a.eval x = .pointer (some ⟨M.be id, off, none⟩) := by rw [look_rel0 hR h1 hg cells hb, ptrV_lt hlt]
  obtain ⟨ws, E, q1, q2, q3, q4⟩ := hR.boxes _ _ hb
  have hbx := hb
  obtain ⟨o1, o2⟩ := overlay_some hov
  have l1 := e2.length
  have l2 := q2.length
  let new := (ws.take off ++ us ++ ws.drop (off + us.length))
  have hst : (storeCells ⟨M.be id, off, none⟩ us 0).run P w = .ok () (w.setRow (M.be id) new.toArray) := by
    have := run_storeCells_at P (M.be id) off E us 0 ws.toArray w q1 (by simp; omega) e2.one1
    simpa [new] using this
  have hrun : (execOp a.eval o).run P w = .ok .skip (w.setRow (M.be id) new.toArray) := by
    simp only [execOp, ho, Instr.storeAt, hp, Instr.sureAddr, storeVar, e1, Sem.run_bind, Sem.run_pure, Result.andThen_ok, run_sizeOf w hsz, List.size_toArray, l1, ne_eq, not_true_eq_false, if_false, hst]
  have hmv : Moved w (w.setRow (M.be id) new.toArray) (fun b => b = M.be id) c.G.dr := ⟨rfl, rfl, rfl, by simp, fun b _ hb => setRow_other w _ _ _ hb, setRow_sz q1 (by simp only [new, List.size_toArray, List.length_append, List.length_take, List.length_drop]; omega), fun _ => Nat.le_refl _⟩
  have hob : ∀ i, upOb A.ob [(id, some (.box cells'))] i = if i = id then some (.box cells') else A.ob i := fun i => rfl
  have E1 : Ext c (fun _ => False) M A.ob w M (upOb A.ob [(id, some (.box cells'))]) (w.setRow (M.be id) new.toArray) := by
    refine ⟨fun r ver l app _ ho => ?_, fun i x _ ho => ?_, fun b hb hm => hmv.block b hb fun e => hm (e ▸ q3)⟩
    · rw [hob] at ho
      split at ho
      · cases ho
      · exact ⟨ver, l, app, ho, rfl, Nat.le_refl _, fun _ => ⟨rfl, fun b hb hlt => ⟨hb, hmv.block b hlt fun e => hR.dBR _ _ _ _ _ _ hbx ho (e ▸ hb)⟩⟩⟩
    · rw [hob] at ho
      split at ho
      · rename_i hi; subst hi; exact ⟨⟨cells, hb⟩, rfl⟩
      · exact ⟨⟨x, ho⟩, rfl⟩
  refine wp_skip' hrun (hK M _ undef ?_)
  refine ⟨by rw [Act.put_size]; exact hR.size, by rw [Act.put_defs]; exact hR.defs, ?_, ?_, ?_, ?_, ?_, ?_, hR.keep.moved hmv (fun b e => e ▸ q3)⟩
  · exact slots_put hR E1 ⟨by simp, by simp, by simp⟩ (dst := o.dst) (gs := gs) (sv := none) (v := undef) hd (fun s hs => by cases hs)
  · intro r ver l app ho
    simp only at ho
    rw [hob] at ho
    split at ho
    · cases ho
    · exact (hR.rows _ _ _ _ ho).keep rfl rfl hmv.size fun b hb' => hmv.block b ((hR.rows _ _ _ _ ho).2.1 b hb').2 fun e => hR.dBR _ _ _ _ _ _ hb ho (e ▸ hb')
  · intro i x ho
    have ho' := ho
    simp only at ho'
    rw [hob] at ho'
    split at ho'
    · rename_i hi
      subst hi
      simp only [Option.some.injEq, SO.box.injEq] at ho'
      subst ho'
      refine ⟨new, E, setRow_heap w _ _ _ _ _ q1, ?_, q3, fun b t hp => ?_⟩
      rotate_left
      · obtain ⟨g1, g2⟩ := q4 b t hp
        refine ⟨g1, fun j u hj => ?_⟩
        obtain ⟨g3, x, g4, g5⟩ := g2 j u hj
        have hsc := hstat.resolve_left (by rw [hp]; simp)
        have hout : j < off ∨ off + s.cs.length ≤ j := by
          rcases Nat.lt_or_ge j off with h | h
          · exact .inl h
          · rcases Nat.lt_or_ge j (off + s.cs.length) with h' | h'
            · exfalso
              have hm : x ∈ (cells.drop off).take s.cs.length := by
                refine List.mem_iff_getElem?.2 ⟨j - off, ?_⟩
                rw [List.getElem?_take_of_lt (by omega), List.getElem?_drop, show off + (j - off) = j by omega]
                exact g4
              have := List.all_eq_true.1 hsc x hm
              rw [g5] at this; cases this
            · exact .inr h'
        have key : ∀ {α : Type} (l m : List α) (o : Nat), o + m.length ≤ l.length → (j < o ∨ o + m.length ≤ j) → (l.take o ++ m ++ l.drop (o + m.length))[j]? = l[j]? := by
          intro α l m o h1 h2
          rcases h2 with h2 | h2
          · rw [List.append_assoc, List.getElem?_append_left (by simp; omega), List.getElem?_take_of_lt h2]
          · rw [List.getElem?_append_right (by simp; omega), List.getElem?_drop]
            congr 1
            simp; omega
        refine ⟨?_, x, ?_, g5⟩
        · rw [← g3]; exact key _ _ _ (by omega) (by omega)
        · rw [o2, ← g4]; exact key _ _ _ (by omega) (by omega)
      have h9 := RelAts.ext E1 (fun _ _ h => h) (RelAts.overlay (off := off) q2 e2)
      rw [← o2] at h9
      exact h9
    · rename_i hi
      exact (hR.boxes _ _ ho').keep E1 rfl (hmv.block _ (hR.be_lt ho') (hR.dBB _ _ _ _ ho' hb hi)) (fun _ _ h => h)
  · intro i j x y g1 g2 hij
    simp only at g1 g2
    rw [hob] at g1 g2
    split at g1 <;> split at g2
    · rename_i a1 a2; exact absurd (a1.trans a2.symm) hij
    · rename_i a1 a2; subst a1; exact hR.dBB _ _ _ _ hb g2 hij
    · rename_i a1 a2; subst a2; exact hR.dBB _ _ _ _ g1 hb hij
    · exact hR.dBB _ _ _ _ g1 g2 hij
  · intro i j vi li ai vj lj aj g1 g2 hij
    simp only at g1 g2
    rw [hob] at g1 g2
    split at g1
    · cases g1
    split at g2
    · cases g2
    exact hR.dRR _ _ _ _ _ _ _ _ g1 g2 hij
  · intro i j x vj lj aj g1 g2
    simp only at g1 g2
    rw [hob] at g1 g2
    split at g2
    · cases g2
    split at g1
    · rename_i a1; subst a1; exact hR.dBR _ _ _ _ _ _ hb g2
    · exact hR.dBR _ _ _ _ _ _ g1 g2

end
end Go.Mw

