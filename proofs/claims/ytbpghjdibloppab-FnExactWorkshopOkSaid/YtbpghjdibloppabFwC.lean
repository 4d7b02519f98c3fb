/- A part of the framework that turns Go code into small pure programs and shows that they are sound: no condition. -/
import Derived.Test.YtbpghjdibloppabFwB
/- Append: onto nil, in the room that is there, or into a new block. -/
namespace Go.Mw

section
variable {P : Program} (w : World)

theorem run_app_nil0 (t u ty e : TypeId) (i : TypeInfo) (ht : P.underlying t = some (.slice e)) (hu : P.underlying u = some .string ∨ ∃ e', P.underlying u = some (.slice e')) (hi : P.info? e = some i) (y : Value)
    (hm : (Builtin.lenOf y).run P w = .ok 0 w) (hn : (Builtin.firstCells i.size 0 y).run P w = .ok #[] w) :
    (Builtin.append_ #[t, u] ty #[.slice none 0 0, y]).run P w = .ok (.slice none 0 0) w := by
  rcases hu with hu | ⟨e', hu⟩ <;> simp [Builtin.append_, run_underlying ht, run_underlying hu, sizeOf, typeInfo, hi, hm, hn]

theorem run_app_none (t u ty e : TypeId) (i : TypeInfo) (ht : P.underlying t = some (.slice e)) (hu : P.underlying u = some .string ∨ ∃ e', P.underlying u = some (.slice e')) (hi : P.info? e = some i) (y : Value)
    (hm : (Builtin.lenOf y).run P w = .ok 0 w) (hn : (Builtin.firstCells i.size 0 y).run P w = .ok #[] w) (g : Nat) :
    (Builtin.append_ #[t, u] ty #[.slice (some ⟨g, 0, none⟩) 0 0, y]).run P w = .ok (.slice (some ⟨g, 0, none⟩) 0 0) w := by
  rcases hu with hu | ⟨e', hu⟩ <;> simp [Builtin.append_, run_underlying ht, run_underlying hu, sizeOf, typeInfo, hi, hm, hn, storeCells]

theorem run_app_nil (t u ty e : TypeId) (i : TypeInfo) (z : Value) (ht : P.underlying t = some (.slice e)) (hu : P.underlying u = some .string ∨ ∃ e', P.underlying u = some (.slice e')) (hi : P.info? e = some i) (hz : i.zero = some z)
    (y : Value) (m : Nat) (news : List Value) (hm : (Builtin.lenOf y).run P w = .ok m w) (hn : (Builtin.firstCells i.size m y).run P w.drew = .ok news.toArray w.drew) (h0 : 0 < m) (hb : m * i.bytes ≤ 140737488355328) (h63 : m ≤ 140737488355328) :
    (Builtin.append_ #[t, u] ty #[.slice none 0 0, y]).run P w = .ok (.slice (some ⟨w.heap.size, 0, none⟩) m (grownCap w m 0 e)) (w.drew.alloc (.cells (news.toArray ++ Builtin.zeroCells z.cells (grownCap w m 0 e - m)) e)) := by
  have hn0 : m ≠ 0 := by omega
  have h63' : ¬ (9223372036854775807 < (m : Int)) := by omega
  have h48' : ¬ (281474976710656 < Builtin.nextslicecap m 0 * i.bytes) := by rw [nextslicecap_zero h0]; omega
  rcases hu with hu | ⟨e', hu⟩ <;>
    simp [Builtin.append_, run_underlying ht, run_underlying hu, sizeOf, typeInfo, zeroValue, hi, hz, hm, hn0, h63', h48', Question.forced, run_firstCells_none, hn, newRow, grownCap]

theorem run_app_room (t u ty e : TypeId) (i : TypeInfo) (ht : P.underlying t = some (.slice e)) (hu : P.underlying u = some .string ∨ ∃ e', P.underlying u = some (.slice e')) (hi : P.info? e = some i)
    (y : Value) (m : Nat) (news : List Value) (hm : (Builtin.lenOf y).run P w = .ok m w) (hn : (Builtin.firstCells i.size m y).run P w = .ok news.toArray w) (g n cap : Nat) (cur : Array Value) (E : TypeId) (hg : w.heap[g]? = some (.cells cur E (0, 0)))
    (hroom : n + m ≤ cap) (hfit : n * i.size + news.length ≤ cur.size) (h1 : ∀ v ∈ news, v.oneCell' = true) :
    (Builtin.append_ #[t, u] ty #[.slice (some ⟨g, 0, none⟩) n cap, y]).run P w = .ok (.slice (some ⟨g, 0, none⟩) (n + m) cap) (w.setRow g (cur.toList.take (n * i.size) ++ news ++ cur.toList.drop (n * i.size + news.length)).toArray) := by
  have hst := run_storeCells_at P g (n * i.size) E news 0 cur w hg (by simpa using hfit) h1
  simp only [Nat.add_zero] at hst
  rcases hu with hu | ⟨e', hu⟩ <;>
    simp [Builtin.append_, run_underlying ht, run_underlying hu, sizeOf, typeInfo, hi, hm, hroom, hn, Addr.add_lit, hst]

theorem run_app_grow (t u ty e : TypeId) (i : TypeInfo) (z : Value) (ht : P.underlying t = some (.slice e)) (hu : P.underlying u = some .string ∨ ∃ e', P.underlying u = some (.slice e')) (hi : P.info? e = some i) (hz : i.zero = some z)
    (y : Value) (m : Nat) (news : List Value) (hm : (Builtin.lenOf y).run P w = .ok m w) (hn : (Builtin.firstCells i.size m y).run P w.drew = .ok news.toArray w.drew) (g n cap : Nat) (olds : List Value) (hlo : olds.length = n * i.size)
    (ho : ∀ j v, olds[j]? = some v → w.cell? ⟨g, j, none⟩ = some v) (hgrow : cap < n + m) (hb : (n + m) * i.bytes ≤ 140737488355328) (h63 : n + m ≤ 140737488355328) :
    (Builtin.append_ #[t, u] ty #[.slice (some ⟨g, 0, none⟩) n cap, y]).run P w = .ok (.slice (some ⟨w.heap.size, 0, none⟩) (n + m) (grownCap w (n + m) cap e))
      (w.drew.alloc (.cells (olds.toArray ++ news.toArray ++ Builtin.zeroCells z.cells (grownCap w (n + m) cap e - (n + m))) e)) := by
  have hnr : ¬ (n + m ≤ cap) := by omega
  have h63' : ¬ (9223372036854775807 < ((n : Int) + (m : Int))) := by omega
  have h48' : ¬ (281474976710656 < Builtin.nextslicecap (n + m) cap * i.bytes) := by have := growslice_fits hgrow hb; omega
  have hfo := run_firstCells_some (P := P) w.drew i.size n ⟨g, 0, none⟩ n cap olds hlo (fun j v hj => by rw [Addr.add_lit]; simpa using ho j v hj)
  rcases hu with hu | ⟨e', hu⟩ <;>
    (simp [Builtin.append_, run_underlying ht, run_underlying hu, sizeOf, typeInfo, zeroValue, hi, hz, hm, hnr, h63', h48', Question.forced, hn, hfo, newRow, grownCap]
     congr 2
     apply Array.ext'
     simp [List.append_assoc])

end

theorem Rep.append_inv1 {w : World} {us : List Value} {es : List V} {ks : List AK} {S : List Nat} (h : Rep w us (es.flatMap V.cells) S) (hk : ∀ e ∈ es, aksOk ks e.cells = true) (hs : ks.all (AK.eqb .sc) = true) : S = [] := by
  have key : ∀ (ks : List AK) (ds : List V) (us : List Value) (S : List Nat), ks.all (AK.eqb .sc) = true → aksOk ks ds = true → Rep w us ds S → S = [] := by
    intro ks
    induction ks with
    | nil =>
      intro ds us S _ hk h
      have := aksOk_length hk
      obtain rfl : ds = [] := List.eq_nil_of_length_eq_zero this.symm
      exact h.nil_inv.2
    | cons k ks ih =>
      intro ds us S hs hk h
      cases ds with
      | nil => simp [aksOk] at hk
      | cons d ds =>
        simp only [aksOk, Bool.and_eq_true] at hk
        simp only [List.all_cons, Bool.and_eq_true] at hs
        obtain ⟨u, us', S1, S2, rfl, rfl, h1, h2⟩ := h.cons_inv
        have hk0 := AK.eqb_eq hs.1
        subst hk0
        rw [akOk_scalar hk.1 h1, ih ds us' S2 hs.2 hk.2 h2]
        rfl
  induction es generalizing us S with
  | nil => exact h.nil_inv.2
  | cons e es ih =>
    rw [List.flatMap_cons] at h
    obtain ⟨us1, us2, S1, S2, rfl, rfl, h1, h2⟩ := h.split
    rw [key ks e.cells us1 S1 hs (hk e (by simp)) h1, ih h2 fun x hx => hk x (by simp [hx])]
    rfl

/-- What an append gives, of its two lists and of memory. -/
theorem app_rep {P : Program} {w : World} {t u ty e : TypeId} {i : TypeInfo} {z : Value} (ht : P.underlying t = some (.slice e)) (hu : P.underlying u = some .string ∨ ∃ e', P.underlying u = some (.slice e')) (hi : P.info? e = some i) (hz : i.zero = some z)
    {ks : List AK} (hks : ks.length = i.size) (_hsz : i.size ≠ 0) (hzs : z.cells.size = i.size) {vx : Value} {es : List V} {Sx : List Nat} (hx : Rep w [vx] [.list ks es] Sx) (hxo : OwnHd w vx (.list ks es)) (hxw : ∀ b ∈ Sx, Wr w b) (hxn : Sx.Nodup)
    {vy : Value} {es' : List V} {news : List Value} {Sy : List Nat} (hy : Rep w news (es'.flatMap V.cells) Sy) (hyk : ∀ e ∈ es', aksOk ks e.cells = true) (hyw : ∀ b ∈ Sy, Wr w b) (hyn : Sy.Nodup) (hxy : ∀ b ∈ Sx, b ∉ Sy)
    (hm : (Builtin.lenOf vy).run P w = .ok es'.length w) (hn : ∀ w', w' = w ∨ w' = w.drew → (Builtin.firstCells i.size es'.length vy).run P w' = .ok news.toArray w')
    (hb : (es.length + es'.length) * i.bytes ≤ 140737488355328) (h63 : es.length + es'.length ≤ 140737488355328) :
    ∃ v' w' S', (Builtin.append_ #[t, u] ty #[vx, vy]).run P w = .ok v' w' ∧ Rep w' [v'] [.list ks (es ++ es')] S' ∧ OwnHd w' v' (.list ks (es ++ es')) ∧ S'.Nodup ∧ (∀ b ∈ S', (w.heap.size ≤ b ∨ b ∈ Sx ∨ b ∈ Sy) ∧ Wr w' b) ∧
      Moved w w' (fun b => b ∈ Sx) := by
  have hyl : news.length = es'.length * i.size := by rw [hy.flat_length (lens hyk), hks]
  have hall : ∀ x ∈ es ++ es', aksOk ks x.cells = true := by
    intro x hx2
    rcases List.mem_append.1 hx2 with h | h
    · rcases hx.list_inv with ⟨_, h2, _⟩ | ⟨_, _, _, _, _, _, _, _, _, _, _, _, hk, _⟩
      · subst h2; simp at h
      · exact hk x h
    · exact hyk x h
  have hone : ∀ v ∈ news, v.oneCell' = true := by
    intro v hv
    obtain ⟨j, hj⟩ := List.mem_iff_getElem?.1 hv
    obtain ⟨d, hd⟩ : ∃ d, (es'.flatMap V.cells)[j]? = some d := by
      have := hy.length
      have hlt : j < news.length := by
        rcases Nat.lt_or_ge j news.length with h | h
        · exact h
        · rw [List.getElem?_eq_none h] at hj; cases hj
      exact ⟨_, List.getElem?_eq_getElem (by omega)⟩
    obtain ⟨u, S', h1, h2, _⟩ := hy.get j d hd
    rw [hj] at h1
    simp only [Option.some.injEq] at h1
    subst h1
    exact h2.oneCell
  -- a new block for the old cells and the new ones
  have grown : ∀ (old : Nat) (olds : List Value) (So : List Nat), old < es.length + es'.length → Rep w olds (es.flatMap V.cells) So → (∀ b ∈ So, b ∈ Sx) → So.Nodup →
      ∃ S', Rep (w.drew.alloc (.cells (olds.toArray ++ news.toArray ++ Builtin.zeroCells z.cells (grownCap w (es.length + es'.length) old e - (es.length + es'.length))) e)) [.slice (some ⟨w.heap.size, 0, none⟩) (es.length + es'.length) (grownCap w (es.length + es'.length) old e)] [.list ks (es ++ es')] S' ∧
        OwnHd (w.drew.alloc (.cells (olds.toArray ++ news.toArray ++ Builtin.zeroCells z.cells (grownCap w (es.length + es'.length) old e - (es.length + es'.length))) e)) (.slice (some ⟨w.heap.size, 0, none⟩) (es.length + es'.length) (grownCap w (es.length + es'.length) old e)) (.list ks (es ++ es')) ∧ S'.Nodup ∧
        (∀ b ∈ S', (w.heap.size ≤ b ∨ b ∈ Sx ∨ b ∈ Sy) ∧ Wr (w.drew.alloc (.cells (olds.toArray ++ news.toArray ++ Builtin.zeroCells z.cells (grownCap w (es.length + es'.length) old e - (es.length + es'.length))) e)) b) ∧
        Moved w (w.drew.alloc (.cells (olds.toArray ++ news.toArray ++ Builtin.zeroCells z.cells (grownCap w (es.length + es'.length) old e - (es.length + es'.length))) e)) (fun b => b ∈ Sx) := by
    intro old olds So hold hro hsub hnd
    have hge := grownCap_ge w (es.length + es'.length) old e
    have hcm : grownCap w (es.length + es'.length) old e ≤ maxLen := grownCap_le_maxLen w _ old e (by unfold maxLen; omega)
    generalize hcap : grownCap w (es.length + es'.length) old e = cap at hge hcm
    have hro' : Rep w.drew (olds ++ news) ((es ++ es').flatMap V.cells) (So ++ Sy) := by
      rw [List.flatMap_append]
      exact (hro.append hy).frame fun b _ => rfl
    have hol : olds.length = es.length * i.size := by
      rcases hx.list_inv with ⟨_, h2, _⟩ | ⟨_, _, _, _, _, _, _, _, _, _, _, _, hk, _⟩
      · subst h2
        have := hro.length
        simpa using this
      · rw [hro.flat_length (lens hk), hks]
    obtain ⟨r1, r2⟩ := Rep.made (rest := (Builtin.zeroCells z.cells (cap - (es.length + es'.length))).toList) hro' hall (cap := cap) (by simp; omega)
      (by
        have hz0 : (Builtin.zeroCells z.cells (cap - (es.length + es'.length))).toList.length = (cap - (es.length + es'.length)) * i.size := by
          have := size_zeroCells z.cells (cap - (es.length + es'.length))
          rw [hzs] at this
          simpa using this
        rw [List.length_append, hol, hyl, hz0, hks, ← Nat.add_mul, ← Nat.add_mul]; congr 1; omega) hcm e (fun b hb => heap_alloc_old w.drew _ hb)
    have earr : (olds ++ news ++ (Builtin.zeroCells z.cells (cap - (es.length + es'.length))).toList).toArray = olds.toArray ++ news.toArray ++ Builtin.zeroCells z.cells (cap - (es.length + es'.length)) := by
      apply Array.ext'; simp
    rw [earr, List.length_append] at r1 r2
    have hold2 : ∀ b, b < w.heap.size → (w.drew.alloc (.cells (olds.toArray ++ news.toArray ++ Builtin.zeroCells z.cells (cap - (es.length + es'.length))) e)).heap[b]? = w.heap[b]? := fun b hb => heap_alloc_old w.drew _ hb
    refine ⟨_, r1, r2, ?_, ?_, ⟨rfl, rfl, rfl, by simp, fun b hb _ => hold2 b hb, fun b cs E h => ⟨cs, by rw [hold2 b (heap_lt h)]; exact h, rfl⟩⟩⟩
    · rw [List.nodup_cons, List.nodup_append]
      refine ⟨?_, hnd, hyn, fun a ha b hb e => hxy a (hsub a ha) (e ▸ hb)⟩
      intro hm2
      rcases List.mem_append.1 hm2 with h | h
      · exact Nat.lt_irrefl _ (hro.lt _ h)
      · exact Nat.lt_irrefl _ (hy.lt _ h)
    · intro b hb2
      rcases List.mem_cons.1 hb2 with rfl | hb2
      · exact ⟨.inl (Nat.le_refl _), _, _, heap_alloc_new w.drew _⟩
      · rcases List.mem_append.1 hb2 with h | h
        · exact ⟨.inr (.inl (hsub b h)), (hxw b (hsub b h)).of_eq (hold2 b (hro.lt b h))⟩
        · exact ⟨.inr (.inr h), (hyw b h).of_eq (hold2 b (hy.lt b h))⟩
  rcases hxo with rfl | ⟨g, n, cap, ks2, es2, rfl, hd2, hg0, hnc, hcm⟩
  · obtain ⟨_, rfl⟩ : True ∧ es = [] := by
      rcases hx.list_inv with ⟨_, h2, _⟩ | ⟨_, _, _, _, _, _, _, _, _, h2, _⟩
      · exact ⟨trivial, h2⟩
      · cases h2
    by_cases h0 : es'.length = 0
    · obtain rfl : es' = [] := List.eq_nil_of_length_eq_zero h0
      have hnn : news = [] := List.eq_nil_of_length_eq_zero (by simpa using hyl)
      subst hnn
      refine ⟨_, w, [], run_app_nil0 w t u ty e i ht hu hi vy hm (hn w (.inl rfl)), .atom (.nil _) .nil, .inl rfl, by simp, by simp, ⟨rfl, rfl, rfl, Nat.le_refl _, fun _ _ _ => rfl, fun _ cs _ h => ⟨cs, h, rfl⟩⟩⟩
    · obtain ⟨S', h1, h2, h3, h4, h5⟩ := grown 0 [] [] (by simp; omega) (by simpa using Rep.nil) (by simp) (by simp)
      have hr := run_app_nil w t u ty e i z ht hu hi hz vy es'.length news hm (hn _ (.inr rfl)) (by omega) (by simpa using hb) (by simpa using h63)
      simp only [List.length_nil, Nat.zero_add, Array.empty_append] at h1 h2 h4 h5
      exact ⟨_, _, S', hr, h1, h2, h3, h4, h5⟩
  · simp only [V.list.injEq] at hd2
    obtain ⟨rfl, rfl⟩ := hd2
    rcases hx.list_inv with ⟨⟨xx, h2⟩, hes, hSx⟩ | ⟨b', off', n', cap', vs, S', cs, E', fz, hv, hSx, hnl, hk, hc, hbl, hs, hvs, hin⟩
    · simp only [Value.slice.injEq] at h2
      obtain ⟨rfl, rfl, rfl⟩ := h2
      subst hes
      subst hSx
      by_cases h0 : es'.length = 0
      · obtain rfl : es' = [] := List.eq_nil_of_length_eq_zero h0
        have hnn : news = [] := List.eq_nil_of_length_eq_zero (by simpa using hyl)
        subst hnn
        refine ⟨_, w, [], run_app_none w t u ty e i ht hu hi vy hm (hn w (.inl rfl)) g, .atom (.nil0 _ _) .nil, .inr ⟨g, 0, 0, ks, [], rfl, rfl, fun h => absurd h (by simp), by simp, by simp⟩, by simp, by simp, ⟨rfl, rfl, rfl, Nat.le_refl _, fun _ _ _ => rfl, fun _ cs _ h => ⟨cs, h, rfl⟩⟩⟩
      · obtain ⟨S', h1, h2, h3, h4, h5⟩ := grown 0 [] [] (by simp; omega) (by simpa using Rep.nil) (by simp) (by simp)
        have hr := run_app_grow w t u ty e i z ht hu hi hz vy es'.length news hm (hn _ (.inr rfl)) g 0 0 [] (by simp) (fun j v hj => by simp at hj) (by omega) (by simpa using hb) (by simpa using h63)
        simp only [List.length_nil, Nat.zero_add] at h1 h2 h4 h5 hr
        exact ⟨_, _, S', hr, h1, h2, h3, h4, h5⟩
    simp only [Value.slice.injEq, Option.some.injEq, Addr.mk.injEq, and_true] at hv
    obtain ⟨⟨rfl, rfl⟩, rfl, rfl⟩ := hv
    obtain ⟨cur, E, hg⟩ := hxw g (by rw [hSx]; simp)
    rw [hg] at hbl
    simp only [Option.some.injEq, Obj.cells.injEq] at hbl
    obtain ⟨rfl, rfl, rfl⟩ := hbl
    have hcur : 0 < cap → cur.size = cap * ks.length := by
      intro hp
      obtain ⟨cur2, E2, q1, q2⟩ := hg0 hp
      rw [hg] at q1
      simp only [Option.some.injEq, Obj.cells.injEq] at q1
      obtain ⟨rfl, rfl, _⟩ := q1
      exact q2
    subst hSx
    subst hnl
    rw [hks] at hs hvs hcur
    have hvl : vs.length = es.length * i.size := by rw [hin.flat_length (lens hk), hks]
    simp only [Nat.zero_add] at hs hvs
    by_cases hroom : es.length + es'.length ≤ cap
    · have hfit : es.length * i.size + news.length ≤ cur.size := by
        rcases Nat.eq_zero_or_pos cap with h0 | h0
        · have q1 : es.length = 0 := by omega
          have q2 : es'.length = 0 := by omega
          rw [hyl, q1, q2]; simp
        · rw [hyl, hcur h0, ← Nat.add_mul]; exact Nat.mul_le_mul_right _ hroom
      have hr := run_app_room (P := P) w t u ty e i ht hu hi vy es'.length news hm (hn w (.inl rfl)) g es.length cap cur E hg hroom hfit hone
      have hnew := setRow_heap w g cur (cur.toList.take (es.length * i.size) ++ news ++ cur.toList.drop (es.length * i.size + news.length)).toArray E (0, 0) hg
      generalize hnl : cur.toList.take (es.length * i.size) ++ news ++ cur.toList.drop (es.length * i.size + news.length) = new at hr hnew
      have hns : new.length = cur.size := by rw [← hnl]; simp; omega
      have hoth : ∀ b, b ≠ g → (w.setRow g new.toArray).heap[b]? = w.heap[b]? := fun b hb => setRow_other w _ _ _ hb
      have hSn : g ∉ S' := by rw [List.nodup_cons] at hxn; exact hxn.1
      have hgy : ∀ b ∈ Sy, b ≠ g := fun b hb e => hxy g (by simp) (e ▸ hb)
      have hin2 : Rep (w.setRow g new.toArray) (vs ++ news) ((es ++ es').flatMap V.cells) (S' ++ Sy) := by
        rw [List.flatMap_append]
        exact (hin.frame fun b hb => hoth b fun e => hSn (e ▸ hb)).append (hy.frame fun b hb => hoth b (hgy b hb))
      have hrep := Rep.row (w := w.setRow g new.toArray) g 0 (es.length + es'.length) cap ks (es ++ es') (vs ++ news) (S' ++ Sy) new.toArray E (0, 0) (by simp) hall hroom hnew
        (by simp only [Nat.zero_add, List.size_toArray, hns, hks, Nat.add_mul]; rw [← hyl]; exact hfit) (fun j hj => by
          rw [hks, Nat.add_mul] at hj
          simp only [Nat.zero_add, List.getElem?_toArray, ← hnl]
          by_cases h1 : j < es.length * i.size
          · rw [List.append_assoc, List.getElem?_append_left (by simp; omega), List.getElem?_take_of_lt h1, List.getElem?_append_left (by omega)]
            have := hvs j h1
            simpa using this
          · have e1 : (cur.toList.take (es.length * i.size)).length = es.length * i.size := by simp; omega
            rw [List.append_assoc, List.getElem?_append_right (by omega), e1, List.getElem?_append_left (by omega), List.getElem?_append_right (by omega), hvl]) hin2 .nil
      refine ⟨_, _, _, hr, by simpa using hrep, .inr ⟨g, _, cap, ks, _, rfl, rfl, fun hp => ⟨new.toArray, E, hnew, by simp only [List.size_toArray, hns, hcur hp, hks]⟩, hroom, hcm⟩, ?_, ?_, ⟨rfl, rfl, rfl, by simp, fun b _ hb => hoth b fun e => hb (by simp [e]), setRow_sz hg (by simp [hns])⟩⟩
      · rw [List.nodup_cons] at hxn ⊢
        rw [List.nodup_append, List.mem_append]
        exact ⟨fun h => h.elim hSn fun h => hgy g h rfl, hxn.2, hyn, fun a ha b hb e => hxy a (by simp [ha]) (e ▸ hb)⟩
      · intro b hb2
        rcases List.mem_cons.1 hb2 with rfl | hb2
        · exact ⟨.inr (.inl (by simp)), _, _, hnew⟩
        · rcases List.mem_append.1 hb2 with h | h
          · exact ⟨.inr (.inl (by simp [h])), (hxw b (by simp [h])).of_eq (hoth b fun e => hSn (e ▸ h))⟩
          · exact ⟨.inr (.inr h), (hyw b h).of_eq (hoth b (hgy b h))⟩
    · obtain ⟨S2, h1, h2, h3, h4, h5⟩ := grown cap vs S' (by omega) hin (fun b hb => by simp [hb]) (by rw [List.nodup_cons] at hxn; exact hxn.2)
      have hr := run_app_grow w t u ty e i z ht hu hi hz vy es'.length news hm (hn _ (.inr rfl)) g es.length cap vs hvl (fun j v hj => by
        have hjlt : j < es.length * i.size := by
          rcases Nat.lt_or_ge j vs.length with h | h
          · omega
          · rw [List.getElem?_eq_none h] at hj; cases hj
        simp only [World.cell?, hg]
        have := hvs j hjlt
        rw [hj] at this
        simpa using this) (by omega) hb h63
      exact ⟨_, _, S2, hr, h1, h2, h3, h4, h5⟩

end Go.Mw

/- The built-in append, as a step. -/
namespace Go.Mw

theorem run_firstCells_rep {P : Program} {w : World} {b off n cap size : Nat} {vs : List Value} {cs : Array Value} {E : TypeId} {fz : Nat × Nat} (hb : w.heap[b]? = some (.cells cs E fz)) (hl : vs.length = n * size)
    (h : ∀ j, j < n * size → cs[off + j]? = vs[j]?) : ∀ w', w' = w ∨ w' = w.drew → (Builtin.firstCells size n (.slice (some ⟨b, off, none⟩) n cap)).run P w' = .ok vs.toArray w' := by
  intro w' hw
  have hb' : w'.heap[b]? = some (.cells cs E fz) := by rcases hw with rfl | rfl <;> exact hb
  refine run_firstCells_some (P := P) w' size n ⟨b, off, none⟩ n cap vs hl fun j v hj => ?_
  have hlt : j < n * size := by
    rcases Nat.lt_or_ge j vs.length with h | h
    · omega
    · rw [List.getElem?_eq_none h] at hj; cases hj
  rw [Addr.add_lit]
  simp only [World.cell?, hb']
  have := h j hlt
  rw [hj] at this
  simpa using this

theorem Rep.u8s {w : World} : ∀ (l : List UInt8), Rep w (l.map fun b => Value.int .u8 b.toNat) ((l.map fun b => V.int .u8 b.toNat).flatMap V.cells) []
  | [] => .nil
  | b :: l => by
    simp only [List.map_cons, List.flatMap_cons, V.cells, List.singleton_append]
    exact .atom (.int _ _) (Rep.u8s l)

/-- The first argument of an append: nil, or an owned row. -/
theorem appHead_rel {c : Cx} {nt : Nat} {M : Mp} {env : List V} {A : FS} {a : Act} {w : World} (hR : Rel c nt M env A a w) {b : At} {v : Value} (h : RelAt c M env w A.ob b v) {ks : List AK} {l : Lf} {gone : List Nat}
    (hh : appHead A.ob ks b = some (l, gone)) : ∃ S, Rep w [v] [l.ev env] S ∧ OwnHd w v (l.ev env) ∧ S.Nodup ∧ (∀ x ∈ S, (∃ r ∈ gone, x ∈ M.ph r) ∧ Wr w x) ∧ ∀ r ∈ gone, ∃ ver l, A.ob r = some (.row ver l true) := by
  cases b with
  | nil =>
    simp only [appHead, Option.some.injEq, Prod.mk.injEq] at hh
    obtain ⟨rfl, rfl⟩ := hh
    have := h.2
    simp only at this
    subst this
    exact ⟨[], .atom (.nil ks) .nil, .inl rfl, by simp, by simp, by simp⟩
  | own r =>
    simp only [appHead] at hh
    split at hh <;> simp only [Option.some.injEq, Prod.mk.injEq, reduceCtorEq] at hh
    rename_i ver l' ho
    obtain ⟨rfl, rfl⟩ := hh
    obtain ⟨⟨S, h1, h2, h3⟩, h4, h5⟩ := hR.rows _ _ _ _ ho
    rw [h.2 _ _ _ ho]
    exact ⟨S, h1, (h5.1 rfl).1, h2, fun x hx => ⟨⟨r, by simp, (h3 x hx).1⟩, (h3 x hx).2⟩, fun q hq => by simp only [List.mem_singleton] at hq; subst hq; exact ⟨_, _, ho⟩⟩
  | _ => simp [appHead] at hh

section
variable {P : Program} {c : Cx} {nt : Nat} {M : Mp} {env : List V} {A : FS} {a : Act} {w : World} {o : Oper} {gs : Gs} {fid nv : Nat} {K : Act → World → Prop} {Q : Exit → Act → World → Prop} {out : Out}
variable (hR : Rel c nt M env A a w) (hg : GH env gs) (hd : ∀ d, o.dst = some d → d < nt) (hf : Fresh A (· = fid)) (hh : Holds env nv out) (hK : Kont c nt env gs A a o out K)
include hR hg hd hf hh hK

omit hh in
/-- An append whose two lists are known. -/
theorem app_step {x y : Operand} {t u e : TypeId} {i : TypeInfo} {z : Value} (ho : o.op = .call { callee := .builtin .append, args := #[x, y], argTypes := #[t, u] })
    (ht : P.underlying t = some (.slice e)) (hu : P.underlying u = some .string ∨ ∃ e', P.underlying u = some (.slice e')) (hi : P.info? e = some i) (hz : i.zero = some z) {ks : List AK} (hks : ks.length = i.size) (hsz : i.size ≠ 0) (hzs : z.cells.size = i.size)
    {es : List V} {Sx : List Nat} (hx : Rep w [a.eval x] [.list ks es] Sx) (hxo : OwnHd w (a.eval x) (.list ks es)) (hxn : Sx.Nodup) {gone : List Nat} (hgone : ∀ r ∈ gone, ∃ ver l, A.ob r = some (.row ver l true))
    (hxs : ∀ b ∈ Sx, (∃ r ∈ gone, b ∈ M.ph r) ∧ Wr w b) {es' : List V} {news : List Value} {Sy : List Nat} (hy : Rep w news (es'.flatMap V.cells) Sy) (hyk : ∀ e ∈ es', aksOk ks e.cells = true) (hyn : Sy.Nodup) (hxy : ∀ b ∈ Sx, b ∉ Sy)
    (hys : ∀ b ∈ Sy, (∃ r ∈ gone, b ∈ M.ph r) ∧ Wr w b) (hm : (Builtin.lenOf (a.eval y)).run P w = .ok es'.length w)
    (hn : ∀ w', w' = w ∨ w' = w.drew → (Builtin.firstCells i.size es'.length (a.eval y)).run P w' = .ok news.toArray w')
    (hb : (es.length + es'.length) * i.bytes ≤ 140737488355328) (h63 : es.length + es'.length ≤ 140737488355328) (hl : (Lf.v nv).ev env = .list ks (es ++ es'))
    (hsv : out.sv = some (.ofAt (.own fid))) (hobs : out.obs = gone.map (fun r => (r, none)) ++ [(fid, some (.row 0 (.v nv) true))]) : o.wp P a w K Q := by
  obtain ⟨v', w', S', h1, h2, h3, h4, h5, h6⟩ := app_rep (ty := o.type) ht hu hi hz hks hsz hzs hx hxo (fun b hb => (hxs b hb).2) hxn hy hyk (fun b hb => (hys b hb).2) hyn hxy hm hn hb h63
  have hgone' : ∀ r ∈ gone, ∃ ver l app, A.ob r = some (.row ver l app) := fun r hr => let ⟨v, l, h⟩ := hgone r hr; ⟨v, l, true, h⟩
  obtain ⟨M', hR'⟩ := hR.new_row hgone' (fid_fresh hf hgone') (ver := 0) (l := .v nv) (app := true) (.inl ⟨hf, rfl⟩)
    ⟨h6.os, h6.tape, h6.output, h6.size, fun b hb hnb => h6.block b hb fun hbx => hnb (.inl (hxs b hbx).1), h6.sz⟩ (v := v') (S := S') (by rw [hl]; exact h2) h4
    (fun b hb => ⟨(h5 b hb).1.imp id fun h => .inl (h.elim (fun h => (hxs b h).1) fun h => (hys b h).1), (h5 b hb).2⟩) (fun _ => hgone) (fun h => by cases h) (fun _ => by rw [hl]; exact h3) hd hg (sv := some (.ofAt (.own fid))) (u := v') (fun s hs _ => by cases hs; exact ⟨rfl, rfl⟩)
  have hk := hK M' w' v'
  rw [hsv, hobs] at hk
  refine wp_value ?_ (hk hR')
  simp only [execOp, ho, resolve, invoke, builtin, Sem.run_bind, Sem.run_pure, Result.andThen_ok, List.map_toArray, List.map_cons, List.map_nil, h1]

theorem op_app {x y : Operand} {t u : TypeId} (ho : o.op = .call { callee := .builtin .append, args := #[x, y], argTypes := #[t, u] }) {sx sy : SV} (h1 : look A.sl gs [] x = some sx) (h2 : look A.sl gs [] y = some sy)
    (hc : coreApp P A.ob fid nv t u sx sy = some out) : o.wp P a w K Q := by
  have rx := look_rel0 hR h1 hg
  have ry := look_rel0 hR h2 hg
  unfold coreApp at hc
  split at hc
  · rename_i e hut
    split at hc
    · rename_i ks i zs b hks hi hzz hb
      split at hc
      · rename_i hcond
        simp only [Bool.and_eq_true, beq_iff_eq, bne_iff_ne] at hcond
        obtain ⟨⟨c1, c2⟩, c3⟩ := hcond
        obtain ⟨zv, ti, z1, z2, z3, z4, z5⟩ := zero_rel (c := c) (M := M) (env := env) (w := w) (ob := A.ob) hzz
        rw [hi] at z1
        simp only [Option.some.injEq] at z1
        subst z1
        have hzs : zv.cells.size = i.size := by have := z4.length; simp at this; omega
        split at hc
        · rename_i lx gone hhead
          obtain ⟨Sx, x1, x2, x3, x4, x5⟩ := appHead_rel hR (rx.at1 hb) hhead
          split at hc
          · rename_i huu
            split at hc
            · rename_i hk1
              have hk1' := AK.eqs_eq hk1
              cases hly : sy.scl with
              | none => simp [hly] at hc
              | some ly =>
                simp only [hly, Option.map_some, Option.some.injEq] at hc
                subst hc
                have sy' := ry.scl hly
                obtain ⟨d, p1, p2⟩ := hh.one
                simp only [List.map_cons, List.map_nil] at p1
                cases hlx : lx.ev env <;> rw [hlx] at p1 x1 x2 <;> (try (simp only [Prim.run, reduceCtorEq] at p1; done))
                cases hlyv : ly.ev env <;> rw [hlyv] at p1 sy' <;> (try (simp only [Prim.run, reduceCtorEq] at p1; done))
                rename_i js es l
                simp only [Prim.run] at p1
                by_cases hcnd : (AK.eqs js [.sc] && decide ((es.length + l.length) * i.bytes ≤ 140737488355328) && decide (es.length + l.length ≤ 140737488355328)) = true
                case neg => rw [if_neg hcnd] at p1; cases p1
                rw [if_pos hcnd] at p1
                simp only [Bool.and_eq_true, decide_eq_true_eq] at hcnd
                obtain ⟨⟨e1, e2⟩, e3⟩ := hcnd
                have e1' := AK.eqs_eq e1
                subst hk1'
                subst e1'
                simp only [Option.some.injEq, List.cons.injEq, and_true] at p1
                obtain ⟨s, q1, q2, _⟩ := sy'.str_inv
                have hsl : s.size = l.length := by rw [← q2, Array.length_toList]; rfl
                refine app_step hR hg hd hf hK ho hut (.inl huu) hi z2 c1 c2 hzs x1 x2 x3 x5 x4 (es' := l.map fun b => V.int .u8 b.toNat) (news := l.map fun b => Value.int .u8 b.toNat) (Sy := []) (Rep.u8s l)
                  (fun e he => by obtain ⟨b, _, rfl⟩ := List.mem_map.1 he; rfl) (by simp) (by simp) (by simp) (by rw [q1]; simp [Builtin.lenOf, hsl]) (fun w' _ => ?_) (by simpa using e2) (by simpa using e3) (by rw [p2, ← p1]) rfl rfl
                rw [q1]
                simp only [Builtin.firstCells, List.length_map, Sem.run_pure]
                congr 1
                apply Array.ext'
                have : (s.extract 0 l.length).data.toList = l := by rw [Go.Lib.extract_data, q2]; simp
                rw [Array.toList_map, this]
            · cases hc
          · rename_i e' huu
            split at hc
            · rename_i cy hcy
              split at hc
              · rename_i vy ly hly
                have ray := ry.at1 hcy
                obtain ⟨Sy, hyr⟩ := At.lst_rep hR ray hly
                have fin : ∀ (gone2 : List Nat), out = ⟨some (.app ks i.bytes, [lx, ly]), 1, some (.ofAt (.own fid)), gone2.map (fun r => (r, none)) ++ [(fid, some (.row 0 (.v nv) true))]⟩ →
                    (∀ r ∈ gone2, ∃ ver l, A.ob r = some (.row ver l true)) → (∀ r ∈ gone, r ∈ gone2) →
                    (∀ es', ly.ev env = .list ks es' → ((∃ x, a.eval y = .slice x 0 0) ∧ es' = []) ∨ ∃ b off n' cap vs S' cs E fz, a.eval y = .slice (some ⟨b, off, none⟩) n' cap ∧ es'.length = n' ∧ (∀ e ∈ es', aksOk ks e.cells = true) ∧ w.heap[b]? = some (.cells cs E fz) ∧
                      (∀ j, j < n' * ks.length → cs[off + j]? = vs[j]?) ∧ Rep w vs (es'.flatMap V.cells) S' ∧ S'.Nodup ∧ (∀ b ∈ Sx, b ∉ S') ∧ ∀ b ∈ S', (∃ r ∈ gone2, b ∈ M.ph r) ∧ Wr w b) → o.wp P a w K Q := by
                  intro gone2 hout hg2 hsub hinner
                  subst hout
                  obtain ⟨d, p1, p2⟩ := hh.one
                  simp only [List.map_cons, List.map_nil] at p1
                  cases hlx : lx.ev env <;> rw [hlx] at p1 x1 x2 <;> (try (simp only [Prim.run, reduceCtorEq] at p1; done))
                  cases hlyv : ly.ev env <;> rw [hlyv] at p1 <;> (try (simp only [Prim.run, reduceCtorEq] at p1; done))
                  rename_i js es js2 es'
                  simp only [Prim.run] at p1
                  by_cases hcnd : (AK.eqs js ks && AK.eqs js2 ks && decide ((es.length + es'.length) * i.bytes ≤ 140737488355328) && decide (es.length + es'.length ≤ 140737488355328)) = true
                  case neg => rw [if_neg hcnd] at p1; cases p1
                  rw [if_pos hcnd] at p1
                  simp only [Bool.and_eq_true, decide_eq_true_eq] at hcnd
                  obtain ⟨⟨⟨e0, e1⟩, e2⟩, e3⟩ := hcnd
                  have e0' := AK.eqs_eq e0
                  have e1' := AK.eqs_eq e1
                  subst e0'
                  subst e1'
                  simp only [Option.some.injEq, List.cons.injEq, and_true] at p1
                  have hxs : ∀ b ∈ Sx, (∃ r ∈ gone2, b ∈ M.ph r) ∧ Wr w b := fun b hb => ⟨let ⟨r, hr, h⟩ := (x4 b hb).1; ⟨r, hsub r hr, h⟩, (x4 b hb).2⟩
                  rcases hinner es' hlyv with ⟨q1, rfl⟩ | ⟨b, off, n', cap, vs, S', cs, E, fz, q1, q2, q3, q4, q5, q6, q7, q8, q9⟩
                  · exact app_step hR hg hd hf hK ho hut (.inr ⟨e', huu⟩) hi z2 c1 c2 hzs x1 x2 x3 hg2 hxs (es' := []) (news := []) (Sy := []) .nil (by simp) (by simp) (by simp) (by simp) (by obtain ⟨xx, q1⟩ := q1; rw [q1]; simp [Builtin.lenOf]) (fun w' _ => by
                      obtain ⟨xx, q1⟩ := q1
                      rw [q1]
                      cases xx with
                      | none => simp [Builtin.firstCells]
                      | some xx => simpa [Builtin.firstCells] using run_loadCells_list (P := P) w' xx [] (fun j v hj => by simp at hj))
                      (by simpa using e2) (by simpa using e3) (by rw [p2, ← p1]) rfl rfl
                  · subst q2
                    have hvl : vs.length = es'.length * i.size := by rw [q6.flat_length (lens q3), c1]
                    rw [c1] at q5
                    exact app_step hR hg hd hf hK ho hut (.inr ⟨e', huu⟩) hi z2 c1 c2 hzs x1 x2 x3 hg2 hxs q6 q3 q7 q8 q9 (by rw [q1]; simp [Builtin.lenOf])
                      (by rw [q1]; exact run_firstCells_rep q4 hvl q5) (by simpa using e2) (by simpa using e3) (by rw [p2, ← p1]) rfl rfl
                split at hc
                · rename_i hall
                  simp only [Option.some.injEq] at hc
                  refine fin gone hc.symm x5 (fun r hr => hr) fun es' hes' => ?_
                  rw [hes'] at hyr
                  rcases hyr.list_inv with ⟨q1, q2, _⟩ | ⟨b, off, n', cap, vs, S', cs, E, fz, hv, _, hn, hkk, hcap, hbb, hs, hvs, hin⟩
                  · exact .inl ⟨q1, q2⟩
                  · have hS := hin.append_inv1 hkk hall
                    subst hS
                    exact .inr ⟨b, off, n', cap, vs, [], cs, E, fz, hv, hn, hkk, hbb, hvs, hin, by simp, by simp, by simp⟩
                · split at hc
                  · rename_i q
                    split at hc <;> simp only [Option.some.injEq, reduceCtorEq] at hc
                    rename_i hqg
                    simp only [Bool.or_eq_true, List.contains_eq_mem, decide_eq_true_eq, Bool.not_eq_true', not_or, Bool.not_eq_false] at hqg
                    have hqg' : q ∉ gone := hqg.1
                    have hqa := hqg.2
                    have hrow : ∃ ver l app, A.ob q = some (.row ver l app) := by
                      simp only [At.lst] at hly
                      split at hly <;> simp only [Option.some.injEq, Prod.mk.injEq, reduceCtorEq] at hly
                      rename_i v0 l0 a0 h0
                      exact ⟨_, _, _, h0⟩
                    obtain ⟨v0, l0, a0, h0⟩ := hrow
                    have ha0 : a0 = true := by simpa [appOf, h0] using hqa
                    subst ha0
                    obtain ⟨⟨Sq, s1, s2, s3⟩, _⟩ := hR.rows _ _ _ _ h0
                    refine fin (gone ++ [q]) ?_ ?_ (fun r hr => by simp [hr]) fun es' hes' => ?_
                    · rw [← hc]; simp [List.append_assoc]
                    · intro r hr
                      rcases List.mem_append.1 hr with hr | hr
                      · exact x5 r hr
                      · simp only [List.mem_singleton] at hr; subst hr; exact ⟨_, _, h0⟩
                    · have hl0 : l0 = ly := by
                        simp only [At.lst, h0, Option.some.injEq, Prod.mk.injEq] at hly
                        exact hly.2
                      rw [← ray.2 _ _ _ h0, hl0, hes'] at s1
                      rcases s1.list_inv with ⟨q1, q2, _⟩ | ⟨b, off, n', cap, vs, S', cs, E, fz, hv, hSq, hn, hkk, hcap, hbb, hs, hvs, hin⟩
                      · exact .inl ⟨q1, q2⟩
                      · subst hSq
                        rw [List.nodup_cons] at s2
                        refine .inr ⟨b, off, n', cap, vs, S', cs, E, fz, hv, hn, hkk, hbb, hvs, hin, s2.2, ?_, ?_⟩
                        · intro b' hb' hbs
                          obtain ⟨⟨r, hr, hbr⟩, _⟩ := x4 b' hb'
                          obtain ⟨v1, l1, h1⟩ := x5 r hr
                          exact hR.dRR _ _ _ _ _ _ _ _ h1 h0 (fun e => hqg' (e ▸ hr)) b' hbr (s3 b' (by simp [hbs])).1
                        · intro b' hb'
                          exact ⟨⟨q, by simp, (s3 b' (by simp [hb'])).1⟩, (s3 b' (by simp [hb'])).2⟩
                  · cases hc
              · cases hc
            · cases hc
          · cases hc
        · cases hc
      · cases hc
    · cases hc
  · cases hc

end
end Go.Mw

/- What a function is known to do, and what a call of it does to a state. -/
namespace Go.Mw

/-- Cells that are read. -/
inductive CellsR (w : World) : List AK → List Value → List V → List Nat → Prop
  | nil : CellsR w [] [] [] []
  | sc {u : Value} {d : V} {ks : List AK} {us : List Value} {ds : List V} {S : List Nat} (h : Rep w [u] [d] []) (t : CellsR w ks us ds S) : CellsR w (.sc :: ks) (u :: us) (d :: ds) S
  | sl {u : Value} {d : V} {js ks : List AK} {us : List Value} {ds : List V} {S1 S : List Nat} (h : Rep w [u] [d] S1) (t : CellsR w ks us ds S) : CellsR w (.sl js :: ks) (u :: us) (d :: ds) (S1 ++ S)

/-- Cells whose slices may be written: each with its header and the blocks that it reaches. -/
inductive CellsIo (w : World) : List AK → List Value → List V → List (Value × List Nat) → Prop
  | nil : CellsIo w [] [] [] []
  | sc {u : Value} {d : V} {ks : List AK} {us : List Value} {ds : List V} {R : List (Value × List Nat)} (h : Rep w [u] [d] []) (t : CellsIo w ks us ds R) : CellsIo w (.sc :: ks) (u :: us) (d :: ds) R
  | sl {u : Value} {d : V} {js ks : List AK} {us : List Value} {ds : List V} {S : List Nat} {R : List (Value × List Nat)} (h : Rep w [u] [d] S) (hn : S.Nodup) (hw : ∀ b ∈ S, Wr w b) (t : CellsIo w ks us ds R) :
      CellsIo w (.sl js :: ks) (u :: us) (d :: ds) ((u, S) :: R)

abbrev Bx := Nat × List AK × List Value

inductive ArgsR (w : World) : List PK → List Value → List V → List Nat → List (Value × List Nat) → List Bx → Prop
  | nil : ArgsR w [] [] [] [] [] []
  | val {g : Bool} {ks : List AK} {ps : List PK} {us : List Value} {ds ds' : List V} {S ro : List Nat} {v : Value} {vs : List Value} {rows : List (Value × List Nat)} {boxes : List Bx}
      (hc : CellsR w ks us ds S) (hp : packV g us v) (t : ArgsR w ps vs ds' ro rows boxes) : ArgsR w (.val g ks :: ps) (v :: vs) (ds ++ ds') (S ++ ro) rows boxes
  | io {g : Bool} {ks : List AK} {ps : List PK} {us : List Value} {ds ds' : List V} {ro : List Nat} {v : Value} {vs : List Value} {R rows : List (Value × List Nat)} {boxes : List Bx}
      (hc : CellsIo w ks us ds R) (hp : packV g us v) (t : ArgsR w ps vs ds' ro rows boxes) : ArgsR w (.io g ks :: ps) (v :: vs) (ds ++ ds') ro (R ++ rows) boxes
  | ptr {ks : List AK} {ps : List PK} {us : List Value} {ds ds' : List V} {S ro : List Nat} {b : Nat} {E : TypeId} {vs : List Value} {rows : List (Value × List Nat)} {boxes : List Bx}
      (hb : w.heap[b]? = some (.cells us.toArray E (0, 0))) (hc : CellsR w ks us ds S) (t : ArgsR w ps vs ds' ro rows boxes) :
      ArgsR w (.ptr ks :: ps) (.pointer (some ⟨b, 0, none⟩) :: vs) (ds ++ ds') (S ++ ro) rows ((b, ks, us) :: boxes)

/-- The cells of a result: its slices lie in blocks of their own, and may be appended to. -/
inductive ResC (w : World) : List AK → List Value → List V → List Nat → Prop
  | nil : ResC w [] [] [] []
  | sc {u : Value} {d : V} {ks : List AK} {us : List Value} {ds : List V} {S : List Nat} (h : Rep w [u] [d] []) (t : ResC w ks us ds S) : ResC w (.sc :: ks) (u :: us) (d :: ds) S
  | sl {u : Value} {d : V} {js ks : List AK} {us : List Value} {ds : List V} {S1 S : List Nat} (h : Rep w [u] [d] S1) (ho : OwnHd w u d) (t : ResC w ks us ds S) : ResC w (.sl js :: ks) (u :: us) (d :: ds) (S1 ++ S)

inductive ResR (w : World) : List (Bool × List AK) → List Value → List V → List Nat → Prop
  | nil : ResR w [] [] [] []
  | cons {g : Bool} {ks : List AK} {rs : List (Bool × List AK)} {us : List Value} {ds ds' : List V} {S S' : List Nat} {v : Value} {vs : List Value} (hc : ResC w ks us ds S) (hp : packV g us v) (t : ResR w rs vs ds' S') :
      ResR w ((g, ks) :: rs) (v :: vs) (ds ++ ds') (S ++ S')

/-- The rows behind the call. -/
inductive PostRows (w : World) : List (Value × List Nat) → List V → Prop
  | nil : PostRows w [] []
  | cons {u : Value} {S S' : List Nat} {d : V} {rows : List (Value × List Nat)} {ds : List V} (h : Rep w [u] [d] S') (hn : S'.Nodup) (hs : ∀ b ∈ S', b ∈ S ∧ Wr w b) (t : PostRows w rows ds) : PostRows w ((u, S) :: rows) (d :: ds)

/-- A box's cells: the scalars are new, the slices stay. -/
inductive BoxC (w : World) : List AK → List Value → List Value → List V → Prop
  | nil : BoxC w [] [] [] []
  | sc {u u' : Value} {d : V} {ks : List AK} {us us' : List Value} {ds : List V} (h : Rep w [u'] [d] []) (t : BoxC w ks us us' ds) : BoxC w (.sc :: ks) (u :: us) (u' :: us') (d :: ds)
  | sl {u : Value} {js ks : List AK} {us us' : List Value} {ds : List V} (t : BoxC w ks us us' ds) : BoxC w (.sl js :: ks) (u :: us) (u :: us') ds

inductive PostBoxes (w : World) : List Bx → List V → Prop
  | nil : PostBoxes w [] []
  | cons {b : Nat} {ks : List AK} {us us' : List Value} {E : TypeId} {boxes : List Bx} {ds ds' : List V} (hb : w.heap[b]? = some (.cells us'.toArray E (0, 0))) (hc : BoxC w ks us us' ds) (t : PostBoxes w boxes ds') :
      PostBoxes w ((b, ks, us) :: boxes) (ds ++ ds')

def ioB (rows : List (Value × List Nat)) (boxes : List Bx) : List Nat := rows.flatMap (·.2) ++ boxes.map (·.1)

def retV (vs : List Value) (v : Value) : Prop := if vs.length = 1 then vs = [v] else v = .tuple vs.toArray

/-- What a call leaves. -/
structure PostC (s : Sig) (w : World) (rows : List (Value × List Nat)) (boxes : List Bx) (outs : List V) (e : Ending) (w' : World) : Prop where
  out : ∃ v vs d1 d2 d3 S, outs = d1 ++ d2 ++ d3 ∧ e = .returned v ∧ retV vs v ∧ ResR w' s.rs vs d1 S ∧ S.Nodup ∧ (∀ b ∈ S, w.heap.size ≤ b ∧ Wr w' b) ∧ PostRows w' rows d2 ∧ PostBoxes w' boxes d3
  mv : Moved w w' (· ∈ ioB rows boxes)

/-- THE CONTRACT of a function: at every call whose flat arguments the pure function takes, it returns what the pure function gives. -/
def Contract (P : Program) (f : FuncId) (s : Sig) : Prop :=
  ∀ (w : World) (vals : List Value) (ds outs : List V) (ro : List Nat) (rows : List (Value × List Nat)) (boxes : List Bx), s.F ds = some outs → ArgsR w s.ps vals ds ro rows boxes →
    (ioB rows boxes).Nodup → (∀ b ∈ ro, b ∉ ioB rows boxes) → Calls P f vals.toArray w (PostC s w rows boxes outs)

/-! ### the arguments of a call -/

def atIds (cs : List At) : List Nat := cs.filterMap (fun | .own r => some r | .inn r _ _ _ => some r | _ => none)

section
variable {c : Cx} {nt : Nat} {M : Mp} {env : List V} {A : FS} {a : Act} {w : World}

theorem leaves_rel (hR : Rel c nt M env A a w) : ∀ {ks : List AK} {cs : List At} {ls : List Lf} {us : List Value}, leaves A.ob ks cs = some ls → RelAts c M env w A.ob cs us →
    ∃ S, CellsR w ks us (ls.map (Lf.ev env)) S ∧ ∀ b ∈ S, ¬ c.mine b ∨ ∃ r ∈ atIds cs, b ∈ M.ph r ∧ ∃ ver l app, A.ob r = some (.row ver l app)
  | [], [], ls, us, h, hr => by
    simp only [leaves, Option.some.injEq] at h
    subst h
    cases us with
    | nil => exact ⟨[], .nil, by simp⟩
    | cons => exact hr.elim
  | [], _ :: _, _, _, h, _ => by simp [leaves] at h
  | _ :: _, [], _, _, h, _ => by simp [leaves] at h
  | k :: ks, at0 :: cs, ls, us, h, hr => by
    cases us with
    | nil => exact hr.elim
    | cons u us =>
    simp only [leaves] at h
    split at h <;> simp only [Option.some.injEq, reduceCtorEq] at h
    rename_i l ls' h1 h2
    subst h
    obtain ⟨S, h3, h4⟩ := leaves_rel hR h2 hr.2
    have hmono : ∀ b ∈ S, ¬ c.mine b ∨ ∃ r ∈ atIds (at0 :: cs), b ∈ M.ph r ∧ ∃ ver l app, A.ob r = some (.row ver l app) := by
      intro b hb
      rcases h4 b hb with h | ⟨r, hr, h⟩
      · exact .inl h
      · refine .inr ⟨r, ?_, h⟩
        unfold atIds at hr ⊢
        rw [List.filterMap_cons]
        split <;> simp [hr]
    cases k with
    | sc => exact ⟨S, .sc (hr.1.scl h1) h3, hmono⟩
    | sl js =>
      simp only [At.leaf] at h1
      cases hl : at0.lst A.ob js with
      | none => simp [hl] at h1
      | some q =>
        obtain ⟨ver, l'⟩ := q
        simp only [hl, Option.map_some, Option.some.injEq] at h1
        subst h1
        have key : ∃ S1, Rep w [u] [l'.ev env] S1 ∧ ∀ b ∈ S1, ¬ c.mine b ∨ ∃ r ∈ atIds (at0 :: cs), b ∈ M.ph r ∧ ∃ ver l app, A.ob r = some (.row ver l app) := by
          cases at0 with
          | sc l => simp [At.lst] at hl
          | nil =>
            obtain ⟨S1, r1⟩ := At.lst_rep hR hr.1 hl
            have := hr.1.2
            simp only at this
            subst this
            simp only [At.lst, Option.some.injEq, Prod.mk.injEq] at hl
            obtain ⟨rfl, rfl⟩ := hl
            exact ⟨[], .atom (.nil js) .nil, by simp⟩
          | ro l =>
            simp only [At.lst, Option.some.injEq, Prod.mk.injEq] at hl
            obtain ⟨rfl, rfl⟩ := hl
            obtain ⟨S1, r1, r2⟩ := hr.1.2
            exact ⟨S1, r1, fun b hb => .inl (r2 b hb)⟩
          | own r =>
            simp only [At.lst] at hl
            split at hl <;> simp only [Option.some.injEq, Prod.mk.injEq, reduceCtorEq] at hl
            rename_i v0 l0 a0 ho
            obtain ⟨rfl, rfl⟩ := hl
            obtain ⟨⟨S1, r1, r2, r3⟩, _⟩ := hR.rows _ _ _ _ ho
            rw [← hr.1.2 _ _ _ ho] at r1
            exact ⟨S1, r1, fun b hb => .inr ⟨r, by simp [atIds], (r3 b hb).1, _, _, _, ho⟩⟩
          | inn r ver' l0 _ =>
            simp only [At.lst] at hl
            split at hl
            · rename_i v0 l1 a0 ho
              split at hl <;> simp only [Option.some.injEq, Prod.mk.injEq, reduceCtorEq] at hl
              rename_i hvv
              obtain ⟨rfl, rfl⟩ := hl
              obtain ⟨S1, r1, r2⟩ := (hr.1.2.1 _ _ _ ho).2 (by simpa using hvv)
              exact ⟨S1, r1, fun b hb => .inr ⟨r, by simp [atIds], r2 b hb, _, _, _, ho⟩⟩
            · cases hl
        obtain ⟨S1, r1, r2⟩ := key
        refine ⟨S1 ++ S, .sl r1 h3, fun b hb => ?_⟩
        rcases List.mem_append.1 hb with hb | hb
        · exact r2 b hb
        · exact hmono b hb

/-- The rows that a call may write, linked with what memory holds. -/
inductive RowsM (M : Mp) (ob : Nat → Option SO) : List Nat → List (Value × List Nat) → Prop
  | nil : RowsM M ob [] []
  | cons {r : Nat} {S : List Nat} {rs : List Nat} {rows : List (Value × List Nat)} (h : ∃ ver l app, ob r = some (.row ver l app)) (hs : ∀ b ∈ S, b ∈ M.ph r) (t : RowsM M ob rs rows) : RowsM M ob (r :: rs) ((M.hd r, S) :: rows)

theorem RowsM.append {M : Mp} {ob : Nat → Option SO} {rs rs' : List Nat} {R R' : List (Value × List Nat)} (h : RowsM M ob rs R) (h' : RowsM M ob rs' R') : RowsM M ob (rs ++ rs') (R ++ R') := by
  induction h with
  | nil => exact h'
  | cons h hs _ ih => exact .cons h hs ih

theorem ioCells_rel (hR : Rel c nt M env A a w) : ∀ {ks : List AK} {cs : List At} {ls : List Lf} {rs : List Nat} {us : List Value}, ioCells A.ob ks cs = some (ls, rs) → RelAts c M env w A.ob cs us →
    ∃ R, CellsIo w ks us (ls.map (Lf.ev env)) R ∧ RowsM M A.ob rs R ∧ rs.Nodup
  | [], [], ls, rs, us, h, hr => by
    simp only [ioCells, Option.some.injEq, Prod.mk.injEq] at h
    obtain ⟨rfl, rfl⟩ := h
    cases us with
    | nil => exact ⟨[], .nil, .nil, by simp⟩
    | cons => exact hr.elim
  | [], _ :: _, _, _, _, h, _ => by simp [ioCells] at h
  | _ :: _, [], _, _, _, h, _ => by simp [ioCells] at h
  | k :: ks, at0 :: cs, ls, rs, us, h, hr => by
    cases us with
    | nil => exact hr.elim
    | cons u us =>
    cases k with
    | sc =>
      cases at0 with
      | sc l =>
        simp only [ioCells] at h
        cases hm : ioCells A.ob ks cs with
        | none => simp [hm] at h
        | some x =>
          simp only [hm, Option.map_some, Option.some.injEq, Prod.mk.injEq] at h
          obtain ⟨rfl, rfl⟩ := h
          obtain ⟨R, h1, h2, h3⟩ := ioCells_rel hR (ls := x.1) (rs := x.2) hm hr.2
          exact ⟨R, .sc hr.1.2 h1, h2, h3⟩
      | _ => simp [ioCells] at h
    | sl js =>
      cases at0 with
      | own r =>
        simp only [ioCells] at h
        split at h
        · rename_i ver l app x ho hm
          split at h <;> simp only [Option.some.injEq, Prod.mk.injEq, reduceCtorEq] at h
          rename_i hnc
          obtain ⟨rfl, rfl⟩ := h
          obtain ⟨R, h1, h2, h3⟩ := ioCells_rel hR (ls := x.1) (rs := x.2) hm hr.2
          obtain ⟨⟨S, r1, r2, r3⟩, _⟩ := hR.rows _ _ _ _ ho
          have hu := hr.1.2 _ _ _ ho
          subst hu
          exact ⟨(M.hd r, S) :: R, .sl r1 r2 (fun b hb => (r3 b hb).2) h1, .cons ⟨_, _, _, ho⟩ (fun b hb => (r3 b hb).1) h2, List.nodup_cons.2 ⟨by simpa using hnc, h3⟩⟩
        · cases h
      | _ => simp [ioCells] at h

inductive BoxM (c : Cx) (M : Mp) (env : List V) (w : World) (ob : Nat → Option SO) : List (Nat × List AK × List At) → List Bx → Prop
  | nil : BoxM c M env w ob [] []
  | cons {id : Nat} {ks : List AK} {cells : List At} {us : List Value} {xs : List (Nat × List AK × List At)} {boxes : List Bx} (h : ob id = some (.box cells)) (hr : RelAts c M env w ob cells us) (hu : ∃ E, w.heap[M.be id]? = some (.cells us.toArray E (0, 0))) (hl : ∃ l, leaves ob ks cells = some l) (t : BoxM c M env w ob xs boxes) :
      BoxM c M env w ob ((id, ks, cells) :: xs) ((M.be id, ks, us) :: boxes)

def RelVs (c : Cx) (M : Mp) (env : List V) (w : World) (ob : Nat → Option SO) : List SV → List Value → Prop
  | [], [] => True
  | s :: ss, v :: vs => RelSV c M env w ob s v ∧ RelVs c M env w ob ss vs
  | _, _ => False

theorem coreArgs_rel (hR : Rel c nt M env A a w) : ∀ {ps : List PK} {xs : List SV} {vs : List Value} {ar : Args}, coreArgs A.ob ps xs = some ar → RelVs c M env w A.ob xs vs →
    ∃ ro rows boxes, ArgsR w ps vs (ar.ls.map (Lf.ev env)) ro rows boxes ∧ RowsM M A.ob ar.rows rows ∧ BoxM c M env w A.ob ar.boxes boxes ∧
      (∀ b ∈ ro, ¬ c.mine b ∨ ∃ r ∈ roRows A.ob ps xs, b ∈ M.ph r ∧ ∃ ver l app, A.ob r = some (.row ver l app)) ∧ ar.rows.Nodup ∧ (ar.boxes.map (·.1)).Nodup
  | [], [], vs, ar, h, hv => by
    simp only [coreArgs, Option.some.injEq] at h
    subst h
    cases vs with
    | nil => exact ⟨[], [], [], .nil, .nil, .nil, by simp, by simp, by simp⟩
    | cons => exact hv.elim
  | [], _ :: _, _, _, h, _ => by simp [coreArgs] at h
  | _ :: _, [], _, _, h, _ => by simp [coreArgs] at h
  | p :: ps, x :: xs, vs, ar, h, hv => by
    cases vs with
    | nil => exact hv.elim
    | cons v vs =>
    cases p with
    | val g ks =>
      cases x with
      | sc s =>
        simp only [coreArgs] at h
        split at h
        · rename_i hcond
          simp only [Bool.and_eq_true, beq_iff_eq] at hcond
          split at h <;> simp only [Option.some.injEq, reduceCtorEq] at h
          rename_i l ar' hl ha
          subst h
          obtain ⟨ro, rows, boxes, h1, h2, h3, h4, h5, h6⟩ := coreArgs_rel hR ha hv.2
          obtain ⟨us, q1, q2⟩ := (hv.1 : RelSC c M env w A.ob s v)
          obtain ⟨S, q3, q4⟩ := leaves_rel hR hl q1
          refine ⟨S ++ ro, rows, boxes, ?_, h2, h3, ?_, h5, h6⟩
          · rw [List.map_append]; exact .val q3 (hcond.1 ▸ q2) h1
          · intro b hb
            rcases List.mem_append.1 hb with hb | hb
            · rcases q4 b hb with h | ⟨r, hr, h⟩
              · exact .inl h
              · exact .inr ⟨r, by simp only [roRows]; exact List.mem_append_left _ hr, h⟩
            · rcases h4 b hb with h | ⟨r, hr, h⟩
              · exact .inl h
              · exact .inr ⟨r, by simp only [roRows]; exact List.mem_append_right _ hr, h⟩
        · cases h
      | _ => simp [coreArgs] at h
    | io g ks =>
      cases x with
      | sc s =>
        simp only [coreArgs] at h
        split at h
        · rename_i hcond
          simp only [Bool.and_eq_true, beq_iff_eq] at hcond
          split at h
          · rename_i l rs ar' hl ha
            split at h <;> simp only [Option.some.injEq, reduceCtorEq] at h
            rename_i hno
            subst h
            obtain ⟨ro, rows, boxes, h1, h2, h3, h4, h5, h6⟩ := coreArgs_rel hR ha hv.2
            obtain ⟨us, q1, q2⟩ := (hv.1 : RelSC c M env w A.ob s v)
            obtain ⟨R, q3, q4, q5⟩ := ioCells_rel hR hl q1
            refine ⟨ro, R ++ rows, boxes, ?_, q4.append h2, h3, ?_, ?_, h6⟩
            · rw [List.map_append]; exact .io q3 (hcond.1 ▸ q2) h1
            · intro b hb
              rcases h4 b hb with h | ⟨r, hr, h⟩
              · exact .inl h
              · exact .inr ⟨r, by simpa only [roRows] using hr, h⟩
            · rw [List.nodup_append]
              refine ⟨q5, h5, fun x hx y hy e => hno ?_⟩
              exact List.any_eq_true.2 ⟨x, hx, by rw [e]; simpa using hy⟩
          · cases h
        · cases h
      | _ => simp [coreArgs] at h
    | ptr ks =>
      cases x with
      | ptr id off =>
        cases off with
        | succ => simp [coreArgs] at h
        | zero =>
        simp only [coreArgs] at h
        split at h
        · rename_i cells ho
          split at h
          · rename_i l ar' hl ha
            split at h <;> simp only [Option.some.injEq, reduceCtorEq] at h
            rename_i hno
            subst h
            obtain ⟨ro, rows, boxes, h1, h2, h3, h4, h5, h6⟩ := coreArgs_rel hR ha hv.2
            obtain ⟨us, E, q1, q2, q3⟩ := hR.boxes _ _ ho
            obtain ⟨S, q4, q5⟩ := leaves_rel hR hl q2
            have hv1 := hv.1 cells ho
            subst hv1
            refine ⟨S ++ ro, rows, (M.be id, ks, us) :: boxes, ?_, h2, .cons ho q2 ⟨E, q1⟩ ⟨_, hl⟩ h3, ?_, h5, ?_⟩
            · rw [List.map_append]; exact .ptr q1 q4 h1
            · intro b hb
              rcases List.mem_append.1 hb with hb | hb
              · rcases q5 b hb with h | ⟨r, hr, h⟩
                · exact .inl h
                · refine .inr ⟨r, ?_, h⟩
                  simp only [roRows, ho]; exact List.mem_append_left _ hr
              · rcases h4 b hb with h | ⟨r, hr, h⟩
                · exact .inl h
                · refine .inr ⟨r, ?_, h⟩
                  simp only [roRows, ho]; exact List.mem_append_right _ hr
            · simp only [List.map_cons, List.nodup_cons]
              refine ⟨fun hm => hno ?_, h6⟩
              obtain ⟨y, hy, e⟩ := List.mem_map.1 hm
              exact List.any_eq_true.2 ⟨y, hy, by simpa using e⟩
          · cases h
        · cases h
      | _ => simp [coreArgs] at h

theorem RowsM.blocks {rs : List Nat} {rows : List (Value × List Nat)} (h : RowsM M A.ob rs rows) : ∀ b ∈ rows.flatMap (·.2), ∃ r ∈ rs, b ∈ M.ph r ∧ ∃ ver l app, A.ob r = some (.row ver l app) := by
  induction h with
  | nil => simp
  | @cons r S rs rows h hs t ih =>
    intro b hb
    rw [List.flatMap_cons] at hb
    rcases List.mem_append.1 hb with hb | hb
    · exact ⟨r, by simp, hs b hb, h⟩
    · obtain ⟨q, hq, h1⟩ := ih b hb
      exact ⟨q, by simp [hq], h1⟩

theorem BoxM.blocks {xs : List (Nat × List AK × List At)} {boxes : List Bx} (h : BoxM c M env w A.ob xs boxes) : ∀ b ∈ boxes.map (·.1), ∃ x ∈ xs, b = M.be x.1 ∧ A.ob x.1 = some (.box x.2.2) := by
  induction h with
  | nil => simp
  | @cons id ks cells us xs boxes h hr hu hl t ih =>
    intro b hb
    simp only [List.map_cons, List.mem_cons] at hb
    rcases hb with rfl | hb
    · exact ⟨(id, ks, cells), by simp, rfl, h⟩
    · obtain ⟨x, hx, h1⟩ := ih b hb
      exact ⟨x, by simp [hx], h1⟩

theorem io_nodup (hR : Rel c nt M env A a w) {rs : List Nat} {rows : List (Value × List Nat)} (h : RowsM M A.ob rs rows) (hn : rs.Nodup) (hs : ∀ x ∈ rows, x.2.Nodup) {xs : List (Nat × List AK × List At)} {boxes : List Bx}
    (hb : BoxM c M env w A.ob xs boxes) (hbn : (xs.map (·.1)).Nodup) : (ioB rows boxes).Nodup := by
  unfold ioB
  rw [List.nodup_append]
  refine ⟨?_, ?_, ?_⟩
  · clear hb hbn
    induction h with
    | nil => simp
    | @cons r S rs rows h1 h2 t ih =>
      rw [List.nodup_cons] at hn
      rw [List.flatMap_cons, List.nodup_append]
      refine ⟨hs (M.hd r, S) (by simp), ih hn.2 (fun x hx => hs x (by simp [hx])), ?_⟩
      intro b hb b' hb' e
      subst e
      obtain ⟨q, hq, h3, v1, l1, a1, h4⟩ := RowsM.blocks t b hb'
      obtain ⟨v0, l0, a0, h0⟩ := h1
      exact hR.dRR _ _ _ _ _ _ _ _ h0 h4 (fun e => hn.1 (e ▸ hq)) b (h2 b hb) h3
  · clear h hn hs
    induction hb with
    | nil => simp
    | @cons id ks cells us xs boxes h1 h2 hu hl t ih =>
      simp only [List.map_cons, List.nodup_cons] at hbn ⊢
      refine ⟨fun hm => ?_, ih hbn.2⟩
      obtain ⟨x, hx, h3, h4⟩ := BoxM.blocks t _ hm
      exact hR.dBB _ _ _ _ h1 h4 (fun e => hbn.1 (by rw [e]; exact List.mem_map.2 ⟨x, hx, rfl⟩)) h3
  · intro b hb1 b' hb2 e
    subst e
    obtain ⟨q, hq, h3, v1, l1, a1, h4⟩ := RowsM.blocks h b hb1
    obtain ⟨x, hx, h5, h6⟩ := BoxM.blocks hb b hb2
    exact hR.dBR _ _ _ _ _ _ h6 h4 (h5 ▸ h3)

theorem ArgsR.rows_nodup {w : World} {ps : List PK} {vs : List Value} {ds : List V} {ro : List Nat} {rows : List (Value × List Nat)} {boxes : List Bx} (h : ArgsR w ps vs ds ro rows boxes) : ∀ x ∈ rows, x.2.Nodup := by
  have hio : ∀ {ks : List AK} {us : List Value} {ds : List V} {R : List (Value × List Nat)}, CellsIo w ks us ds R → ∀ x ∈ R, x.2.Nodup := by
    intro ks us ds R h
    induction h with
    | nil => simp
    | sc _ _ ih => exact ih
    | sl _ hn _ _ ih =>
      intro x hx
      rcases List.mem_cons.1 hx with rfl | hx
      · exact hn
      · exact ih x hx
  induction h with
  | nil => simp
  | val _ _ _ ih => exact ih
  | io hc _ _ ih =>
    intro x hx
    rcases List.mem_append.1 hx with hx | hx
    · exact hio hc x hx
    · exact ih x hx
  | ptr _ _ _ ih => exact ih

end
end Go.Mw

/- What a call leaves of a state: rows and boxes turned, new rows. -/
namespace Go.Mw

section
variable {c : Cx} {nt : Nat} {M : Mp} {env : List V} {A : FS} {a : Act} {w : World}

/-- Rows and boxes that were there are turned; nothing else. -/
theorem Rel.io_step (hR : Rel c nt M env A a w) {w' : World} {ob' : Nat → Option SO} {ph' : Nat → List Nat} {X : Nat → Prop} (hmv : Moved w w' X) (hX : ∀ b, X b → c.mine b)
    (hsub : ∀ r b, b ∈ ph' r → b ∈ M.ph r)
    (hrow : ∀ r ver l app, ob' r = some (.row ver l app) → ∃ ver0 l0 app0, A.ob r = some (.row ver0 l0 app0) ∧ ver0 ≤ ver ∧ (ver0 = ver → l = l0 ∧ app = app0 ∧ ph' r = M.ph r ∧ ∀ b ∈ M.ph r, ¬ X b) ∧
      (ver0 < ver → RowOk c ⟨M.hd, ph', M.be⟩ env w' r l app))
    (hbox : ∀ id cells, ob' id = some (.box cells) → ∃ cells0, A.ob id = some (.box cells0) ∧ ((cells = cells0 ∧ ¬ X (M.be id)) ∨ BoxOk c ⟨M.hd, ph', M.be⟩ env w' ob' id cells)) :
    Rel c nt ⟨M.hd, ph', M.be⟩ env ⟨A.sl, ob'⟩ a w' := by
  have E1 : Ext c (fun _ => False) M A.ob w ⟨M.hd, ph', M.be⟩ ob' w' := by
    refine ⟨fun r ver l app _ ho => ?_, fun id cells _ ho => ?_, fun b hb hm => hmv.block b hb fun h => hm (hX b h)⟩
    · obtain ⟨v0, l0, a0, h1, h2, h3, _⟩ := hrow r ver l app ho
      refine ⟨v0, l0, a0, h1, rfl, h2, fun e => ?_⟩
      obtain ⟨e1, _, e2, e3⟩ := h3 e
      exact ⟨e1, fun b hb hlt => ⟨by simp only; rw [e2]; exact hb, hmv.block b hlt (e3 b hb)⟩⟩
    · obtain ⟨c0, h1, _⟩ := hbox id cells ho
      exact ⟨⟨c0, h1⟩, rfl⟩
  refine ⟨hR.size, hR.defs, ?_, ?_, ?_, ?_, ?_, ?_, hR.keep.moved hmv hX⟩
  · intro s gs sv hs
    obtain ⟨h1, h2, h3⟩ := hR.slots s gs sv hs
    exact ⟨h1, fun hg => RelSV.ext E1 (fun _ _ h => h) (h2 hg), h3⟩
  · intro r ver l app ho
    obtain ⟨v0, l0, a0, h1, h2, h3, h4⟩ := hrow r ver l app ho
    rcases Nat.lt_or_eq_of_le h2 with h | h
    · exact h4 h
    · obtain ⟨rfl, rfl, e2, e3⟩ := h3 h
      exact (hR.rows _ _ _ _ h1).keep rfl e2 hmv.size fun b hb => hmv.block b ((hR.rows _ _ _ _ h1).2.1 b hb).2 (e3 b hb)
  · intro id cells ho
    obtain ⟨c0, h1, h2⟩ := hbox id cells ho
    rcases h2 with ⟨rfl, h3⟩ | h2
    · exact (hR.boxes _ _ h1).keep E1 rfl (hmv.block _ (hR.be_lt h1) h3) (fun _ _ h => h)
    · exact h2
  · intro i j x y h1 h2 hij
    obtain ⟨x0, g1, _⟩ := hbox i x h1
    obtain ⟨y0, g2, _⟩ := hbox j y h2
    exact hR.dBB _ _ _ _ g1 g2 hij
  · intro i j vi li ai vj lj aj h1 h2 hij b hb hbj
    obtain ⟨_, _, _, g1, _⟩ := hrow _ _ _ _ h1
    obtain ⟨_, _, _, g2, _⟩ := hrow _ _ _ _ h2
    exact hR.dRR _ _ _ _ _ _ _ _ g1 g2 hij b (hsub i b hb) (hsub j b hbj)
  · intro i j x vj lj aj h1 h2 hb
    obtain ⟨x0, g1, _⟩ := hbox i x h1
    obtain ⟨_, _, _, g2, _⟩ := hrow _ _ _ _ h2
    exact hR.dBR _ _ _ _ _ _ g1 g2 (hsub j _ hb)

/-- Nothing that the state knows of lies in these blocks. -/
def Apart (M : Mp) (ob : Nat → Option SO) (S : List Nat) : Prop :=
  ∀ b ∈ S, (∀ r ver l app, ob r = some (.row ver l app) → b ∉ M.ph r) ∧ ∀ id cells, ob id = some (.box cells) → b ≠ M.be id

/-- A row that lies in memory already is taken in. -/
theorem Rel.add_row (hR : Rel c nt M env A a w) {id : Nat} (hf : Fresh A (· = id)) {v : Value} {l : Lf} {S : List Nat} (hrep : Rep w [v] [l.ev env] S) (hn : S.Nodup) (hS : ∀ b ∈ S, c.w0.heap.size ≤ b ∧ Wr w b) (ho : OwnHd w v (l.ev env))
    (hap : Apart M A.ob S) : Rel c nt ⟨fun i => if i = id then v else M.hd i, fun i => if i = id then S else M.ph i, M.be⟩ env ⟨A.sl, fun i => if i = id then some (.row 0 l true) else A.ob i⟩ a w ∧
      Ext c (· = id) M A.ob w ⟨fun i => if i = id then v else M.hd i, fun i => if i = id then S else M.ph i, M.be⟩ (fun i => if i = id then some (.row 0 l true) else A.ob i) w := by
  have E1 : Ext c (· = id) M A.ob w ⟨fun i => if i = id then v else M.hd i, fun i => if i = id then S else M.ph i, M.be⟩ (fun i => if i = id then some (.row 0 l true) else A.ob i) w := by
    refine ⟨fun r ver l app hr h => ?_, fun i cells hi h => ?_, fun b _ _ => rfl⟩
    · rw [if_neg hr] at h
      exact ⟨ver, l, app, h, by simp [hr], Nat.le_refl _, fun _ => ⟨rfl, fun b hb _ => ⟨by simp [hr, hb], rfl⟩⟩⟩
    · rw [if_neg hi] at h
      exact ⟨⟨cells, h⟩, rfl⟩
  refine ⟨⟨hR.size, hR.defs, ?_, ?_, ?_, ?_, ?_, ?_, hR.keep⟩, E1⟩
  · intro s gs sv hs
    obtain ⟨h1, h2, h3⟩ := hR.slots s gs sv hs
    exact ⟨h1, fun hg => RelSV.ext E1 (hf.1 s gs sv hs) (h2 hg), h3⟩
  · intro r ver l' app h
    simp only at h
    split at h
    · rename_i e
      subst e
      simp only [Option.some.injEq, SO.row.injEq] at h
      obtain ⟨rfl, rfl, rfl⟩ := h
      refine ⟨⟨S, by simpa using hrep, hn, fun b hb => ⟨by simpa using hb, (hS b hb).2⟩⟩, ?_, fun _ => ⟨by simpa using ho, fun b hb => (hS b (by simpa using hb)).1⟩, fun h => by cases h⟩
      intro b hb
      have hb' : b ∈ S := by simpa using hb
      exact ⟨.inl (hS b hb').1, hrep.lt b hb'⟩
    · rename_i e
      exact (hR.rows _ _ _ _ h).keep (by simp [e]) (by simp [e]) (Nat.le_refl _) fun _ _ => rfl
  · intro i cells h
    have h' := h
    simp only at h'
    split at h'
    · cases h'
    · exact (hR.boxes _ _ h').keep E1 rfl rfl (hf.2.1 _ _ h')
  · intro i j x y h1 h2 hij
    simp only at h1 h2
    split at h1
    · cases h1
    split at h2
    · cases h2
    exact hR.dBB _ _ _ _ h1 h2 hij
  · intro i j vi li ai vj lj aj h1 h2 hij b hb
    simp only at h1 h2 hb
    split at h1
    · rename_i hi
      subst hi
      rw [if_pos rfl] at hb
      rw [if_neg (Ne.symm hij)] at h2
      simp only [if_neg (Ne.symm hij)]
      exact (hap b hb).1 _ _ _ _ h2
    · rename_i hi
      rw [if_neg hi] at hb
      split at h2
      · rename_i hj
        subst hj
        simp only [if_true]
        exact fun hbS => (hap b hbS).1 _ _ _ _ h1 hb
      · rename_i hj
        simp only [if_neg hj]
        exact hR.dRR _ _ _ _ _ _ _ _ h1 h2 hij b hb
  · intro i j x vj lj aj h1 h2
    simp only at h1 h2
    split at h1
    · cases h1
    split at h2
    · rename_i hj
      subst hj
      simp only [if_true]
      exact fun hb => (hap _ hb).2 _ _ h1 rfl
    · rename_i hj
      simp only [if_neg hj]
      exact hR.dBR _ _ _ _ _ _ h1 h2

theorem Fresh.mono {A : FS} {p q : Nat → Prop} (h : Fresh A p) (hpq : ∀ x, q x → p x) : Fresh A q :=
  ⟨fun s gs sv hs x hx hq => h.1 s gs sv hs x hx (hpq x hq), fun id cells hc x hx hq => h.2.1 id cells hc x hx (hpq x hq), fun x hx => h.2.2 x (hpq x hx)⟩

/-- The cells of a result are taken in, one row after the other. -/
theorem add_cells : ∀ {ks : List AK} {us : List Value} {ds : List V} {S : List Nat} {M : Mp} {A : FS} {fid j : Nat}, Rel c nt M env A a w → ResC w ks us ds S → (∀ i, i < ks.length → env[j + i]? = ds[i]?) →
    Fresh A (fun x => fid + j ≤ x ∧ x < fid + j + ks.length) → S.Nodup → (∀ b ∈ S, c.w0.heap.size ≤ b ∧ Wr w b) → Apart M A.ob S →
    ∃ M', Rel c nt M' env ⟨A.sl, upOb A.ob (resCells fid j ks).2⟩ a w ∧ RelAts c M' env w (upOb A.ob (resCells fid j ks).2) (resCells fid j ks).1 us ∧
      Ext c (fun x => fid + j ≤ x ∧ x < fid + j + ks.length) M A.ob w M' (upOb A.ob (resCells fid j ks).2) w ∧ (∀ T, Apart M A.ob T → (∀ b ∈ T, b ∉ S) → Apart M' (upOb A.ob (resCells fid j ks).2) T) ∧
      (∀ x, ¬ (fid + j ≤ x ∧ x < fid + j + ks.length) → upOb A.ob (resCells fid j ks).2 x = A.ob x) ∧ (∀ x, atsMen (resCells fid j ks).1 x → fid + j ≤ x ∧ x < fid + j + ks.length) ∧
      (∀ id cells, upOb A.ob (resCells fid j ks).2 id = some (.box cells) → A.ob id = some (.box cells))
  | [], us, ds, S, M, A, fid, j, hR, hc, _, _, _, _, _ => by
    cases hc
    refine ⟨M, hR, trivial, ⟨fun r ver l app _ h => ⟨ver, l, app, h, rfl, Nat.le_refl _, fun _ => ⟨rfl, fun b hb _ => ⟨hb, rfl⟩⟩⟩, fun id cells _ h => ⟨⟨cells, h⟩, rfl⟩, fun _ _ _ => rfl⟩, fun T hT _ => hT, fun x _ => rfl, ?_, fun _ _ h => h⟩
    rintro x ⟨b, hb, _⟩
    simp [resCells] at hb
  | .sc :: ks, us, ds, S, M, A, fid, j, hR, hc, he, hf, hn, hS, hap => by
    cases hc with
    | sc h t =>
      rename_i u d us ds
      have hrange : ∀ x, (fid + (j + 1) ≤ x ∧ x < fid + (j + 1) + ks.length) → (fid + j ≤ x ∧ x < fid + j + (AK.sc :: ks).length) := fun x hx => by simp only [List.length_cons]; omega
      obtain ⟨M', h1, h2, h3, h4, h5, h6, h7⟩ := add_cells (fid := fid) (j := j + 1) hR t (fun i hi => by
        have := he (i + 1) (by simp; omega)
        simp only [List.getElem?_cons_succ] at this
        rw [show j + 1 + i = j + (i + 1) by omega]; exact this) (hf.mono hrange) hn hS hap
      have e0 : (Lf.v j).ev env = d := by
        have := he 0 (by simp)
        simp only [Nat.add_zero, List.getElem?_cons_zero] at this
        simp [Lf.ev, this]
      refine ⟨M', h1, ⟨⟨h.oneCell, ?_⟩, h2⟩, ⟨fun r ver l app hr => h3.row r ver l app fun hx => hr (hrange r hx), fun id cells hi => h3.box id cells fun hx => hi (hrange id hx), h3.ro⟩, h4, fun x hx => h5 x fun h => hx (hrange x h), ?_, h7⟩
      · show Rep w [u] [(Lf.v j).ev env] []
        rw [e0]; exact h
      · rintro x ⟨b, hb, hx⟩
        simp only [resCells, List.mem_cons] at hb
        rcases hb with rfl | hb
        · exact hx.elim
        · exact hrange x (h6 x ⟨b, hb, hx⟩)
  | .sl js :: ks, us, ds, S, M, A, fid, j, hR, hc, he, hf, hn, hS, hap => by
    cases hc with
    | sl h ho t =>
      rename_i u d us ds S1 S2
      rw [List.nodup_append] at hn
      have e0 : (Lf.v j).ev env = d := by
        have := he 0 (by simp)
        simp only [Nat.add_zero, List.getElem?_cons_zero] at this
        simp [Lf.ev, this]
      have hf0 : Fresh A (· = fid + j) := hf.mono fun x hx => by simp only [List.length_cons]; omega
      obtain ⟨g1, g2⟩ := hR.add_row hf0 (v := u) (l := .v j) (S := S1) (by rw [e0]; exact h) hn.1 (fun b hb => hS b (by simp [hb])) (by rw [e0]; exact ho) (fun b hb => hap b (by simp [hb]))
      have hrange : ∀ x, (fid + (j + 1) ≤ x ∧ x < fid + (j + 1) + ks.length) → (fid + j ≤ x ∧ x < fid + j + (AK.sl js :: ks).length) := fun x hx => by simp only [List.length_cons]; omega
      have hob : ∀ x, x ≠ fid + j → (fun i => if i = fid + j then some (SO.row 0 (.v j) true) else A.ob i) x = A.ob x := fun x hx => by simp [hx]
      have hf1 : Fresh ⟨A.sl, fun i => if i = fid + j then some (SO.row 0 (.v j) true) else A.ob i⟩ (fun x => fid + (j + 1) ≤ x ∧ x < fid + (j + 1) + ks.length) := by
        refine ⟨fun s gs sv hs x hx hq => hf.1 s gs sv hs x hx (hrange x hq), fun id cells hc x hx hq => ?_, fun x hx => ?_⟩
        · simp only at hc
          split at hc
          · cases hc
          · exact hf.2.1 id cells hc x hx (hrange x hq)
        · simp only
          rw [if_neg (by omega)]
          exact hf.2.2 x (hrange x hx)
      obtain ⟨M', h1, h2, h3, h4, h5, h6, h7⟩ := add_cells (fid := fid) (j := j + 1) g1 t (fun i hi => by
        have := he (i + 1) (by simp; omega)
        simp only [List.getElem?_cons_succ] at this
        rw [show j + 1 + i = j + (i + 1) by omega]; exact this) hf1 hn.2.1 (fun b hb => hS b (by simp [hb])) (by
          intro b hb
          refine ⟨fun r ver l app h => ?_, fun id cells h => ?_⟩
          · simp only at h ⊢
            split at h
            · rename_i e
              simp only [e, if_true]
              exact fun hb1 => hn.2.2 b hb1 b hb rfl
            · rename_i e
              simp only [e, if_false]
              exact (hap b (by simp [hb])).1 _ _ _ _ h
          · simp only at h ⊢
            split at h
            · cases h
            · exact (hap b (by simp [hb])).2 _ _ h)
      refine ⟨M', h1, ⟨⟨h.oneCell, ?_⟩, h2⟩, ?_, ?_, ?_, ?_, ?_⟩
      · intro ver l app hrow
        obtain ⟨v0, l0, a0, q1, q2, _⟩ := h3.row (fid + j) ver l app (by omega) hrow
        rw [q2]; simp
      · refine ⟨fun r ver l app hr hrow => ?_, fun id cells hi hbx => ?_, fun b hb hm => rfl⟩
        · obtain ⟨v0, l0, a0, q1, q2, q3, q4⟩ := h3.row r ver l app (fun hx => hr (hrange r hx)) hrow
          have hne : r ≠ fid + j := fun e => hr (by simp only [List.length_cons]; omega)
          simp only [hne, if_false] at q1 q2 q4
          exact ⟨v0, l0, a0, q1, q2, q3, fun e => ⟨(q4 e).1, fun b hb hlt => ⟨((q4 e).2 b hb hlt).1, rfl⟩⟩⟩
        · obtain ⟨⟨c0, q1⟩, q2⟩ := h3.box id cells (fun hx => hi (hrange id hx)) hbx
          have hne : id ≠ fid + j := fun e => hi (by simp only [List.length_cons]; omega)
          simp only [hne, if_false] at q1
          exact ⟨⟨c0, q1⟩, q2⟩
      · intro T hT hTS
        refine h4 T ?_ (fun b hb hb2 => hTS b hb (by simp [hb2]))
        intro b hb
        refine ⟨fun r ver l app h => ?_, fun id cells h => ?_⟩
        · simp only at h ⊢
          split at h
          · rename_i e
            simp only [e, if_true]
            exact fun hb1 => hTS b hb (by simp [hb1])
          · rename_i e
            simp only [e, if_false]
            exact (hT b hb).1 _ _ _ _ h
        · simp only at h ⊢
          split at h
          · cases h
          · exact (hT b hb).2 _ _ h
      · intro x hx
        have := h5 x (fun h => hx (hrange x h))
        simp only [resCells, upOb]
        rw [this]
        simp only
        rw [if_neg (fun e => hx (by simp only [List.length_cons]; omega))]
      · rintro x ⟨b, hb, hx⟩
        simp only [resCells, List.mem_cons] at hb
        rcases hb with rfl | hb
        · have : x = fid + j := hx
          simp only [List.length_cons]; omega
        · exact hrange x (h6 x ⟨b, hb, hx⟩)
      · intro id cells h
        have := h7 id cells h
        simp only at this
        split at this
        · cases this
        · exact this

end
end Go.Mw

/- The call of a function whose contract is known, as a step. -/
namespace Go.Mw

theorem resSCs_end (fid : Nat) : ∀ (rs : List (Bool × List AK)) (j : Nat), (resSCs fid j rs).2.2 = j + resLen rs
  | [], j => by simp [resSCs, resLen]
  | (g, ks) :: rs, j => by
    simp only [resSCs]
    rw [resSCs_end fid rs (j + ks.length)]
    simp [resLen]; omega

section
variable {c : Cx} {nt : Nat} {env : List V} {a : Act} {w : World}

theorem ResC.length {w : World} {ks : List AK} {us : List Value} {ds : List V} {S : List Nat} (h : ResC w ks us ds S) : ks.length = ds.length := by
  induction h with
  | nil => rfl
  | sc _ _ ih => simp [ih]
  | sl _ _ _ ih => simp [ih]

theorem add_res : ∀ {rs : List (Bool × List AK)} {vs : List Value} {ds : List V} {S : List Nat} {M : Mp} {A : FS} {fid j : Nat}, Rel c nt M env A a w → ResR w rs vs ds S → (∀ i, i < resLen rs → env[j + i]? = ds[i]?) →
    Fresh A (fun x => fid + j ≤ x ∧ x < fid + j + resLen rs) → S.Nodup → (∀ b ∈ S, c.w0.heap.size ≤ b ∧ Wr w b) → Apart M A.ob S →
    ∃ M', Rel c nt M' env ⟨A.sl, upOb A.ob (resSCs fid j rs).2.1⟩ a w ∧ RelSCs c M' env w (upOb A.ob (resSCs fid j rs).2.1) (resSCs fid j rs).1 vs ∧
      Ext c (fun x => fid + j ≤ x ∧ x < fid + j + resLen rs) M A.ob w M' (upOb A.ob (resSCs fid j rs).2.1) w
  | [], vs, ds, S, M, A, fid, j, hR, hc, _, _, _, _, _ => by
    cases hc
    exact ⟨M, hR, trivial, ⟨fun r ver l app _ h => ⟨ver, l, app, h, rfl, Nat.le_refl _, fun _ => ⟨rfl, fun b hb _ => ⟨hb, rfl⟩⟩⟩, fun id cells _ h => ⟨⟨cells, h⟩, rfl⟩, fun _ _ _ => rfl⟩⟩
  | (g, ks) :: rs, vs, ds, S, M, A, fid, j, hR, hc, he, hf, hn, hS, hap => by
    cases hc with
    | cons h hp t =>
      rename_i us d1 d2 S1 S2 v vs
      rw [List.nodup_append] at hn
      have hl := h.length
      have hlen : resLen ((g, ks) :: rs) = ks.length + resLen rs := by simp [resLen]
      obtain ⟨M1, h1, h2, h3, h4, h5, h6, h7⟩ := add_cells (fid := fid) (j := j) hR h (fun i hi => by
        have := he i (by omega)
        rw [this, List.getElem?_append_left (by omega)]) (hf.mono fun x hx => by omega) hn.1 (fun b hb => hS b (by simp [hb])) (fun b hb => hap b (by simp [hb]))
      have hf1 : Fresh ⟨A.sl, upOb A.ob (resCells fid j ks).2⟩ (fun x => fid + (j + ks.length) ≤ x ∧ x < fid + (j + ks.length) + resLen rs) := by
        refine ⟨fun s gs sv hs x hx hq => hf.1 s gs sv hs x hx (by omega), fun id cells hc x hx hq => ?_, fun x hx => ?_⟩
        · exact hf.2.1 id cells (h7 id cells hc) x hx (by omega)
        · simp only
          rw [h5 x (by omega)]
          exact hf.2.2 x (by omega)
      obtain ⟨M2, g1, g2, g3⟩ := add_res (fid := fid) (j := j + ks.length) h1 t (fun i hi => by
        have := he (ks.length + i) (by omega)
        rw [List.getElem?_append_right (by omega), show ks.length + i - d1.length = i by omega] at this
        rw [show j + ks.length + i = j + (ks.length + i) by omega]; exact this) hf1 hn.2.1 (fun b hb => hS b (by simp [hb])) (h4 S2 (fun b hb => hap b (by simp [hb])) (fun b hb h => hn.2.2 b h b hb rfl))
      simp only [resSCs]
      rw [upOb_append]
      refine ⟨M2, g1, ⟨⟨us, RelAts.ext g3 (fun x hx hq => by have := h6 x hx; omega) h2, hp⟩, g2⟩, ?_⟩
      refine ⟨fun r ver l app hr hrow => ?_, fun id cells hi hbx => ?_, fun _ _ _ => rfl⟩
      · obtain ⟨v1, l1, a1, q1, q2, q3, q4⟩ := g3.row r ver l app (fun hx => hr (by omega)) hrow
        obtain ⟨v0, l0, a0, p1, p2, p3, p4⟩ := h3.row r v1 l1 a1 (fun hx => hr (by omega)) q1
        refine ⟨v0, l0, a0, p1, q2.trans p2, by omega, fun e => ?_⟩
        obtain ⟨e1, e2⟩ := q4 (by omega)
        obtain ⟨e3, e4⟩ := p4 (by omega)
        exact ⟨e1.trans e3, fun b hb hlt => ⟨(e2 b (e4 b hb hlt).1 hlt).1, rfl⟩⟩
      · obtain ⟨⟨c1, q1⟩, q2⟩ := g3.box id cells (fun hx => hi (by omega)) hbx
        obtain ⟨⟨c0, p1⟩, p2⟩ := h3.box id c1 (fun hx => hi (by omega)) q1
        exact ⟨⟨c0, p1⟩, q2.trans p2⟩

end
end Go.Mw

/- The call of a function whose contract is known, as a step: rows and boxes behind it; the whole. -/
namespace Go.Mw

section
variable {c : Cx} {nt : Nat} {M : Mp} {env : List V} {A : FS} {a : Act} {w : World}

theorem upOb_rowUps_ne (ob0 : Nat → Option SO) : ∀ (rs : List Nat) (j : Nat) (ob : Nat → Option SO) (r : Nat), r ∉ rs → upOb ob (rowUps ob0 j rs) r = ob r
  | [], _, _, _, _ => rfl
  | q :: rs, j, ob, r, h => by
    simp only [List.mem_cons, not_or] at h
    simp only [rowUps]
    rw [upOb_append, upOb_rowUps_ne ob0 rs (j + 1) _ r h.2]
    split
    · simp [upOb, h.1]
    · rfl

theorem rows_post {w' : World} {rl : List Lf} :  ∀ {rs : List Nat} {rows : List (Value × List Nat)} {ds : List V} {j : Nat}, RowsM M A.ob rs rows → PostRows w' rows ds → rs.Nodup → mapO (rowLf A.ob) rs = some rl → ksAll (rl.map (Lf.ev env)) ds = true → (∀ i, i < rs.length → env[j + i]? = ds[i]?) →
    rs.length = ds.length ∧ ∃ ph' : Nat → List Nat, (∀ r, r ∉ rs → ph' r = M.ph r) ∧ (∀ r b, b ∈ ph' r → b ∈ M.ph r) ∧
      ∀ ob r, r ∈ rs → ∃ ver l0 app k, A.ob r = some (.row ver l0 app) ∧ upOb ob (rowUps A.ob j rs) r = some (.row (ver + 1) (.v k) app) ∧ (∀ ks es, l0.ev env = .list ks es → ∃ es', (Lf.v k).ev env = .list ks es') ∧ Rep w' [M.hd r] [(Lf.v k).ev env] (ph' r) ∧ (ph' r).Nodup ∧ ∀ b ∈ ph' r, Wr w' b
  | [], rows, ds, j, h, hp, _, _, _, _ => by
    cases h
    cases hp
    exact ⟨rfl, M.ph, fun _ _ => rfl, fun _ _ h => h, by simp⟩
  | r :: rs, rows, ds, j, h, hp, hn, hrl, hks, he => by
    simp only [mapO] at hrl
    split at hrl
    case h_2 => cases hrl
    rename_i lr rl' hlr hrl'
    simp only [Option.some.injEq] at hrl
    subst hrl
    cases h with
    | cons h1 h2 t =>
      cases hp with
      | cons q1 q2 q3 q4 =>
        rename_i S rows S' d ds
        rw [List.nodup_cons] at hn
        have hks2 : ksAll (rl'.map (Lf.ev env)) ds = true ∧ ∀ ks es, lr.ev env = .list ks es → ∃ es', d = .list ks es' := by
          simp only [List.map_cons] at hks
          generalize lr.ev env = x at hks ⊢
          cases x with
          | list a xs =>
            cases d with
            | list b ys =>
              simp only [ksAll, Bool.and_eq_true] at hks
              refine ⟨hks.2, fun ks es e => ?_⟩
              simp only [V.list.injEq] at e
              obtain ⟨rfl, rfl⟩ := e
              exact ⟨ys, by rw [AK.eqs_eq hks.1]⟩
            | _ => simp [ksAll] at hks
          | _ => simp [ksAll] at hks
        obtain ⟨e1, ph', p1, p2, p3⟩ := rows_post (j := j + 1) t q4 hn.2 hrl' hks2.1 (fun i hi => by
          have := he (i + 1) (by simp; omega)
          simp only [List.getElem?_cons_succ] at this
          rw [show j + 1 + i = j + (i + 1) by omega]; exact this)
        have e0 : (Lf.v j).ev env = d := by
          have := he 0 (by simp)
          simp only [Nat.add_zero, List.getElem?_cons_zero] at this
          simp [Lf.ev, this]
        obtain ⟨ver, l0, app, h0⟩ := h1
        refine ⟨by simp [e1], fun x => if x = r then S' else ph' x, fun x hx => ?_, fun x b hb => ?_, fun ob x hx => ?_⟩
        · simp only [List.mem_cons, not_or] at hx
          simp [hx.1, p1 x hx.2]
        · simp only at hb
          split at hb
          · rename_i e; rw [e]; exact h2 b (q3 b hb).1
          · exact p2 x b hb
        · by_cases e : x = r
          · subst e
            refine ⟨ver, l0, app, j, h0, ?_, fun ks es e => by
              have hl : lr = l0 := by simp only [rowLf, h0, Option.some.injEq] at hlr; exact hlr.symm
              rw [e0]; exact hks2.2 ks es (by rw [hl]; exact e), by simp only [if_true]; rw [e0]; exact q1, by simpa using q2, fun b hb => (q3 b (by simpa using hb)).2⟩
            simp only [rowUps, h0]
            rw [upOb_append, upOb_rowUps_ne A.ob rs (j + 1) _ x hn.1]
            simp [upOb]
          · simp only [List.mem_cons] at hx
            have hx' := hx.resolve_left e
            simp only [e, if_false]
            simp only [rowUps]
            rw [upOb_append]
            exact p3 _ x hx'

theorem boxC_rel {c : Cx} {M M' : Mp} {env : List V} {w w' : World} {ob ob' : Nat → Option SO} (E : Ext c (fun _ => False) M ob w M' ob' w') : ∀ {ks : List AK} {us us' : List Value} {ds : List V} {cells : List At} {j : Nat}, BoxC w' ks us us' ds → RelAts c M env w ob cells us →
    (∀ i, i < ds.length → env[j + i]? = ds[i]?) → RelAts c M' env w' ob' (boxCells j ks cells).1 us' ∧ (boxCells j ks cells).2 = j + ds.length
  | [], us, us', ds, cells, j, h, hr, _ => by
    cases h
    cases cells with
    | nil => exact ⟨trivial, rfl⟩
    | cons => exact hr.elim
  | k :: ks, us, us', ds, cells, j, h, hr, he => by
    cases h with
    | sc h t =>
      cases cells with
      | nil => exact hr.elim
      | cons at0 cells =>
        rename_i u u' d us us' ds
        obtain ⟨h1, h2⟩ := boxC_rel E (j := j + 1) t hr.2 (fun i hi => by
          have := he (i + 1) (by simp; omega)
          simp only [List.getElem?_cons_succ] at this
          rw [show j + 1 + i = j + (i + 1) by omega]; exact this)
        have e0 : (Lf.v j).ev env = d := by
          have := he 0 (by simp)
          simp only [Nat.add_zero, List.getElem?_cons_zero] at this
          simp [Lf.ev, this]
        refine ⟨⟨⟨h.oneCell, ?_⟩, h1⟩, by simp only [boxCells, h2, List.length_cons]; omega⟩
        show Rep w' [u'] [(Lf.v j).ev env] []
        rw [e0]; exact h
    | sl t =>
      cases cells with
      | nil => exact hr.elim
      | cons at0 cells =>
        obtain ⟨h1, h2⟩ := boxC_rel E (j := j) t hr.2 he
        exact ⟨⟨RelAt.ext E (fun _ _ h => h) hr.1, h1⟩, by simp only [boxCells, h2]⟩

theorem upOb_boxUps_ne : ∀ (xs : List (Nat × List AK × List At)) (j : Nat) (ob : Nat → Option SO) (i : Nat), i ∉ xs.map (·.1) → upOb ob (boxUps j xs).1 i = ob i
  | [], _, _, _, _ => rfl
  | (q, ks, cells) :: xs, j, ob, i, h => by
    simp only [List.map_cons, List.mem_cons, not_or] at h
    simp only [boxUps, upOb]
    rw [upOb_boxUps_ne xs _ _ i h.2]
    simp [h.1]

theorem upOb_boxUps_box : ∀ (xs : List (Nat × List AK × List At)) (j : Nat) (ob : Nat → Option SO) (i : Nat), i ∈ xs.map (·.1) → ∃ cells, upOb ob (boxUps j xs).1 i = some (.box cells)
  | [], _, _, _, h => by simp at h
  | (q, ks, cells) :: xs, j, ob, i, h => by
    simp only [boxUps, upOb]
    by_cases e : i ∈ xs.map (·.1)
    · exact upOb_boxUps_box xs _ _ i e
    · rw [upOb_boxUps_ne xs _ _ i e]
      simp only [List.map_cons, List.mem_cons] at h
      exact ⟨_, if_pos (h.resolve_right e)⟩

theorem boxC_tie {w' : World} {ob : Nat → Option SO} : ∀ {ks : List AK} {us us' : List Value} {ds : List V} {cells : List At} {j : Nat} {l : List Lf}, BoxC w' ks us us' ds → leaves ob ks cells = some l →
    ∀ (i : Nat) (x : At), cells[i]? = some x → x.isSc = false → us'[i]? = us[i]? ∧ (boxCells j ks cells).1[i]? = some x
  | [], us, us', ds, cells, j, l, h, hl, i, x, hx, _ => by
    cases cells with
    | nil => simp at hx
    | cons => simp [leaves] at hl
  | k :: ks, us, us', ds, cells, j, l, h, hl, i, x, hx, hsc => by
    cases cells with
    | nil => simp at hx
    | cons c0 cells =>
      simp only [leaves] at hl
      split at hl <;> simp only [Option.some.injEq, reduceCtorEq] at hl
      rename_i l0 ls h1 h2
      cases h with
      | sc hh t =>
        cases i with
        | zero =>
          simp only [List.getElem?_cons_zero, Option.some.injEq] at hx
          subst hx
          cases c0 <;> simp_all [At.leaf, At.scl, At.isSc]
        | succ i =>
          simp only [List.getElem?_cons_succ, boxCells] at hx ⊢
          exact boxC_tie t h2 i x hx hsc
      | sl t =>
        cases i with
        | zero =>
          simp only [List.getElem?_cons_zero, Option.some.injEq, boxCells] at hx ⊢
          simpa using hx
        | succ i =>
          simp only [List.getElem?_cons_succ, boxCells] at hx ⊢
          exact boxC_tie t h2 i x hx hsc

theorem boxes_post {M' : Mp} {w' : World} {ob' : Nat → Option SO} (E : Ext c (fun _ => False) M A.ob w M' ob' w') (hbe : M'.be = M.be) (hm : ∀ id cells, A.ob id = some (.box cells) → BoxOk c M env w A.ob id cells) : ∀ {xs : List (Nat × List AK × List At)} {boxes : List Bx} {ds : List V} {j : Nat},
    BoxM c M env w A.ob xs boxes → PostBoxes w' boxes ds → (xs.map (·.1)).Nodup → (∀ i, i < ds.length → env[j + i]? = ds[i]?) →
    (boxUps j xs).2 = j + ds.length ∧ ∀ ob i cells, i ∈ xs.map (·.1) → upOb ob (boxUps j xs).1 i = some (.box cells) → BoxOk c M' env w' ob' i cells
  | [], boxes, ds, j, h, hp, _, _ => by
    cases h
    cases hp
    exact ⟨rfl, by simp⟩
  | (id, ks, cells0) :: xs, boxes, ds, j, h, hp, hn, he => by
    cases h with
    | cons h1 h2 hu hl t =>
      cases hp with
      | cons q1 q2 q3 =>
        rename_i us boxes us' F d1 d2
        simp only [List.map_cons, List.nodup_cons] at hn
        obtain ⟨r1, r2⟩ := boxC_rel E (j := j) q2 h2 (fun i hi => by
          have := he i (by simp; omega)
          rw [this, List.getElem?_append_left hi])
        obtain ⟨e1, e2⟩ := boxes_post E hbe hm (j := j + d1.length) t q3 hn.2 (fun i hi => by
          have := he (d1.length + i) (by simp; omega)
          rw [List.getElem?_append_right (by omega), show d1.length + i - d1.length = i by omega] at this
          rw [show j + d1.length + i = j + (d1.length + i) by omega]; exact this)
        have hj : (boxCells j ks cells0).2 = j + d1.length := r2
        refine ⟨by simp only [boxUps, hj, e1, List.length_append]; omega, fun ob i cells hi hbx => ?_⟩
        simp only [boxUps, upOb, hj] at hbx
        by_cases e : i ∈ xs.map (·.1)
        · exact e2 _ i cells e hbx
        · rw [upOb_boxUps_ne xs _ _ i e] at hbx
          simp only [List.map_cons, List.mem_cons] at hi
          have hii := hi.resolve_right e
          subst hii
          simp only [if_true, Option.some.injEq, SO.box.injEq] at hbx
          subst hbx
          obtain ⟨us0, E0, m1, _, m3, m4⟩ := hm _ _ h1
          obtain ⟨E1, hu⟩ := hu
          have heq : us0 = us := by
            rw [m1] at hu
            simp only [Option.some.injEq, Obj.cells.injEq] at hu
            simpa using hu.1
          subst heq
          obtain ⟨l, hl⟩ := hl
          refine ⟨us', F, by rw [hbe]; exact q1, r1, by rw [hbe]; exact m3, fun b t hp => ?_⟩
          rw [hbe]
          obtain ⟨g1, g2⟩ := m4 b t hp
          refine ⟨g1, fun k u hk => ?_⟩
          obtain ⟨g3, x, g4, g5⟩ := g2 k u hk
          obtain ⟨k1, k2⟩ := boxC_tie (j := j) q2 hl k x g4 g5
          exact ⟨by rw [k1]; exact g3, x, k2, g5⟩

theorem mapO_look_rel (hR : Rel c nt M env A a w) {gs : Gs} (hg : GH env gs) : ∀ {xs : List Operand} {ss : List SV}, mapO (look A.sl gs []) xs = some ss → RelVs c M env w A.ob ss (xs.map a.eval)
  | [], ss, h => by simp only [mapO, Option.some.injEq] at h; subst h; trivial
  | x :: xs, ss, h => by
    simp only [mapO] at h
    split at h <;> simp only [Option.some.injEq, reduceCtorEq] at h
    rename_i s ss' h1 h2
    subst h
    exact ⟨look_rel0 hR h1 hg, mapO_look_rel hR hg h2⟩

end

theorem ResR.vlen {w : World} {rs : List (Bool × List AK)} {vs : List Value} {ds : List V} {S : List Nat} (h : ResR w rs vs ds S) : rs.length = vs.length ∧ resLen rs = ds.length := by
  induction h with
  | nil => exact ⟨rfl, rfl⟩
  | @cons g ks rs us ds ds' S S' v vs hc _ _ ih =>
    refine ⟨by simp [ih.1], ?_⟩
    have := hc.length
    have h2 := ih.2
    simp only [resLen, List.map_cons, List.sum_cons, List.length_append] at h2 ⊢
    omega

theorem resSCs_length (fid : Nat) : ∀ (rs : List (Bool × List AK)) (j : Nat), (resSCs fid j rs).1.length = rs.length
  | [], _ => rfl
  | (_, _) :: rs, j => by simp [resSCs, resSCs_length fid rs]

theorem packRes_rel {c : Cx} {M : Mp} {env : List V} {w : World} {ob : Nat → Option SO} {cs : List SC} {vs : List Value} {v : Value} (h : RelSCs c M env w ob cs vs) (hl : cs.length = vs.length) (hv : retV vs v) : RelSV c M env w ob (packRes cs) v := by
  unfold retV at hv
  match cs, vs, hl, h with
  | [s], [u], _, h =>
    simp only [List.length_singleton, if_true, List.cons.injEq, and_true] at hv
    subst hv
    exact h.1
  | [], [], _, h =>
    simp only [List.length_nil, Nat.zero_ne_one, if_false] at hv
    exact ⟨[], hv, h⟩
  | s :: s' :: cs, u :: u' :: vs, _, h =>
    rw [if_neg (by simp)] at hv
    exact ⟨_, hv, h⟩

section
variable {P : Program} {sg : List (Nat × Sig)} {c : Cx} {nt : Nat} {M : Mp} {env : List V} {A : FS} {a : Act} {w : World} {o : Oper} {gs : Gs} {fid nv : Nat} {K : Act → World → Prop} {Q : Exit → Act → World → Prop} {out : Out}

theorem op_call (hsg : ∀ f s, sg.lookup f = some s → Contract P f s) (hR : Rel c nt M env A a w) (hg : GH env gs) (hd : ∀ d, o.dst = some d → d < nt) (hf : Fresh A (fun x => fid ≤ x ∧ x < fid + nv + out.outs + 1)) (hh : Holds env nv out)
    (hK : Kont c nt env gs A a o out K) {f : Nat} {args : Array Operand} {argTypes : Array TypeId} (ho : o.op = .call { callee := .value (.func f), args := args, argTypes := argTypes }) {xs : List SV} (h1 : mapO (look A.sl gs []) args.toList = some xs)
    (hc : coreCall P sg A.ob fid nv f xs = some out) : o.wp P a w K Q := by
  unfold coreCall at hc
  split at hc
  · rename_i s fn hs hfn
    split at hc
    · rename_i hbody
      simp only [Bool.and_eq_true, bne_iff_ne] at hbody
      split at hc
      · rename_i ar har
        split at hc
        · cases hc
        rename_i hro
        split at hc
        · cases hc
        rename_i rl hrl
        simp only [Option.some.injEq] at hc
        obtain ⟨ro, rows, boxes, a1, a2, a3, a4, a5, a6⟩ := coreArgs_rel hR har (mapO_look_rel hR hg h1)
        obtain ⟨outs, p1, p2, p3, pks⟩ : ∃ outs, s.F (ar.ls.map (Lf.ev env)) = some outs ∧ outs.length = out.outs ∧ (∀ j, j < out.outs → env[nv + j]? = outs[j]?) ∧ ksAll (rl.map (Lf.ev env)) (outs.drop (resLen s.rs)) = true := by
          rw [← hc] at hh ⊢
          obtain ⟨vs, g1, g2, g3⟩ := hh
          simp only [Prim.run, List.map_append, List.length_append, List.length_map] at g1
          split at g1
          · rename_i h0
            have : rl = [] := List.eq_nil_of_length_eq_zero h0
            subst this
            exact ⟨vs, by simpa using g1, g2, g3, rfl⟩
          · split at g1
            · rename_i outs hF
              split at g1
              · rename_i hk
                simp only [Option.some.injEq] at g1
                subst g1
                rw [List.take_left' (by simp)] at hF
                rw [List.drop_left' (by simp)] at hk
                exact ⟨_, hF, g2, g3, hk⟩
              · cases g1
            · cases g1
        have hnod := io_nodup hR a2 a5 a1.rows_nodup a3 a6
        have hmine : ∀ b ∈ ioB rows boxes, c.mine b := by
          intro b hb
          rcases List.mem_append.1 hb with hb | hb
          · obtain ⟨q, _, h3, v1, l1, b1, h4⟩ := RowsM.blocks a2 b hb
            exact ((hR.rows _ _ _ _ h4).2.1 b h3).1
          · obtain ⟨x, _, h3, h4⟩ := BoxM.blocks a3 b hb
            obtain ⟨_, _, _, _, h5, _⟩ := hR.boxes _ _ h4
            rw [h3]; exact h5
        have hrodis : ∀ b ∈ ro, b ∉ ioB rows boxes := by
          intro b hb hio
          rcases a4 b hb with h | ⟨r, hr, h3, v0, l0, b0, h4⟩
          · exact h (hmine b hio)
          · rcases List.mem_append.1 hio with hb2 | hb2
            · obtain ⟨q, hq, h5, v1, l1, b1, h6⟩ := RowsM.blocks a2 b hb2
              have hne : r ≠ q := fun e => hro (List.any_eq_true.2 ⟨r, hr, by rw [e]; simpa using hq⟩)
              exact hR.dRR _ _ _ _ _ _ _ _ h4 h6 hne b h3 h5
            · obtain ⟨x, _, h5, h6⟩ := BoxM.blocks a3 b hb2
              exact hR.dBR _ _ _ _ _ _ h6 h4 (h5 ▸ h3)
        have hcall := hsg f s hs w (args.toList.map a.eval) _ outs ro rows boxes p1 a1 hnod hrodis
        have hrun : (execOp a.eval o).run P w = .ok (.enter f (args.toList.map a.eval).toArray) w := by
          have hargs : args.map a.eval = (args.toList.map a.eval).toArray := by apply Array.ext'; simp
          have hb : fn.body.isNone = false := by
            have := hbody.1
            cases hfb : fn.body <;> simp_all
          simp only [execOp, ho, resolve, invoke, Deferred.ofValue, Act.eval, Sem.run_bind, Sem.run_pure, Result.andThen_ok, callFunc, run_program, hfn]
          rw [← hargs]
          simp [hbody.2, hb]
        unfold Oper.wp
        rw [hrun]
        refine Calls.mono hcall ?_
        intro e w' hpost
        obtain ⟨⟨v, vs, d1, d2, d3, S, e1, rfl, e3, e4, e5, e6, e7, e8⟩, hmv⟩ := hpost
        obtain ⟨lv, lr⟩ := e4.vlen
        have hend := resSCs_end fid s.rs nv
        have henv : ∀ i, i < outs.length → env[nv + i]? = outs[i]? := fun i hi => p3 i (by omega)
        subst e1
        -- the rows
        have hks : ksAll (rl.map (Lf.ev env)) d2 = true := by
          have : ∀ {xs ys zs : List V}, ksAll xs (ys ++ zs) = true → xs.length = ys.length → ksAll xs ys = true := by
            intro xs
            induction xs with
            | nil => intros; simp [ksAll]
            | cons x xs ih =>
              intro ys zs h hl
              cases ys with
              | nil => simp at hl
              | cons y ys =>
                cases x <;> cases y <;> simp only [List.cons_append, ksAll, Bool.and_eq_true, Bool.false_eq_true] at h ⊢
                exact ⟨h.1, ih h.2 (by simpa using hl)⟩
          rw [lr, List.append_assoc, List.drop_left] at pks
          refine this pks ?_
          have hl2 : ar.rows.length = d2.length := by
            have : ∀ {rs : List Nat} {rows : List (Value × List Nat)} {ds : List V}, RowsM M A.ob rs rows → PostRows w' rows ds → rs.length = ds.length := by
              intro rs rows ds h
              induction h generalizing ds with
              | nil => intro h; cases h; rfl
              | cons _ _ _ ih => intro h; cases h with
                | cons _ _ _ t => simp [ih t]
            exact this a2 e7
          have : ∀ {rs : List Nat} {rl : List Lf}, mapO (rowLf A.ob) rs = some rl → rs.length = rl.length := by
            intro rs
            induction rs with
            | nil => intro rl h; simp only [mapO, Option.some.injEq] at h; subst h; rfl
            | cons r rs ih =>
              intro rl h
              simp only [mapO] at h
              split at h <;> simp only [Option.some.injEq, reduceCtorEq] at h
              rename_i h1 h2
              subst h
              simp [ih h2]
          rw [List.length_map, ← this hrl, hl2]
        obtain ⟨lrows, ph', r1, r2, r3⟩ := rows_post (env := env) (j := nv + resLen s.rs) a2 e7 a5 hrl hks (by
          have hl2 : ar.rows.length = d2.length := by
            have : ∀ {rs : List Nat} {rows : List (Value × List Nat)} {ds : List V}, RowsM M A.ob rs rows → PostRows w' rows ds → rs.length = ds.length := by
              intro rs rows ds h
              induction h generalizing ds with
              | nil => intro h; cases h; rfl
              | cons _ _ _ ih => intro h; cases h with
                | cons _ _ _ t => simp [ih t]
            exact this a2 e7
          intro i hi
          have := henv (d1.length + i) (by simp; omega)
          rw [List.append_assoc, List.getElem?_append_right (by omega), show d1.length + i - d1.length = i by omega, List.getElem?_append_left (by omega)] at this
          rw [lr, show nv + d1.length + i = nv + (d1.length + i) by omega]; exact this)
        let ob1 := upOb A.ob (rowUps A.ob (nv + resLen s.rs) ar.rows ++ (boxUps (nv + resLen s.rs + ar.rows.length) ar.boxes).1)
        have hdisj : ∀ r, r ∈ ar.rows → r ∉ ar.boxes.map (·.1) := by
          intro r hr hb
          obtain ⟨x, hx, hxe⟩ := List.mem_map.1 hb
          obtain ⟨_, _, _, _, g1, _⟩ := r3 A.ob r hr
          have : ∀ {xs : List (Nat × List AK × List At)} {boxes : List Bx}, BoxM c M env w A.ob xs boxes → ∀ x ∈ xs, A.ob x.1 = some (.box x.2.2) := by
            intro xs boxes h
            induction h with
            | nil => simp
            | cons h _ _ _ _ ih =>
              intro x hx
              rcases List.mem_cons.1 hx with rfl | hx
              · exact h
              · exact ih x hx
          have := this a3 x hx
          rw [hxe, g1] at this
          cases this
        have hbxA : ∀ i, i ∈ ar.boxes.map (·.1) → ∃ cells, A.ob i = some (.box cells) := by
          intro i hi
          obtain ⟨x, hx, hxe⟩ := List.mem_map.1 hi
          have : ∀ {xs : List (Nat × List AK × List At)} {boxes : List Bx}, BoxM c M env w A.ob xs boxes → ∀ x ∈ xs, A.ob x.1 = some (.box x.2.2) := by
            intro xs boxes h
            induction h with
            | nil => simp
            | cons h _ _ _ _ ih =>
              intro x hx
              rcases List.mem_cons.1 hx with rfl | hx
              · exact h
              · exact ih x hx
          exact ⟨_, hxe ▸ this a3 x hx⟩
        have hob1 : ∀ i, ob1 i = upOb (upOb A.ob (rowUps A.ob (nv + resLen s.rs) ar.rows)) (boxUps (nv + resLen s.rs + ar.rows.length) ar.boxes).1 i := fun i => by simp only [ob1, upOb_append]
        have hobR : ∀ r, r ∈ ar.rows → ∃ ver l0 app k, A.ob r = some (.row ver l0 app) ∧ ob1 r = some (.row (ver + 1) (.v k) app) ∧ (∀ ks es, l0.ev env = .list ks es → ∃ es', (Lf.v k).ev env = .list ks es') ∧ Rep w' [M.hd r] [(Lf.v k).ev env] (ph' r) ∧ (ph' r).Nodup ∧ ∀ b ∈ ph' r, Wr w' b := by
          intro r hr
          obtain ⟨ver, l0, app, k, g1, g2, g3⟩ := r3 A.ob r hr
          exact ⟨ver, l0, app, k, g1, by rw [hob1, upOb_boxUps_ne _ _ _ _ (hdisj r hr)]; exact g2, g3⟩
        have hobN : ∀ i, i ∉ ar.rows → i ∉ ar.boxes.map (·.1) → ob1 i = A.ob i := fun i h1 h2 => by rw [hob1, upOb_boxUps_ne _ _ _ _ h2, upOb_rowUps_ne _ _ _ _ _ h1]
        have hnotX : ∀ r ver l app, A.ob r = some (.row ver l app) → r ∉ ar.rows → ∀ b ∈ M.ph r, b ∉ ioB rows boxes := by
          intro r ver l app hr hnr b hb hio
          rcases List.mem_append.1 hio with h | h
          · obtain ⟨q, hq, h5, v1, l1, b1, h6⟩ := RowsM.blocks a2 b h
            exact hR.dRR _ _ _ _ _ _ _ _ hr h6 (fun e => hnr (e ▸ hq)) b hb h5
          · obtain ⟨x, _, h5, h6⟩ := BoxM.blocks a3 b h
            exact hR.dBR _ _ _ _ _ _ h6 hr (h5 ▸ hb)
        have hnotXB : ∀ i cells, A.ob i = some (.box cells) → i ∉ ar.boxes.map (·.1) → M.be i ∉ ioB rows boxes := by
          intro i cells hi hni hio
          rcases List.mem_append.1 hio with h | h
          · obtain ⟨q, hq, h5, v1, l1, b1, h6⟩ := RowsM.blocks a2 _ h
            exact hR.dBR _ _ _ _ _ _ hi h6 h5
          · obtain ⟨x, hx, h5, h6⟩ := BoxM.blocks a3 _ h
            exact hR.dBB _ _ _ _ hi h6 (fun e => hni (e ▸ List.mem_map.2 ⟨x, hx, rfl⟩)) h5
        have E1 : Ext c (fun _ => False) M A.ob w ⟨M.hd, ph', M.be⟩ ob1 w' := by
          refine ⟨fun r ver l app _ hrow => ?_, fun i cells _ hbx => ?_, fun b hb hm => hmv.block b hb fun h => hm (hmine b h)⟩
          · by_cases hr : r ∈ ar.rows
            · obtain ⟨v0, l0, a0, k, g1, g2, _⟩ := hobR r hr
              rw [g2] at hrow
              simp only [Option.some.injEq, SO.row.injEq] at hrow
              obtain ⟨rfl, _⟩ := hrow
              exact ⟨v0, l0, a0, g1, rfl, by omega, fun e => absurd e (by omega)⟩
            · by_cases hb : r ∈ ar.boxes.map (·.1)
              · obtain ⟨cl, hcl⟩ := upOb_boxUps_box ar.boxes (nv + resLen s.rs + ar.rows.length) (upOb A.ob (rowUps A.ob (nv + resLen s.rs) ar.rows)) r hb
                rw [hob1, hcl] at hrow; cases hrow
              · rw [hobN r hr hb] at hrow
                exact ⟨ver, l, app, hrow, rfl, Nat.le_refl _, fun _ => ⟨rfl, fun b hbm hlt => ⟨by simp only; rw [r1 r hr]; exact hbm, hmv.block b hlt (hnotX _ _ _ _ hrow hr b hbm)⟩⟩⟩
          · by_cases hb : i ∈ ar.boxes.map (·.1)
            · exact ⟨hbxA i hb, rfl⟩
            · by_cases hr : i ∈ ar.rows
              · obtain ⟨_, _, _, _, _, g2, _⟩ := hobR i hr
                rw [g2] at hbx; cases hbx
              · rw [hobN i hr hb] at hbx
                exact ⟨⟨cells, hbx⟩, rfl⟩
        obtain ⟨lbox, b2⟩ := boxes_post (env := env) E1 rfl (fun id cells h => hR.boxes _ _ h) (j := nv + resLen s.rs + ar.rows.length) a3 e8 a6 (by
          intro i hi
          have := henv (d1.length + d2.length + i) (by simp; omega)
          rw [List.getElem?_append_right (by simp), show d1.length + d2.length + i - (d1 ++ d2).length = i by simp] at this
          rw [lr, lrows, show nv + d1.length + d2.length + i = nv + (d1.length + d2.length + i) by omega]; exact this)
        have hR1 : Rel c nt ⟨M.hd, ph', M.be⟩ env ⟨A.sl, ob1⟩ a w' := by
          refine hR.io_step hmv hmine r2 (fun r ver l app hrow => ?_) (fun i cells hbx => ?_)
          · by_cases hr : r ∈ ar.rows
            · obtain ⟨v0, l0, a0, k, g1, g2, gk, g3, g4, g5⟩ := hobR r hr
              rw [g2] at hrow
              simp only [Option.some.injEq, SO.row.injEq] at hrow
              obtain ⟨rfl, rfl, rfl⟩ := hrow
              obtain ⟨_, _, o1, o2⟩ := hR.rows _ _ _ _ g1
              refine ⟨v0, l0, a0, g1, by omega, fun e => absurd e (by omega), fun _ => ⟨⟨ph' r, g3, g4, fun b hb => ⟨hb, g5 b hb⟩⟩, fun b hb => ?_, fun ha => ⟨?_, fun b hb => (o1 ha).2 b (r2 r b hb)⟩,
                fun ha v S hv => ⟨(o2 ha v S hv).1, fun b hb => (o2 ha v S hv).2 b (r2 r b hb)⟩⟩⟩
              rotate_left
              · rcases (o1 ha).1 with h | ⟨g, n, cap, ks, es, q1, q2, q3, q4⟩
                · exact .inl h
                · obtain ⟨es', hes⟩ := gk ks es q2
                  refine .inr ⟨g, n, cap, ks, es', q1, hes, fun hp => ?_, q4⟩
                  obtain ⟨cur, E, q3, q5⟩ := q3 hp
                  obtain ⟨cs', z1, z2⟩ := hmv.sz _ _ _ q3
                  exact ⟨cs', E, z1, by rw [z2]; exact q5⟩
              have := (hR.rows _ _ _ _ g1).2.1 b (r2 r b hb)
              exact ⟨this.1, Nat.lt_of_lt_of_le this.2 hmv.size⟩
            · by_cases hb : r ∈ ar.boxes.map (·.1)
              · obtain ⟨cl, hcl⟩ := upOb_boxUps_box ar.boxes (nv + resLen s.rs + ar.rows.length) (upOb A.ob (rowUps A.ob (nv + resLen s.rs) ar.rows)) r hb
                rw [hob1, hcl] at hrow; cases hrow
              · rw [hobN r hr hb] at hrow
                exact ⟨ver, l, app, hrow, Nat.le_refl _, fun _ => ⟨rfl, rfl, r1 r hr, hnotX _ _ _ _ hrow hr⟩, fun h => absurd h (Nat.lt_irrefl _)⟩
          · by_cases hb : i ∈ ar.boxes.map (·.1)
            · obtain ⟨c0, h0⟩ := hbxA i hb
              refine ⟨c0, h0, .inr ?_⟩
              rw [hob1] at hbx
              exact b2 _ i cells hb hbx
            · by_cases hr : i ∈ ar.rows
              · obtain ⟨_, _, _, _, _, g2, _⟩ := hobR i hr
                rw [g2] at hbx; cases hbx
              · rw [hobN i hr hb] at hbx
                exact ⟨cells, hbx, .inl ⟨rfl, hnotXB _ _ hbx hb⟩⟩
        -- the results
        have houts : out.outs = d1.length + d2.length + d3.length := by rw [← p2]; simp only [List.length_append]
        have hf2 : Fresh ⟨A.sl, ob1⟩ (fun x => fid + nv ≤ x ∧ x < fid + nv + resLen s.rs) := by
          have hin : ∀ x, (fid + nv ≤ x ∧ x < fid + nv + resLen s.rs) → fid ≤ x ∧ x < fid + nv + out.outs + 1 := fun x hx => by omega
          have hnone : ∀ x, (fid + nv ≤ x ∧ x < fid + nv + resLen s.rs) → x ∉ ar.rows ∧ x ∉ ar.boxes.map (·.1) := by
            intro x hx
            have := hf.2.2 x (hin x hx)
            refine ⟨fun h => ?_, fun h => ?_⟩
            · obtain ⟨_, _, _, _, g1, _⟩ := hobR x h
              rw [this] at g1; cases g1
            · obtain ⟨c0, g1⟩ := hbxA x h
              rw [this] at g1; cases g1
          refine ⟨fun q gs sv hs x hx hq => hf.1 q gs sv hs x hx (hin x hq), fun id cells hbx x hx hq => ?_, fun x hx => ?_⟩
          · by_cases hb : id ∈ ar.boxes.map (·.1)
            · -- the new cells of a box speak of no new id
              have hnm : ∀ (xs : List (Nat × List AK × List At)) (j : Nat) (ob : Nat → Option SO) (cells : List At), (∀ y ∈ xs, A.ob y.1 = some (.box y.2.2)) → id ∈ xs.map (·.1) → upOb ob (boxUps j xs).1 id = some (.box cells) → ∀ z, atsMen cells z → ∃ cells0, A.ob id = some (.box cells0) ∧ atsMen cells0 z := by
                have hbc : ∀ (ks : List AK) (cs : List At) (j : Nat) z, atsMen (boxCells j ks cs).1 z → atsMen cs z := by
                  intro ks
                  induction ks with
                  | nil => intro cs j z; rintro ⟨b, hb, _⟩; simp [boxCells] at hb
                  | cons k ks ih =>
                    intro cs j z
                    cases cs with
                    | nil => rintro ⟨b, hb, _⟩; cases k <;> simp [boxCells] at hb
                    | cons a0 cs =>
                      rintro ⟨b, hb, hz⟩
                      cases k with
                      | sc =>
                        simp only [boxCells, List.mem_cons] at hb
                        rcases hb with rfl | hb
                        · exact hz.elim
                        · obtain ⟨b', hb', hz'⟩ := ih cs (j + 1) z ⟨b, hb, hz⟩
                          exact ⟨b', by simp [hb'], hz'⟩
                      | sl js =>
                        simp only [boxCells, List.mem_cons] at hb
                        rcases hb with rfl | hb
                        · exact ⟨b, by simp, hz⟩
                        · obtain ⟨b', hb', hz'⟩ := ih cs j z ⟨b, hb, hz⟩
                          exact ⟨b', by simp [hb'], hz'⟩
                intro xs
                induction xs with
                | nil => intro j ob cells _ h; simp at h
                | cons y xs ih =>
                  obtain ⟨q, ks, cs⟩ := y
                  intro j ob cells hall hmem hup z hz
                  simp only [boxUps, upOb] at hup
                  by_cases e : id ∈ xs.map (·.1)
                  · exact ih _ _ cells (fun y hy => hall y (by simp [hy])) e hup z hz
                  · rw [upOb_boxUps_ne xs _ _ id e] at hup
                    simp only [List.map_cons, List.mem_cons] at hmem
                    have hii := hmem.resolve_right e
                    subst hii
                    simp only [if_true, Option.some.injEq, SO.box.injEq] at hup
                    subst hup
                    exact ⟨cs, hall (id, ks, cs) (by simp), hbc ks cs j z hz⟩
              have hall : ∀ y ∈ ar.boxes, A.ob y.1 = some (.box y.2.2) := by
                have : ∀ {xs : List (Nat × List AK × List At)} {boxes : List Bx}, BoxM c M env w A.ob xs boxes → ∀ x ∈ xs, A.ob x.1 = some (.box x.2.2) := by
                  intro xs boxes h
                  induction h with
                  | nil => simp
                  | cons h _ _ _ _ ih =>
                    intro x hx
                    rcases List.mem_cons.1 hx with rfl | hx
                    · exact h
                    · exact ih x hx
                exact this a3
              have hbx' : ob1 id = some (.box cells) := hbx
              rw [hob1] at hbx'
              obtain ⟨c0, g1, g2⟩ := hnm ar.boxes _ _ cells hall hb hbx' x hx
              exact hf.2.1 id c0 g1 x g2 (hin x hq)
            · have hbx' : ob1 id = some (.box cells) := hbx
              by_cases hr : id ∈ ar.rows
              · obtain ⟨_, _, _, _, _, g2, _⟩ := hobR id hr
                rw [g2] at hbx'; cases hbx'
              · rw [hobN id hr hb] at hbx'
                exact hf.2.1 id cells hbx' x hx (hin x hq)
          · show ob1 x = none
            rw [hobN x (hnone x hx).1 (hnone x hx).2]
            exact hf.2.2 x (hin x hx)
        obtain ⟨M2, g1, g2, _⟩ := add_res (fid := fid) (j := nv) hR1 e4 (fun i hi => by
          have := henv i (by simp; omega)
          rw [this, List.append_assoc, List.getElem?_append_left (by omega)]) hf2 e5 (fun b hb => ⟨Nat.le_trans hR.keep.size (e6 b hb).1, (e6 b hb).2⟩) (by
          intro b hb
          have hge := (e6 b hb).1
          refine ⟨fun r ver l app hrow hbr => ?_, fun id cells hbx e => ?_⟩
          · obtain ⟨v0, l0, a0, q1, _⟩ := E1.row r ver l app (fun h => h) hrow
            have := ((hR.rows _ _ _ _ q1).2.1 b (r2 r b hbr)).2
            omega
          · obtain ⟨⟨c0, q1⟩, _⟩ := E1.box id cells (fun h => h) hbx
            have := hR.be_lt q1
            have e' : b = M.be id := e
            omega)
        have hfin := g1.put hd (gs := gs) (sv := packRes (resSCs fid nv s.rs).1) (v := v) (fun _ => ⟨fun _ => packRes_rel g2 (by rw [resSCs_length]; exact lv) e3, fun hn => absurd hg hn⟩)
        refine hK M2 w' v ?_
        rw [← hc]
        simp only [Option.map_some]
        rw [upOb_append, hend]
        exact hfin
      · cases hc
    · cases hc
  · cases hc

end
end Go.Mw

