/- What functions of the program compute, as small pure programs, shown against plain Lean functions: no condition. -/
import Derived.Shelf.SlSortCmp.NoneTotal
import Derived.Test.YtglmkflpenlbhaaGreatDoorPlA3
namespace Go.Mw
open Go.Shelf Go.RowKit Go.Lib Go.Proofs
instance : Inhabited T2 := ⟨⟨0, 0⟩⟩
def enc2 (x : T2) : List Value := [.int .i64 x.a, .int .i64 x.b]

theorem moved_world {w w' : World} {X : Nat → Prop} (h : Moved w w' X true) (hX : ∀ b, ¬ X b) : ∃ q os', w' = Go.Sort.grow (w.drewN q) os' := by
  refine ⟨w'.drawn - w.drawn, w'.heap.extract w.heap.size w'.heap.size, ?_⟩
  obtain ⟨heap, tape, drawn, os, output⟩ := w
  obtain ⟨heap', tape', drawn', os', output'⟩ := w'
  obtain ⟨h1, h2, h3, h4, h5, -, h60⟩ := h
  have h6 := h60 rfl
  dsimp only at h1 h2 h3 h4 h5 h6
  subst h1 h2 h3
  have hh : heap' = heap ++ heap'.extract heap.size heap'.size := by
    apply Array.ext_getElem?
    intro i
    rw [Array.getElem?_append]
    split
    · rename_i hi; exact h5 i hi (hX i)
    · rename_i hi
      rw [Array.getElem?_extract]
      by_cases h7 : i < heap'.size
      · have e : heap.size + (i - heap.size) = i := by omega
        rw [e, if_pos (by omega)]
      · rw [Array.getElem?_eq_none (by omega), if_neg (by omega)]
  have hd : drawn' = drawn + (drawn' - drawn) := by omega
  simp only [Go.Sort.grow, World.drewN]
  rw [← hh, ← hd]

theorem cmp_lays {P : Program} {g : Nat} {Fg : List V → Option (List V)} (hc : Contract .zero P g ⟨[.val true [.sc, .sc], .val true [.sc, .sc]], [(false, [.sc])], Fg⟩) {cf : T2 → T2 → Int}
    (hF : ∀ x y : T2, Fg [.int .i64 x.a, .int .i64 x.b, .int .i64 y.a, .int .i64 y.b] = some [.int .i64 (cf x y)]) (blk off size : Nat) (w : World) : CmpLays P g #[] enc2 2 cf blk off size w := by
  intro m os dk _ x y
  generalize sortWorldK enc2 2 w blk off m dk os = W
  have hA : ArgsR W [.val true [.sc, .sc], .val true [.sc, .sc]] [.agg (enc2 x).toArray, .agg (enc2 y).toArray] ([.int .i64 x.a, .int .i64 x.b] ++ ([.int .i64 y.a, .int .i64 y.b] ++ [])) ([] ++ ([] ++ [])) [] [] [] :=
    .val (us := enc2 x) (.sc (.atom (.int _ _) .nil) (.sc (.atom (.int _ _) .nil) .nil)) (by simp [packV]) (.val (us := enc2 y) (.sc (.atom (.int _ _) .nil) (.sc (.atom (.int _ _) .nil) .nil)) (by simp [packV]) .nil)
  have := hc.1 W _ _ [.int .i64 (cf x y)] _ _ _ _ (fun _ _ h => by cases h) (by simpa using hF x y) hA (by simp [ioB]) (by simp [ioB]) (fun _ _ => rfl)
  rw [Array.append_empty]
  refine this.mono fun e w' ⟨⟨v, vs', d1, d2, d3, S, ho, he, hret, hres, _, _, hrows, hboxes⟩, hm⟩ => ?_
  cases hrows
  cases hboxes
  cases hres with
  | cons hc hp t =>
    cases t
    cases hc with
    | sc hrep hc' =>
      cases hc'
      simp only [List.append_nil, List.cons.injEq, and_true] at ho
      subst ho
      cases hrep with
      | atom ha _ =>
        cases ha
        simp only [packV, Bool.false_eq_true, if_false, List.cons.injEq, and_true] at hp
        subst hp
        simp only [retV, List.length_cons, List.length_nil, Nat.zero_add, if_true, List.cons.injEq, and_true] at hret
        exact ⟨by rw [he, hret], moved_world hm (by simp [ioB])⟩

theorem rep_ints {w : World} : ∀ {l : List T2} {vs : List Value} {S : List Nat}, Rep w vs ((l.map v2).flatMap V.cells) S → vs = l.flatMap enc2 ∧ S = []
  | [], _, _, h => by cases h; exact ⟨rfl, rfl⟩
  | x :: r, _, _, h => by
    simp only [List.map_cons, List.flatMap_cons, v2, V.cells, List.cons_append, List.nil_append] at h
    cases h with
    | atom ha h =>
      cases ha
      cases h with
      | atom hb h =>
        cases hb
        obtain ⟨rfl, rfl⟩ := rep_ints h
        exact ⟨rfl, rfl⟩
theorem ints_rep (w : World) : ∀ l : List T2, Rep w (l.flatMap enc2) ((l.map v2).flatMap V.cells) []
  | [] => .nil
  | x :: r => by
    simp only [List.map_cons, List.flatMap_cons, v2, V.cells, List.cons_append, List.nil_append, enc2]
    exact .atom (.int _ _) (.atom (.int _ _) (ints_rep w r))
theorem flat2_get : ∀ (l : List T2) (j : Nat), j < l.length * 2 → (l.flatMap enc2)[j]? = some ((enc2 l[j / 2]!)[j % 2]!)
  | [], j, h => by simp at h
  | x :: r, 0, _ => by simp [enc2]
  | x :: r, 1, _ => by simp [enc2]
  | x :: r, j + 2, h => by
    have ih := flat2_get r j (by simp only [List.length_cons] at h; omega)
    have e1 : (j + 2) / 2 = j / 2 + 1 := by omega
    have e2 : (j + 2) % 2 = j % 2 := by omega
    rw [e1, e2]
    simp only [List.flatMap_cons, enc2, List.cons_append, List.nil_append, List.getElem?_cons_succ, List.getElem!_cons_succ]
    exact ih
theorem flatK_get (l : List T2) (j : Nat) (h : j < l.length * 2) : (l.flatMap enc2)[j]? = some (Go.Sort.flatK enc2 2 l.toArray)[j]! := by
  rw [flat2_get l j h, Go.Sort.get_flatK _ _ _ _ (by simpa using h)]
  simp

def sortBy (cf : T2 → T2 → Int) (l : List T2) : List T2 := l.mergeSort fun x y => !(ltOf cf) y x
noncomputable def F_sortBy (cf : T2 → T2 → Int) : List V → Option (List V) := mkF (fun l : List T2 => [vL I2 v2 l]) (fun l => l.length ≤ 1048576) (fun l => [vL I2 v2 (sortBy cf l)])

theorem sw_block {w : World} {b off m : Nat} {l : List T2} {os : Array Obj} {cs : Array Value} {E : TypeId} {fz : Nat × Nat} (hb : w.heap[b]? = some (.cells cs E fz)) :
    (sortWorldK enc2 2 w b off m l.toArray os).heap[b]? = some (Obj.cells (Go.Sort.putCells id off (Go.Sort.flatK enc2 2 l.toArray) cs) E fz) := by
  have hlt := heap_lt hb
  show ((w.heap.modify b _) ++ os)[b]? = _
  rw [Array.getElem?_append_left (by simpa using hlt), Array.getElem?_modify, if_pos rfl, hb]
  rfl
theorem sw_other {w : World} {b off m x : Nat} {l : List T2} {os : Array Obj} (hx : x ≠ b) (hlt : x < w.heap.size) :
    (sortWorldK enc2 2 w b off m l.toArray os).heap[x]? = w.heap[x]? := by
  show ((w.heap.modify b _) ++ os)[x]? = _
  rw [Array.getElem?_append_left (by simpa using hlt), Array.getElem?_modify, if_neg (fun e => hx e.symm)]
theorem sw_size {w : World} {b off m : Nat} {l : List T2} {os : Array Obj} : w.heap.size ≤ (sortWorldK enc2 2 w b off m l.toArray os).heap.size := by
  show _ ≤ ((w.heap.modify b _) ++ os).size
  rw [Array.size_append, Array.size_modify]; omega
theorem sw_cells {off : Nat} {F cs : Array Value} {j : Nat} (hj : j < F.size) (hs : off + F.size ≤ cs.size) : (Go.Sort.putCells id off F cs)[off + j]? = some F[j]! := by
  unfold Go.Sort.putCells
  rw [Array.getElem?_mapIdx, Array.getElem?_eq_getElem (by omega)]
  have e : off + j - off = j := by omega
  simp only [Option.map_some, Option.some.injEq, e]
  rw [if_pos (by omega)]
  rfl

theorem Moved.rfl' (w : World) (X : Nat → Prop) : Moved w w X true := ⟨rfl, rfl, rfl, Nat.le_refl _, fun _ _ _ => rfl, fun _ cs _ _ h => ⟨cs, h, rfl⟩, fun _ => Nat.le_refl _⟩

theorem sort_contract {P : Program} {ρ : Ren} (L : SlLaysF0.n6 P ρ) (aE : ∀ w, (isAgg (ρ.t 24)).run P w = .ok true w) (zE : ∀ w, (Go.sizeOf (ρ.t 24)).run P w = .ok 2 w) {g : Nat} (eg : ∀ args w, (callFunc g args).run P w = .ok (.enter g args) w)
    {Fg : List V → Option (List V)} (hc : Contract .zero P g ⟨[.val true [.sc, .sc], .val true [.sc, .sc]], [(false, [.sc])], Fg⟩) {cf : T2 → T2 → Int}
    (hFg : ∀ x y : T2, Fg [.int .i64 x.a, .int .i64 x.b, .int .i64 y.a, .int .i64 y.b] = some [.int .i64 (cf x y)]) (hO : Go.Sort.SWO (ltOf cf)) (hT : ∀ x y, (ltOf cf) x y = false → (ltOf cf) y x = false → x = y) :
    Contract .zero P (ρ.f 6) ⟨[.io false [.sl [.sc, .sc]], .cst g], [], F_sortBy cf⟩ := by
  refine ⟨?_, fun ks ps h => by cases h⟩
  intro w vals ds outs ro rows boxes tk _ hF hA hnd hro _
  change F_sortBy cf ds = some outs at hF
  unfold F_sortBy at hF
  obtain ⟨l, hl, hpre, rfl⟩ := mkF_inv hF
  have empty : ∀ (p : Option Addr) (S : List Nat), l = [] → Rep w [Value.slice p 0 0] [vL I2 v2 []] S → S.Nodup → (∀ x ∈ S, Wr w x) →
      Calls P (ρ.f 6) #[.slice p 0 0, .func (.func g) #[] #[]] w (PostC .zero ⟨[.io false [.sl [.sc, .sc]], .cst g], [], F_sortBy cf⟩ w [(.slice p 0 0, S)] [] [] [vL I2 v2 (sortBy cf l)]) := by
    intro p S h0 hr hn hw
    subst h0
    have e : sortBy cf [] = [] := by simp [sortBy]
    rw [e]
    refine (AnyF.slices_SortFunc_none L p 0 (.func (.func g) #[] #[]) w).mono ?_
    rintro e w' ⟨rfl, rfl⟩
    exact ⟨⟨.tuple #[], [], [], [vL I2 v2 []], [], [], rfl, rfl, by simp [retV], .nil, by simp, by simp, .cons hr hn (fun x hx => ⟨hx, hw x hx⟩) .nil, .nil⟩, Moved.rfl' _ _⟩
  cases hA with
  | io hcs hp t =>
    cases t with
    | cst hf t =>
      cases t
      cases hf with
      | atom hf _ =>
      cases hf
      cases hcs with
      | sl h hn hw t =>
        cases t
        simp only [packV, Bool.false_eq_true, if_false, List.cons.injEq, and_true] at hp
        subst hp
        simp only [List.append_nil, List.cons.injEq, and_true] at hl
        cases h with
        | atom ha t =>
          cases t
          cases ha with
          | nil ks =>
            simp only [vL, V.list.injEq] at hl
            have h0 : l = [] := by simpa using hl.2.symm
            exact empty none [] h0 (.atom (.nil _) .nil) (by simp) (by simp)
          | nil0 ks a =>
            simp only [vL, V.list.injEq] at hl
            have h0 : l = [] := by simpa using hl.2.symm
            exact empty (some a) [] h0 (.atom (.nil0 _ _) .nil) (by simp) (by simp)
          | int => simp [vL] at hl
          | bool => simp [vL] at hl
          | str => simp [vL] at hl
          | fn => simp [vL] at hl
          | noErr => simp [vL] at hl
          | err => simp [vL] at hl
        | row b off n cap ks es vs S cs E fz hnl hk hcap hb hs hv hin t =>
          cases t
          simp only [vL, V.list.injEq] at hl
          obtain ⟨rfl, rfl⟩ := hl
          obtain ⟨rfl, rfl⟩ := rep_ints hin
          obtain ⟨cs', E', fz', hb', hfz⟩ := hw b (by simp)
          rw [hb] at hb'
          simp only [Option.some.injEq, Obj.cells.injEq] at hb'
          obtain ⟨rfl, rfl, rfl⟩ := hb'
          simp only [List.length_map] at hnl
          subst hnl
          have k2 : I2.length = 2 := rfl
          rw [k2] at hs hv
          have hlt := heap_lt hb
          have hH : Go.Sort.HoldsK enc2 2 w b off l.toArray := by
            intro j hj
            rw [Go.Sort.size_flatK] at hj
            have hj' : j < l.length * 2 := by simpa using hj
            have h1 := hv j hj'
            rw [flatK_get l j hj'] at h1
            refine ⟨by simp [World.cell?, hb, h1], ?_⟩
            simp only [World.frozen?, hb]
            rcases hfz with rfl | hfz
            · simp
            · simp; omega
          have hlen : (sortBy cf l).length = l.length := List.length_mergeSort _
          refine (AnyQ.slices_SortFunc_total L 2 aE zE enc2 (fun _ => rfl) (fun x v hv => by simp [enc2] at hv; rcases hv with rfl | rfl <;> rfl) cf hO g #[] b off cap l.toArray w eg (cmp_lays hc hFg b off _ w) hH hlt (by simp; omega) hT).mono ?_
          rintro e w' ⟨rfl, m, os, rfl⟩
          show PostC .zero _ w _ _ _ _ _ (sortWorldK enc2 2 w b off m (sortBy cf l).toArray os)
          have hsz : (Go.Sort.flatK enc2 2 (sortBy cf l).toArray).size = l.length * 2 := by rw [Go.Sort.size_flatK]; simp [hlen]
          have hb2 := sw_block (l := sortBy cf l) (off := off) (m := m) (os := os) hb
          have hcsz : (Go.Sort.putCells id off (Go.Sort.flatK enc2 2 (sortBy cf l).toArray) cs).size = cs.size := by simp [Go.Sort.putCells]
          refine ⟨⟨.tuple #[], [], [], [vL I2 v2 (sortBy cf l)], [], [], rfl, rfl, by simp [retV], .nil, by simp, by simp, .cons (S' := [b]) ?_ (by simp) ?_ .nil, .nil⟩, ?_⟩
          · refine .row b off l.length cap I2 ((sortBy cf l).map v2) ((sortBy cf l).flatMap enc2) [] _ E fz (by simp [hlen]) ?_ hcap hb2 (by rw [hcsz]; exact hs) ?_ (ints_rep _ _) .nil
            · intro e he
              obtain ⟨x, -, rfl⟩ := List.mem_map.1 he
              simp [I2, aksOk, akOk, v2, V.cells]
            · intro j hj
              rw [k2] at hj
              rw [sw_cells (by rw [hsz]; exact hj) (by rw [hsz]; exact hs), flatK_get _ _ (by rw [hlen]; exact hj)]
          · intro x hx
            simp only [List.mem_singleton] at hx
            subst hx
            exact ⟨by simp, ⟨_, _, _, hb2, by rw [hcsz]; exact hfz⟩⟩
          · refine ⟨rfl, rfl, rfl, sw_size, fun x hx hnx => sw_other (fun e => hnx (by simp [ioB, e])) hx, fun x cs1 E1 fz1 hx => ?_, ?_⟩
            · by_cases e : x = b
              · subst e
                rw [hb] at hx
                simp only [Option.some.injEq, Obj.cells.injEq] at hx
                obtain ⟨rfl, rfl, rfl⟩ := hx
                exact ⟨_, hb2, hcsz⟩
              · exact ⟨cs1, by rw [sw_other e (heap_lt hx)]; exact hx, rfl⟩
            · exact fun _ => Nat.le_add_right _ _
end Go.Mw

namespace Go.Mw
open Go.Proofs Go.Lib Go.Sort
theorem lt_cmpPins (x y : T2) : ltOf cmpPins x y = pinLess x y := by
  unfold ltOf cmpPins
  cases h : pinLess x y with
  | true => simp
  | false => by_cases e : x = y <;> simp [e]
theorem slices_SortFunc_Limpl_Pin_impl_Pin_eq : F_sortBy cmpPins = F_slices_SortFunc_Limpl_Pin_impl_Pin := by
  unfold F_sortBy F_slices_SortFunc_Limpl_Pin_impl_Pin sortBy sortPins
  simp only [lt_cmpPins]
  rfl
theorem impl_comparePins_F (x y : T2) : F_comparePins [.int .i64 x.a, .int .i64 x.b, .int .i64 y.a, .int .i64 y.b] = some [.int .i64 (cmpPins x y)] := mkF_eq F_comparePins_inj (x, y) trivial
theorem impl_comparePins_swo : SWO (ltOf cmpPins) where
  irrefl x := by rw [lt_cmpPins]; simp [pinLess]
  trans x y z h1 h2 := by rw [lt_cmpPins] at *; simp only [pinLess, decide_eq_true_eq] at *; omega
  ntrans x y z h1 h2 := by rw [lt_cmpPins] at *; simp only [pinLess, decide_eq_false_iff_not] at *; omega
theorem impl_comparePins_tot (x y : T2) (h1 : ltOf cmpPins x y = false) (h2 : ltOf cmpPins y x = false) : x = y := by
  rw [lt_cmpPins] at *
  cases x; cases y
  simp only [pinLess, decide_eq_false_iff_not, T2.mk.injEq] at *
  omega
end Go.Mw

