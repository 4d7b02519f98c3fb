/- What functions of the program compute, as small pure programs, shown against plain Lean functions: no condition. -/
import Derived.Shelf.SlSortCmp.NoneTotal
import Derived.Shelf.SlicesQ.Reverse
import Derived.Shelf.RegionOpenPlain
import Derived.WalkKit
import Derived.Deep.LoopGhost
import Derived.Deep.Draws
import Derived.Lib.Walk
import Derived.Lib.SliceRun
import Derived.Lib.SlicesCompact
import Derived.Laws.StructEq
import Derived.Test.YtobecpmneaninaaGreatPl2
namespace Go.Mw
open Go.Shelf Go.RowKit Go.Lib Go.Proofs
instance : Inhabited T2 := ⟨⟨0, 0⟩⟩
def enc2 (x : T2) : List Value := [.int .i64 x.a, .int .i64 x.b]

theorem moved_world {w w' : World} {X : Nat → Prop} (h : Moved w w' X true) (hX : ∀ b, ¬ X b) : ∃ q os', w' = Go.Sort.grow (w.drewN q) os' := by
  refine ⟨w'.drawn - w.drawn, w'.heap.extract w.heap.size w'.heap.size, ?_⟩
  obtain ⟨heap, tape, drawn, os, output⟩ := w
  obtain ⟨heap', tape', drawn', os', output'⟩ := w'
  obtain ⟨h1, h2, h3, h4, h5, -, h60⟩ := h
  have h6 := h60 rfl
  dsimp only at h1 h2 h3 h4 h5 h6
  subst h1 h2 h3
  have hh : heap' = heap ++ heap'.extract heap.size heap'.size := by
    apply Array.ext_getElem?
    intro i
    rw [Array.getElem?_append]
    split
    · rename_i hi; exact h5 i hi (hX i)
    · rename_i hi
      rw [Array.getElem?_extract]
      by_cases h7 : i < heap'.size
      · have e : heap.size + (i - heap.size) = i := by omega
        rw [e, if_pos (by omega)]
      · rw [Array.getElem?_eq_none (by omega), if_neg (by omega)]
  have hd : drawn' = drawn + (drawn' - drawn) := by omega
  simp only [Go.Sort.grow, World.drewN]
  rw [← hh, ← hd]

theorem cmp_lays {P : Program} {g : Nat} {Fg : List V → Option (List V)} (hc : Contract .zero P g ⟨[.val true [.sc, .sc], .val true [.sc, .sc]], [(false, [.sc])], Fg⟩) {cf : T2 → T2 → Int}
    (hF : ∀ x y : T2, Fg [.int .i64 x.a, .int .i64 x.b, .int .i64 y.a, .int .i64 y.b] = some [.int .i64 (cf x y)]) (blk off size : Nat) (w : World) : CmpLays P g #[] enc2 2 cf blk off size w := by
  intro m os dk _ x y
  generalize sortWorldK enc2 2 w blk off m dk os = W
  have hA : ArgsR W [.val true [.sc, .sc], .val true [.sc, .sc]] [.agg (enc2 x).toArray, .agg (enc2 y).toArray] ([.int .i64 x.a, .int .i64 x.b] ++ ([.int .i64 y.a, .int .i64 y.b] ++ [])) ([] ++ ([] ++ [])) [] [] [] :=
    .val (us := enc2 x) (.sc (.atom (.int _ _) .nil) (.sc (.atom (.int _ _) .nil) .nil)) (by simp [packV]) (.val (us := enc2 y) (.sc (.atom (.int _ _) .nil) (.sc (.atom (.int _ _) .nil) .nil)) (by simp [packV]) .nil)
  have := hc.1 W _ _ [.int .i64 (cf x y)] _ _ _ _ (fun _ _ h => by cases h) (by simpa using hF x y) hA (by simp [ioB]) (by simp [ioB]) (fun _ _ => rfl)
  rw [Array.append_empty]
  refine this.mono fun e w' ⟨⟨v, vs', d1, d2, d3, S, ho, he, hret, hres, _, _, hrows, hboxes⟩, hm⟩ => ?_
  cases hrows
  cases hboxes
  cases hres with
  | cons hc hp t =>
    cases t
    cases hc with
    | sc hrep hc' =>
      cases hc'
      simp only [List.append_nil, List.cons.injEq, and_true] at ho
      subst ho
      cases hrep with
      | atom ha _ =>
        cases ha
        simp only [packV, Bool.false_eq_true, if_false, List.cons.injEq, and_true] at hp
        subst hp
        simp only [retV, List.length_cons, List.length_nil, Nat.zero_add, if_true, List.cons.injEq, and_true] at hret
        exact ⟨by rw [he, hret], moved_world hm (by simp [ioB])⟩

theorem rep_ints {w : World} : ∀ {l : List T2} {vs : List Value} {S : List Nat}, Rep w vs ((l.map v2).flatMap V.cells) S → vs = l.flatMap enc2 ∧ S = []
  | [], _, _, h => by cases h; exact ⟨rfl, rfl⟩
  | x :: r, _, _, h => by
    simp only [List.map_cons, List.flatMap_cons, v2, V.cells, List.cons_append, List.nil_append] at h
    cases h with
    | atom ha h =>
      cases ha
      cases h with
      | atom hb h =>
        cases hb
        obtain ⟨rfl, rfl⟩ := rep_ints h
        exact ⟨rfl, rfl⟩
theorem ints_rep (w : World) : ∀ l : List T2, Rep w (l.flatMap enc2) ((l.map v2).flatMap V.cells) []
  | [] => .nil
  | x :: r => by
    simp only [List.map_cons, List.flatMap_cons, v2, V.cells, List.cons_append, List.nil_append, enc2]
    exact .atom (.int _ _) (.atom (.int _ _) (ints_rep w r))
theorem flat2_get : ∀ (l : List T2) (j : Nat), j < l.length * 2 → (l.flatMap enc2)[j]? = some ((enc2 l[j / 2]!)[j % 2]!)
  | [], j, h => by simp at h
  | x :: r, 0, _ => by simp [enc2]
  | x :: r, 1, _ => by simp [enc2]
  | x :: r, j + 2, h => by
    have ih := flat2_get r j (by simp only [List.length_cons] at h; omega)
    have e1 : (j + 2) / 2 = j / 2 + 1 := by omega
    have e2 : (j + 2) % 2 = j % 2 := by omega
    rw [e1, e2]
    simp only [List.flatMap_cons, enc2, List.cons_append, List.nil_append, List.getElem?_cons_succ, List.getElem!_cons_succ]
    exact ih
theorem flatK_get (l : List T2) (j : Nat) (h : j < l.length * 2) : (l.flatMap enc2)[j]? = some (Go.Sort.flatK enc2 2 l.toArray)[j]! := by
  rw [flat2_get l j h, Go.Sort.get_flatK _ _ _ _ (by simpa using h)]
  simp

def sortBy (cf : T2 → T2 → Int) (l : List T2) : List T2 := l.mergeSort fun x y => !(ltOf cf) y x
noncomputable def F_sortBy (cf : T2 → T2 → Int) : List V → Option (List V) := mkF (fun l : List T2 => [vL I2 v2 l]) (fun l => l.length ≤ 1048576) (fun l => [vL I2 v2 (sortBy cf l)])

theorem sw_block {w : World} {b off m : Nat} {l : List T2} {os : Array Obj} {cs : Array Value} {E : TypeId} {fz : Nat × Nat} (hb : w.heap[b]? = some (.cells cs E fz)) :
    (sortWorldK enc2 2 w b off m l.toArray os).heap[b]? = some (Obj.cells (Go.Sort.putCells id off (Go.Sort.flatK enc2 2 l.toArray) cs) E fz) := by
  have hlt := heap_lt hb
  show ((w.heap.modify b _) ++ os)[b]? = _
  rw [Array.getElem?_append_left (by simpa using hlt), Array.getElem?_modify, if_pos rfl, hb]
  rfl
theorem sw_other {w : World} {b off m x : Nat} {l : List T2} {os : Array Obj} (hx : x ≠ b) (hlt : x < w.heap.size) :
    (sortWorldK enc2 2 w b off m l.toArray os).heap[x]? = w.heap[x]? := by
  show ((w.heap.modify b _) ++ os)[x]? = _
  rw [Array.getElem?_append_left (by simpa using hlt), Array.getElem?_modify, if_neg (fun e => hx e.symm)]
theorem sw_size {w : World} {b off m : Nat} {l : List T2} {os : Array Obj} : w.heap.size ≤ (sortWorldK enc2 2 w b off m l.toArray os).heap.size := by
  show _ ≤ ((w.heap.modify b _) ++ os).size
  rw [Array.size_append, Array.size_modify]; omega
theorem sw_cells {off : Nat} {F cs : Array Value} {j : Nat} (hj : j < F.size) (hs : off + F.size ≤ cs.size) : (Go.Sort.putCells id off F cs)[off + j]? = some F[j]! := by
  unfold Go.Sort.putCells
  rw [Array.getElem?_mapIdx, Array.getElem?_eq_getElem (by omega)]
  have e : off + j - off = j := by omega
  simp only [Option.map_some, Option.some.injEq, e]
  rw [if_pos (by omega)]
  rfl

theorem Moved.rfl' (w : World) (X : Nat → Prop) : Moved w w X true := ⟨rfl, rfl, rfl, Nat.le_refl _, fun _ _ _ => rfl, fun _ cs _ _ h => ⟨cs, h, rfl⟩, fun _ => Nat.le_refl _⟩

theorem sort_contract {P : Program} {ρ : Ren} (L : SlLaysF0.n6 P ρ) (aE : ∀ w, (isAgg (ρ.t 24)).run P w = .ok true w) (zE : ∀ w, (Go.sizeOf (ρ.t 24)).run P w = .ok 2 w) {g : Nat} (eg : ∀ args w, (callFunc g args).run P w = .ok (.enter g args) w)
    {Fg : List V → Option (List V)} (hc : Contract .zero P g ⟨[.val true [.sc, .sc], .val true [.sc, .sc]], [(false, [.sc])], Fg⟩) {cf : T2 → T2 → Int}
    (hFg : ∀ x y : T2, Fg [.int .i64 x.a, .int .i64 x.b, .int .i64 y.a, .int .i64 y.b] = some [.int .i64 (cf x y)]) (hO : Go.Sort.SWO (ltOf cf)) (hT : ∀ x y, (ltOf cf) x y = false → (ltOf cf) y x = false → x = y) :
    Contract .zero P (ρ.f 6) ⟨[.io false [.sl [.sc, .sc]], .cst g], [], F_sortBy cf⟩ := by
  refine ⟨?_, fun ks ps h => by cases h⟩
  intro w vals ds outs ro rows boxes tk _ hF hA hnd hro _
  change F_sortBy cf ds = some outs at hF
  unfold F_sortBy at hF
  obtain ⟨l, hl, hpre, rfl⟩ := mkF_inv hF
  have empty : ∀ (p : Option Addr) (S : List Nat), l = [] → Rep w [Value.slice p 0 0] [vL I2 v2 []] S → S.Nodup → (∀ x ∈ S, Wr w x) →
      Calls P (ρ.f 6) #[.slice p 0 0, .func (.func g) #[] #[]] w (PostC .zero ⟨[.io false [.sl [.sc, .sc]], .cst g], [], F_sortBy cf⟩ w [(.slice p 0 0, S)] [] [] [vL I2 v2 (sortBy cf l)]) := by
    intro p S h0 hr hn hw
    subst h0
    have e : sortBy cf [] = [] := by simp [sortBy]
    rw [e]
    refine (AnyF.slices_SortFunc_none L p 0 (.func (.func g) #[] #[]) w).mono ?_
    rintro e w' ⟨rfl, rfl⟩
    exact ⟨⟨.tuple #[], [], [], [vL I2 v2 []], [], [], rfl, rfl, by simp [retV], .nil, by simp, by simp, .cons hr hn (fun x hx => ⟨hx, hw x hx⟩) .nil, .nil⟩, Moved.rfl' _ _⟩
  cases hA with
  | io hcs hp t =>
    cases t with
    | cst hf t =>
      cases t
      cases hf with
      | atom hf _ =>
      cases hf
      cases hcs with
      | sl h hn hw t =>
        cases t
        simp only [packV, Bool.false_eq_true, if_false, List.cons.injEq, and_true] at hp
        subst hp
        simp only [List.append_nil, List.cons.injEq, and_true] at hl
        cases h with
        | atom ha t =>
          cases t
          cases ha with
          | nil ks =>
            simp only [vL, V.list.injEq] at hl
            have h0 : l = [] := by simpa using hl.2.symm
            exact empty none [] h0 (.atom (.nil _) .nil) (by simp) (by simp)
          | nil0 ks a =>
            simp only [vL, V.list.injEq] at hl
            have h0 : l = [] := by simpa using hl.2.symm
            exact empty (some a) [] h0 (.atom (.nil0 _ _) .nil) (by simp) (by simp)
          | int => simp [vL] at hl
          | bool => simp [vL] at hl
          | str => simp [vL] at hl
          | fn => simp [vL] at hl
          | noErr => simp [vL] at hl
          | err => simp [vL] at hl
        | row b off n cap ks es vs S cs E fz hnl hk hcap hb hs hv hin t =>
          cases t
          simp only [vL, V.list.injEq] at hl
          obtain ⟨rfl, rfl⟩ := hl
          obtain ⟨rfl, rfl⟩ := rep_ints hin
          obtain ⟨cs', E', fz', hb', hfz⟩ := hw b (by simp)
          rw [hb] at hb'
          simp only [Option.some.injEq, Obj.cells.injEq] at hb'
          obtain ⟨rfl, rfl, rfl⟩ := hb'
          simp only [List.length_map] at hnl
          subst hnl
          have k2 : I2.length = 2 := rfl
          rw [k2] at hs hv
          have hlt := heap_lt hb
          have hH : Go.Sort.HoldsK enc2 2 w b off l.toArray := by
            intro j hj
            rw [Go.Sort.size_flatK] at hj
            have hj' : j < l.length * 2 := by simpa using hj
            have h1 := hv j hj'
            rw [flatK_get l j hj'] at h1
            refine ⟨by simp [World.cell?, hb, h1], ?_⟩
            simp only [World.frozen?, hb]
            rcases hfz with rfl | hfz
            · simp
            · simp; omega
          have hlen : (sortBy cf l).length = l.length := List.length_mergeSort _
          refine (AnyQ.slices_SortFunc_total L 2 aE zE enc2 (fun _ => rfl) (fun x v hv => by simp [enc2] at hv; rcases hv with rfl | rfl <;> rfl) cf hO g #[] b off cap l.toArray w eg (cmp_lays hc hFg b off _ w) hH hlt (by simp; omega) hT).mono ?_
          rintro e w' ⟨rfl, m, os, rfl⟩
          show PostC .zero _ w _ _ _ _ _ (sortWorldK enc2 2 w b off m (sortBy cf l).toArray os)
          have hsz : (Go.Sort.flatK enc2 2 (sortBy cf l).toArray).size = l.length * 2 := by rw [Go.Sort.size_flatK]; simp [hlen]
          have hb2 := sw_block (l := sortBy cf l) (off := off) (m := m) (os := os) hb
          have hcsz : (Go.Sort.putCells id off (Go.Sort.flatK enc2 2 (sortBy cf l).toArray) cs).size = cs.size := by simp [Go.Sort.putCells]
          refine ⟨⟨.tuple #[], [], [], [vL I2 v2 (sortBy cf l)], [], [], rfl, rfl, by simp [retV], .nil, by simp, by simp, .cons (S' := [b]) ?_ (by simp) ?_ .nil, .nil⟩, ?_⟩
          · refine .row b off l.length cap I2 ((sortBy cf l).map v2) ((sortBy cf l).flatMap enc2) [] _ E fz (by simp [hlen]) ?_ hcap hb2 (by rw [hcsz]; exact hs) ?_ (ints_rep _ _) .nil
            · intro e he
              obtain ⟨x, -, rfl⟩ := List.mem_map.1 he
              simp [I2, aksOk, akOk, v2, V.cells]
            · intro j hj
              rw [k2] at hj
              rw [sw_cells (by rw [hsz]; exact hj) (by rw [hsz]; exact hs), flatK_get _ _ (by rw [hlen]; exact hj)]
          · intro x hx
            simp only [List.mem_singleton] at hx
            subst hx
            exact ⟨by simp, ⟨_, _, _, hb2, by rw [hcsz]; exact hfz⟩⟩
          · refine ⟨rfl, rfl, rfl, sw_size, fun x hx hnx => sw_other (fun e => hnx (by simp [ioB, e])) hx, fun x cs1 E1 fz1 hx => ?_, ?_⟩
            · by_cases e : x = b
              · subst e
                rw [hb] at hx
                simp only [Option.some.injEq, Obj.cells.injEq] at hx
                obtain ⟨rfl, rfl, rfl⟩ := hx
                exact ⟨_, hb2, hcsz⟩
              · exact ⟨cs1, by rw [sw_other e (heap_lt hx)]; exact hx, rfl⟩
            · exact fun _ => Nat.le_add_right _ _
end Go.Mw

namespace Go.Mw
open Go.Proofs Go.Lib Go.Sort
theorem lt_cmpPins (x y : T2) : ltOf cmpPins x y = pinLess x y := by
  unfold ltOf cmpPins
  cases h : pinLess x y with
  | true => simp
  | false => by_cases e : x = y <;> simp [e]
theorem slices_SortFunc_Limpl_Pin_impl_Pin_eq : F_sortBy cmpPins = F_slices_SortFunc_Limpl_Pin_impl_Pin := by
  unfold F_sortBy F_slices_SortFunc_Limpl_Pin_impl_Pin sortBy sortPins
  simp only [lt_cmpPins]
  rfl
theorem impl_comparePins_F (x y : T2) : F_comparePins [.int .i64 x.a, .int .i64 x.b, .int .i64 y.a, .int .i64 y.b] = some [.int .i64 (cmpPins x y)] := mkF_eq F_comparePins_inj (x, y) trivial
theorem impl_comparePins_swo : SWO (ltOf cmpPins) where
  irrefl x := by rw [lt_cmpPins]; simp [pinLess]
  trans x y z h1 h2 := by rw [lt_cmpPins] at *; simp only [pinLess, decide_eq_true_eq] at *; omega
  ntrans x y z h1 h2 := by rw [lt_cmpPins] at *; simp only [pinLess, decide_eq_false_iff_not] at *; omega
theorem impl_comparePins_tot (x y : T2) (h1 : ltOf cmpPins x y = false) (h2 : ltOf cmpPins y x = false) : x = y := by
  rw [lt_cmpPins] at *
  cases x; cases y
  simp only [pinLess, decide_eq_false_iff_not, T2.mk.injEq] at *
  omega
end Go.Mw

namespace Go.Mw
open Go.Shelf Go.RowKit Go.Lib Go.Sort Go.Proofs
structure CompLay (P : Program) (ρ : Ren) : Prop where
  mixed : P.follows .mixedOrders = true
  f43 : Bears P (ρ.f 43) (SlBodyN.n43 ρ)
  t0 : P.underlying (ρ.t 0) = some (TypeDesc.tuple #[])
  a0 : ∀ w, (isAgg (ρ.t 0)).run P w = .ok false w
  z0 : ∀ w, (Go.sizeOf (ρ.t 0)).run P w = .ok 1 w
  v0 : ∀ w, (zeroValue (ρ.t 0)).run P w = .ok (Value.tuple #[]) w
  t3 : P.underlying (ρ.t 3) = some (TypeDesc.int IntKind.i64)
  a3 : ∀ w, (isAgg (ρ.t 3)).run P w = .ok false w
  z3 : ∀ w, (Go.sizeOf (ρ.t 3)).run P w = .ok 1 w
  v3 : ∀ w, (zeroValue (ρ.t 3)).run P w = .ok (Value.int IntKind.i64 0) w
  t4 : P.underlying (ρ.t 4) = some TypeDesc.bool
  a4 : ∀ w, (isAgg (ρ.t 4)).run P w = .ok false w
  z4 : ∀ w, (Go.sizeOf (ρ.t 4)).run P w = .ok 1 w
  v4 : ∀ w, (zeroValue (ρ.t 4)).run P w = .ok (Value.bool false) w
  t22 : P.underlying (ρ.t 22) = some (TypeDesc.slice (ρ.t 23))
  a22 : ∀ w, (isAgg (ρ.t 22)).run P w = .ok false w
  z22 : ∀ w, (Go.sizeOf (ρ.t 22)).run P w = .ok 1 w
  v22 : ∀ w, (zeroValue (ρ.t 22)).run P w = .ok (Value.slice none 0 0) w

theorem setMany_set {α : Type} [Inhabited α] (enc : α → List Value) (k : Nat) (hk : ∀ x, (enc x).length = k) (d : Array α) (i : Nat) (hi : i < d.size) (x : α) :
    setMany (Go.Sort.flatK enc k d) (i * k) (enc x) = Go.Sort.flatK enc k (d.setIfInBounds i x) := by
  refine ext_get! (by simp) fun t ht => ?_
  have ht' : t < d.size * k := by simpa using ht
  have k0 : 0 < k := by rcases Nat.eq_zero_or_pos k with h | h; · subst h; simp at ht'
                        · exact h
  rw [get_setMany _ _ _ t (by simpa using ht'), get_flatK _ _ _ t ht', get_flatK _ _ _ t (by simpa using ht'), hk]
  have hq : t / k < d.size := Nat.div_lt_of_lt_mul (by rwa [Nat.mul_comm])
  by_cases a : t / k = i
  · rw [if_pos ((blk_iff k i t k0).2 a), getElem!_pos (d.setIfInBounds i x) (t / k) (by simpa using hq), Array.getElem_setIfInBounds, if_pos a.symm, show t - i * k = t % k by subst a; rw [Nat.mod_eq_sub_div_mul]]
    exact hq
  · rw [if_neg (fun h => a ((blk_iff k i t k0).1 h)), getElem!_pos (d.setIfInBounds i x) (t / k) (by simpa using hq), Array.getElem_setIfInBounds, if_neg (fun h => a h.symm), getElem!_pos d (t / k) hq]
theorem set_worldK {α : Type} [Inhabited α] (enc : α → List Value) (k : Nat) (hk : ∀ x, (enc x).length = k) {w wr : World} {n blk off : Nat} {dk : Array α} {i : Nat} (hi : i < dk.size) (hwr : wr = putRowK enc k (Sort.ahead w n) blk off dk) (x : α) :
    wr.drew.setCells blk (off + i * k) (enc x) = putRowK enc k (Sort.ahead w (n + 1)) blk off (dk.setIfInBounds i x) := by
  have b : i * k + k ≤ dk.size * k := by
    have := Nat.mul_le_mul_right k (show i + 1 ≤ dk.size from hi); rwa [Nat.add_mul, Nat.one_mul] at this
  subst hwr
  have e := putRowK_drewN enc k w n 1 blk off dk
  show ((putRowK enc k (Sort.ahead w n) blk off dk).drewN 1).setCells blk (off + i * k) (enc x) = _
  rw [e]
  unfold putRowK
  rw [setCells_putRow _ _ _ _ _ _ (by rw [hk, size_flatK]; exact b), setMany_set enc k hk dk i hi x]
theorem setCells_append (b : Nat) : ∀ (xs ys : List Value) (w : World) (o : Nat), w.setCells b o (xs ++ ys) = (w.setCells b o xs).setCells b (o + xs.length) ys
  | [], ys, w, o => rfl
  | x :: r, ys, w, o => by
    simp only [List.cons_append, World.setCells, List.length_cons]
    rw [setCells_append b r ys, show o + 1 + r.length = o + (r.length + 1) by omega]
theorem lay_worldK {α : Type} [Inhabited α] (enc : α → List Value) (k : Nat) (hk : ∀ x, (enc x).length = k) (w : World) (blk off : Nat) : ∀ (xs : List α) (d : Array α) (i : Nat), i + xs.length ≤ d.size →
    (putRowK enc k w blk off d).setCells blk (off + i * k) (xs.flatMap enc) = putRowK enc k w blk off (lay d i xs)
  | [], _, _, _ => rfl
  | x :: r, d, i, h => by
    have hl : i + (r.length + 1) ≤ d.size := by simpa using h
    have b : i * k + k ≤ d.size * k := by
      have := Nat.mul_le_mul_right k (show i + 1 ≤ d.size by omega); rwa [Nat.add_mul, Nat.one_mul] at this
    rw [List.flatMap_cons, setCells_append, lay, hk]
    have e : (putRowK enc k w blk off d).setCells blk (off + i * k) (enc x) = putRowK enc k w blk off (d.setIfInBounds i x) := by
      unfold putRowK
      rw [setCells_putRow _ _ _ _ _ _ (by rw [hk, size_flatK]; exact b), setMany_set enc k hk d i (by omega) x]
    rw [e, show off + i * k + k = off + (i + 1) * k by rw [Nat.add_mul]; omega]
    exact lay_worldK enc k hk w blk off r _ (i + 1) (by simp; omega)
theorem zero_list (zs : List Value) {k : Nat} (hzl : zs.length = k) : ∀ n : Nat, (List.range (n * k)).map (fun i => zs.toArray[i % k]!) = (List.replicate n zs).flatten
  | 0 => by simp
  | n + 1 => by
    rw [show (n + 1) * k = k + n * k by rw [Nat.add_mul]; omega, List.range_add, List.map_append, List.replicate_succ, List.flatten_cons, ← zero_list zs hzl n, List.map_map]
    congr 1
    · refine List.ext_getElem (by simp [hzl]) fun i h1 h2 => ?_
      have hi : i < k := by simpa using h1
      simp [Nat.mod_eq_of_lt hi, h2]
    · refine List.map_congr_left fun i _ => ?_
      simp
theorem run_clearK {P : Program} (w : World) (t e ty : TypeId) (z : Value) (zs : List Value) (k : Nat) (hzl : zs.length = k) (ht : P.underlying t = some (.slice e)) (hv : ∀ w, (zeroValue e).run P w = .ok z w) (hz : z.cells = zs.toArray) (h1 : ∀ v ∈ zs, v.oneCell' = true) (b o n c : Nat) (hn : 0 < n)
    (hc : ∀ j, j < n * k → (w.cell? ⟨b, o + j, none⟩).isSome = true) (hf : ∀ j, j < n * k → w.frozen? ⟨b, o + j, none⟩ = false) :
    (Builtin.clear_ #[t] ty #[.slice (some ⟨b, o, none⟩) n c]).run P w = .ok (.tuple #[]) (w.setCells b o ((List.replicate n zs).flatten)) := by
  have hzc : (Builtin.zeroCells z.cells n).toList = (List.replicate n zs).flatten := by
    rw [hz]
    simp only [Builtin.zeroCells, List.size_toArray, hzl, Array.toList_map, Array.toList_range]
    exact zero_list zs hzl n
  have hlen : ((List.replicate n zs).flatten).length = n * k := by simp [hzl]
  have hst := run_storeCells_cells (P := P) b o ((List.replicate n zs).flatten) 0 w (by rw [hlen]; simpa using hc) (by rw [hlen]; simpa using hf) (by
    intro v hv'
    obtain ⟨l, hl, hvl⟩ := List.mem_flatten.1 hv'
    rw [List.eq_of_mem_replicate hl] at hvl
    exact h1 v hvl)
  simp only [Nat.add_zero] at hst
  obtain ⟨m, rfl⟩ : ∃ m, n = m + 1 := ⟨n - 1, by omega⟩
  simp [Builtin.clear_, run_underlying ht, hv, hzc, hst]

set_option maxHeartbeats 4000000 in
set_option maxRecDepth 1000000 in
theorem compactK {P : Program} {ρ : Ren} {α : Type} [Inhabited α] [DecidableEq α] (L : CompLay P ρ) (k : Nat) (aE : ∀ w, (isAgg (ρ.t 23)).run P w = .ok true w) (zE : ∀ w, (Go.sizeOf (ρ.t 23)).run P w = .ok k w) (enc : α → List Value) (hk : ∀ x, (enc x).length = k) (h1 : ∀ x, ∀ v ∈ enc x, v.oneCell' = true)
    (heq : ∀ (x y : α) (w : World), Sem.run P (binOp .eql (ρ.t 23) (.agg (enc x).toArray) (.agg (enc y).toArray)) w = .ok (.bool (decide (x = y))) w)
    (hne : ∀ (x y : α) (w : World), Sem.run P (binOp .neq (ρ.t 23) (.agg (enc x).toArray) (.agg (enc y).toArray)) w = .ok (.bool (!decide (x = y))) w)
    (hgd : ∀ (op : BinOp) (a b : Operand) (x y : List Value) (w : World), Sem.run P (eqGuard op (ρ.t 23) a b (.agg x.toArray) (.agg y.toArray)) w = .ok () w)
    (zr : α) (v23 : ∀ w, (zeroValue (ρ.t 23)).run P w = .ok (.agg (enc zr).toArray) w) (c23 : (Value.agg (enc zr).toArray).cells = (enc zr).toArray)
    (blk off cap : Nat) (d : Array α) (w : World) (hH : HoldsK enc k w blk off d) (hsz : d.size ≤ 9223372036854775807) (hcap : d.size ≤ cap) :
    Calls P (ρ.f 43) #[.slice (some ⟨blk, off, none⟩) d.size cap] w fun e w' => e = .returned (.slice (some ⟨blk, off, none⟩) (compactUpTo d d.size).length cap) ∧ ∃ q, w' = putRowK enc k (Sort.ahead w q) blk off (compactUpTo d d.size ++ List.replicate (d.size - (compactUpTo d d.size).length) zr).toArray := by
  have mixed := L.mixed; have t0 := L.t0; have a0 := L.a0; have z0 := L.z0; have v0 := L.v0; have t3 := L.t3; have a3 := L.a3; have z3 := L.z3; have v3 := L.v3; have t4 := L.t4; have a4 := L.a4; have z4 := L.z4; have v4 := L.v4; have t22 := L.t22; have a22 := L.a22; have z22 := L.z22; have v22 := L.v22
  have same : ∀ q, (∀ j, j < d.size → keeps d j = true) → (compactUpTo d d.size).length = d.size ∧ w.drewN q = putRowK enc k (Sort.ahead w q) blk off (compactUpTo d d.size ++ List.replicate (d.size - (compactUpTo d d.size).length) zr).toArray := by
    intro q hall
    have e : compactUpTo d d.size = d.toList := by rw [compactUpTo_all d _ hall, range_map_get]
    rw [e]
    refine ⟨by simp, ?_⟩
    simp only [Array.length_toList, Nat.sub_self, List.replicate_zero, List.append_nil, Array.toArray_toList]
    exact (putRowK_self enc k (Sort.ahead w q) blk off d (holdsK_ahead enc k w q blk off d hH)).symm
  have HS : Aside (∀ q, (∀ j, j < d.size → keeps d j = true) → (compactUpTo d d.size).length = d.size ∧ w.drewN q = putRowK enc k (Sort.ahead w q) blk off (compactUpTo d d.size ++ List.replicate (d.size - (compactUpTo d d.size).length) zr).toArray) := same
  clear same
  have HK : Hid (∀ x, (enc x).length = k) := hk
  have H1 : Hid (∀ x, ∀ v ∈ enc x, v.oneCell' = true) := h1
  have HZ : Aside ((∀ w, (zeroValue (ρ.t 23)).run P w = .ok (.agg (enc zr).toArray) w) ∧ (Value.agg (enc zr).toArray).cells = (enc zr).toArray) := ⟨v23, c23⟩
  have HH : Aside (HoldsK enc k w blk off d) := hH
  have HEQ : Hid (∀ (x y : α) (w : World), Sem.run P (binOp .eql (ρ.t 23) (.agg (enc x).toArray) (.agg (enc y).toArray)) w = .ok (.bool (decide (x = y))) w) := heq
  have HNE : Hid (∀ (x y : α) (w : World), Sem.run P (binOp .neq (ρ.t 23) (.agg (enc x).toArray) (.agg (enc y).toArray)) w = .ok (.bool (!decide (x = y))) w) := hne
  clear hk h1 v23 c23 hH heq hne
  by_cases h2 : d.size < 2
  · obtain ⟨_, _, FG⟩ := L.f43
    go_enter FG, SlBodyN.n43_ntmps ρ
    go_wp2
    go_ret
    obtain ⟨e1, e2⟩ := HS.out 0 (fun j hj => keeps_lt_one d j (by omega))
    exact ⟨by rw [e1]; rfl, 0, e2⟩
  · obtain ⟨_, _, FG⟩ := L.f43
    go_enter FG, SlBodyN.n43_ntmps ρ
    go_wp2
    go_loopg [3] d.size (fun g s3 wr => ∃ i q : Nat, 1 ≤ i ∧ i ≤ d.size ∧ d.size - i ≤ g ∧ s3 = .int .i64 i ∧ wr = w.drewN q ∧ ∀ j, j < i → keeps d j = true)
    case atStart => exact ⟨1, 0, Nat.le_refl _, by omega, by omega, rfl, rfl, keeps_lt_one d⟩
    case round =>
      obtain ⟨i, q, hk1, hi, hg, rfl, hwr, hall⟩ := hrel
      by_cases hlt : i < d.size
      · have hHd : HoldsK enc k wr.drew blk off d := by rw [hwr]; exact holdsK_ahead enc k w (q + 1) blk off d HH.out
        have li : Sem.run P (loadCellsFrom ⟨blk, off + i * k, none⟩ 0 k #[]) wr.drew = .ok (enc d[i]!).toArray wr.drew := run_loadCellsFrom_list P _ _ _ k (HK.out _) (HoldsK.cells hHd HK.out hlt)
        have lj : Sem.run P (loadCellsFrom ⟨blk, off + (i - 1) * k, none⟩ 0 k #[]) wr.drew = .ok (enc d[i - 1]!).toArray wr.drew := run_loadCellsFrom_list P _ _ _ k (HK.out _) (HoldsK.cells hHd HK.out (by omega))
        have bi : ∀ w, Sem.run P (binOp .eql (ρ.t 23) (.agg (enc d[i]!).toArray) (.agg (enc d[i - 1]!).toArray)) w = .ok (.bool (decide (d[i]! = d[i - 1]!))) w := HEQ.out _ _
        have A : Aside (∀ j, j < i → keeps d j = true) := hall
        have W1 : Aside (wr = w.drewN q) := hwr
        clear hall hwr hHd
        generalize hx : d[i]! = x at li bi
        generalize hy : d[i - 1]! = y at lj bi
        have B : Aside (d[i]! = x ∧ d[i - 1]! = y) := ⟨hx, hy⟩
        clear hx hy
        by_cases hdup : x = y
        · rw [decide_eq_true hdup] at bi
          obtain ⟨ci, hci⟩ : ∃ c, c = enc x := ⟨_, rfl⟩
          obtain ⟨cj, hcj⟩ : ∃ c, c = enc y := ⟨_, rfl⟩
          rw [← hci] at li bi
          rw [← hcj] at lj bi
          clear hci hcj
          go_wp2_with fail
          go_big_region_o
          all_goals go_wp2
          clear li lj bi
          go_loopg [3, 5] d.size (fun g s3 s5 wr => ∃ (kk k2 q2 : Nat) (dk : Array α), s3 = .int .i64 kk ∧ s5 = .int .i64 k2 ∧ 1 ≤ k2 ∧ i + k2 ≤ d.size ∧ d.size - (i + k2) ≤ g ∧ wr = putRowK enc k (Sort.ahead w q2) blk off dk ∧ CompInv d (i + k2) kk dk)
          case atStart => exact ⟨i, 1, q + 1, d, rfl, rfl, Nat.le_refl _, by omega, by omega, by rw [W1.out]; exact (putRowK_self enc k (Sort.ahead w (q + 1)) blk off d (holdsK_ahead enc k w (q + 1) blk off d HH.out)).symm, CompInv.start A.out (keeps_neg (by omega) (by rw [B.out.1, B.out.2]; exact hdup))⟩
          case round =>
            obtain ⟨kk, k2, q2, dk, rfl, rfl, hk2, hle, hg2, hwr, hI⟩ := hrel
            have hkk := hI.lt
            have hds := hI.size
            have bnd : ∀ x, x < dk.size → x * k + k ≤ dk.size * k := fun x hx => by
              have := Nat.mul_le_mul_right k (show x + 1 ≤ dk.size from hx); rwa [Nat.add_mul, Nat.one_mul] at this
            have W2 : Aside (wr = putRowK enc k (Sort.ahead w q2) blk off dk) := hwr
            have I2 : Aside (CompInv d (i + k2) kk dk) := hI
            by_cases hlt2 : i + k2 < d.size
            · have hHd : HoldsK enc k wr.drew blk off dk := by rw [hwr]; exact holdsK_putRowK enc k _ blk off d dk (holdsK_ahead enc k w (q2 + 1) blk off d HH.out) hds
              have eA : off + (i + k2) * k = off + i * k + k2 * k := by rw [Nat.add_mul]; omega
              have eB : off + (i + k2 - 1) * k = off + i * k + (k2 - 1) * k := by rw [show i + k2 - 1 = i + (k2 - 1) by omega, Nat.add_mul]; omega
              have li : Sem.run P (loadCellsFrom ⟨blk, off + (i + k2) * k, none⟩ 0 k #[]) wr.drew = .ok (enc dk[i + k2]!).toArray wr.drew := run_loadCellsFrom_list P _ _ _ k (HK.out _) (HoldsK.cells hHd HK.out (by omega))
              have lj : Sem.run P (loadCellsFrom ⟨blk, off + (i + k2 - 1) * k, none⟩ 0 k #[]) wr.drew = .ok (enc dk[i + k2 - 1]!).toArray wr.drew := run_loadCellsFrom_list P _ _ _ k (HK.out _) (HoldsK.cells hHd HK.out (by omega))
              rw [eA, hI.high (i + k2) (by omega)] at li
              rw [eB, hI.high (i + k2 - 1) (by omega)] at lj
              have bi : ∀ w, Sem.run P (binOp .neq (ρ.t 23) (.agg (enc d[i + k2]!).toArray) (.agg (enc d[i + k2 - 1]!).toArray)) w = .ok (.bool (!decide (d[i + k2]! = d[i + k2 - 1]!))) w := HNE.out _ _
              have st : Sem.run P (storeCells ⟨blk, off + kk * k, none⟩ (enc d[i + k2]!) 0) wr.drew = .ok () (wr.drew.setCells blk (off + kk * k) (enc d[i + k2]!)) := stores_of_holds P hHd (kk * k) _ (by rw [HK.out, size_flatK]; exact bnd kk (by omega)) (H1.out _)
              have hsu : (enc d[i + k2]!).length = k := HK.out _
              clear hHd hI hwr bnd eA eB
              generalize hu : d[i + k2]! = u at li bi st hsu
              generalize hv : d[i + k2 - 1]! = v at lj bi
              have C : Aside (d[i + k2]! = u ∧ d[i + k2 - 1]! = v) := ⟨hu, hv⟩
              clear hu hv
              by_cases huv : u = v
              · rw [decide_eq_true huv] at bi
                obtain ⟨ci, hci⟩ : ∃ c, c = enc u := ⟨_, rfl⟩
                obtain ⟨cj, hcj⟩ : ∃ c, c = enc v := ⟨_, rfl⟩
                rw [← hci] at li bi
                rw [← hcj] at lj bi
                clear hci hcj st hsu
                go_wp2_with fail
                go_big_region_o
                all_goals go_wp2
                go_roundg (d.size - (i + (k2 + 1)))
                case measure => omega
                case rel => exact ⟨kk, k2 + 1, q2 + 1, dk, rfl, by go_num, by omega, by omega, Nat.le_refl _, by rw [W2.out]; rfl, I2.out.skip (keeps_neg (by omega) (by rw [C.out.1, C.out.2]; exact huv))⟩
              · rw [decide_eq_false huv] at bi
                obtain ⟨ci, hci⟩ : ∃ c, c = enc u := ⟨_, rfl⟩
                obtain ⟨cj, hcj⟩ : ∃ c, c = enc v := ⟨_, rfl⟩
                rw [← hci] at li bi st hsu
                rw [← hcj] at lj bi
                have CI : Hid (ci = enc u) := hci
                clear hci hcj
                go_wp2_with fail
                go_big_region_o
                all_goals go_wp2
                go_roundg (d.size - (i + (k2 + 1)))
                case measure => omega
                case rel => exact ⟨kk + 1, k2 + 1, q2 + 1, dk.setIfInBounds kk u, by go_num, by go_num, by omega, by omega, Nat.le_refl _, by rw [CI.out]; exact set_worldK enc k HK.out (by omega) W2.out u, by have := I2.out.keep hlt2 (keeps_pos (by rw [C.out.1, C.out.2]; exact huv)); rwa [C.out.1] at this⟩
            · have hend : i + k2 = d.size := by omega
              have hHk : HoldsK enc k wr blk off dk := by rw [hwr]; exact holdsK_putRowK enc k _ blk off d dk (holdsK_ahead enc k w q2 blk off d HH.out) hds
              have hcell : ∀ j, j < (d.size - kk) * k → kk * k + j < dk.size * k := fun j hj => by
                have e : (d.size - kk) * k + kk * k = dk.size * k := by rw [← Nat.add_mul, hds]; congr 1; omega
                omega
              have hcl : ∀ ty, (Builtin.clear_ #[ρ.t 22] ty #[.slice (some ⟨blk, off + kk * k, none⟩) (d.size - kk) (cap - kk)]).run P wr = .ok (.tuple #[]) (wr.setCells blk (off + kk * k) ((List.replicate (d.size - kk) (enc zr)).flatten)) :=
                fun ty => run_clearK wr _ _ ty _ (enc zr) k (HK.out _) t22 HZ.out.1 HZ.out.2 (H1.out _) blk (off + kk * k) _ _ (by omega) (fun j hj => by rw [Nat.add_assoc, (hHk (kk * k + j) (by rw [size_flatK]; exact hcell j hj)).1]; rfl) (fun j hj => by rw [Nat.add_assoc]; exact (hHk (kk * k + j) (by rw [size_flatK]; exact hcell j hj)).2)
              clear hHk hI hwr hcell bnd
              go_wp2
              go_ret
              have hI := I2.out
              rw [hend] at hI
              refine ⟨by rw [hI.len]; rfl, q2, ?_⟩
              have e : (List.replicate (d.size - kk) (enc zr)).flatten = (List.replicate (d.size - kk) zr).flatMap enc := by rw [List.flatMap_replicate]
              rw [hI.len, ← hI.done zr, ← lay_worldK enc k HK.out _ blk off _ dk kk (by simp; omega), ← W2.out, e]
        · rw [decide_eq_false hdup] at bi
          obtain ⟨ci, hci⟩ : ∃ c, c = enc x := ⟨_, rfl⟩
          obtain ⟨cj, hcj⟩ : ∃ c, c = enc y := ⟨_, rfl⟩
          rw [← hci] at li bi
          rw [← hcj] at lj bi
          clear hci hcj
          go_wp2_with fail
          go_big_region_o
          all_goals go_wp2
          go_roundg (d.size - (i + 1))
          case measure => omega
          case rel =>
            refine ⟨i + 1, q + 1, by omega, by omega, Nat.le_refl _, by go_num, by rw [W1.out]; rfl, fun j hj => ?_⟩
            by_cases e : j = i
            · subst e
              exact keeps_pos (by rw [B.out.1, B.out.2]; exact hdup)
            · exact A.out j (by omega)
      · have hi' : i = d.size := by omega
        subst hi'
        go_wp2
        go_ret
        obtain ⟨e1, e2⟩ := HS.out q hall
        exact ⟨by rw [e1]; rfl, q, e2⟩
set_option maxHeartbeats 1000000 in
theorem compact0 {P : Program} {ρ : Ren} (L : CompLay P ρ) (a : Option Addr) (cap : Nat) (w : World) : Calls P (ρ.f 43) #[.slice a 0 cap] w fun e w' => e = .returned (.slice a 0 cap) ∧ w' = w := by
  have mixed := L.mixed; have t0 := L.t0; have a0 := L.a0; have z0 := L.z0; have v0 := L.v0; have t3 := L.t3; have a3 := L.a3; have z3 := L.z3; have v3 := L.v3; have t4 := L.t4; have a4 := L.a4; have z4 := L.z4; have v4 := L.v4; have t22 := L.t22; have a22 := L.a22; have z22 := L.z22; have v22 := L.v22
  obtain ⟨_, _, FG⟩ := L.f43
  go_enter FG, SlBodyN.n43_ntmps ρ
  go_wp2
  go_ret
  exact ⟨rfl, rfl⟩

def compact2 (l : List T2) : List T2 := compactUpTo l.toArray l.length
theorem compact2_len (l : List T2) : (compact2 l).length ≤ l.length := by
  unfold compact2 compactUpTo
  rw [List.length_map]
  have := List.length_filter_le (keeps l.toArray) (List.range l.length)
  simpa using this
noncomputable def F_compact2 : List V → Option (List V) := mkF (fun l : List T2 => [vL I2 v2 l]) (fun l => l.length ≤ 1048576) (fun l => [vL I2 v2 (compact2 l)])
theorem flat2_len : ∀ l : List T2, (l.flatMap enc2).length = l.length * 2
  | [] => rfl
  | x :: r => by
    rw [List.flatMap_cons, List.length_append, flat2_len r, List.length_cons]
    simp [enc2]
    omega
theorem zero2_cells : (Value.agg (enc2 ⟨0, 0⟩).toArray).cells = (enc2 ⟨0, 0⟩).toArray := by simp [Value.cells, enc2]

theorem compact_contract {P : Program} {ρ : Ren} (L : CompLay P ρ) (aE : ∀ w, (isAgg (ρ.t 23)).run P w = .ok true w) (zE : ∀ w, (Go.sizeOf (ρ.t 23)).run P w = .ok 2 w)
    (heq : ∀ (x y : T2) (w : World), Sem.run P (binOp .eql (ρ.t 23) (.agg (enc2 x).toArray) (.agg (enc2 y).toArray)) w = .ok (.bool (decide (x = y))) w)
    (hne : ∀ (x y : T2) (w : World), Sem.run P (binOp .neq (ρ.t 23) (.agg (enc2 x).toArray) (.agg (enc2 y).toArray)) w = .ok (.bool (!decide (x = y))) w)
    (hgd : P.eqGuardType P.depth (ρ.t 23) = false) (v23 : ∀ w, (zeroValue (ρ.t 23)).run P w = .ok (.agg (enc2 ⟨0, 0⟩).toArray) w) :
    Contract .zero P (ρ.f 43) ⟨[.tk false [.sl [.sc, .sc]]], [(false, [.sl [.sc, .sc]])], F_compact2⟩ := by
  refine ⟨?_, fun ks ps h => by cases h⟩
  intro w vals ds outs ro rows boxes tk _ hF hA hnd hro _
  change F_compact2 ds = some outs at hF
  unfold F_compact2 at hF
  obtain ⟨l, hl, hpre, rfl⟩ := mkF_inv hF
  have empty : ∀ (p : Option Addr) (S : List Nat), l = [] → Rep w [Value.slice p 0 0] [vL I2 v2 []] S → OwnHd w (Value.slice p 0 0) (vL I2 v2 []) → S.Nodup → (∀ x ∈ S, Wr w x) →
      Calls P (ρ.f 43) #[.slice p 0 0] w (PostC .zero ⟨[.tk false [.sl [.sc, .sc]]], [(false, [.sl [.sc, .sc]])], F_compact2⟩ w [] [] (S ++ []) [vL I2 v2 (compact2 l)]) := by
    intro p S h0 hr ho hn hw
    subst h0
    refine (compact0 L p 0 w).mono ?_
    rintro e w' ⟨rfl, rfl⟩
    refine ⟨⟨.slice p 0 0, [.slice p 0 0], [vL I2 v2 []], [], [], S ++ [] ++ [], ?_, rfl, by simp [retV], .cons (.sl hr ho .nil) (by simp [packV]) .nil, by simpa using hn, ?_, .nil, .nil⟩, Moved.rfl' _ _⟩
    · simp [compact2, compactUpTo]
    · intro b hb
      have hb' : b ∈ S := by simpa using hb
      exact ⟨.inr (by simpa using hb'), hw b hb'⟩
  cases hA with
  | tk hcs hw hp t =>
    cases t
    cases hcs with
    | sl h ho t =>
      cases t
      simp only [packV, Bool.false_eq_true, if_false, List.cons.injEq, and_true] at hp
      subst hp
      simp only [List.append_nil, List.cons.injEq, and_true] at hl
      cases h with
      | atom ha t =>
        cases t
        cases ha with
        | nil ks =>
          simp only [vL, V.list.injEq] at hl
          obtain ⟨rfl, h0⟩ := hl
          have h0 : l = [] := by simpa using h0.symm
          exact empty none [] h0 (.atom (.nil _) .nil) ho (by simp) (by simp)
        | nil0 ks a =>
          simp only [vL, V.list.injEq] at hl
          obtain ⟨rfl, h0⟩ := hl
          have h0 : l = [] := by simpa using h0.symm
          exact empty (some a) [] h0 (.atom (.nil0 _ _) .nil) ho (by simp) (by simp)
        | int => simp [vL] at hl
        | bool => simp [vL] at hl
        | str => simp [vL] at hl
        | fn => simp [vL] at hl
        | noErr => simp [vL] at hl
        | err => simp [vL] at hl
      | row b off n cap ks es vs S cs E fz hnl hk hcap hb hs hv hin t =>
        cases t
        simp only [vL, V.list.injEq] at hl
        obtain ⟨rfl, rfl⟩ := hl
        obtain ⟨rfl, rfl⟩ := rep_ints hin
        obtain ⟨cs', E', fz', hb', hfz⟩ := hw b (by simp)
        rw [hb] at hb'
        simp only [Option.some.injEq, Obj.cells.injEq] at hb'
        obtain ⟨rfl, rfl, rfl⟩ := hb'
        simp only [List.length_map] at hnl
        subst hnl
        have k2 : I2.length = 2 := rfl
        rw [k2] at hs hv
        have hlt := heap_lt hb
        have hH : Go.Sort.HoldsK enc2 2 w b off l.toArray := by
          intro j hj
          rw [Go.Sort.size_flatK] at hj
          have hj' : j < l.length * 2 := by simpa using hj
          have h1 := hv j hj'
          rw [Go.Mw.flatK_get l j hj'] at h1
          refine ⟨by simp [World.cell?, hb, h1], ?_⟩
          simp only [World.frozen?, hb]
          rcases hfz with rfl | hfz
          · simp
          · simp; omega
        have hlen := compact2_len l
        refine (compactK L 2 aE zE enc2 (fun _ => rfl) (fun x v hv => by simp [enc2] at hv; rcases hv with rfl | rfl <;> rfl) heq hne (fun op a b x y w => run_eqGuard_agg w op _ a b _ _ hgd) ⟨0, 0⟩ v23 zero2_cells b off cap l.toArray w hH (by simp; omega) (by simpa using hcap)).mono ?_
        rintro e w' ⟨rfl, q, rfl⟩
        have eF : (compactUpTo l.toArray l.toArray.size ++ List.replicate (l.toArray.size - (compactUpTo l.toArray l.toArray.size).length) (⟨0, 0⟩ : T2)) = compact2 l ++ List.replicate (l.length - (compact2 l).length) ⟨0, 0⟩ := rfl
        have eN : (compactUpTo l.toArray l.toArray.size).length = (compact2 l).length := rfl
        rw [eF, eN]
        have hfl : (compact2 l ++ List.replicate (l.length - (compact2 l).length) (⟨0, 0⟩ : T2)).length = l.length := by simp; omega
        have hff : ∀ j, j < (compact2 l).length * 2 → ((compact2 l ++ List.replicate (l.length - (compact2 l).length) (⟨0, 0⟩ : T2)).flatMap enc2)[j]? = ((compact2 l).flatMap enc2)[j]? := fun j hj => by
          rw [List.flatMap_append, List.getElem?_append_left]
          rw [flat2_len]
          exact hj
        generalize (compact2 l ++ List.replicate (l.length - (compact2 l).length) (⟨0, 0⟩ : T2)) = full at *
        have eW : Go.Sort.putRowK enc2 2 (Go.Sort.ahead w q) b off full.toArray = sortWorldK enc2 2 w b off q full.toArray #[] := by
          unfold sortWorldK Go.Sort.grow
          simp
        rw [eW]
        have hsz : (Go.Sort.flatK enc2 2 full.toArray).size = l.length * 2 := by rw [Go.Sort.size_flatK]; simp [hfl]
        have hb2 := sw_block (l := full) (off := off) (m := q) (os := #[]) hb
        have hcsz : (Go.Sort.putCells id off (Go.Sort.flatK enc2 2 full.toArray) cs).size = cs.size := by simp [Go.Sort.putCells]
        have hW : Wr (sortWorldK enc2 2 w b off q full.toArray #[]) b := ⟨_, _, _, hb2, by rw [hcsz]; exact hfz⟩
        refine ⟨⟨.slice (some ⟨b, off, none⟩) (compact2 l).length cap, [.slice (some ⟨b, off, none⟩) (compact2 l).length cap], [vL I2 v2 (compact2 l)], [], [], [b], rfl, rfl, by simp [retV], .cons (us := [.slice (some ⟨b, off, none⟩) (compact2 l).length cap]) (S := [b]) (S' := []) (.sl (S1 := [b]) (S := []) ?_ ⟨?_, ?_⟩ .nil) (by simp [packV]) .nil, by simp, ?_, .nil, .nil⟩, ?_⟩
        · refine .row b off (compact2 l).length cap I2 ((compact2 l).map v2) ((compact2 l).flatMap enc2) [] _ E fz (by simp) ?_ (by omega) hb2 (by rw [hcsz, k2]; omega) ?_ (ints_rep _ _) .nil
          · intro e he
            obtain ⟨x, -, rfl⟩ := List.mem_map.1 he
            simp [I2, aksOk, akOk, v2, V.cells]
          · intro j hj
            rw [k2] at hj
            rw [sw_cells (by rw [hsz]; omega) (by rw [hsz]; exact hs), ← Go.Mw.flatK_get _ _ (by rw [hfl]; omega), hff j hj]
        · rcases ho.1 with h | ⟨g, n, c, ks, es, h1, h2, h3, h4, h5⟩
          · cases h
          · simp only [Value.slice.injEq, Option.some.injEq, Addr.mk.injEq] at h1
            obtain ⟨⟨rfl, rfl, -⟩, rfl, rfl⟩ := h1
            simp only [vL, V.list.injEq] at h2
            obtain ⟨rfl, rfl⟩ := h2
            refine .inr ⟨b, (compact2 l).length, cap, I2, _, rfl, rfl, fun hc => ?_, by omega, h5⟩
            obtain ⟨cur, E1, fz1, g1, g2, g3⟩ := h3 hc
            rw [hb] at g1
            simp only [Option.some.injEq, Obj.cells.injEq] at g1
            obtain ⟨rfl, rfl, rfl⟩ := g1
            exact ⟨_, _, _, hb2, by rw [hcsz]; exact g2, by rw [hcsz]; exact g3⟩
        · intro b1 o1 n1 c1 ks1 es1 _ h2 j u js es' _ _ h5
          simp only [vL, V.list.injEq] at h2
          obtain ⟨rfl, rfl⟩ := h2
          obtain ⟨x, hx, hxc⟩ := List.mem_flatMap.1 (List.mem_of_getElem? h5)
          obtain ⟨y, -, rfl⟩ := List.mem_map.1 hx
          simp [v2, V.cells] at hxc
        · intro x hx
          simp only [List.mem_singleton] at hx
          subst hx
          exact ⟨.inr (by simp), hW⟩
        · refine ⟨rfl, rfl, rfl, sw_size, fun x hx hnx => sw_other (fun e => hnx (by simp [ioB, e])) hx, fun x cs1 E1 fz1 hx => ?_, ?_⟩
          · by_cases e : x = b
            · subst e
              rw [hb] at hx
              simp only [Option.some.injEq, Obj.cells.injEq] at hx
              obtain ⟨rfl, rfl, rfl⟩ := hx
              exact ⟨_, hb2, hcsz⟩
            · exact ⟨cs1, by rw [sw_other e (heap_lt hx)]; exact hx, rfl⟩
          · exact fun _ => Nat.le_add_right _ _
end Go.Mw

namespace Go.Mw
open Go.Proofs Go.Lib Go.Sort Go.Shelf
theorem lt_cmpNotes (x y : T2) : ltOf cmpNotes x y = noteLess x y := by
  unfold ltOf cmpNotes
  cases h : noteLess x y with
  | true => simp
  | false => by_cases e : x = y <;> simp [e]
theorem slices_SortFunc_Limpl_Note_impl_Note_eq : F_sortBy cmpNotes = F_slices_SortFunc_Limpl_Note_impl_Note := by
  unfold F_sortBy F_slices_SortFunc_Limpl_Note_impl_Note sortBy sortN
  simp only [lt_cmpNotes]
  rfl
theorem impl_compareNotes_F (x y : T2) : F_compareNotes [.int .i64 x.a, .int .i64 x.b, .int .i64 y.a, .int .i64 y.b] = some [.int .i64 (cmpNotes x y)] := mkF_eq F_compareNotes_inj (x, y) trivial
theorem impl_compareNotes_swo : SWO (ltOf cmpNotes) where
  irrefl x := by rw [lt_cmpNotes]; simp [noteLess]
  trans x y z h1 h2 := by rw [lt_cmpNotes] at *; simp only [noteLess, decide_eq_true_eq] at *; omega
  ntrans x y z h1 h2 := by rw [lt_cmpNotes] at *; simp only [noteLess, decide_eq_false_iff_not] at *; omega
theorem impl_compareNotes_tot (x y : T2) (h1 : ltOf cmpNotes x y = false) (h2 : ltOf cmpNotes y x = false) : x = y := by
  rw [lt_cmpNotes] at *
  cases x; cases y
  simp only [noteLess, decide_eq_false_iff_not, T2.mk.injEq] at *
  omega

theorem compact_uq (l : List T2) : ∀ k, k ≤ l.length → compactUpTo l.toArray k = uqTo l k
  | 0, _ => rfl
  | k + 1, h => by
    have hk : k < l.length := by omega
    have e1 : l.toArray[k]! = l[k] := by simp [hk]
    have e2 : l[k]?.getD ⟨0, 0⟩ = l[k] := by simp [hk]
    rw [compactUpTo_succ, compact_uq l k (by omega), uqTo, e1, e2]
    congr 1
    have e3 : keeps l.toArray k = decide (k = 0 ∨ l[k]? ≠ l[k - 1]?) := by
      unfold keeps
      rw [decide_eq_decide, e1]
      by_cases h0 : k = 0
      · simp [h0]
      · have e4 : l.toArray[k - 1]! = l[k - 1] := by simp [show k - 1 < l.length by omega]
        rw [e4, List.getElem?_eq_getElem hk, List.getElem?_eq_getElem (show k - 1 < l.length by omega)]
        simp
    rw [e3]
    by_cases c : k = 0 ∨ l[k]? ≠ l[k - 1]?
    · rw [if_pos c, if_pos (decide_eq_true c)]
    · rw [if_neg c, if_neg (by rw [decide_eq_false c]; simp)]
theorem compact2_uniq (l : List T2) : compact2 l = uniq l := compact_uq l l.length (Nat.le_refl _)
theorem slices_Compact_Limpl_Note_impl_Note_eq : F_compact2 = F_slices_Compact_Limpl_Note_impl_Note := by
  unfold F_compact2 F_slices_Compact_Limpl_Note_impl_Note
  simp only [compact2_uniq]
  rfl

theorem fields2 {P : Program} {T I : TypeId} {f1 f2 : Field} (hu : P.underlying T = some (.struct #[f1, f2])) (n1 : f1.name ≠ "_") (n2 : f2.name ≠ "_") (t1 : f1.type = I) (t2 : f2.type = I) (o1 : f1.offset = 0) (o2 : f2.offset = 1) (hp : P.stoodInHeld T = false)
    (uI : P.underlying I = some (.int .i64)) (aI : ∀ w, (isAgg I).run P w = .ok false w) (zI : ∀ w, (Go.sizeOf I).run P w = .ok 1 w) (x y : T2) (w : World) :
    (Op.equalIn 10000 T (.agg (enc2 x).toArray) (.agg (enc2 y).toArray)).run P w = .ok (decide (x = y)) w := by
  have hf : P.fieldsOf T = #[f1, f2] := by unfold Program.fieldsOf; rw [hu]
  have hS : P.underlying T = some (.struct (P.fieldsOf T)) := by rw [hf]; exact hu
  rw [show (10000 : Nat) = 9999 + 1 from rfl, run_equalIn_agg w 9999 T _ _ hS hp, hf]
  simp only [Op.eqFields, n1, n2, ne_eq, not_false_eq_true, if_true, t1, t2, o1, o2, enc2]
  go_simp
  cases x; cases y
  simp only [T2.mk.injEq]
  split
  · rename_i h1
    split
    · rename_i h2
      simp [h1, h2]
    · rename_i h2
      simp [h2]
  · rename_i h1
    simp [h1]
theorem eql2 {P : Program} {T I : TypeId} {f1 f2 : Field} (hu : P.underlying T = some (.struct #[f1, f2])) (n1 : f1.name ≠ "_") (n2 : f2.name ≠ "_") (t1 : f1.type = I) (t2 : f2.type = I) (o1 : f1.offset = 0) (o2 : f2.offset = 1) (hp : P.stoodInHeld T = false)
    (uI : P.underlying I = some (.int .i64)) (aI : ∀ w, (isAgg I).run P w = .ok false w) (zI : ∀ w, (Go.sizeOf I).run P w = .ok 1 w) (x y : T2) (w : World) :
    Sem.run P (binOp .eql T (.agg (enc2 x).toArray) (.agg (enc2 y).toArray)) w = .ok (.bool (decide (x = y))) w := by
  rw [run_eql_struct, fields2 hu n1 n2 t1 t2 o1 o2 hp uI aI zI]
  rfl
theorem neq2 {P : Program} {T I : TypeId} {f1 f2 : Field} (hu : P.underlying T = some (.struct #[f1, f2])) (n1 : f1.name ≠ "_") (n2 : f2.name ≠ "_") (t1 : f1.type = I) (t2 : f2.type = I) (o1 : f1.offset = 0) (o2 : f2.offset = 1) (hp : P.stoodInHeld T = false)
    (uI : P.underlying I = some (.int .i64)) (aI : ∀ w, (isAgg I).run P w = .ok false w) (zI : ∀ w, (Go.sizeOf I).run P w = .ok 1 w) (x y : T2) (w : World) :
    Sem.run P (binOp .neq T (.agg (enc2 x).toArray) (.agg (enc2 y).toArray)) w = .ok (.bool (!decide (x = y))) w := by
  rw [run_neq_struct, fields2 hu n1 n2 t1 t2 o1 o2 hp uI aI zI]
  rfl
theorem compact_at {P : Program} {T I : TypeId} {f1 f2 : Field} {ρ : Ren} (L : CompLay P ρ) (eT : ρ.t 23 = T) (aE : ∀ w, (isAgg T).run P w = .ok true w) (zE : ∀ w, (Go.sizeOf T).run P w = .ok 2 w)
    (v23 : ∀ w, (zeroValue T).run P w = .ok (.agg (enc2 ⟨0, 0⟩).toArray) w) (hgd : P.eqGuardType P.depth T = false)
    (hu : P.underlying T = some (.struct #[f1, f2])) (n1 : f1.name ≠ "_") (n2 : f2.name ≠ "_") (t1 : f1.type = I) (t2 : f2.type = I) (o1 : f1.offset = 0) (o2 : f2.offset = 1) (hp : P.stoodInHeld T = false)
    (uI : P.underlying I = some (.int .i64)) (aI : ∀ w, (isAgg I).run P w = .ok false w) (zI : ∀ w, (Go.sizeOf I).run P w = .ok 1 w) :
    Contract .zero P (ρ.f 43) ⟨[.tk false [.sl [.sc, .sc]]], [(false, [.sl [.sc, .sc]])], F_compact2⟩ := by
  subst eT
  exact compact_contract L aE zE (fun x y w => eql2 hu n1 n2 t1 t2 o1 o2 hp uI aI zI x y w) (fun x y w => neq2 hu n1 n2 t1 t2 o1 o2 hp uI aI zI x y w) hgd v23
end Go.Mw

