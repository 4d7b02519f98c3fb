/- What functions of the program compute, as small pure programs, shown against plain Lean functions: no condition. -/
import Derived.Shelf.SlSortCmp.NoneTotal
import Derived.Shelf.SlSortCmp.Insertion1
import Derived.Shelf.Sort.Plain
import Derived.Shelf.Slices.In.SortNone
import Derived.Test.YtobecpmneaninaaPl1
namespace Go.Mw
open Go.Shelf Go.RowKit Go.Lib Go.Proofs
instance : Inhabited T2 := ⟨⟨0, 0⟩⟩
theorem moved_world {w w' : World} {X : Nat → Prop} (h : Moved w w' X true) (hX : ∀ b, ¬ X b) : ∃ q os', w' = Go.Sort.grow (w.drewN q) os' := by
  refine ⟨w'.drawn - w.drawn, w'.heap.extract w.heap.size w'.heap.size, ?_⟩
  obtain ⟨heap, tape, drawn, os, output⟩ := w
  obtain ⟨heap', tape', drawn', os', output'⟩ := w'
  obtain ⟨h1, h2, h3, h4, h5, -, h60⟩ := h
  have h6 := h60 rfl
  dsimp only at h1 h2 h3 h4 h5 h6
  subst h1 h2 h3
  have hh : heap' = heap ++ heap'.extract heap.size heap'.size := by
    apply Array.ext_getElem?
    intro i
    rw [Array.getElem?_append]
    split
    · rename_i hi; exact h5 i hi (hX i)
    · rename_i hi
      rw [Array.getElem?_extract]
      by_cases h7 : i < heap'.size
      · have e : heap.size + (i - heap.size) = i := by omega
        rw [e, if_pos (by omega)]
      · rw [Array.getElem?_eq_none (by omega), if_neg (by omega)]
  have hd : drawn' = drawn + (drawn' - drawn) := by omega
  simp only [Go.Sort.grow, World.drewN]
  rw [← hh, ← hd]

theorem Moved.rfl' (w : World) (X : Nat → Prop) : Moved w w X true := ⟨rfl, rfl, rfl, Nat.le_refl _, fun _ _ _ => rfl, fun _ cs _ _ h => ⟨cs, h, rfl⟩, fun _ => Nat.le_refl _⟩

end Go.Mw

namespace Go.Mw
open Go.Shelf Go.RowKit Go.Lib Go.Proofs
theorem swp_list {α : Type} [Inhabited α] (A C : List α) (a b : α) : Go.Sort.swp (A ++ a :: b :: C).toArray (A.length + 1) A.length = (A ++ b :: a :: C).toArray := by
  have h1 : (A ++ a :: b :: C).toArray[A.length]! = a := by simp
  have h2 : (A ++ a :: b :: C).toArray[A.length + 1]! = b := by simp
  unfold Go.Sort.swp
  rw [h1, h2]
  simp
def clampN (n x : Nat) : Nat := if x < n then x else 0
theorem clampN_lt {n x : Nat} (h : x < n) : clampN n x = x := if_pos h
theorem clampN_range {n x : Nat} (h : 0 < n) : clampN n x < n := by unfold clampN; split <;> omega
def ltK (ks : List Int) (n : Nat) (x y : Nat) : Bool := decide (keyAt ks (clampN n x) < keyAt ks (clampN n y))
theorem ins_inner {ks : List Int} {n x : Nat} {o rest : List Nat} (hx : x < n) (ho : ∀ y ∈ o, y < n) : ∀ p, p ≤ o.length →
    Go.Sort.insInner (ltK ks n) 0 p (o.take p ++ x :: (o.drop p ++ rest)).toArray = (o.take (place ks x o p) ++ x :: (o.drop (place ks x o p) ++ rest)).toArray
  | 0, _ => rfl
  | p + 1, hp => by
    have hpl : p < o.length := hp
    have e1 : o.take (p + 1) = o.take p ++ [o[p]] := take_succ_get hpl
    have e2 : o.drop p = o[p] :: o.drop (p + 1) := List.drop_eq_getElem_cons hpl
    have hl : (o.take p).length = p := by simp; omega
    have e3 : o.take (p + 1) ++ x :: (o.drop (p + 1) ++ rest) = o.take p ++ o[p] :: x :: (o.drop (p + 1) ++ rest) := by rw [e1, List.append_assoc]; rfl
    have g1 : (o.take (p + 1) ++ x :: (o.drop (p + 1) ++ rest)).toArray[p + 1]! = x := by
      have : (o.take (p + 1)).length = p + 1 := by simp; omega
      rw [← this]; simp
    have g2 : (o.take (p + 1) ++ x :: (o.drop (p + 1) ++ rest)).toArray[p]! = o[p] := by
      have gA : ∀ (A C : List Nat) (a : Nat), (A ++ a :: C).toArray[A.length]! = a := fun A C a => by simp
      have := gA (o.take p) (x :: (o.drop (p + 1) ++ rest)) o[p]
      rw [hl] at this
      rw [e3]
      exact this
    have hlt : ltK ks n x o[p] = decide (keyAt ks x < keyAt ks o[p]) := by unfold ltK; rw [clampN_lt hx, clampN_lt (ho _ (List.getElem_mem hpl))]
    have hpc : place ks x o (p + 1) = if keyAt ks x < keyAt ks o[p] then place ks x o p else p + 1 := by rw [place, List.getElem?_eq_getElem hpl, Option.getD_some]
    rw [Go.Sort.insInner, g1, g2, hlt, hpc]
    by_cases h : keyAt ks x < keyAt ks o[p]
    · rw [if_pos (by simp [h]), if_pos h]
      have := swp_list (o.take p) (o.drop (p + 1) ++ rest) o[p] x
      rw [hl, ← e3] at this
      rw [this]
      have e4 : o.take p ++ x :: o[p] :: (o.drop (p + 1) ++ rest) = o.take p ++ x :: (o.drop p ++ rest) := by rw [e2]; rfl
      rw [e4]
      exact ins_inner hx ho p (by omega)
    · rw [if_neg (by simp [h]), if_neg h]
theorem ins_outer {ks : List Int} {n : Nat} : ∀ m i, i + m = n → Go.Sort.insOuter (ltK ks n) 0 n i (ordTo ks i ++ (List.range n).drop i).toArray = (ordTo ks n).toArray
  | 0, i, h => by
    obtain rfl : i = n := by omega
    rw [Go.Sort.insOuter, if_neg (by omega), List.drop_of_length_le (by simp)]
    simp
  | m + 1, i, h => by
    have hi : i < n := by omega
    have e1 : (List.range n).drop i = i :: (List.range n).drop (i + 1) := by
      rw [List.drop_eq_getElem_cons (by simpa using hi)]
      simp
    have hol := ordTo_len ks i
    have e2 : ordTo ks i ++ (List.range n).drop i = (ordTo ks i).take i ++ i :: ((ordTo ks i).drop i ++ (List.range n).drop (i + 1)) := by
      have ht : (ordTo ks i).take i = ordTo ks i := List.take_of_length_le (by omega)
      have hd : (ordTo ks i).drop i = [] := List.drop_eq_nil_iff.2 (by omega)
      rw [e1, ht, hd, List.nil_append]
    rw [Go.Sort.insOuter, if_pos hi, e2, ins_inner hi (fun y hy => Nat.lt_trans (ordTo_lt hy) hi) i (by omega)]
    have e3 : (ordTo ks i).take (place ks i (ordTo ks i) i) ++ i :: ((ordTo ks i).drop (place ks i (ordTo ks i) i) ++ (List.range n).drop (i + 1)) = ordTo ks (i + 1) ++ (List.range n).drop (i + 1) := by
      rw [ordTo, insR, hol]; simp
    rw [e3]
    exact ins_outer m (i + 1) (by omega)
theorem ins_all {ks : List Int} {n : Nat} (hn : 0 < n) : Go.Sort.insertionSort (ltK ks n) (List.range n).toArray 0 n = (ordTo ks n).toArray := by
  have h := ins_outer (ks := ks) (n := n) (n - 1) 1 (by omega)
  have e : ordTo ks 1 ++ (List.range n).drop 1 = List.range n := by
    obtain ⟨m, rfl⟩ : ∃ m, n = m + 1 := ⟨n - 1, by omega⟩
    simp [ordTo, insR, List.range_succ_eq_map]
  rw [e] at h
  exact h

theorem moved_world2 {w w' : World} {X : Nat → Prop} (h : Moved w w' X true) (hX : ∀ b, b < w.heap.size → X b → w'.heap[b]? = w.heap[b]?) : ∃ q os', w' = Go.Sort.grow (w.drewN q) os' :=
  moved_world (X := fun _ => False) ⟨h.os, h.tape, h.output, h.size, fun b hb _ => by
    by_cases hx : X b
    · exact hX b hb hx
    · exact h.block b hb hx, h.sz, h.dr⟩ (fun _ h => h)
section
variable {α : Type} [Inhabited α] {w : World} {b off m : Nat} {d : Array α} {enc : α → Value} {os : Array Obj}
theorem s1_block {cs : Array Value} {E : TypeId} {fz : Nat × Nat} (hb : w.heap[b]? = some (.cells cs E fz)) : (sortWorld enc w b off m d os).heap[b]? = some (Obj.cells (Go.Sort.putCells enc off d cs) E fz) := by
  have hlt := heap_lt hb
  show ((w.heap.modify b _) ++ os)[b]? = _
  rw [Array.getElem?_append_left (by simpa using hlt), Array.getElem?_modify, if_pos rfl, hb]
  rfl
theorem s1_other {x : Nat} (hx : x ≠ b) (hlt : x < w.heap.size) : (sortWorld enc w b off m d os).heap[x]? = w.heap[x]? := by
  show ((w.heap.modify b _) ++ os)[x]? = _
  rw [Array.getElem?_append_left (by simpa using hlt), Array.getElem?_modify, if_neg (fun e => hx e.symm)]
theorem s1_size : w.heap.size ≤ (sortWorld enc w b off m d os).heap.size := by
  show _ ≤ ((w.heap.modify b _) ++ os).size
  rw [Array.size_append, Array.size_modify]; omega
theorem s1_cells {cs : Array Value} {j : Nat} (hj : j < d.size) (hs : off + d.size ≤ cs.size) : (Go.Sort.putCells enc off d cs)[off + j]? = some (enc d[j]!) := by
  unfold Go.Sort.putCells
  rw [Array.getElem?_mapIdx, Array.getElem?_eq_getElem (by omega)]
  have e : off + j - off = j := by omega
  simp only [Option.map_some, Option.some.injEq, e]
  rw [if_pos (by omega)]
end
theorem rep_nats {w : World} : ∀ {l : List Nat} {vs : List Value} {S : List Nat}, Rep w vs (((ints l).map v1).flatMap V.cells) S → vs = l.map (fun x : Nat => Value.int .i64 x) ∧ S = []
  | [], _, _, h => by cases h; exact ⟨rfl, rfl⟩
  | x :: r, _, _, h => by
    simp only [ints, List.map_cons, List.flatMap_cons, v1, V.cells, List.cons_append, List.nil_append] at h
    cases h with
    | atom ha h =>
      cases ha
      obtain ⟨rfl, rfl⟩ := rep_nats (l := r) h
      exact ⟨rfl, rfl⟩
theorem nats_rep (w : World) : ∀ l : List Nat, Rep w (l.map (fun x : Nat => Value.int .i64 x)) (((ints l).map v1).flatMap V.cells) []
  | [] => .nil
  | x :: r => by
    simp only [ints, List.map_cons, List.flatMap_cons, v1, V.cells, List.cons_append, List.nil_append]
    exact .atom (.int _ _) (nats_rep w r)
theorem CellsR.frame {w w' : World} : ∀ {ks : List AK} {us : List Value} {ds : List V} {S : List Nat}, CellsR w ks us ds S → (∀ b ∈ S, w'.heap[b]? = w.heap[b]?) → CellsR w' ks us ds S
  | _, _, _, _, .nil, _ => .nil
  | _, _, _, _, .sc h t, hf => .sc (h.frame (fun b hb => by cases hb)) (t.frame hf)
  | _, _, _, _, .sl h t, hf => .sl (h.frame fun b hb => hf b (List.mem_append_left _ hb)) (t.frame fun b hb => hf b (List.mem_append_right _ hb))
section
variable {P : Program} {ρ : Ren}
set_option maxRecDepth 100000 in
theorem ins_none (L : SlLaysF.n20 P ρ) (x : Option Addr) (cap : Nat) (fv : Value) (w : World) :
    Calls P (ρ.f 20) #[.slice x 0 cap, .int .i64 0, .int .i64 0, fv] w fun e w' => e = .returned (.tuple #[]) ∧ w' = w := by
  have mixed := L.mixed; have t0 := L.t0; have a0 := L.a0; have z0 := L.z0; have v0 := L.v0; have t3 := L.t3; have a3 := L.a3; have z3 := L.z3; have v3 := L.v3; have t4 := L.t4; have a4 := L.a4; have z4 := L.z4; have v4 := L.v4; have t22 := L.t22; have a22 := L.a22; have z22 := L.z22; have v22 := L.v22; have t25 := L.t25; have a25 := L.a25; have z25 := L.z25; have v25 := L.v25
  obtain ⟨_, _, FG⟩ := L.f20
  go_enter FG, SlBodyF.n20_ntmps ρ
  go_wp2
  go_loopg [8] 0 (fun _ vi wr => vi = .int .i64 1 ∧ wr = w)
  case atStart => exact ⟨rfl, rfl⟩
  case round =>
    obtain ⟨rfl, rfl⟩ := hrel
    go_wp2
    go_end0
    exact ⟨rfl, rfl⟩

theorem ins_contract (L : SlLaysF.n20 P ρ) {g : Nat} (eg : ∀ args w, (callFunc g args).run P w = .ok (.enter g args) w) {Fg : List V → Option (List V)}
    (hc : Contract .zero P g ⟨[.val false [.sc], .val false [.sc], .ptr 0 [.sl [.sc, .sc]]], [(false, [.sc])], Fg⟩) {K : List T2 → List Int}
    (hFg : ∀ (l : List T2) (i k : Nat), l.length ≤ 9 → i < l.length → k < l.length → Fg [.int .i64 i, .int .i64 k, vL I2 v2 l] = some [.int .i64 (cmpI (keyAt (K l) i) (keyAt (K l) k))]) :
    Contract .zero P (ρ.f 20) ⟨[.io false [.sl [.sc]], .val false [.sc], .val false [.sc], .ptr (cloK + g) [.sl [.sc, .sc]]], [], F_ins K⟩ := by
  refine ⟨?_, fun ks ps h => by cases h⟩
  intro w vals ds outs ro rows boxes tk _ hF hA hnd hro _
  change F_ins K ds = some outs at hF
  unfold F_ins at hF
  obtain ⟨⟨o, a, b0, l⟩, hl, ⟨ho, ha0, hb0, hl9⟩, rfl⟩ := mkF_inv hF
  dsimp only at hl ho ha0 hb0 hl9 ⊢
  subst ho ha0 hb0
  cases hA with
  | @io _ _ _ us1 ds1 _ _ hv _ R rows' _ _ hcs hp t =>
  cases t with
  | val hc1 hp1 t =>
  cases t with
  | val hc2 hp2 t =>
  cases t with
  | @ptr po ks ps us ds4 ds' S ro' bx E vs rows'' boxes' tk' hbx hcb t =>
  cases t
  cases hc1 with
  | sc hr1 hc1 =>
  cases hc1
  cases hc2 with
  | sc hr2 hc2 =>
  cases hc2
  cases hcs with
  | @sl u d _ _ _ _ S1 _ h hn hw t =>
  cases t
  simp only [packV, Bool.false_eq_true, if_false, List.cons.injEq, and_true] at hp hp1 hp2
  subst hp hp1 hp2
  simp only [List.append_nil, List.cons_append, List.nil_append, List.cons.injEq] at hl
  obtain ⟨rfl, rfl, rfl, hl4⟩ := hl
  obtain ⟨rfl, _⟩ := hr1.int_inv
  obtain ⟨rfl, _⟩ := hr2.int_inv
  cases hcb with
  | @sl ub db _ _ _ _ S2 _ hrb tb =>
  cases tb
  simp only [List.cons.injEq, and_true] at hl4
  subst hl4
  simp only [List.append_nil, List.nil_append] at hnd hro ⊢
  rw [ptrV_clo]
  have hbxS : bx ∉ S1 := fun hm => by
    simp only [ioB, List.flatMap_cons, List.flatMap_nil, List.append_nil, List.map_cons, List.map_nil] at hnd
    exact (List.nodup_append.1 hnd).2.2 bx hm bx (by simp) rfl
  have hS2 : ∀ y ∈ S2, y ∉ S1 := fun y hy hm => hro y (by simp [hy]) (by simp [ioB, hm])
  have fin : ∀ (w' : World) (u' : Value), u' = u → Rep w' [u] [vL I1 v1 (ordK K l)] S1 → (∀ y ∈ S1, Wr w' y) → (∀ y, y < w.heap.size → y ∉ S1 → w'.heap[y]? = w.heap[y]?) → Moved w w' (· ∈ S1) true →
      PostC .zero ⟨[.io false [.sl [.sc]], .val false [.sc], .val false [.sc], .ptr (cloK + g) [.sl [.sc, .sc]]], [], F_ins K⟩ w [(u, S1)] [(bx, [.sl [.sc, .sc]], [ub])] [] [vL I1 v1 (ordK K l)] (.returned (.tuple #[])) w' := by
    intro w' u' _ hr hwr hot hm
    refine ⟨⟨.tuple #[], [], [], [vL I1 v1 (ordK K l)], [], [], rfl, rfl, by simp [retV], .nil, by simp, by simp, .cons hr hn (fun x hx => ⟨hx, hwr x hx⟩) .nil, ?_⟩, ?_⟩
    · have := PostBoxes.cons (w := w') (b := bx) (ks := [.sl [.sc, .sc]]) (us := [ub]) (us' := [ub]) (E := E) (ds := []) (by rw [hot bx (heap_lt hbx) hbxS]; exact hbx) (.sl .nil) .nil
      simpa using this
    · exact ⟨hm.os, hm.tape, hm.output, hm.size, fun y hy hny => hot y hy fun h => hny (by simp [ioB, h]), hm.sz, hm.dr⟩
  have empty : ∀ (x : Option Addr) (cap : Nat), u = .slice x 0 cap → l.length = 0 → Calls P (ρ.f 20) #[u, .int .i64 0, .int .i64 (l.length : Int), .func (.func g) #[] #[.pointer (some ⟨bx, 0, none⟩)]] w
      (PostC .zero ⟨[.io false [.sl [.sc]], .val false [.sc], .val false [.sc], .ptr (cloK + g) [.sl [.sc, .sc]]], [], F_ins K⟩ w [(u, S1)] [(bx, [.sl [.sc, .sc]], [ub])] [] [vL I1 v1 (ordK K l)]) := by
    intro x cap hu h0
    have e0 : ordK K l = ints (List.range l.length) := by rw [ordK, h0]; rfl
    have hl0 : (l.length : Int) = 0 := by omega
    rw [hl0, hu]
    refine (ins_none L x cap _ w).mono ?_
    rintro e w' ⟨rfl, rfl⟩
    rw [← hu]
    exact fin w' u rfl (by rw [e0]; exact h) hw (fun _ _ _ => rfl) (Moved.rfl' _ _)
  cases h with
  | atom ha t =>
    cases t
    generalize hz : vL I1 v1 (ints (List.range l.length)) = z at ha
    cases ha with
    | nil ks =>
      simp only [vL, V.list.injEq] at hz
      exact empty none 0 rfl (by simpa [ints] using hz.2)
    | nil0 ks a =>
      simp only [vL, V.list.injEq] at hz
      exact empty (some a) 0 rfl (by simpa [ints] using hz.2)
    | int => simp [vL] at hz
    | bool => simp [vL] at hz
    | str => simp [vL] at hz
    | fn => simp [vL] at hz
    | noErr => simp [vL] at hz
    | err => simp [vL] at hz
  | row b off n cap ks es vs S cs E' fz hnl hk hcap hb hs hv hin t =>
    cases t
    have h' := hw
    simp only [List.append_nil] at *
    obtain ⟨rfl, rfl⟩ := rep_nats hin
    simp only [ints, List.length_map, List.length_range] at hnl
    subst hnl
    by_cases h0 : l.length = 0
    · exact empty (some ⟨b, off, none⟩) cap (by rw [h0]) h0
    have hn0 : 0 < l.length := by omega
    obtain ⟨cs', E1, fz', hb', hfz⟩ := hw b (by simp)
    rw [hb] at hb'
    simp only [Option.some.injEq, Obj.cells.injEq] at hb'
    obtain ⟨rfl, rfl, rfl⟩ := hb'
    have k1 : I1.length = 1 := rfl
    rw [k1, Nat.mul_one] at hs hv
    have hlt := heap_lt hb
    let enc : Nat → Value := fun x => .int .i64 (clampN l.length x : Nat)
    have hd : ∀ j, j < l.length → (List.range l.length).toArray[j]! = j := fun j hj => by simp [hj]
    have hH : Go.Sort.Holds enc w b off (List.range l.length).toArray := by
      intro j hj
      have hj' : j < l.length := by simpa using hj
      have h1 := hv j hj'
      rw [hd j hj']
      simp only [List.getElem?_map, List.getElem?_range hj', Option.map_some] at h1
      refine ⟨by simp [World.cell?, hb, h1, enc, clampN_lt hj'], ?_⟩
      simp only [World.frozen?, hb]
      rcases hfz with rfl | hfz
      · simp
      · simp; omega
    let cf : Nat → Nat → Int := fun x y => cmpI (keyAt (K l) (clampN l.length x)) (keyAt (K l) (clampN l.length y))
    have hlt2 : ltOf cf = ltK (K l) l.length := by
      funext x y
      simp only [ltOf, ltK, cf, cmpI]
      split
      · rename_i h; simp [h]
      · rename_i h
        split <;> simp [h]
    have hbne : bx ≠ b := fun e => hbxS (by simp [e])
    have hcmp : CmpLays1 P g #[.pointer (some ⟨bx, 0, none⟩)] enc cf b off (List.range l.length).toArray.size w := by
      intro m os dk hdk x y
      have hW : (sortWorld enc w b off m dk os).heap[bx]? = some (.cells [ub].toArray E (0, 0)) := by rw [s1_other hbne (heap_lt hbx)]; exact hbx
      have hA : ArgsR (sortWorld enc w b off m dk os) [.val false [.sc], .val false [.sc], .ptr 0 [.sl [.sc, .sc]]] [enc x, enc y, ptrV bx 0]
          ([V.int .i64 (clampN l.length x : Nat)] ++ ([V.int .i64 (clampN l.length y : Nat)] ++ ([vL I2 v2 l] ++ []))) ([] ++ ([] ++ (S2 ++ []))) [] [(bx, [.sl [.sc, .sc]], [ub])] [] :=
        .val (us := [enc x]) (.sc (.atom (.int _ _) .nil) .nil) (by simp [packV]) (.val (us := [enc y]) (.sc (.atom (.int _ _) .nil) .nil) (by simp [packV])
          (.ptr hW (by
            have : CellsR (sortWorld enc w b off m dk os) [.sl [.sc, .sc]] [ub] [vL I2 v2 l] (S2 ++ []) := .sl (hrb.frame fun q hq => s1_other (fun e => hS2 q hq (by simp [e])) (hrb.lt q hq)) .nil
            simpa using this) .nil))
      have hcall := hc.1 (sortWorld enc w b off m dk os) _ _ [.int .i64 (cf x y)] _ _ _ _ (fun _ _ h => by cases h) (by simpa [cf] using hFg l _ _ hl9 (clampN_range (x := x) hn0) (clampN_range (x := y) hn0)) hA (by simp [ioB])
        (fun q hq => by
          simp only [List.nil_append, List.append_nil] at hq
          simp only [ioB, List.flatMap_nil, List.map_cons, List.map_nil, List.nil_append, List.append_nil, List.mem_singleton]
          intro e
          subst e
          exact hro q (by simp [hq]) (by simp [ioB])) (fun _ _ => rfl)
      rw [ptrV_zero] at hcall
      refine Calls.mono (R := PostC .zero _ _ [] [(bx, [.sl [.sc, .sc]], [ub])] [] [.int .i64 (cf x y)]) (by simpa using hcall) ?_
      rintro e w' ⟨⟨v, vs', d1, d2, d3, S', hout, he, hret, hres, _, _, hrows, hboxes⟩, hm⟩
      cases hrows
      cases hboxes with
      | cons hbw hcw t =>
        cases t
        cases hcw with
        | sl t =>
          cases t
          cases hres with
          | cons hc3 hp3 t =>
            cases t
            cases hc3 with
            | sc hrep hc4 =>
              cases hc4
              simp only [List.append_nil, List.cons.injEq, and_true] at hout
              subst hout
              cases hrep with
              | atom ha _ =>
                cases ha
                simp only [packV, Bool.false_eq_true, if_false, List.cons.injEq, and_true] at hp3
                subst hp3
                simp only [retV, List.length_cons, List.length_nil, Nat.zero_add, if_true, List.cons.injEq, and_true] at hret
                refine ⟨by rw [he, hret], moved_world2 hm fun q hq hx => ?_⟩
                simp only [ioB, List.flatMap_nil, List.map_cons, List.map_nil, List.nil_append, List.append_nil, List.mem_singleton] at hx
                subst hx
                obtain ⟨cs2, e2, _⟩ := hm.sz _ _ _ _ hW
                rw [hW]
                rw [e2] at hbw
                simp only [Option.some.injEq, Obj.cells.injEq] at hbw
                rw [e2, hbw.1]
    have hsz : (List.range l.length).toArray.size = l.length := by simp
    have := Any.insertionSortCmpFunc_s L enc cf g #[.pointer (some ⟨bx, 0, none⟩)] b off cap 0 l.length (List.range l.length).toArray (List.range l.length).toArray w w eg hcmp ⟨fun _ => rfl, hH, hlt⟩ rfl (SW.start hH) (Nat.zero_le _) (by omega) (by omega)
    rw [hsz, hlt2, ins_all hn0] at this
    refine this.mono ?_
    rintro e w' ⟨rfl, m, os, rfl⟩
    have hol := ordTo_len (K l) l.length
    have hb2 := s1_block (enc := enc) (d := (ordTo (K l) l.length).toArray) (off := off) (m := m) (os := os) hb
    have hcsz : (Go.Sort.putCells enc off (ordTo (K l) l.length).toArray cs).size = cs.size := by simp [Go.Sort.putCells]
    refine fin _ _ rfl ?_ ?_ ?_ ?_
    · have := Rep.row (w := sortWorld enc w b off m (ordTo (K l) l.length).toArray os) b off l.length cap I1 ((ordK K l).map v1) ((ordTo (K l) l.length).map (fun x : Nat => Value.int .i64 x)) [] _ E' fz (by simp [ordK, hol]) (by
        intro e he
        obtain ⟨x, -, rfl⟩ := List.mem_map.1 he
        simp [I1, aksOk, akOk, v1, V.cells]) hcap hb2 (by rw [hcsz, k1, Nat.mul_one]; exact hs) (by
        intro j hj
        rw [k1, Nat.mul_one] at hj
        rw [s1_cells (by simpa [hol] using hj) (by simpa [hol] using hs)]
        have hjo : j < (ordTo (K l) l.length).length := by omega
        have hx := ordTo_lt (List.getElem_mem hjo)
        simp [hjo, enc, clampN_lt hx]) (nats_rep _ _) .nil
      simpa [vL, ordK] using this
    · intro y hy
      simp only [List.mem_singleton] at hy
      subst hy
      exact ⟨_, _, _, hb2, by rw [hcsz]; exact hfz⟩
    · exact fun y hy hny => s1_other (fun e => hny (by simp [e])) hy
    · refine ⟨rfl, rfl, rfl, s1_size, fun y hy hny => s1_other (fun e => hny (by simp [e])) hy, fun y cs1 E1 fz1 hy => ?_, fun _ => Nat.le_add_right _ _⟩
      by_cases e : y = b
      · subst e
        rw [hb] at hy
        simp only [Option.some.injEq, Obj.cells.injEq] at hy
        obtain ⟨rfl, rfl, rfl⟩ := hy
        exact ⟨_, hb2, hcsz⟩
      · exact ⟨cs1, by rw [s1_other e (heap_lt hy)]; exact hy, rfl⟩
theorem never_contract {P : Program} {f : Nat} {ps : List PK} (h : ∀ ks r, ps ≠ .new ks :: r) : Contract .zero P f ⟨ps, [], F_never⟩ :=
  ⟨fun _ _ _ _ _ _ _ _ _ hF => (by cases hF), fun ks r hp => absurd hp (h ks r)⟩
end
end Go.Mw

namespace Go.Mw
open Go.Shelf Go.RowKit Go.Lib Go.Proofs
theorem rep_i64 {w : World} : ∀ {l : List Int} {vs : List Value} {S : List Nat}, Rep w vs ((l.map v1).flatMap V.cells) S → vs = l.map (Value.int .i64) ∧ S = []
  | [], _, _, h => by cases h; exact ⟨rfl, rfl⟩
  | x :: r, _, _, h => by
    simp only [List.map_cons, List.flatMap_cons, v1, V.cells, List.cons_append, List.nil_append] at h
    cases h with
    | atom ha h =>
      cases ha
      obtain ⟨rfl, rfl⟩ := rep_i64 (l := r) h
      exact ⟨rfl, rfl⟩
theorem i64_rep (w : World) : ∀ l : List Int, Rep w (l.map (Value.int .i64)) ((l.map v1).flatMap V.cells) []
  | [] => .nil
  | x :: r => by
    simp only [List.map_cons, List.flatMap_cons, v1, V.cells, List.cons_append, List.nil_append]
    exact .atom (.int _ _) (i64_rep w r)

theorem sortI_contract {P : Program} {ρ : Ren} (L : Lays.n189 P ρ) : Contract .zero P (ρ.f 189) ⟨[.io false [.sl [.sc]]], [], F_slices_Sort_Lint_int⟩ := by
  refine ⟨?_, fun ks ps h => by cases h⟩
  intro w vals ds outs ro rows boxes tk _ hF hA hnd hro _
  change F_slices_Sort_Lint_int ds = some outs at hF
  unfold F_slices_Sort_Lint_int at hF
  obtain ⟨l, hl, hpre, rfl⟩ := mkF_inv hF
  try dsimp only at hl hpre ⊢
  cases hA with
  | @io _ _ _ us1 ds1 _ _ hv _ R rows' _ _ hcs hp t =>
  cases t
  cases hcs with
  | @sl u d _ _ _ _ S1 _ h hn hw t =>
  cases t
  simp only [packV, Bool.false_eq_true, if_false, List.cons.injEq, and_true] at hp
  subst hp
  simp only [E_slices_Sort_Lint_int, List.append_nil, List.cons.injEq, and_true] at hl
  subst hl
  simp only [List.append_nil] at hnd hro ⊢
  have fin : ∀ (w' : World), Rep w' [u] [vL I1 v1 (sortI l)] S1 → (∀ y ∈ S1, Wr w' y) → Moved w w' (· ∈ S1) true →
      PostC .zero ⟨[.io false [.sl [.sc]]], [], F_slices_Sort_Lint_int⟩ w [(u, S1)] [] [] [vL I1 v1 (sortI l)] (.returned (.tuple #[])) w' := by
    intro w' hr hwr hm
    refine ⟨⟨.tuple #[], [], [], [vL I1 v1 (sortI l)], [], [], rfl, rfl, by simp [retV], .nil, by simp, by simp, .cons hr hn (fun x hx => ⟨hx, hwr x hx⟩) .nil, .nil⟩, ?_⟩
    exact ⟨hm.os, hm.tape, hm.output, hm.size, fun y hy hny => hm.block y hy fun h => hny (by simp [ioB, h]), hm.sz, hm.dr⟩
  have empty : ∀ (x : Option Addr) (cap : Nat), u = .slice x 0 cap → l.length = 0 → Calls P (ρ.f 189) #[u] w (PostC .zero ⟨[.io false [.sl [.sc]]], [], F_slices_Sort_Lint_int⟩ w [(u, S1)] [] [] [vL I1 v1 (sortI l)]) := by
    intro x cap hu h0
    have e0 : sortI l = l := by
      obtain rfl := List.eq_nil_of_length_eq_zero h0
      simp [sortI]
    rw [hu]
    refine (Any.slices_Sort_int_none L x cap w).mono ?_
    rintro e w' ⟨rfl, rfl⟩
    rw [← hu]
    exact fin w' (by rw [e0]; exact h) hw (Moved.rfl' _ _)
  cases h with
  | atom ha t =>
    cases t
    generalize hz : vL I1 v1 l = z at ha
    cases ha with
    | nil ks =>
      simp only [vL, V.list.injEq] at hz
      exact empty none 0 rfl (by simpa using congrArg List.length hz.2)
    | nil0 ks a =>
      simp only [vL, V.list.injEq] at hz
      exact empty (some a) 0 rfl (by simpa using congrArg List.length hz.2)
    | int => simp [vL] at hz
    | bool => simp [vL] at hz
    | str => simp [vL] at hz
    | fn => simp [vL] at hz
    | noErr => simp [vL] at hz
    | err => simp [vL] at hz
  | row b off n cap ks es vs S cs E' fz hnl hk hcap hb hs hv hin t =>
    cases t
    simp only [List.append_nil] at *
    obtain ⟨rfl, rfl⟩ := rep_i64 hin
    simp only [List.length_map] at hnl
    subst hnl
    obtain ⟨cs', E1, fz', hb', hfz⟩ := hw b (by simp)
    rw [hb] at hb'
    simp only [Option.some.injEq, Obj.cells.injEq] at hb'
    obtain ⟨rfl, rfl, rfl⟩ := hb'
    have k1 : I1.length = 1 := rfl
    rw [k1, Nat.mul_one] at hs hv
    have hlt := heap_lt hb
    have hH : Go.Sort.Holds (Value.int .i64) w b off l.toArray := by
      intro j hj
      have hj' : j < l.length := by simpa using hj
      have h1 := hv j hj'
      simp only [List.getElem?_map, List.getElem?_eq_getElem hj', Option.map_some] at h1
      refine ⟨by simp [World.cell?, hb, h1, hj'], ?_⟩
      simp only [World.frozen?, hb]
      rcases hfz with rfl | hfz
      · simp
      · simp; omega
    have hlen : (sortI l).length = l.length := List.length_mergeSort _
    refine (Any.slices_Sort_int L b off cap l w hH hlt (by omega)).mono ?_
    rintro e w' ⟨rfl, m, os, rfl⟩
    show PostC .zero _ w _ _ _ _ _ (sortWorld (Value.int .i64) w b off m (sortI l).toArray os)
    have hb2 := s1_block (enc := Value.int .i64) (d := (sortI l).toArray) (off := off) (m := m) (os := os) hb
    have hcsz : (Go.Sort.putCells (Value.int .i64) off (sortI l).toArray cs).size = cs.size := by simp [Go.Sort.putCells]
    refine fin _ ?_ ?_ ?_
    · have := Rep.row (w := sortWorld (Value.int .i64) w b off m (sortI l).toArray os) b off l.length cap I1 ((sortI l).map v1) ((sortI l).map (Value.int .i64)) [] _ E' fz (by simp [hlen]) (by
        intro e he
        obtain ⟨x, -, rfl⟩ := List.mem_map.1 he
        simp [I1, aksOk, akOk, v1, V.cells]) hcap hb2 (by rw [hcsz, k1, Nat.mul_one]; exact hs) (by
        intro j hj
        rw [k1, Nat.mul_one] at hj
        rw [s1_cells (by simpa [hlen] using hj) (by simpa [hlen] using hs)]
        have hjo : j < (sortI l).length := by omega
        simp [hjo]) (i64_rep _ _) .nil
      simpa [vL] using this
    · intro y hy
      simp only [List.mem_singleton] at hy
      subst hy
      exact ⟨_, _, _, hb2, by rw [hcsz]; exact hfz⟩
    · refine ⟨rfl, rfl, rfl, s1_size, fun y hy hny => s1_other (fun e => hny (by simp [e])) hy, fun y cs1 E1 fz1 hy => ?_, fun _ => Nat.le_add_right _ _⟩
      by_cases e : y = b
      · subst e
        rw [hb] at hy
        simp only [Option.some.injEq, Obj.cells.injEq] at hy
        obtain ⟨rfl, rfl, rfl⟩ := hy
        exact ⟨_, hb2, hcsz⟩
      · exact ⟨cs1, by rw [s1_other e (heap_lt hy)]; exact hy, rfl⟩
end Go.Mw

