/- What functions of the program compute, as small pure programs, shown against plain Lean functions: no condition. -/
import Derived.Shelf.Strconv.Itoa3
import Derived.Shelf.Strconv.ErrVarAll
import Derived.Shelf.Strings.OnBuilder
import Derived.Shelf.Strings.Repeat
import Derived.Shelf.Strings.Split
import Derived.Lib.SplitLaws
import Derived.Deep.DeepHandedRow
import Derived.Lib.LaidTab
import Derived.Test.YtglmkflpenlbhaaGreatDoorPlA4
namespace Go.Mw
open Go.Shelf Go.RowKit Go.Proofs
def KTab (P : Program) (G : Gl) : Prop := ∀ w, G.Ok w → Go.Lib.TabIs P w "internal/strconv.uint64pow10" .u64 Go.Lib.pow10Tab
def KErr (P : Program) (G : Gl) : Prop := ∀ w, G.Ok w → (∃ t p, w.var? P "strconv.ErrSyntax" = some #[.iface t p]) ∧ ∃ t p, w.var? P "strconv.ErrRange" = some #[.iface t p]
def KMax (g : Nat) (G : Gl) : Prop := ∀ w, G.Ok w → ∃ m, w.cell? ⟨g, 0, none⟩ = some (.int .i64 m)

theorem Moved.of_below {w w' : World} (h : Below w.heap.size w w') (X : Nat → Prop) {gd : Bool} (hd : gd = false) : Moved w w' X gd :=
  ⟨h.os, h.tape, h.output, h.size, fun b hb _ => h.block b hb, fun b cs E fz hb => ⟨cs, by rw [h.block b (heap_lt hb)]; exact hb, rfl⟩, fun e => by rw [hd] at e; cases e⟩
theorem Moved.of_grow (w : World) (k : Nat) (os : Array Obj) (X : Nat → Prop) {gd : Bool} : Moved w (Go.Sort.grow (w.drewN k) os) X gd := by
  have hb : ∀ b, b < w.heap.size → (Go.Sort.grow (w.drewN k) os).heap[b]? = w.heap[b]? := fun b hb => by
    show (w.heap ++ os)[b]? = _
    rw [Array.getElem?_append_left hb]
  exact ⟨rfl, rfl, rfl, by show _ ≤ (w.heap ++ os).size; simp, fun b h _ => hb b h, fun b cs E fz h => ⟨cs, by rw [hb b (heap_lt h)]; exact h, rfl⟩, fun _ => Nat.le_add_right _ _⟩
theorem post1 {G : Gl} {ps : List PK} {F : List V → Option (List V)} {w w' : World} {v : Value} {d : V} (ha : Atom v d) (hm : Moved w w' (· ∈ ioB [] [] ++ []) G.dr) : PostC G ⟨ps, [(false, [.sc])], F⟩ w [] [] [] [d] (.returned v) w' :=
  ⟨⟨v, [v], [d], [], [], [], rfl, rfl, by simp [retV], .cons (us := [v]) (ds := [d]) (.sc (.atom ha .nil) .nil) (by simp [packV]) .nil, by simp, by simp, .nil, .nil⟩, hm⟩
theorem args_sc {w : World} {ps : List PK} {vals : List Value} {ds : List V} {ro : List Nat} {rows : List (Value × List Nat)} {boxes : List Bx} {tk : List Nat} (h : ArgsR w (.val false [.sc] :: ps) vals ds ro rows boxes tk) :
    ∃ v vals' d ds', vals = v :: vals' ∧ ds = d :: ds' ∧ Rep w [v] [d] [] ∧ ArgsR w ps vals' ds' ro rows boxes tk := by
  cases h with
  | val hc hp t =>
    cases hc with
    | sc hr hc' =>
      cases hc'
      simp only [packV, Bool.false_eq_true, if_false, List.cons.injEq, and_true] at hp
      subst hp
      exact ⟨_, _, _, _, rfl, rfl, hr, by simpa using t⟩
theorem args_nil {w : World} {vals : List Value} {ds : List V} {ro : List Nat} {rows : List (Value × List Nat)} {boxes : List Bx} {tk : List Nat} (h : ArgsR w [] vals ds ro rows boxes tk) : vals = [] ∧ ds = [] ∧ ro = [] ∧ rows = [] ∧ boxes = [] ∧ tk = [] := by
  cases h; exact ⟨rfl, rfl, rfl, rfl, rfl, rfl⟩
theorem bytes_mk {s : ByteArray} {l : List UInt8} (h : s.data.toList = l) : s.size = l.length := by rw [← h, Array.length_toList]; rfl

theorem itoa_contract {G : Gl} {P : Program} {ρ : Ren} (L : LaysM.n171 P ρ) (kt : KTab P G) : Contract G P (ρ.f 171) ⟨[.val false [.sc]], [(false, [.sc])], F_strconv_Itoa⟩ := by
  refine ⟨?_, fun ks ps h => by cases h⟩
  intro w vals ds outs ro rows boxes tk hG hF hA _ _ _
  obtain ⟨v, vals, d, ds, rfl, rfl, hr, hA⟩ := args_sc hA
  obtain ⟨rfl, rfl, rfl, rfl, rfl, rfl⟩ := args_nil hA
  change F_strconv_Itoa [d] = some outs at hF
  unfold F_strconv_Itoa at hF
  obtain ⟨n, hl, hpre, rfl⟩ := mkF_inv hF
  simp only [E_strconv_Itoa, List.cons.injEq, and_true] at hl
  subst hl
  obtain ⟨rfl, _⟩ := hr.int_inv
  refine (Any.strconv_Itoa L n hpre.1 hpre.2 w (kt w hG)).mono fun e w' ⟨he, k, os, hw⟩ => ?_
  subst he hw
  exact post1 (.str _ _ (by simp)) (Moved.of_grow _ _ _ _)

theorem repeat_contract {G : Gl} {P : Program} {ρ : Ren} (L : Lays.n105 P ρ) (X : Builder.Extra P ρ) (kd : G.dr = false) : Contract G P (ρ.f 105) ⟨[.val false [.sc], .val false [.sc]], [(false, [.sc])], F_strings_Repeat⟩ := by
  refine ⟨?_, fun ks ps h => by cases h⟩
  intro w vals ds outs ro rows boxes tk hG hF hA _ _ _
  obtain ⟨v, vals, d, ds, rfl, rfl, hr, hA⟩ := args_sc hA
  obtain ⟨v2, vals, d2, ds, rfl, rfl, hr2, hA⟩ := args_sc hA
  obtain ⟨rfl, rfl, rfl, rfl, rfl, rfl⟩ := args_nil hA
  change F_strings_Repeat [d, d2] = some outs at hF
  unfold F_strings_Repeat at hF
  obtain ⟨⟨s, n⟩, hl, hpre, rfl⟩ := mkF_inv hF
  simp only [E_strings_Repeat, List.cons.injEq, and_true] at hl
  obtain ⟨rfl, rfl⟩ := hl
  simp only at hpre
  obtain ⟨s0, rfl, hs0, _⟩ := hr.str_inv
  obtain ⟨rfl, _⟩ := hr2.int_inv
  have hn : ((n.toNat : Nat) : Int) = n := by omega
  have := Any.strings_Repeat L X s0 n.toNat w (by omega) (by rw [bytes_mk hs0]; exact hpre.2.2)
  rw [hn] at this
  refine this.mono fun e w' ⟨he, hw⟩ => ?_
  subst he
  refine post1 ?_ (Moved.of_below hw _ kd)
  rw [hs0]
  exact .str _ _ (by simp)

theorem atoi_contract {G : Gl} {P : Program} {ρ : Ren} (L : LaysC.n172 P ρ) (kd : G.dr = false) (ke : KErr P G) : Contract G P (ρ.f 172) ⟨[.val false [.sc]], [(false, [.sc]), (false, [.sc])], F_strconv_Atoi⟩ := by
  refine ⟨?_, fun ks ps h => by cases h⟩
  intro w vals ds outs ro rows boxes tk hG hF hA _ _ _
  obtain ⟨v, vals, d, ds, rfl, rfl, hr, hA⟩ := args_sc hA
  obtain ⟨rfl, rfl, rfl, rfl, rfl, rfl⟩ := args_nil hA
  change F_strconv_Atoi [d] = some outs at hF
  unfold F_strconv_Atoi at hF
  obtain ⟨s, hl, hpre, rfl⟩ := mkF_inv hF
  simp only [E_strconv_Atoi, List.cons.injEq, and_true] at hl
  subst hl
  obtain ⟨s0, rfl, hs0, _⟩ := hr.str_inv
  have hsz := bytes_mk hs0
  have post : ∀ (v : Int) (u : Value) (q : Bool) w', Atom u (.err q) → Moved w w' (· ∈ ioB [] [] ++ []) G.dr → PostC G ⟨[.val false [.sc]], [(false, [.sc]), (false, [.sc])], F_strconv_Atoi⟩ w [] [] [] [.int .i64 v, .err q] (.returned (.tuple #[.int .i64 v, u])) w' := by
    intro v u q w' ha hm
    exact ⟨⟨_, [.int .i64 v, u], [.int .i64 v, .err q], [], [], [], rfl, rfl, by simp [retV], .cons (us := [.int .i64 v]) (ds := [.int .i64 v]) (.sc (.atom (.int _ _) .nil) .nil) (by simp [packV]) (.cons (us := [u]) (ds := [.err q]) (.sc (.atom ha .nil) .nil) (by simp [packV]) .nil), by simp, by simp, .nil, .nil⟩, hm⟩
  obtain ⟨⟨t1, p1, k1⟩, t2, p2, k2⟩ := ke w hG
  have hend : Go.Lib.atoiAll s = Go.Lib.atoiAll s0.data.toList := by rw [hs0]
  cases h : Go.Lib.atoiAll s with
  | ok v =>
    have ev : atoiV s = v := by simp [atoiV, h]
    have ee : atoiE s = false := by simp [atoiE, h]
    refine (Any.strconv_Atoi_ok L s0 (by omega) v (by rw [← hend]; exact h) w).mono fun e w' ⟨he, hw⟩ => ?_
    subst he
    rw [ev, ee]
    refine post v _ _ w' .noErr ?_
    rcases hw with rfl | ⟨t, rfl⟩
    · exact Moved.of_below (Below.refl _ _) _ kd
    · exact ⟨rfl, rfl, rfl, by rw [Go.Lib.bytesWorld_size]; omega, fun b hb _ => Go.Lib.bytesWorld_at_old w _ _ b hb, fun b cs E fz h => ⟨cs, by rw [Go.Lib.bytesWorld_at_old w _ _ b (heap_lt h)]; exact h, rfl⟩, fun _ => Nat.le_succ _⟩
  | range =>
    have ev : atoiV s = Go.Lib.atoiSat s := by simp [atoiV, h]
    have ee : atoiE s = true := by simp [atoiE, h]
    refine (Any.strconv_Atoi_range_var L s0 (by omega) (by rw [← hend]; exact h) t2 p2 w k2).mono fun e w' ⟨N, he, _, _, hw⟩ => ?_
    subst he
    rw [ev, ee, hs0]
    exact post _ _ _ w' (.err _ _) (Moved.of_below hw _ kd)
  | _ =>
    have ev : atoiV s = 0 := by simp [atoiV, h]
    have ee : atoiE s = true := by simp [atoiE, h]
    refine (Any.strconv_Atoi_syntax_var L s0 (by omega) (by rw [← hend]; exact h) t1 p1 w k1).mono fun e w' ⟨N, he, _, _, hw⟩ => ?_
    subst he
    rw [ev, ee]
    exact post _ _ _ w' (.err _ _) (Moved.of_below hw _ kd)

theorem split_contract {G : Gl} {P : Program} {ρ : Ren} (L : Lays.n146 P ρ) (hi9 : (P.info? (ρ.t 9)).map (fun i => (i.zero, i.size, i.bytes)) = some (some (.string ByteArray.empty), 1, 16)) (km : KMax (ρ.g 1) G) : Contract G P (ρ.f 146) ⟨[.val false [.sc], .val false [.sc]], [(false, [.sl [.sc]])], F_strings_Split⟩ := by
  refine ⟨?_, fun ks ps h => by cases h⟩
  intro w vals ds outs ro rows boxes tk hG hF hA _ _ _
  obtain ⟨v, vals, d, ds, rfl, rfl, hr, hA⟩ := args_sc hA
  obtain ⟨v2, vals, d2, ds, rfl, rfl, hr2, hA⟩ := args_sc hA
  obtain ⟨rfl, rfl, rfl, rfl, rfl, rfl⟩ := args_nil hA
  change F_strings_Split [d, d2] = some outs at hF
  unfold F_strings_Split at hF
  obtain ⟨⟨s, t⟩, hl, hpre, rfl⟩ := mkF_inv hF
  simp only [E_strings_Split, List.cons.injEq, and_true] at hl
  obtain ⟨rfl, rfl⟩ := hl
  simp only at hpre
  obtain ⟨s0, rfl, hs0, _⟩ := hr.str_inv
  obtain ⟨t0, rfl, ht0, _⟩ := hr2.str_inv
  obtain ⟨m, hm⟩ := km w hG
  show Calls P _ _ w (PostC G _ w [] [] [] [vL I1 vS (Go.Lib.split s t)])
  refine (Any.strings_Split L hi9 s0 t0 m w (by rw [bytes_mk hs0]; exact hpre.1) hm (by rw [bytes_mk ht0]; exact hpre.2)).mono fun e w' h0 => ?_
  obtain ⟨he, hw⟩ := h0
  subst he hw
  have hsp : (Go.Lib.splitB t0 0 (Go.Lib.countB s0 t0) s0).map (·.data.toList) = Go.Lib.split s t := by
    rw [Go.Lib.splitB_data, hs0, ht0]
    unfold Go.Lib.split
    congr 1
    show Go.Lib.count s0.data.toList t0.data.toList = _
    rw [hs0, ht0]
  have hlen : (Go.Lib.splitB t0 0 (Go.Lib.countB s0 t0) s0).length = Go.Lib.countB s0 t0 + 1 := Go.Lib.splitB_all t0 (by rw [bytes_mk ht0]; exact hpre.2) 0 _ s0 rfl
  generalize Go.Lib.splitB t0 0 (Go.Lib.countB s0 t0) s0 = xs at *
  rw [← hlen, ← hsp]
  have hb := heap_alloc_new w (.cells (xs.map Value.string).toArray (ρ.t 9))
  have hrs : ∀ W, Rep W (xs.map Value.string) (((xs.map (·.data.toList)).map vS).flatMap V.cells) [] := by
    intro W
    clear hsp hlen hb
    induction xs with
    | nil => exact .nil
    | cons x r ih =>
      simp only [List.map_cons, List.flatMap_cons, vS, V.cells, List.cons_append, List.nil_append]
      exact .atom (.str _ _ rfl) ih
  have hrep : Rep (w.alloc (.cells (xs.map Value.string).toArray (ρ.t 9))) [.slice (some ⟨w.heap.size, 0, none⟩) xs.length xs.length] [vL I1 vS (xs.map (·.data.toList))] [w.heap.size] := by
    have := Rep.row (w := w.alloc (.cells (xs.map Value.string).toArray (ρ.t 9))) w.heap.size 0 xs.length xs.length I1 ((xs.map (·.data.toList)).map vS) (xs.map Value.string) [] _ (ρ.t 9) (0, 0) (by simp) (fun e he => by
      obtain ⟨q, -, rfl⟩ := List.mem_map.1 he
      rfl) (Nat.le_refl _) hb (by simp [I1]) (fun j hj => by simp) (hrs _) .nil
    simpa [vL] using this
  have hbd : xs.length ≤ maxLen := by
    have h1 := Go.Lib.splitB_length_le t0 0 (Go.Lib.countB s0 t0) s0
    have h2 : Go.Lib.countB s0 t0 ≤ s0.size := Go.Lib.countB_le t0 (by rw [bytes_mk ht0]; exact hpre.2) _ s0 (Nat.le_refl _)
    have h3 := hpre.1
    rw [← bytes_mk hs0] at h3
    unfold maxLen; omega
  refine ⟨⟨(.slice (some ⟨w.heap.size, 0, none⟩) xs.length xs.length), [(.slice (some ⟨w.heap.size, 0, none⟩) xs.length xs.length)], [vL I1 vS (xs.map (·.data.toList))], [], [], [w.heap.size], rfl, rfl, by simp [retV], .cons (us := [(.slice (some ⟨w.heap.size, 0, none⟩) xs.length xs.length)]) (ds := [vL I1 vS (xs.map (·.data.toList))]) (S := [w.heap.size]) (.sl (S1 := [w.heap.size]) hrep ?_ .nil) (by simp [packV]) .nil, by simp, ?_, .nil, .nil⟩, Moved.alloc _ _ _ _⟩
  · exact ⟨.inr ⟨w.heap.size, xs.length, xs.length, I1, _, rfl, rfl, fun _ => ⟨_, _, _, hb, .zero, by simp [I1]⟩, Nat.le_refl _, hbd⟩, Inn.flat hrep rfl⟩
  · intro b hb2
    simp only [List.mem_singleton] at hb2
    subst hb2
    exact ⟨.inl (Nat.le_refl _), .mk hb⟩
end Go.Mw

namespace Go.Mw
open Go.RowKit Go.ChangeShapes
def glOf (W : World) : Gl := ⟨fun b => W.heap[b]?, false⟩
theorem glOf_ok (W : World) : (glOf W).Ok W := fun _ _ h => h

theorem law_laid {H : Type} {enc : TypeId × Value → H} {C : Checked} {os : Os} {f : FuncId} {fn : Func} {s : ChangeSpec} {F0 : Stop.Interp} {conds : List PathCond} {laid : List (String × DataW Unit)} {tb : TypeId} {l : List (Bool × List TK)} {F : List V → Option (List V)}
    (own : ownKnob C.prog.godebug = none) (started : os.Started) (noInit : C.prog.inits.idxOf? f = none) (hfn : C.prog.funcs[f]? = some fn)
    (witness : ∃ (w : World) (tape : Tape) (i : Input), w.os = os ∧ (w.forCall tape i).Shaped C.prog ∧ i.vars = [] ∧ Input.okWide C.prog (w.forCall tape i) .any w.heap.size f i ∧
      (OpenSpec.ofChange s).preRow enc C.prog fn conds false laid (w.forCall tape i).memory i.args ∧ ({} : Assume).holds C.prog (lone (Frame.enter C.prog f i.args .normal) [] (w.forCall tape i)))
    (hlaid : laidOutB C.prog = true) (hread : (fn.params.toList.all fun t => C.prog.readableRec t && decide (t < C.prog.types.size)) = true) (hres : fn.resultTypes = #[tb]) (hub : C.prog.underlying tb = some .bool) (hvars : s.vars = [])
    (hspec : ∀ ds : List (DataW H), ds.length = fn.params.size → s.fn H ds = { results := [.lit (.bool true)], args := ds }) (hl : lawTs C.prog fn.params.toList = some l)
    (hC : ∀ W, laidMetH C.prog laid W → W.ShapedOpen C.prog → Contract (glOf W) C.prog f ⟨lawPs l, [(false, [.sc])], F⟩) (hF : ∀ ds, okTKs (l.flatMap (·.2)) ds → F ds = some [.bool true]) :
    ReturnsInHanded {} C os f .any ((OpenSpec.ofChange s).preRow enc C.prog fn conds false laid) (((OpenSpec.ofChange s).at F0).post enc C.prog fn false true false false) := by
  refine returnsInHanded_of_row (s := OpenSpec.ofChange s) own started noInit hfn witness ?_
  intro W base args ds gs before hval hW _ _ _ hL hsh _
  exact law_contract (s := s) hlaid hread hres hub hvars hspec hl (hC W hL hsh) hF (glOf_ok W) hval hW

theorem laidMet_tail {P : Program} {n : String} {d : DataW Unit} {rest : List (String × DataW Unit)} {W : World} (h : laidMet P ((n, d) :: rest) W) : laidMet P rest W := by
  obtain ⟨ps, ⟨g, t, cs, fuel, p, q, _, _, _, _, hq, rfl⟩, hn, hc⟩ := h
  exact ⟨q, hq, (List.nodup_append.1 hn).2.1, fun b off hb => hc b off (List.mem_append_right _ hb)⟩
def isIf : Option TypeDesc → Bool
  | some (.interface _) => true
  | _ => false
theorem iface_of_head {P : Program} {n nm : String} {d : DataW Unit} {rest : List (String × DataW Unit)} {W : World} {g : Nat} {t : TypeId}
    (hg : P.globalNamed n = some g) (hty : (P.globals[g]?).map (·.type) = some t) (hi : isIf (P.underlying t) = true) (h : laidMet P ((n, .iface nm d) :: rest) W) :
    ∃ u v, W.var? P n = some #[.iface u v] := by
  obtain ⟨ps, ⟨g', t', cs, fuel, p, q, hg', ht', hvar, hd, _, _⟩, _⟩ := h
  obtain rfl := Option.some.inj (hg.symm.trans hg')
  obtain rfl := Option.some.inj (hty.symm.trans ht')
  cases fuel with
  | zero => simp [DataW.trod] at hd
  | succ fuel =>
    unfold DataW.trod at hd
    cases hu : P.underlying t with
    | none => rw [hu] at hi; cases hi
    | some ud =>
      rw [hu] at hi hd
      cases ud <;> first | (simp only [isIf, Bool.false_eq_true] at hi; done) | skip
      obtain ⟨l⟩ := cs
      rcases l with _ | ⟨c, r⟩
      · simp at hd
      · cases r with
        | nil => cases c <;> first | exact ⟨_, _, hvar⟩ | (simp at hd; done)
        | cons c2 r => cases c <;> simp at hd

theorem var_known {P : Program} {W w : World} (h : (glOf W).Ok w) {n : String} {cs : Array Value} (hv : W.var? P n = some cs) : w.var? P n = some cs := by
  unfold World.var? at hv ⊢
  cases hg : P.globalNamed n with
  | none => simp [hg] at hv
  | some g =>
    simp only [hg, Option.bind_some] at hv ⊢
    cases ho : W.heap[g]? with
    | none => rw [ho] at hv; cases hv
    | some o => rw [h g o ho]; rw [ho] at hv; exact hv
theorem ktab_of {P : Program} {W : World} (h : Go.Lib.TabIs P W "internal/strconv.uint64pow10" .u64 Go.Lib.pow10Tab) : KTab P (glOf W) := fun _ hw => var_known hw h
theorem kmax_of {W : World} {g : Nat} {m : Int} (h : W.cell? ⟨g, 0, none⟩ = some (.int .i64 m)) : KMax g (glOf W) := fun w hw => by
  refine ⟨m, ?_⟩
  simp only [World.cell?] at h ⊢
  cases ho : W.heap[g]? with
  | none => rw [ho] at h; cases h
  | some o => rw [hw g o ho]; rw [ho] at h; exact h
theorem kmax_ex {W : World} {g : Nat} (h : ∃ m, W.cell? ⟨g, 0, none⟩ = some (.int .i64 m)) : KMax g (glOf W) := by
  obtain ⟨m, h⟩ := h
  exact kmax_of h
theorem kerr_of {P : Program} {W : World} {t1 t2 : TypeId} {p1 p2 : Value} (h1 : W.var? P "strconv.ErrSyntax" = some #[.iface t1 p1]) (h2 : W.var? P "strconv.ErrRange" = some #[.iface t2 p2]) : KErr P (glOf W) :=
  fun _ hw => ⟨⟨_, _, var_known hw h1⟩, _, _, var_known hw h2⟩
theorem kerr_laid {P : Program} {g1 g2 : Nat} {t1 t2 : TypeId} {nm1 nm2 : String} {d1 d2 : DataW Unit} {rest : List (String × DataW Unit)} {W : World}
    (hg1 : P.globalNamed "strconv.ErrRange" = some g1) (ht1 : (P.globals[g1]?).map (·.type) = some t1) (hi1 : isIf (P.underlying t1) = true)
    (hg2 : P.globalNamed "strconv.ErrSyntax" = some g2) (ht2 : (P.globals[g2]?).map (·.type) = some t2) (hi2 : isIf (P.underlying t2) = true)
    (h : laidMet P (("strconv.ErrRange", .iface nm1 d1) :: ("strconv.ErrSyntax", .iface nm2 d2) :: rest) W) : KErr P (glOf W) := by
  obtain ⟨u1, v1, h1⟩ := iface_of_head hg1 ht1 hi1 h
  obtain ⟨u2, v2, h2⟩ := iface_of_head hg2 ht2 hi2 (laidMet_tail h)
  exact kerr_of h2 h1
end Go.Mw

