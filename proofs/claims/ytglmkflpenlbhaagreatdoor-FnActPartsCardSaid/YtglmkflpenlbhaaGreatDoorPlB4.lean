/- What functions of the program compute, as small pure programs, shown against plain Lean functions: no condition. -/
import Derived.Shelf.Strconv.Itoa3
import Derived.Shelf.Strconv.ErrVarAll
import Derived.Shelf.Strings.OnBuilder
import Derived.Shelf.Strings.Repeat
import Derived.Shelf.Strings.Split
import Derived.Lib.SplitLaws
import Derived.Deep.DeepHandedRow
import Derived.Lib.LaidTab
import Derived.Test.YtglmkflpenlbhaaGreatDoorPlB3
namespace Go.Mw
open Go.Shelf Go.RowKit Go.Proofs
def KTab (P : Program) (G : Gl) : Prop := ∀ w, G.Ok w → Go.Lib.TabIs P w "internal/strconv.uint64pow10" .u64 Go.Lib.pow10Tab
theorem Moved.of_below {w w' : World} (h : Below w.heap.size w w') (X : Nat → Prop) {gd : Bool} (hd : gd = false) : Moved w w' X gd :=
  ⟨h.os, h.tape, h.output, h.size, fun b hb _ => h.block b hb, fun b cs E fz hb => ⟨cs, by rw [h.block b (heap_lt hb)]; exact hb, rfl⟩, fun e => by rw [hd] at e; cases e⟩
theorem Moved.of_grow (w : World) (k : Nat) (os : Array Obj) (X : Nat → Prop) {gd : Bool} : Moved w (Go.Sort.grow (w.drewN k) os) X gd := by
  have hb : ∀ b, b < w.heap.size → (Go.Sort.grow (w.drewN k) os).heap[b]? = w.heap[b]? := fun b hb => by
    show (w.heap ++ os)[b]? = _
    rw [Array.getElem?_append_left hb]
  exact ⟨rfl, rfl, rfl, by show _ ≤ (w.heap ++ os).size; simp, fun b h _ => hb b h, fun b cs E fz h => ⟨cs, by rw [hb b (heap_lt h)]; exact h, rfl⟩, fun _ => Nat.le_add_right _ _⟩
theorem post1 {G : Gl} {ps : List PK} {F : List V → Option (List V)} {w w' : World} {v : Value} {d : V} (ha : Atom v d) (hm : Moved w w' (· ∈ ioB [] [] ++ []) G.dr) : PostC G ⟨ps, [(false, [.sc])], F⟩ w [] [] [] [d] (.returned v) w' :=
  ⟨⟨v, [v], [d], [], [], [], rfl, rfl, by simp [retV], .cons (us := [v]) (ds := [d]) (.sc (.atom ha .nil) .nil) (by simp [packV]) .nil, by simp, by simp, .nil, .nil⟩, hm⟩
theorem args_sc {w : World} {ps : List PK} {vals : List Value} {ds : List V} {ro : List Nat} {rows : List (Value × List Nat)} {boxes : List Bx} {tk : List Nat} (h : ArgsR w (.val false [.sc] :: ps) vals ds ro rows boxes tk) :
    ∃ v vals' d ds', vals = v :: vals' ∧ ds = d :: ds' ∧ Rep w [v] [d] [] ∧ ArgsR w ps vals' ds' ro rows boxes tk := by
  cases h with
  | val hc hp t =>
    cases hc with
    | sc hr hc' =>
      cases hc'
      simp only [packV, Bool.false_eq_true, if_false, List.cons.injEq, and_true] at hp
      subst hp
      exact ⟨_, _, _, _, rfl, rfl, hr, by simpa using t⟩
theorem args_nil {w : World} {vals : List Value} {ds : List V} {ro : List Nat} {rows : List (Value × List Nat)} {boxes : List Bx} {tk : List Nat} (h : ArgsR w [] vals ds ro rows boxes tk) : vals = [] ∧ ds = [] ∧ ro = [] ∧ rows = [] ∧ boxes = [] ∧ tk = [] := by
  cases h; exact ⟨rfl, rfl, rfl, rfl, rfl, rfl⟩
theorem bytes_mk {s : ByteArray} {l : List UInt8} (h : s.data.toList = l) : s.size = l.length := by rw [← h, Array.length_toList]; rfl

theorem itoa_contract {G : Gl} {P : Program} {ρ : Ren} (L : LaysM.n171 P ρ) (kt : KTab P G) : Contract G P (ρ.f 171) ⟨[.val false [.sc]], [(false, [.sc])], F_strconv_Itoa⟩ := by
  refine ⟨?_, fun ks ps h => by cases h⟩
  intro w vals ds outs ro rows boxes tk hG hF hA _ _ _
  obtain ⟨v, vals, d, ds, rfl, rfl, hr, hA⟩ := args_sc hA
  obtain ⟨rfl, rfl, rfl, rfl, rfl, rfl⟩ := args_nil hA
  change F_strconv_Itoa [d] = some outs at hF
  unfold F_strconv_Itoa at hF
  obtain ⟨n, hl, hpre, rfl⟩ := mkF_inv hF
  simp only [E_strconv_Itoa, List.cons.injEq, and_true] at hl
  subst hl
  obtain ⟨rfl, _⟩ := hr.int_inv
  refine (Any.strconv_Itoa L n hpre.1 hpre.2 w (kt w hG)).mono fun e w' ⟨he, k, os, hw⟩ => ?_
  subst he hw
  exact post1 (.str _ _ (by simp)) (Moved.of_grow _ _ _ _)

theorem repeat_contract {G : Gl} {P : Program} {ρ : Ren} (L : Lays.n105 P ρ) (X : Builder.Extra P ρ) (kd : G.dr = false) : Contract G P (ρ.f 105) ⟨[.val false [.sc], .val false [.sc]], [(false, [.sc])], F_strings_Repeat⟩ := by
  refine ⟨?_, fun ks ps h => by cases h⟩
  intro w vals ds outs ro rows boxes tk hG hF hA _ _ _
  obtain ⟨v, vals, d, ds, rfl, rfl, hr, hA⟩ := args_sc hA
  obtain ⟨v2, vals, d2, ds, rfl, rfl, hr2, hA⟩ := args_sc hA
  obtain ⟨rfl, rfl, rfl, rfl, rfl, rfl⟩ := args_nil hA
  change F_strings_Repeat [d, d2] = some outs at hF
  unfold F_strings_Repeat at hF
  obtain ⟨⟨s, n⟩, hl, hpre, rfl⟩ := mkF_inv hF
  simp only [E_strings_Repeat, List.cons.injEq, and_true] at hl
  obtain ⟨rfl, rfl⟩ := hl
  simp only at hpre
  obtain ⟨s0, rfl, hs0, _⟩ := hr.str_inv
  obtain ⟨rfl, _⟩ := hr2.int_inv
  have hn : ((n.toNat : Nat) : Int) = n := by omega
  have := Any.strings_Repeat L X s0 n.toNat w (by omega) (by rw [bytes_mk hs0]; exact hpre.2.2)
  rw [hn] at this
  refine this.mono fun e w' ⟨he, hw⟩ => ?_
  subst he
  refine post1 ?_ (Moved.of_below hw _ kd)
  rw [hs0]
  exact .str _ _ (by simp)

end Go.Mw

namespace Go.Mw
open Go.RowKit Go.ChangeShapes
def glOf (W : World) : Gl := ⟨fun b => W.heap[b]?, false⟩
theorem glOf_ok (W : World) : (glOf W).Ok W := fun _ _ h => h

theorem law_laid {H : Type} {enc : TypeId × Value → H} {C : Checked} {os : Os} {f : FuncId} {fn : Func} {s : ChangeSpec} {F0 : Stop.Interp} {conds : List PathCond} {laid : List (String × DataW Unit)} {tb : TypeId} {l : List (Bool × List TK)} {F : List V → Option (List V)}
    (own : ownKnob C.prog.godebug = none) (started : os.Started) (noInit : C.prog.inits.idxOf? f = none) (hfn : C.prog.funcs[f]? = some fn)
    (witness : ∃ (w : World) (tape : Tape) (i : Input), w.os = os ∧ (w.forCall tape i).Shaped C.prog ∧ i.vars = [] ∧ Input.okWide C.prog (w.forCall tape i) .any w.heap.size f i ∧
      (OpenSpec.ofChange s).preRow enc C.prog fn conds false laid (w.forCall tape i).memory i.args ∧ ({} : Assume).holds C.prog (lone (Frame.enter C.prog f i.args .normal) [] (w.forCall tape i)))
    (hlaid : laidOutB C.prog = true) (hread : (fn.params.toList.all fun t => C.prog.readableRec t && decide (t < C.prog.types.size)) = true) (hres : fn.resultTypes = #[tb]) (hub : C.prog.underlying tb = some .bool) (hvars : s.vars = [])
    (hspec : ∀ ds : List (DataW H), ds.length = fn.params.size → s.fn H ds = { results := [.lit (.bool true)], args := ds }) (hl : lawTs C.prog fn.params.toList = some l)
    (hC : ∀ W, laidMetH C.prog laid W → W.ShapedOpen C.prog → Contract (glOf W) C.prog f ⟨lawPs l, [(false, [.sc])], F⟩) (hF : ∀ ds, okTKs (l.flatMap (·.2)) ds → F ds = some [.bool true]) :
    ReturnsInHanded {} C os f .any ((OpenSpec.ofChange s).preRow enc C.prog fn conds false laid) (((OpenSpec.ofChange s).at F0).post enc C.prog fn false true false false) := by
  refine returnsInHanded_of_row (s := OpenSpec.ofChange s) own started noInit hfn witness ?_
  intro W base args ds gs before hval hW _ _ _ hL hsh _
  exact law_contract (s := s) hlaid hread hres hub hvars hspec hl (hC W hL hsh) hF (glOf_ok W) hval hW

theorem laidMet_tail {P : Program} {n : String} {d : DataW Unit} {rest : List (String × DataW Unit)} {W : World} (h : laidMet P ((n, d) :: rest) W) : laidMet P rest W := by
  obtain ⟨ps, ⟨g, t, cs, fuel, p, q, _, _, _, _, hq, rfl⟩, hn, hc⟩ := h
  exact ⟨q, hq, (List.nodup_append.1 hn).2.1, fun b off hb => hc b off (List.mem_append_right _ hb)⟩
theorem var_known {P : Program} {W w : World} (h : (glOf W).Ok w) {n : String} {cs : Array Value} (hv : W.var? P n = some cs) : w.var? P n = some cs := by
  unfold World.var? at hv ⊢
  cases hg : P.globalNamed n with
  | none => simp [hg] at hv
  | some g =>
    simp only [hg, Option.bind_some] at hv ⊢
    cases ho : W.heap[g]? with
    | none => rw [ho] at hv; cases hv
    | some o => rw [h g o ho]; rw [ho] at hv; exact hv
theorem ktab_of {P : Program} {W : World} (h : Go.Lib.TabIs P W "internal/strconv.uint64pow10" .u64 Go.Lib.pow10Tab) : KTab P (glOf W) := fun _ hw => var_known hw h
end Go.Mw

