/- A part of the framework that turns Go code into small pure programs and shows that they are sound: no condition. -/
import Derived.Test.YtobecpmneaninaaGreatFwG
namespace Go.Mw

def sgOk (G : Gl) (P : Program) : List (Nat × Sig) → Prop
  | [] => True
  | x :: r => Contract G P x.1 x.2 ∧ sgOk G P r

theorem sgOk_look {G : Gl} {P : Program} : ∀ {sg : List (Nat × Sig)}, sgOk G P sg → ∀ f s, sg.lookup f = some s → Contract G P f s
  | [], _, _, _, h => by simp at h
  | (g, t) :: r, ⟨h1, h2⟩, f, s, h => by
    simp only [List.lookup] at h
    split at h
    · rename_i e
      simp only [beq_iff_eq] at e
      simp only [Option.some.injEq] at h
      subst e; subst h
      exact h1
    · exact sgOk_look h2 f s h

def in64 (n : Int) : Prop := -9223372036854775808 ≤ n ∧ n ≤ 9223372036854775807
def M47 : Nat := 9223372036854775807
def wfI (n : Int) : Prop := in64 n
def wfB (_ : Bool) : Prop := True
def wfS (l : List UInt8) : Prop := l.length ≤ 9223372036854775807
def wfT2 (x : T2) : Prop := in64 x.a ∧ in64 x.b
def wfT3 (x : T3) : Prop := in64 x.a ∧ in64 x.b ∧ in64 x.c
def wfL1 (l : List Int) : Prop := l.length ≤ 9223372036854775807 ∧ ∀ x ∈ l, in64 x
def wfL2 (l : List T2) : Prop := l.length ≤ 9223372036854775807 ∧ ∀ x ∈ l, wfT2 x
def wfL3 (l : List T3) : Prop := l.length ≤ 9223372036854775807 ∧ ∀ x ∈ l, wfT3 x
def wfLY (l : List UInt8) : Prop := l.length ≤ 9223372036854775807
def wfLS (l : List (List UInt8)) : Prop := l.length ≤ 9223372036854775807 ∧ ∀ x ∈ l, wfS x
def wfLL2 (l : List (List T2)) : Prop := l.length ≤ 9223372036854775807 ∧ ∀ x ∈ l, wfL2 x

theorem okTKs_cons {t : TK} {ts : List TK} {ds : List V} (h : okTKs (t :: ts) ds) : ∃ d ds', ds = d :: ds' ∧ okTK t d ∧ okTKs ts ds' := by
  cases ds with
  | nil => simp [okTKs] at h
  | cons d ds => simp only [okTKs] at h; exact ⟨d, ds, rfl, h.1, h.2⟩
theorem okTKs_nil {ds : List V} (h : okTKs [] ds) : ds = [] := by
  cases ds with
  | nil => rfl
  | cons => simp [okTKs] at h

theorem dec_int {k : IntKind} {d : V} (h : okTK (.int k) d) : ∃ n, d = .int k n ∧ (Lit.int k n).wf = true := by
  cases d <;> simp only [okTK] at h
  obtain ⟨rfl, h⟩ := h
  exact ⟨_, rfl, h⟩
theorem dec_I {d : V} (h : okTK (.int .i64) d) : ∃ n, d = .int .i64 n ∧ wfI n := by
  obtain ⟨n, rfl, hw⟩ := dec_int h
  refine ⟨n, rfl, ?_⟩
  simpa [Lit.wf, IntKind.min, IntKind.max, IntKind.bits, IntKind.signed, wfI, in64] using hw
theorem dec_B {d : V} (h : okTK .bool d) : ∃ b, d = .bool b ∧ wfB b := by
  cases d <;> simp only [okTK] at h
  exact ⟨_, rfl, trivial⟩
theorem maxLen_le : maxLen ≤ 9223372036854775807 := by decide
theorem dec_S {d : V} (h : okTK .str d) : ∃ l, d = .str l ∧ wfS l := by
  cases d <;> simp only [okTK] at h
  exact ⟨_, rfl, Nat.le_trans h maxLen_le⟩

theorem dec_list {α : Type} {g : Bool} {ts : List TK} {f : α → V} {W : α → Prop} (he : ∀ e, (g = true → ∃ cs, e = .agg cs ∧ okTKs ts cs) → (g = false → okTKs ts [e]) → ∃ x, e = f x ∧ W x) {d : V} (h : okTK (.list g ts) d) :
    ∃ l : List α, d = vL (TK.aks ts) f l ∧ l.length ≤ 9223372036854775807 ∧ ∀ x ∈ l, W x := by
  cases d <;> simp only [okTK] at h
  rename_i ks es
  obtain ⟨rfl, hl, h⟩ := h
  have key : ∀ es : List V, (∀ e ∈ es, (g = true → ∃ cs, e = .agg cs ∧ okTKs ts cs) ∧ (g = false → okTKs ts [e])) → ∃ l : List α, es = l.map f ∧ ∀ x ∈ l, W x := by
    intro es
    induction es with
    | nil => intro _; exact ⟨[], rfl, by simp⟩
    | cons e es ih =>
      intro h
      obtain ⟨x, rfl, hx⟩ := he e (h e (by simp)).1 (h e (by simp)).2
      obtain ⟨l, rfl, hl⟩ := ih fun e he => h e (by simp [he])
      exact ⟨x :: l, rfl, by simpa [hx] using hl⟩
  obtain ⟨l, rfl, hw⟩ := key es h
  exact ⟨l, rfl, Nat.le_trans (by simpa using hl) maxLen_le, hw⟩

theorem dec_L1 {d : V} (h : okTK (.list false [.int .i64]) d) : ∃ l, d = vL I1 v1 l ∧ wfL1 l :=
  dec_list (W := in64) (f := v1) (fun e _ h => by
    obtain ⟨d, ds', he, h1, _⟩ := okTKs_cons (h rfl)
    obtain ⟨n, rfl, hn⟩ := dec_I h1
    simp only [List.cons.injEq] at he
    exact ⟨n, he.1, hn⟩) h
theorem dec_LY {d : V} (h : okTK (.list false [.int .u8]) d) : ∃ l, d = vL I1 vY l ∧ wfLY l := by
  obtain ⟨l, h1, h2, _⟩ := dec_list (W := fun _ : UInt8 => True) (f := vY) (fun e _ h => by
    obtain ⟨d, ds', he, h1, _⟩ := okTKs_cons (h rfl)
    obtain ⟨n, rfl, hn⟩ := dec_int h1
    simp only [List.cons.injEq] at he
    have hb : 0 ≤ n ∧ n ≤ 255 := by simpa [Lit.wf, IntKind.min, IntKind.max, IntKind.bits, IntKind.signed] using hn
    refine ⟨UInt8.ofNat n.toNat, ?_, trivial⟩
    rw [he.1, vY]
    congr 1
    have : n.toNat % 256 = n.toNat := Nat.mod_eq_of_lt (by omega)
    simp [this]
    omega) h
  exact ⟨l, h1, h2⟩
theorem dec_LS {d : V} (h : okTK (.list false [.str]) d) : ∃ l, d = vL I1 vS l ∧ wfLS l :=
  dec_list (W := wfS) (f := vS) (fun e _ h => by
    obtain ⟨d, ds', he, h1, _⟩ := okTKs_cons (h rfl)
    obtain ⟨n, rfl, hn⟩ := dec_S h1
    simp only [List.cons.injEq] at he
    exact ⟨n, he.1, hn⟩) h
theorem dec_L2 {d : V} (h : okTK (.list true [.int .i64, .int .i64]) d) : ∃ l, d = vL I2 v2 l ∧ wfL2 l :=
  dec_list (W := wfT2) (f := v2) (fun e hh _ => by
    obtain ⟨cs, rfl, h⟩ := hh rfl
    obtain ⟨_, _, rfl, h1, h⟩ := okTKs_cons h
    obtain ⟨_, _, rfl, h2, h⟩ := okTKs_cons h
    obtain rfl := okTKs_nil h
    obtain ⟨a, rfl, ha⟩ := dec_I h1
    obtain ⟨b, rfl, hb⟩ := dec_I h2
    exact ⟨⟨a, b⟩, rfl, ha, hb⟩) h
theorem dec_L3 {d : V} (h : okTK (.list true [.int .i64, .int .i64, .int .i64]) d) : ∃ l, d = vL I3 v3 l ∧ wfL3 l :=
  dec_list (W := wfT3) (f := v3) (fun e hh _ => by
    obtain ⟨cs, rfl, h⟩ := hh rfl
    obtain ⟨_, _, rfl, h1, h⟩ := okTKs_cons h
    obtain ⟨_, _, rfl, h2, h⟩ := okTKs_cons h
    obtain ⟨_, _, rfl, h3, h⟩ := okTKs_cons h
    obtain rfl := okTKs_nil h
    obtain ⟨a, rfl, ha⟩ := dec_I h1
    obtain ⟨b, rfl, hb⟩ := dec_I h2
    obtain ⟨c, rfl, hc⟩ := dec_I h3
    exact ⟨⟨a, b, c⟩, rfl, ha, hb, hc⟩) h
theorem dec_LL2 {d : V} (h : okTK (.list false [.list true [.int .i64, .int .i64]]) d) : ∃ l, d = vL IL2 vLL2 l ∧ wfLL2 l :=
  dec_list (W := wfL2) (f := vLL2) (fun e _ h => by
    obtain ⟨d, ds', he, h1, _⟩ := okTKs_cons (h rfl)
    obtain ⟨n, rfl, hn⟩ := dec_L2 h1
    simp only [List.cons.injEq] at he
    exact ⟨n, he.1, hn⟩) h


theorem Contract.to {G : Gl} {P : Program} {f : FuncId} {s : Sig} (h : Contract .zero P f s) : Contract G P f s := by
  have hm : ∀ {w w' : World} {X : Nat → Prop}, Moved w w' X Gl.zero.dr → Moved w w' X G.dr := fun m => ⟨m.os, m.tape, m.output, m.size, m.block, m.sz, fun _ => m.dr rfl⟩
  refine ⟨fun w vals ds outs ro rows boxes tk _ hF hA hn hro _ => ?_, fun ks ps hp w vals ds outs ro _ hF hA => ?_⟩
  · exact (h.1 w vals ds outs ro rows boxes tk (fun _ _ h => by cases h) hF hA hn hro (fun _ _ => rfl)).mono fun e w' ⟨h1, h2⟩ => ⟨h1, hm h2⟩
  · exact (h.2 ks ps hp w vals ds outs ro (fun _ _ h => by cases h) hF hA).mono fun e w' ⟨h1, h2⟩ => ⟨h1, hm h2⟩
end Go.Mw

