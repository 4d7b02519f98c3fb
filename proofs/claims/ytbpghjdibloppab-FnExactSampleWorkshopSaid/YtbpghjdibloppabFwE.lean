/- A part of the framework that turns Go code into small pure programs and shows that they are sound: no condition. -/
import Derived.Deep.LoopGhost
import Derived.Test.YtbpghjdibloppabFwD
/- Normal forms of a state (at loop heads, joins, block ends), and how a state is brought into one. -/
namespace Go.Mw
open Go.RowKit

inductive AtS where
  | sc
  | nil
  | ro (ks : List AK)
  | own (r : Nat)
  | inn (r : Nat) (ks : List AK)
  deriving Inhabited

inductive SVS where
  | sc (g : Bool) (cs : List AtS)
  | ptr (id off : Nat)
  | elem (b : AtS) (off : Nat) (ks : List AK)
  | tup (cs : List (Bool × List AtS))
  deriving Inhabited

/-- A normal form: slots, rows (owned fully?, kinds), boxes. Its leaves are numbered in the order of the text. -/
structure NF where
  sl : List (Nat × SVS)
  rows : List (Nat × Bool × List AK)
  boxes : List (Nat × List AtS)
  fid : Nat
  deriving Inhabited

def AtS.width : AtS → Nat
  | .sc => 1
  | .ro _ => 1
  | .inn _ _ => 1
  | _ => 0

def AtS.at (j : Nat) : AtS → At
  | .sc => .sc (.v j)
  | .nil => .nil
  | .ro _ => .ro (.v j)
  | .own r => .own r
  | .inn r _ => .inn r 0 (.v j) none

def atsW : List AtS → Nat
  | [] => 0
  | a :: as => a.width + atsW as

def atsAt : Nat → List AtS → List At
  | _, [] => []
  | j, a :: as => a.at j :: atsAt (j + a.width) as

def scsAt : Nat → List (Bool × List AtS) → List SC
  | _, [] => []
  | j, c :: cs => ⟨c.1, atsAt j c.2⟩ :: scsAt (j + atsW c.2) cs

def scsW : List (Bool × List AtS) → Nat
  | [] => 0
  | c :: cs => atsW c.2 + scsW cs

def SVS.width : SVS → Nat
  | .sc _ cs => atsW cs
  | .ptr _ _ => 0
  | .elem _ _ ks => 2 + ks.length
  | .tup cs => scsW cs

/-- The base of an element's address: of an inner list only its row is kept. -/
def AtS.base (j : Nat) : AtS → At
  | .ro _ => .ro (.v j)
  | .own r => .own r
  | .inn r _ => .inn r 0 (.v j) none
  | a => a.at j

def SVS.at (j : Nat) : SVS → SV
  | .sc g cs => .sc ⟨g, atsAt j cs⟩
  | .ptr id off => .ptr id off
  | .elem b off ks => .elem (b.base j) 0 (.v j) (.v (j + 1)) (j + 2) off ks
  | .tup cs => .tup (scsAt j cs)

def slAt : Nat → List (Nat × SVS) → Nat → Option SV
  | _, [], _ => none
  | j, (s, x) :: r, t => if t = s then some (x.at j) else slAt (j + x.width) r t

def slW : List (Nat × SVS) → Nat
  | [] => 0
  | x :: r => x.2.width + slW r

def rowsAt : Nat → List (Nat × Bool × List AK) → Nat → Option SO
  | _, [], _ => none
  | j, (i, app, _) :: r, t => if t = i then some (.row 0 (.v j) app) else rowsAt (j + 1) r t

def boxesAt : Nat → List (Nat × List AtS) → Nat → Option SO
  | _, [], _ => none
  | j, (i, cs) :: r, t => if t = i then some (.box (atsAt j cs)) else boxesAt (j + atsW cs) r t

def boxesW : List (Nat × List AtS) → Nat
  | [] => 0
  | x :: r => atsW x.2 + boxesW r

def NF.fs (nf : NF) : FS :=
  ⟨fun s => (slAt 0 nf.sl s).map fun x => ([], x),
   fun i => match rowsAt (slW nf.sl) nf.rows i with
     | some x => some x
     | none => boxesAt (slW nf.sl + nf.rows.length) nf.boxes i⟩

def NF.width (nf : NF) : Nat := slW nf.sl + nf.rows.length + boxesW nf.boxes

/-! ### a state is brought into a normal form -/

/-- Where a row of the form comes from: a row of the state, or nil. -/
inductive Src where
  | own (r : Nat)
  | nil
  deriving Inhabited

section
variable (ob : Nat → Option SO) (μ : Nat → Option Src) (β : Nat → Nat)

def srcIs (r r' : Nat) : Bool :=
  match μ r with
  | some (.own q) => q == r'
  | _ => false

def curVer (r ver : Nat) : Bool :=
  match ob r with
  | some (.row ver' _ _) => ver == ver'
  | _ => false

def atFit : AtS → At → Option (List Lf)
  | .sc, .sc l => some [l]
  | .nil, .nil => some []
  | .ro _, .ro l => some [l]
  | .ro ks, .nil => some [.k (.list ks [])]
  | .own r, .own r' => if srcIs μ r r' then some [] else none
  | .own r, .nil =>
    match μ r with
    | some .nil => some []
    | _ => none
  | .inn r _, .inn r' ver l _ => if srcIs μ r r' && curVer ob r' ver then some [l] else none
  | .inn _ ks, .nil => some [.k (.list ks [])]
  | _, _ => none

def atsFit : List AtS → List At → Option (List Lf)
  | [], [] => some []
  | s :: ss, a :: as =>
    match atFit ob μ s a, atsFit ss as with
    | some l, some ls => some (l ++ ls)
    | _, _ => none
  | _, _ => none

def scsFit : List (Bool × List AtS) → List SC → Option (List Lf)
  | [], [] => some []
  | s :: ss, c :: cs =>
    if s.1 == c.g then
      match atsFit ob μ s.2 c.cs, scsFit ss cs with
      | some l, some ls => some (l ++ ls)
      | _, _ => none
    else none
  | _, _ => none

def baseFit : AtS → At → Nat → Bool
  | .ro _, .ro _, _ => true
  | .own r, .own r', ver => srcIs μ r r' && curVer ob r' ver
  | .inn r _, .inn r' _ _ _, ver => srcIs μ r r' && curVer ob r' ver
  | _, _, _ => false

def svFit : SVS → SV → Option (List Lf)
  | .sc g cs, .sc c => if g == c.g then atsFit ob μ cs c.cs else none
  | .ptr id off, .ptr id' off' => if β id == id' && off == off' then some [] else none
  | .elem b off ks, .elem b' ver ll ix el off' ks' =>
    if baseFit ob μ b b' ver && off == off' && AK.eqs ks ks' then some (ll :: ix :: (List.range ks.length).map fun j => .v (el + j)) else none
  | .tup ss, .tup cs => scsFit ob μ ss cs
  | _, _ => none

end

def slFit (A : FS) (μ : Nat → Option Src) (β : Nat → Nat) : List (Nat × SVS) → Option (List Lf)
  | [] => some []
  | (s, x) :: r =>
    match A.sl s with
    | some ([], sv) =>
      match svFit A.ob μ β x sv, slFit A μ β r with
      | some l, some ls => some (l ++ ls)
      | _, _ => none
    | _ => none

def rowsFit (A : FS) (μ : Nat → Option Src) : List (Nat × Bool × List AK) → Option (List Lf)
  | [] => some []
  | (i, app, ks) :: r =>
    match μ i with
    | some .nil => if app then (rowsFit A μ r).map fun ls => .k (.list ks []) :: ls else none
    | some (.own q) =>
      match A.ob q with
      | some (.row _ l app') => if app == app' && (app || i == q) then (rowsFit A μ r).map fun ls => l :: ls else none
      | _ => none
    | none => none

def boxesFit (A : FS) (μ : Nat → Option Src) (β : Nat → Nat) (np : Nat) : List (Nat × List AtS) → Option (List Lf)
  | [] => some []
  | (i, cs) :: r =>
    match A.ob (β i) with
    | some (.box cells) =>
      if i == β i || np ≤ i then
        match atsFit A.ob μ cs cells, boxesFit A μ β np r with
        | some l, some ls => some (l ++ ls)
        | _, _ => none
      else none
    | _ => none

/-- Distinct rows of the form come from distinct rows; boxes alike. -/
def injRows (μ : Nat → Option Src) : List (Nat × Bool × List AK) → Bool
  | [] => true
  | (i, _, _) :: r => r.all (fun x => match μ i, μ x.1 with
    | some (.own p), some (.own q) => p != q
    | _, _ => true) && injRows μ r

def injBoxes (β : Nat → Nat) : List (Nat × List AtS) → Bool
  | [] => true
  | (i, _) :: r => r.all (fun x => β i != β x.1) && injBoxes β r

def nfFit (A : FS) (μ : Nat → Option Src) (β : Nat → Nat) (np : Nat) (nf : NF) : Option (List Lf) :=
  if injRows μ nf.rows && injBoxes β nf.boxes then
    match slFit A μ β nf.sl, rowsFit A μ nf.rows, boxesFit A μ β np nf.boxes with
    | some a, some b, some c => some (a ++ b ++ c)
    | _, _, _ => none
  else none

/-! ### it is sound -/

def muHd (M : Mp) (μ : Nat → Option Src) (i : Nat) : Value :=
  match μ i with
  | some (.own q) => M.hd q
  | _ => .slice none 0 0

def muPh (M : Mp) (μ : Nat → Option Src) (i : Nat) : List Nat :=
  match μ i with
  | some (.own q) => M.ph q
  | _ => []

section
variable {c : Cx} {nt : Nat} {M : Mp} {env env' : List V} {A : FS} {a : Act} {w : World} {μ : Nat → Option Src} {β : Nat → Nat}

theorem srcIs_eq {r r' : Nat} (h : srcIs μ r r' = true) : μ r = some (.own r') := by
  unfold srcIs at h
  split at h
  · rename_i q e; simp only [beq_iff_eq] at h; rw [e, h]
  · cases h

theorem atFit_len {s : AtS} {x : At} {ls : List Lf} (h : atFit A.ob μ s x = some ls) : ls.length = s.width := by
  unfold atFit at h
  split at h <;> (try (split at h)) <;> simp only [Option.some.injEq, reduceCtorEq] at h <;> subst h <;> rfl

theorem atsFit_len : ∀ {ss : List AtS} {xs : List At} {ls : List Lf}, atsFit A.ob μ ss xs = some ls → ls.length = atsW ss
  | [], [], _, h => by simp only [atsFit, Option.some.injEq] at h; subst h; rfl
  | [], _ :: _, _, h => by simp [atsFit] at h
  | _ :: _, [], _, h => by simp [atsFit] at h
  | s :: ss, x :: xs, ls, h => by
    simp only [atsFit] at h
    split at h <;> simp only [Option.some.injEq, reduceCtorEq] at h
    rename_i l ls' h1 h2
    subst h
    simp only [List.length_append, atFit_len h1, atsFit_len h2, atsW]

theorem scsFit_len : ∀ {ss : List (Bool × List AtS)} {xs : List SC} {ls : List Lf}, scsFit A.ob μ ss xs = some ls → ls.length = scsW ss
  | [], [], _, h => by simp only [scsFit, Option.some.injEq] at h; subst h; rfl
  | [], _ :: _, _, h => by simp [scsFit] at h
  | _ :: _, [], _, h => by simp [scsFit] at h
  | s :: ss, x :: xs, ls, h => by
    simp only [scsFit] at h
    split at h
    · split at h <;> simp only [Option.some.injEq, reduceCtorEq] at h
      rename_i l ls' h1 h2
      subst h
      simp only [List.length_append, atsFit_len h1, scsFit_len h2, scsW]
    · cases h

theorem svFit_len {s : SVS} {x : SV} {ls : List Lf} (h : svFit A.ob μ β s x = some ls) : ls.length = s.width := by
  unfold svFit at h
  split at h
  · split at h
    · exact atsFit_len h
    · cases h
  · split at h <;> simp only [Option.some.injEq, reduceCtorEq] at h
    subst h; rfl
  · split at h <;> simp only [Option.some.injEq, reduceCtorEq] at h
    subst h; simp [SVS.width]; omega
  · exact scsFit_len h
  · cases h

/-- The environment holds the leaves' values from 'j' on. -/
def Sub (env env' : List V) (j : Nat) (ls : List Lf) : Prop := ∀ i, i < ls.length → env'[j + i]? = (ls.map (Lf.ev env))[i]?

theorem Sub.left {j : Nat} {l l' : List Lf} (h : Sub env env' j (l ++ l')) : Sub env env' j l := fun i hi => by
  have := h i (by simp; omega)
  rw [this, List.map_append, List.getElem?_append_left (by simpa using hi)]

theorem Sub.right {j : Nat} {l l' : List Lf} (h : Sub env env' j (l ++ l')) {n : Nat} (hn : l.length = n) : Sub env env' (j + n) l' := fun i hi => by
  have := h (n + i) (by simp; omega)
  rw [Nat.add_assoc, this, List.map_append, List.getElem?_append_right (by simp; omega)]
  congr 1; simp; omega

theorem Sub.one {j : Nat} {l : Lf} {ls : List Lf} (h : Sub env env' j (l :: ls)) : (Lf.v j).ev env' = l.ev env := by
  have := h 0 (by simp)
  simp only [Nat.add_zero, List.map_cons, List.getElem?_cons_zero] at this
  simp [Lf.ev, this]

end

end Go.Mw

/- Bringing a state into a normal form is sound. -/
namespace Go.Mw
open Go.RowKit

section
variable {c : Cx} {nt : Nat} {M : Mp} {env env' : List V} {A : FS} {a : Act} {w : World} {μ : Nat → Option Src} {β : Nat → Nat} {ob' : Nat → Option SO}

def muMp (M : Mp) (μ : Nat → Option Src) (β : Nat → Nat) : Mp := ⟨muHd M μ, muPh M μ, fun i => M.be (β i)⟩

/-- Where the form's rows and boxes come from. -/
structure From (A : FS) (env env' : List V) (μ : Nat → Option Src) (β : Nat → Nat) (ob' : Nat → Option SO) : Prop where
  row : ∀ r ver l app, ob' r = some (.row ver l app) → ver = 0 ∧ ((μ r = some .nil ∧ app = true ∧ ∃ ks, l.ev env' = .list ks []) ∨
    ∃ q v0 l0, μ r = some (.own q) ∧ A.ob q = some (.row v0 l0 app) ∧ l.ev env' = l0.ev env ∧ (app = true ∨ r = q))
  box : ∀ id cells, ob' id = some (.box cells) → ∃ cells0, A.ob (β id) = some (.box cells0)

theorem curVer_eq {ob : Nat → Option SO} {r ver : Nat} (h : curVer ob r ver = true) : ∃ l app, ob r = some (.row ver l app) := by
  unfold curVer at h
  split at h
  · rename_i e; simp only [beq_iff_eq] at h; subst h; exact ⟨_, _, e⟩
  · cases h

theorem RelAt.fit (hF : From A env env' μ β ob') {s : AtS} {x : At} {v : Value} {ls : List Lf} {j : Nat} (h : atFit A.ob μ s x = some ls) (hs : Sub env env' j ls) (hr : RelAt c M env w A.ob x v) :
    RelAt c (muMp M μ β) env' w ob' (s.at j) v := by
  refine ⟨hr.1, ?_⟩
  have h2 := hr.2
  unfold atFit at h
  split at h
  · simp only [Option.some.injEq] at h
    subst h
    simp only [AtS.at, hs.one]; exact h2
  · exact h2
  · simp only [Option.some.injEq] at h
    subst h
    simp only [AtS.at, hs.one]; exact h2
  · simp only [Option.some.injEq] at h
    subst h
    simp only at h2
    subst h2
    simp only [AtS.at, hs.one]
    exact ⟨[], .atom (.nil _) .nil, by simp⟩
  · rename_i r r'
    split at h
    · rename_i hsrc
      have he := srcIs_eq hsrc
      simp only [AtS.at]
      intro ver l app ho
      obtain ⟨_, h3 | ⟨q, v0, l0, h3, h4, _⟩⟩ := hF.row _ _ _ _ ho
      · rw [he] at h3; cases h3.1
      · rw [he] at h3
        simp only [Option.some.injEq, Src.own.injEq] at h3
        subst h3
        simp only [muMp, muHd, he]
        exact h2 _ _ _ h4
    · cases h
  · rename_i r
    split at h
    · rename_i he
      simp only [AtS.at]
      intro ver l app ho
      simp only [muMp, muHd, he]
      exact h2
    · cases h
  · rename_i r ks r' ver l p
    split at h
    · rename_i hc
      simp only [Bool.and_eq_true] at hc
      have he := srcIs_eq hc.1
      obtain ⟨l1, app1, h1⟩ := curVer_eq hc.2
      simp only [Option.some.injEq] at h
      subst h
      simp only [AtS.at]
      refine ⟨fun ver' l' app' ho => ⟨Nat.zero_le _, fun _ => ?_⟩, trivial⟩
      obtain ⟨S, h4, h5⟩ := (h2.1 _ _ _ h1).2 rfl
      rw [hs.one]
      exact ⟨S, h4, by simp only [muMp, muPh, he]; exact h5⟩
    · cases h
  · rename_i r ks
    simp only [Option.some.injEq] at h
    subst h
    simp only [AtS.at]
    refine ⟨fun ver' l' app' ho => ⟨Nat.zero_le _, fun _ => ?_⟩, trivial⟩
    simp only at h2
    subst h2
    rw [hs.one]
    exact ⟨[], .atom (.nil _) .nil, by simp⟩
  · cases h

theorem RelAts.fit (hF : From A env env' μ β ob') : ∀ {ss : List AtS} {xs : List At} {vs : List Value} {ls : List Lf} {j : Nat}, atsFit A.ob μ ss xs = some ls → Sub env env' j ls → RelAts c M env w A.ob xs vs →
    RelAts c (muMp M μ β) env' w ob' (atsAt j ss) vs
  | [], [], [], _, _, _, _, _ => trivial
  | [], [], _ :: _, _, _, _, _, h => h.elim
  | [], _ :: _, _, _, _, h, _, _ => by simp [atsFit] at h
  | _ :: _, [], _, _, _, h, _, _ => by simp [atsFit] at h
  | _ :: _, _ :: _, [], _, _, _, _, h => h.elim
  | s :: ss, x :: xs, v :: vs, ls, j, h, hs, hr => by
    simp only [atsFit] at h
    split at h <;> simp only [Option.some.injEq, reduceCtorEq] at h
    rename_i l ls' h1 h2
    subst h
    exact ⟨RelAt.fit hF h1 hs.left hr.1, RelAts.fit hF h2 (hs.right (atFit_len h1)) hr.2⟩

theorem RelSCs.fit (hF : From A env env' μ β ob') : ∀ {ss : List (Bool × List AtS)} {xs : List SC} {vs : List Value} {ls : List Lf} {j : Nat}, scsFit A.ob μ ss xs = some ls → Sub env env' j ls → RelSCs c M env w A.ob xs vs →
    RelSCs c (muMp M μ β) env' w ob' (scsAt j ss) vs
  | [], [], [], _, _, _, _, _ => trivial
  | [], [], _ :: _, _, _, _, _, h => h.elim
  | [], _ :: _, _, _, _, h, _, _ => by simp [scsFit] at h
  | _ :: _, [], _, _, _, h, _, _ => by simp [scsFit] at h
  | _ :: _, _ :: _, [], _, _, _, _, h => h.elim
  | s :: ss, x :: xs, v :: vs, ls, j, h, hs, hr => by
    simp only [scsFit] at h
    split at h
    · rename_i hg
      simp only [beq_iff_eq] at hg
      split at h <;> simp only [Option.some.injEq, reduceCtorEq] at h
      rename_i l ls' h1 h2
      subst h
      obtain ⟨⟨us, h3, h4⟩, h5⟩ := hr
      exact ⟨⟨us, RelAts.fit hF h1 hs.left h3, by rw [hg]; exact h4⟩, RelSCs.fit hF h2 (hs.right (atsFit_len h1)) h5⟩
    · cases h

theorem RelSV.fit (hF : From A env env' μ β ob') {s : SVS} {x : SV} {v : Value} {ls : List Lf} {j : Nat} (h : svFit A.ob μ β s x = some ls) (hs : Sub env env' j ls) (hr : RelSV c M env w A.ob x v) :
    RelSV c (muMp M μ β) env' w ob' (s.at j) v := by
  unfold svFit at h
  split at h
  · rename_i g cs x
    split at h
    · rename_i hg
      simp only [beq_iff_eq] at hg
      obtain ⟨us, h3, h4⟩ := hr
      exact ⟨us, RelAts.fit hF h hs h3, by rw [hg]; exact h4⟩
    · cases h
  · rename_i id off id' off'
    split at h
    · rename_i hc
      simp only [Bool.and_eq_true, beq_iff_eq] at hc
      obtain ⟨rfl, rfl⟩ := hc
      intro cells ho
      obtain ⟨cells0, h1⟩ := hF.box _ _ ho
      exact hr _ h1
    · cases h
  · rename_i b off ks b' ver ll ix el off' ks'
    split at h
    · rename_i hc
      simp only [Bool.and_eq_true, beq_iff_eq] at hc
      obtain ⟨⟨hb, rfl⟩, hks⟩ := hc
      have hks' := AK.eqs_eq hks
      subst hks'
      simp only [Option.some.injEq] at h
      subst h
      have e1 := hs.one
      have hs2 : Sub env env' (j + 1) (ix :: (List.range ks.length).map fun i => Lf.v (el + i)) := hs.right (l := [ll]) (n := 1) rfl
      have e2 := hs2.one
      have hs3 : Sub env env' (j + 2) ((List.range ks.length).map fun i => Lf.v (el + i)) := hs2.right (l := [ix]) (n := 1) rfl
      obtain ⟨u, h1, bb, o, n, cap, es, i, kk, e, h3, h4, h5, h6, h7, h8, h9, h10⟩ := hr
      refine ⟨u, ?_, bb, o, n, cap, es, i, kk, e, h3, by rw [e1]; exact h4, by rw [e2]; exact h5, h6, h7, h8, fun q hq => ?_, h10⟩
      · unfold baseFit at hb
        split at hb
        · simp only [AtS.base, RelBase, e1]; exact h1
        · rename_i r r' _
          simp only [Bool.and_eq_true] at hb
          have he := srcIs_eq hb.1
          obtain ⟨l1, app1, g1⟩ := curVer_eq hb.2
          simp only [AtS.base]
          intro ver' l' app' ho
          refine ⟨Nat.zero_le _, fun _ => ?_⟩
          obtain ⟨_, h11 | ⟨q, v0, l0, h11, h12, h13, _⟩⟩ := hF.row _ _ _ _ ho
          · rw [he] at h11; cases h11.1
          · rw [he] at h11
            simp only [Option.some.injEq, Src.own.injEq] at h11
            subst h11
            rw [g1] at h12
            simp only [Option.some.injEq, SO.row.injEq] at h12
            obtain ⟨rfl, rfl, rfl⟩ := h12
            obtain ⟨g2, g3⟩ := (h1 _ _ _ g1).2 rfl
            refine ⟨by rw [h13, e1]; exact g2, by simp only [muMp, muHd, he]; exact g3⟩
        · rename_i r ks2 r' _ _ _
          simp only [Bool.and_eq_true] at hb
          have he := srcIs_eq hb.1
          obtain ⟨l1, app1, g1⟩ := curVer_eq hb.2
          simp only [AtS.base]
          intro ver' l' app' ho
          refine ⟨Nat.zero_le _, fun _ => ?_⟩
          obtain ⟨S, g2, g3⟩ := (h1 _ _ _ g1).2 rfl
          exact ⟨S, by rw [e1]; exact g2, by simp only [muMp, muPh, he]; exact g3⟩
        · cases hb
      · have := hs3 q (by simpa using hq)
        rw [this, ← h9 q hq]
        simp only [List.map_map, List.getElem?_map, List.getElem?_range hq, Option.map_some, Function.comp, Lf.ev, List.getD_eq_getElem?_getD]
        have : ∃ d, env[el + q]? = some d := by
          have hl : q < e.cells.length := by
            have := aksOk_length h8
            omega
          exact ⟨_, by rw [h9 q hq, List.getElem?_eq_getElem hl]⟩
        obtain ⟨d, hd⟩ := this
        simp [hd]
    · cases h
  · obtain ⟨vs, h1, h2⟩ := hr
    exact ⟨vs, h1, RelSCs.fit hF h hs h2⟩
  · cases h

theorem slFit_get : ∀ {l : List (Nat × SVS)} {ls : List Lf} {j t : Nat} {sv : SV}, slFit A μ β l = some ls → Sub env env' j ls → slAt j l t = some sv →
    ∃ x sA j' l', A.sl t = some ([], sA) ∧ svFit A.ob μ β x sA = some l' ∧ Sub env env' j' l' ∧ sv = x.at j'
  | [], _, _, _, _, _, _, h => by simp [slAt] at h
  | (s, x) :: r, ls, j, t, sv, hf, hs, h => by
    simp only [slFit] at hf
    split at hf
    · rename_i sA hA
      split at hf <;> simp only [Option.some.injEq, reduceCtorEq] at hf
      rename_i l ls' h1 h2
      subst hf
      simp only [slAt] at h
      split at h
      · rename_i e
        subst e
        simp only [Option.some.injEq] at h
        exact ⟨x, sA, j, l, hA, h1, hs.left, h.symm⟩
      · exact slFit_get h2 (hs.right (svFit_len h1)) h
    · cases hf

theorem rowsFit_get : ∀ {l : List (Nat × Bool × List AK)} {ls : List Lf} {j i : Nat} {x : SO}, rowsFit A μ l = some ls → Sub env env' j ls → rowsAt j l i = some x →
    ∃ app ks lf, (i, app, ks) ∈ l ∧ x = .row 0 lf app ∧ ((μ i = some .nil ∧ app = true ∧ lf.ev env' = .list ks []) ∨ ∃ q v0 l0, μ i = some (.own q) ∧ A.ob q = some (.row v0 l0 app) ∧ lf.ev env' = l0.ev env ∧ (app = true ∨ i = q))
  | [], _, _, _, _, _, _, h => by simp [rowsAt] at h
  | (k, app, ks) :: r, ls, j, i, x, hf, hs, h => by
    simp only [rowsFit] at hf
    have rcs : ∀ {l0 : Lf} {ls' : List Lf}, rowsFit A μ r = some ls' → ls = l0 :: ls' → i ≠ k → ∃ app' ks' lf, (i, app', ks') ∈ (k, app, ks) :: r ∧ x = .row 0 lf app' ∧ ((μ i = some .nil ∧ app' = true ∧ lf.ev env' = .list ks' []) ∨ ∃ q v0 l0, μ i = some (.own q) ∧ A.ob q = some (.row v0 l0 app') ∧ lf.ev env' = l0.ev env ∧ (app' = true ∨ i = q)) := by
      intro l0 ls' h1 h2 hne
      subst h2
      simp only [rowsAt, if_neg hne] at h
      obtain ⟨app', ks', lf, h3, h4⟩ := rowsFit_get h1 (hs.right (l := [l0]) (n := 1) rfl) h
      exact ⟨app', ks', lf, by simp [h3], h4⟩
    split at hf
    · rename_i he
      split at hf
      · rename_i happ
        simp only [Option.map_eq_some_iff] at hf
        obtain ⟨ls', h1, h2⟩ := hf
        by_cases e : i = k
        · subst e
          subst h2
          simp only [rowsAt, if_true, Option.some.injEq] at h
          exact ⟨app, ks, .v j, by simp, h.symm, .inl ⟨he, happ, by rw [hs.one]; rfl⟩⟩
        · exact rcs h1 h2.symm e
      · cases hf
    · rename_i q he
      split at hf
      · rename_i v0 l0 app0 hA
        split at hf
        · rename_i hc
          simp only [Bool.and_eq_true, beq_iff_eq, Bool.or_eq_true] at hc
          obtain ⟨rfl, hc⟩ := hc
          simp only [Option.map_eq_some_iff] at hf
          obtain ⟨ls', h1, h2⟩ := hf
          by_cases e : i = k
          · subst e
            subst h2
            simp only [rowsAt, if_true, Option.some.injEq] at h
            exact ⟨app, ks, .v j, by simp, h.symm, .inr ⟨q, v0, l0, he, hA, hs.one, hc⟩⟩
          · exact rcs h1 h2.symm e
        · cases hf
      · cases hf
    · cases hf

theorem rowsFit_len : ∀ {l : List (Nat × Bool × List AK)} {ls : List Lf}, rowsFit A μ l = some ls → ls.length = l.length
  | [], _, h => by simp only [rowsFit, Option.some.injEq] at h; subst h; rfl
  | (k, app, ks) :: r, ls, hf => by
    simp only [rowsFit] at hf
    split at hf
    · split at hf
      · simp only [Option.map_eq_some_iff] at hf
        obtain ⟨ls', h1, h2⟩ := hf
        subst h2
        simp [rowsFit_len h1]
      · cases hf
    · split at hf
      · split at hf
        · simp only [Option.map_eq_some_iff] at hf
          obtain ⟨ls', h1, h2⟩ := hf
          subst h2
          simp [rowsFit_len h1]
        · cases hf
      · cases hf
    · cases hf

theorem boxesFit_get {np : Nat} : ∀ {l : List (Nat × List AtS)} {ls : List Lf} {j i : Nat} {x : SO}, boxesFit A μ β np l = some ls → Sub env env' j ls → boxesAt j l i = some x →
    ∃ cs cells j' l', (i, cs) ∈ l ∧ x = .box (atsAt j' cs) ∧ A.ob (β i) = some (.box cells) ∧ atsFit A.ob μ cs cells = some l' ∧ Sub env env' j' l' ∧ (i = β i ∨ np ≤ i)
  | [], _, _, _, _, _, _, h => by simp [boxesAt] at h
  | (k, cs) :: r, ls, j, i, x, hf, hs, h => by
    simp only [boxesFit] at hf
    split at hf
    · rename_i cells hA
      split at hf
      · rename_i hc
        simp only [Bool.or_eq_true, beq_iff_eq, decide_eq_true_eq] at hc
        split at hf <;> simp only [Option.some.injEq, reduceCtorEq] at hf
        rename_i l ls' h1 h2
        subst hf
        simp only [boxesAt] at h
        split at h
        · rename_i e
          subst e
          simp only [Option.some.injEq] at h
          exact ⟨cs, cells, j, l, by simp, h.symm, hA, h1, hs.left, hc⟩
        · obtain ⟨cs', cells', j', l', g1, g2⟩ := boxesFit_get h2 (hs.right (atsFit_len h1)) h
          exact ⟨cs', cells', j', l', by simp [g1], g2⟩
      · cases hf
    · cases hf

theorem injRows_ne : ∀ {l : List (Nat × Bool × List AK)}, injRows μ l = true → ∀ x ∈ l, ∀ y ∈ l, x.1 ≠ y.1 → ∀ p q, μ x.1 = some (.own p) → μ y.1 = some (.own q) → p ≠ q
  | [], _, x, hx, _, _ => by cases hx
  | z :: r, h, x, hx, y, hy => by
    simp only [injRows, Bool.and_eq_true, List.all_eq_true] at h
    intro hne p q hp hq
    rcases List.mem_cons.1 hx with rfl | hx' <;> rcases List.mem_cons.1 hy with rfl | hy'
    · exact absurd rfl hne
    · have := h.1 y hy'
      rw [hp, hq] at this
      simpa using this
    · have := h.1 x hx'
      rw [hp, hq] at this
      simp only [bne_iff_ne, ne_eq] at this
      exact Ne.symm this
    · exact injRows_ne h.2 x hx' y hy' hne p q hp hq

theorem injBoxes_ne : ∀ {l : List (Nat × List AtS)}, injBoxes β l = true → ∀ x ∈ l, ∀ y ∈ l, x.1 ≠ y.1 → β x.1 ≠ β y.1
  | [], _, x, hx, _, _ => by cases hx
  | z :: r, h, x, hx, y, hy => by
    simp only [injBoxes, Bool.and_eq_true, List.all_eq_true, bne_iff_ne, ne_eq] at h
    intro hne
    rcases List.mem_cons.1 hx with rfl | hx' <;> rcases List.mem_cons.1 hy with rfl | hy'
    · exact absurd rfl hne
    · exact h.1 y hy'
    · exact fun e => h.1 x hx' e.symm
    · exact injBoxes_ne h.2 x hx' y hy' hne

theorem atsFit_isSc : ∀ {ss : List AtS} {xs : List At} {ls : List Lf} {j : Nat}, atsFit A.ob μ ss xs = some ls → ∀ (i : Nat) (x : At), xs[i]? = some x → x.isSc = false → ∃ y, (atsAt j ss)[i]? = some y ∧ y.isSc = false
  | [], [], _, _, _, i, x, hx, _ => by simp at hx
  | [], _ :: _, _, _, h, _, _, _, _ => by simp [atsFit] at h
  | _ :: _, [], _, _, h, _, _, _, _ => by simp [atsFit] at h
  | s :: ss, a :: as, ls, j, h, i, x, hx, hsc => by
    simp only [atsFit] at h
    split at h <;> simp only [Option.some.injEq, reduceCtorEq] at h
    rename_i l ls' h1 h2
    cases i with
    | zero =>
      simp only [List.getElem?_cons_zero, Option.some.injEq] at hx
      subst hx
      refine ⟨s.at j, by simp [atsAt], ?_⟩
      cases s <;> cases a <;> simp_all [atFit, AtS.at, At.isSc]
    | succ i =>
      simp only [List.getElem?_cons_succ, atsAt] at hx ⊢
      exact atsFit_isSc h2 i x hx hsc

/-- The state holds in its normal form. -/
theorem nfFit_rel {np : Nat} {nf : NF} {ls : List Lf} (hfit : nfFit A μ β np nf = some ls) (hpb : ∀ x, np ≤ x → c.parB x = none) (hR : Rel c nt M env A a w) :
    Rel c nt (muMp M μ β) (ls.map (Lf.ev env)) nf.fs a w := by
  unfold nfFit at hfit
  split at hfit
  case isFalse => cases hfit
  rename_i hinj
  simp only [Bool.and_eq_true] at hinj
  split at hfit <;> simp only [Option.some.injEq, reduceCtorEq] at hfit
  rename_i l1 l2 l3 h1 h2 h3
  have hsub : Sub env (ls.map (Lf.ev env)) 0 ls := fun i hi => by rw [Nat.zero_add]
  generalize ls.map (Lf.ev env) = env' at hsub ⊢
  subst hfit
  have n1 : l1.length = slW nf.sl := by
    have : ∀ {l : List (Nat × SVS)} {ls : List Lf}, slFit A μ β l = some ls → ls.length = slW l := by
      intro l
      induction l with
      | nil => intro ls h; simp only [slFit, Option.some.injEq] at h; subst h; rfl
      | cons x r ih =>
        intro ls h
        simp only [slFit] at h
        split at h
        · split at h <;> simp only [Option.some.injEq, reduceCtorEq] at h
          rename_i g1 g2
          subst h
          simp only [List.length_append, svFit_len g1, ih g2, slW]
        · cases h
    exact this h1
  have n2 := rowsFit_len h2
  have s1 : Sub env env' 0 l1 := hsub.left.left
  have s2 : Sub env env' (slW nf.sl) l2 := by have := hsub.left.right n1; simpa using this
  have s3 : Sub env env' (slW nf.sl + nf.rows.length) l3 := by
    have := hsub.right (n := slW nf.sl + nf.rows.length) (by rw [List.length_append, n1, n2])
    simpa using this
  have obR : ∀ i ver l app, nf.fs.ob i = some (.row ver l app) → rowsAt (slW nf.sl) nf.rows i = some (.row ver l app) := by
    intro i ver l app h
    simp only [NF.fs] at h
    split at h
    · rename_i e; rw [e]; exact h
    · obtain ⟨_, _, _, _, _, h4, _⟩ := boxesFit_get h3 s3 h
      cases h4
  have obB : ∀ i cells, nf.fs.ob i = some (.box cells) → boxesAt (slW nf.sl + nf.rows.length) nf.boxes i = some (.box cells) := by
    intro i cells h
    simp only [NF.fs] at h
    split at h
    · rename_i e
      obtain ⟨_, _, _, _, h4, _⟩ := rowsFit_get h2 s2 e
      rw [h4] at h; cases h
    · exact h
  have hF : From A env env' μ β nf.fs.ob := by
    refine ⟨fun r ver l app h => ?_, fun id cells h => ?_⟩
    · obtain ⟨app', ks, lf, g1, g2, g3⟩ := rowsFit_get h2 s2 (obR _ _ _ _ h)
      simp only [SO.row.injEq] at g2
      obtain ⟨rfl, rfl, rfl⟩ := g2
      refine ⟨rfl, g3.imp (fun h => ⟨h.1, h.2.1, ks, h.2.2⟩) id⟩
    · obtain ⟨cs, cells', j', l', g1, g2, g3, _⟩ := boxesFit_get h3 s3 (obB _ _ h)
      exact ⟨cells', g3⟩
  refine ⟨hR.size, hR.defs, fun s gs sv hs => ?_, fun r ver l app hr => ?_, fun id cells hb => ?_, fun i j x y hi hj hij => ?_, fun i j vi li ai vj lj aj hi hj hij => ?_, fun i j x vj lj aj hi hj => ?_, hR.keep⟩
  · simp only [NF.fs, Option.map_eq_some_iff, Prod.mk.injEq] at hs
    obtain ⟨sv', g1, rfl, rfl⟩ := hs
    obtain ⟨x, sA, j', l', g2, g3, g4, rfl⟩ := slFit_get h1 s1 g1
    obtain ⟨q1, q2, _⟩ := hR.slots _ _ _ g2
    refine ⟨q1, fun _ => RelSV.fit hF g3 g4 (q2 (by simp [GH])), fun hg => absurd (by simp [GH]) hg⟩
  · obtain ⟨_, g | ⟨q, v0, l0, g1, g2, g3, g4⟩⟩ := hF.row _ _ _ _ hr
    · obtain ⟨g1, g2, ks, g3⟩ := g
      refine ⟨⟨[], ?_, .nil, by simp⟩, ?_, fun _ => ⟨.inl (by simp [muMp, muHd, g1]), by simp [muMp, muPh, g1]⟩, fun h => by rw [g2] at h; cases h⟩
      · simp only [muMp, muHd, g1, g3]; exact .atom (.nil _) .nil
      · simp [muMp, muPh, g1]
    · have := hR.rows _ _ _ _ g2
      simp only [RowOk, muMp, muHd, muPh, g1, g3] at this ⊢
      obtain ⟨q1, q2, q3, q4⟩ := this
      refine ⟨q1, q2, q3, fun ha => ?_⟩
      rcases g4 with g4 | g4
      · rw [ha] at g4; cases g4
      · rw [g4]; exact q4 ha
  · obtain ⟨cs, cells', j', l', g1, g2, g3, g4, g5, g6⟩ := boxesFit_get h3 s3 (obB _ _ hb)
    simp only [SO.box.injEq] at g2
    subst g2
    obtain ⟨us, E, q1, q2, q3, q4⟩ := hR.boxes _ _ g3
    refine ⟨us, E, q1, RelAts.fit hF g4 g5 q2, q3, fun b t hp => ?_⟩
    rcases g6 with g6 | g6
    · obtain ⟨k1, k2⟩ := q4 b t (by rw [← g6]; exact hp)
      refine ⟨k1, fun i u hi => ?_⟩
      obtain ⟨k3, x, k4, k5⟩ := k2 i u hi
      exact ⟨k3, atsFit_isSc g4 i x k4 k5⟩
    · rw [hpb _ g6] at hp; cases hp
  · obtain ⟨cs, cells, _, _, g1, _, g3, _⟩ := boxesFit_get h3 s3 (obB _ _ hi)
    obtain ⟨cs', cells', _, _, g1', _, g3', _⟩ := boxesFit_get h3 s3 (obB _ _ hj)
    exact hR.dBB _ _ _ _ g3 g3' (injBoxes_ne hinj.2 _ g1 _ g1' hij)
  · obtain ⟨app', ks, lf, g1, _, g3⟩ := rowsFit_get h2 s2 (obR _ _ _ _ hi)
    obtain ⟨app2, ks2, lf2, k1, _, k3⟩ := rowsFit_get h2 s2 (obR _ _ _ _ hj)
    rcases g3 with ⟨g3, _⟩ | ⟨q, v0, l0, g3, g4, _⟩
    · simp [muMp, muPh, g3]
    · rcases k3 with ⟨k3, _⟩ | ⟨q', v0', l0', k3, k4, _⟩
      · simp [muMp, muPh, k3]
      · simp only [muMp, muPh, g3, k3]
        exact hR.dRR _ _ _ _ _ _ _ _ g4 k4 (injRows_ne hinj.1 _ g1 _ k1 hij _ _ g3 k3)
  · obtain ⟨cs, cells, _, _, g1, _, g3, _⟩ := boxesFit_get h3 s3 (obB _ _ hi)
    obtain ⟨app2, ks2, lf2, k1, _, k3⟩ := rowsFit_get h2 s2 (obR _ _ _ _ hj)
    rcases k3 with ⟨k3, _⟩ | ⟨q', v0', l0', k3, k4, _⟩
    · simp [muMp, muPh, k3]
    · simp only [muMp, muPh, k3]
      exact hR.dBR _ _ _ _ _ _ g3 k4

end

end Go.Mw

/- The pure language, its meaning, and the compiler from a function's code. -/
namespace Go.Mw
open Go.RowKit

inductive L where
  | skip
  | rg (ins : List In)
  | tup (ls : List Lf)
  | seq (a b : L)
  | ite (l : Lf) (a b : L)
  | block (id : Nat) (b : L)
  | loop (b : L)
  | exit (id : Nat)
  | ret (ls : List Lf)

inductive LX where
  | normal
  | exit (id : Nat)
  | ret

def wpL : L → (LX → List V → Prop) → List V → Prop
  | .skip, Q, e => Q .normal e
  | .rg ins, Q, e => ∃ e', runIns ins e = some e' ∧ Q .normal e'
  | .tup ls, Q, e => Q .normal (ls.map (Lf.ev e))
  | .seq a b, Q, e => wpL a (fun x e' => match x with
    | .normal => wpL b Q e'
    | x => Q x e') e
  | .ite l a b, Q, e => (l.ev e = .bool true ∧ wpL a Q e) ∨ (l.ev e = .bool false ∧ wpL b Q e)
  | .block id b, Q, e => wpL b (fun x e' => match x with
    | .exit id' => if id' = id then Q .normal e' else Q x e'
    | x => Q x e') e
  | .loop b, Q, e => ∃ (I : List V → Prop) (m : List V → Nat), I e ∧ ∀ e, I e → wpL b (fun x e' => match x with
    | .normal => I e' ∧ m e' < m e
    | x => Q x e') e
  | .exit id, Q, e => Q (.exit id) e
  | .ret ls, Q, e => Q .ret (ls.map (Lf.ev e))

theorem wpL_mono : ∀ {l : L} {Q Q' : LX → List V → Prop} {e : List V}, wpL l Q e → (∀ x e, Q x e → Q' x e) → wpL l Q' e
  | .skip, _, _, _, h, hq => hq _ _ h
  | .rg _, _, _, _, ⟨e', h1, h2⟩, hq => ⟨e', h1, hq _ _ h2⟩
  | .tup _, _, _, _, h, hq => hq _ _ h
  | .seq a b, _, _, _, h, hq => wpL_mono (l := a) h fun x e h => by
    cases x with
    | normal => exact wpL_mono (l := b) h hq
    | exit id => exact hq _ _ h
    | ret => exact hq _ _ h
  | .ite _ a b, _, _, _, h, hq => h.imp (fun h => ⟨h.1, wpL_mono (l := a) h.2 hq⟩) (fun h => ⟨h.1, wpL_mono (l := b) h.2 hq⟩)
  | .block id b, _, _, _, h, hq => wpL_mono (l := b) h fun x e h => by
    cases x with
    | normal => exact hq _ _ h
    | exit id' =>
      simp only at h ⊢
      split
      · rename_i e; rw [if_pos e] at h; exact hq _ _ h
      · rename_i e; rw [if_neg e] at h; exact hq _ _ h
    | ret => exact hq _ _ h
  | .loop b, _, _, _, ⟨I, m, h1, h2⟩, hq => ⟨I, m, h1, fun e he => wpL_mono (l := b) (h2 e he) fun x e h => by
    cases x with
    | normal => exact h
    | exit id => exact hq _ _ h
    | ret => exact hq _ _ h⟩
  | .exit _, _, _, _, h, hq => hq _ _ h
  | .ret _, _, _, _, h, hq => hq _ _ h

/-! ### the state -/

structure St where
  A : FS
  fid : Nat
  nv : Nat

def NF.st (nf : NF) : St := ⟨nf.fs, nf.fid, nf.width⟩

def atSIds : List AtS → List Nat
  | [] => []
  | .own r :: as => r :: atSIds as
  | .inn r _ :: as => r :: atSIds as
  | _ :: as => atSIds as

def SVS.ids : SVS → List Nat
  | .sc _ cs => atSIds cs
  | .ptr id _ => [id]
  | .elem b _ _ => atSIds [b]
  | .tup cs => cs.flatMap fun c => atSIds c.2

def NF.ids (nf : NF) : List Nat := nf.sl.flatMap (fun x => x.2.ids) ++ nf.rows.map (·.1) ++ nf.boxes.flatMap fun x => x.1 :: atSIds x.2

def NF.ok (np : Nat) (nf : NF) : Bool := np ≤ nf.fid && nf.ids.all (· < nf.fid)

structure Inv (np : Nat) (st : St) (env : List V) : Prop where
  len : env.length = st.nv
  sc : Scoped st.A st.nv
  fr : Fresh st.A (fun x => st.fid ≤ x)
  np : np ≤ st.fid

/-! ### which row stands for which (found, then checked by 'nfFit') -/

def uniAt (m : List (Nat × Src)) : AtS → At → List (Nat × Src)
  | .own r, .own q => (r, .own q) :: m
  | .own r, .nil => (r, .nil) :: m
  | .inn r _, .inn q _ _ _ => (r, .own q) :: m
  | _, _ => m

def uniAts (m : List (Nat × Src)) : List AtS → List At → List (Nat × Src)
  | s :: ss, a :: as => uniAts (uniAt m s a) ss as
  | _, _ => m

def uniScs (m : List (Nat × Src)) : List (Bool × List AtS) → List SC → List (Nat × Src)
  | s :: ss, c :: cs => uniScs (uniAts m s.2 c.cs) ss cs
  | _, _ => m

def uniSl (A : FS) : List (Nat × SVS) → List (Nat × Src) × List (Nat × Nat) → List (Nat × Src) × List (Nat × Nat)
  | [], m => m
  | (s, x) :: r, m => uniSl A r (match x, A.sl s with
    | .sc _ cs, some (_, .sc c) => (uniAts m.1 cs c.cs, m.2)
    | .ptr id _, some (_, .ptr id' _) => (m.1, (id, id') :: m.2)
    | .elem b _ _, some (_, .elem b' _ _ _ _ _ _) => (match b, b' with
      | .own p, .own q => (p, .own q) :: m.1
      | .inn p _, .inn q _ _ _ => (p, .own q) :: m.1
      | _, _ => m.1, m.2)
    | .tup ss, some (_, .tup cs) => (uniScs m.1 ss cs, m.2)
    | _, _ => m)

def lookD (β : List (Nat × Nat)) (i : Nat) : Nat := (β.lookup i).getD i

def uniBoxes (A : FS) (β : List (Nat × Nat)) : List (Nat × List AtS) → List (Nat × Src) → List (Nat × Src)
  | [], m => m
  | (i, cs) :: r, m => uniBoxes A β r (match A.ob (lookD β i) with
    | some (.box cells) => uniAts m cs cells
    | _ => m)

def fitTo (np : Nat) (nf : NF) (A : FS) : Option (List Lf) :=
  let m := uniSl A nf.sl ([], [])
  let μ := uniBoxes A m.2 nf.boxes m.1
  nfFit A (fun i => match μ.lookup i with
    | some s => some s
    | none => if i < np then some (.own i) else none) (lookD m.2) np nf

/-! ### the compiler -/

section
variable (P : Program) (sg : List (Nat × Sig)) (nt np : Nat) (retOf : FS → Option (List Lf))

def cmp : Code → (Nat → Option NF) → St → List NF → Option (L × Option St × List NF)
  | .skip, _, st, hs => some (.skip, some st, hs)
  | .region _ ops draw, _, st, hs =>
    match rgn P sg nt ops draw st.A st.fid st.nv with
    | some es => some (.rg (es.filterMap En.ins), some ⟨es.foldl En.up st.A, endFid st.fid es, st.nv + outSum es⟩, hs)
    | none => none
  | .seq a b, tg, st, hs =>
    match cmp a tg st hs with
    | some (la, some sa, h1) =>
      match cmp b tg sa h1 with
      | some (lb, e, h2) => some (.seq la lb, e, h2)
      | none => none
    | some (la, none, h1) => some (la, none, h1)
    | none => none
  | .cond x a b, tg, st, hs =>
    match (look st.A.sl [] [] x).bind SV.scl with
    | none => none
    | some l =>
      match cmp a tg st hs with
      | none => none
      | some (la, ea, h1) =>
        match cmp b tg st h1 with
        | none => none
        | some (lb, eb, h2) =>
          match ea, eb with
          | none, e => some (.ite l la lb, e, h2)
          | some sa, none => some (.ite l la lb, some sa, h2)
          | some sa, some sb =>
            match h2 with
            | [] => none
            | nf :: h3 =>
              match fitTo np nf sa.A, fitTo np nf sb.A with
              | some σa, some σb => if nf.ok np then some (.ite l (.seq la (.tup σa)) (.seq lb (.tup σb)), some nf.st, h3) else none
              | _, _ => none
  | .block id b, tg, st, hs =>
    match hs with
    | [] => none
    | nf :: h1 =>
      if nf.ok np then
        match cmp b (fun i => if i = id then some nf else tg i) st h1 with
        | some (lb, none, h2) => some (.block id lb, some nf.st, h2)
        | some (lb, some sb, h2) =>
          match fitTo np nf sb.A with
          | some σ => some (.block id (.seq lb (.tup σ)), some nf.st, h2)
          | none => none
        | none => none
      else none
  | .loop b, tg, st, hs =>
    match hs with
    | [] => none
    | nf :: h1 =>
      if nf.ok np then
        match fitTo np nf st.A with
        | none => none
        | some σ0 =>
          match cmp b tg nf.st h1 with
          | some (lb, none, h2) => some (.seq (.tup σ0) (.loop lb), none, h2)
          | some (lb, some sb, h2) =>
            match fitTo np nf sb.A with
            | some σ => some (.seq (.tup σ0) (.loop (.seq lb (.tup σ))), none, h2)
            | none => none
          | none => none
      else none
  | .exit id, tg, st, hs =>
    match tg id with
    | some nf =>
      match fitTo np nf st.A with
      | some σ => some (.seq (.tup σ) (.exit id), none, hs)
      | none => none
    | none => none
  | .ret, _, st, hs =>
    match retOf st.A with
    | some ls => some (.ret ls, none, hs)
    | none => none
  | _, _, _, _ => none

end

end Go.Mw

/- The compiler is sound. -/
namespace Go.Mw
open Go.RowKit

/-! ### a normal form's own state -/

theorem Lf.lt_mono {l : Lf} {m k : Nat} (h : l.lt m = true) (hk : m ≤ k) : l.lt k = true := by
  cases l with
  | v i => simp only [Lf.lt, decide_eq_true_eq] at h ⊢; omega
  | k c => rfl

theorem AtS.at_lt {s : AtS} {j n : Nat} (h : j + s.width ≤ n) : (s.at j).lt n = true := by
  cases s <;> simp only [AtS.at, At.lt, AtS.width, Lf.lt, pthLt, Bool.and_true, decide_eq_true_eq] at h ⊢ <;> omega

theorem atsAt_lt : ∀ {ss : List AtS} {j n : Nat}, j + atsW ss ≤ n → atsLt n (atsAt j ss) = true
  | [], _, _, _ => rfl
  | s :: ss, j, n, h => by
    simp only [atsW] at h
    simp only [atsAt, atsLt, Bool.and_eq_true]
    exact ⟨AtS.at_lt (by omega), atsAt_lt (by omega)⟩

theorem scsAt_lt : ∀ {ss : List (Bool × List AtS)} {j n : Nat}, j + scsW ss ≤ n → ((scsAt j ss).all fun c => atsLt n c.cs) = true
  | [], _, _, _ => rfl
  | s :: ss, j, n, h => by
    simp only [scsW] at h
    simp only [scsAt, List.all_cons, Bool.and_eq_true]
    exact ⟨atsAt_lt (by omega), scsAt_lt (by omega)⟩

theorem SVS.at_lt {s : SVS} {j n : Nat} (h : j + s.width ≤ n) : (s.at j).lt n = true := by
  cases s with
  | sc g cs => exact atsAt_lt h
  | ptr id off => rfl
  | elem b off ks =>
    simp only [SVS.width] at h
    simp only [SVS.at, SV.lt, Bool.and_eq_true, decide_eq_true_eq]
    refine ⟨⟨⟨?_, by simp [Lf.lt]; omega⟩, by simp [Lf.lt]; omega⟩, by omega⟩
    cases b <;> simp [AtS.base, AtS.at, At.lt, Lf.lt, pthLt] <;> omega
  | tup cs => exact scsAt_lt h

theorem slAt_get : ∀ {l : List (Nat × SVS)} {j t : Nat} {sv : SV}, slAt j l t = some sv → ∃ x j', (t, x) ∈ l ∧ sv = x.at j' ∧ j ≤ j' ∧ j' + x.width ≤ j + slW l
  | [], _, _, _, h => by simp [slAt] at h
  | (s, x) :: r, j, t, sv, h => by
    simp only [slAt] at h
    split at h
    · rename_i e
      subst e
      simp only [Option.some.injEq] at h
      exact ⟨x, j, by simp, h.symm, Nat.le_refl _, by simp only [slW]; omega⟩
    · obtain ⟨y, j', h1, h2, h3, h4⟩ := slAt_get h
      exact ⟨y, j', by simp [h1], h2, by omega, by simp only [slW]; omega⟩

theorem rowsAt_get : ∀ {l : List (Nat × Bool × List AK)} {j i : Nat} {x : SO}, rowsAt j l i = some x → i ∈ l.map (·.1) ∧ ∃ app j', x = .row 0 (.v j') app ∧ j' < j + l.length
  | [], _, _, _, h => by simp [rowsAt] at h
  | (k, app, ks) :: r, j, i, x, h => by
    simp only [rowsAt] at h
    split at h
    · rename_i e
      subst e
      simp only [Option.some.injEq] at h
      exact ⟨by simp, app, j, h.symm, by simp⟩
    · obtain ⟨h1, app', j', h2, h3⟩ := rowsAt_get h
      exact ⟨by simp only [List.map_cons, List.mem_cons]; exact .inr h1, app', j', h2, by simp only [List.length_cons]; omega⟩

theorem boxesAt_get : ∀ {l : List (Nat × List AtS)} {j i : Nat} {x : SO}, boxesAt j l i = some x → ∃ cs j', (i, cs) ∈ l ∧ x = .box (atsAt j' cs) ∧ j' + atsW cs ≤ j + boxesW l
  | [], _, _, _, h => by simp [boxesAt] at h
  | (k, cs) :: r, j, i, x, h => by
    simp only [boxesAt] at h
    split at h
    · rename_i e
      subst e
      simp only [Option.some.injEq] at h
      exact ⟨cs, j, by simp, h.symm, by simp only [boxesW]; omega⟩
    · obtain ⟨cs', j', h1, h2, h3⟩ := boxesAt_get h
      exact ⟨cs', j', by simp [h1], h2, by simp only [boxesW]; omega⟩

theorem atsAt_men : ∀ {ss : List AtS} {j x : Nat}, atsMen (atsAt j ss) x → x ∈ atSIds ss
  | [], _, _, ⟨_, h, _⟩ => by cases h
  | s :: ss, j, x, ⟨b, hb, hx⟩ => by
    simp only [atsAt, List.mem_cons] at hb
    rcases hb with rfl | hb
    · cases s <;> simp_all [AtS.at, At.men, atSIds]
    · have := atsAt_men ⟨b, hb, hx⟩
      cases s <;> simp [atSIds, this]

theorem scsAt_men : ∀ {ss : List (Bool × List AtS)} {j x : Nat}, (∃ c ∈ scsAt j ss, atsMen c.cs x) → x ∈ ss.flatMap fun c => atSIds c.2
  | [], _, _, ⟨_, h, _⟩ => by cases h
  | s :: ss, j, x, ⟨b, hb, hx⟩ => by
    simp only [scsAt, List.mem_cons] at hb
    simp only [List.flatMap_cons, List.mem_append]
    rcases hb with rfl | hb
    · exact .inl (atsAt_men hx)
    · exact .inr (scsAt_men ⟨b, hb, hx⟩)

theorem SVS.at_men {s : SVS} {j x : Nat} (h : (s.at j).men x) : x ∈ s.ids := by
  cases s with
  | sc g cs => exact atsAt_men h
  | ptr id off => simp only [SVS.at, SV.men] at h; simp [SVS.ids, h]
  | elem b off ks => cases b <;> simp_all [SVS.at, SV.men, AtS.base, AtS.at, At.men, SVS.ids, atSIds]
  | tup cs => exact scsAt_men h

theorem NF.inv {np : Nat} {nf : NF} (h : nf.ok np = true) {env : List V} (hl : env.length = nf.width) : Inv np nf.st env := by
  simp only [NF.ok, Bool.and_eq_true, decide_eq_true_eq, List.all_eq_true] at h
  obtain ⟨hnp, hids⟩ := h
  have idS : ∀ {t : Nat} {x : SVS}, (t, x) ∈ nf.sl → ∀ y ∈ x.ids, y < nf.fid := fun hm y hy => hids y (by
    simp only [NF.ids, List.mem_append, List.mem_flatMap]; exact .inl (.inl ⟨_, hm, hy⟩))
  have idR : ∀ {i : Nat}, i ∈ nf.rows.map (·.1) → i < nf.fid := fun hm => hids _ (by simp only [NF.ids, List.mem_append]; exact .inl (.inr hm))
  have idB : ∀ {i : Nat} {cs : List AtS}, (i, cs) ∈ nf.boxes → ∀ y ∈ i :: atSIds cs, y < nf.fid := fun hm y hy => hids y (by
    simp only [NF.ids, List.mem_append, List.mem_flatMap]; exact .inr ⟨_, hm, hy⟩)
  have obC : ∀ i x, nf.fs.ob i = some x → rowsAt (slW nf.sl) nf.rows i = some x ∨ boxesAt (slW nf.sl + nf.rows.length) nf.boxes i = some x := by
    intro i x hx
    simp only [NF.fs] at hx
    split at hx
    · rename_i e; simp only [Option.some.injEq] at hx; subst hx; exact .inl e
    · exact .inr hx
  refine ⟨hl, ⟨fun s gs sv hs => ?_, fun i x hx => ?_⟩, ⟨fun s gs sv hs x hx hq => ?_, fun id cells hb x hx hq => ?_, fun x hq => ?_⟩, hnp⟩
  · simp only [NF.st, NF.fs, Option.map_eq_some_iff, Prod.mk.injEq] at hs
    obtain ⟨sv', g1, rfl, rfl⟩ := hs
    obtain ⟨y, j', h1, rfl, _, h4⟩ := slAt_get g1
    exact ⟨rfl, SVS.at_lt (by show _ ≤ nf.width; unfold NF.width; omega)⟩
  · rcases obC i x hx with h | h
    · obtain ⟨_, app, j', rfl, h2⟩ := rowsAt_get h
      simp only [SO.lt, Lf.lt, decide_eq_true_eq]
      show j' < nf.width
      unfold NF.width; omega
    · obtain ⟨cs, j', _, rfl, h2⟩ := boxesAt_get h
      exact atsAt_lt (by show _ ≤ nf.width; unfold NF.width; omega)
  · simp only [NF.st, NF.fs, Option.map_eq_some_iff, Prod.mk.injEq] at hs hq
    obtain ⟨sv', g1, rfl, rfl⟩ := hs
    obtain ⟨y, j', h1, rfl, _, h4⟩ := slAt_get g1
    have := idS h1 x (SVS.at_men hx)
    omega
  · simp only [NF.st] at hq
    rcases obC id _ hb with h | h
    · obtain ⟨_, app, j', h1, h2⟩ := rowsAt_get h
      cases h1
    · obtain ⟨cs, j', h1, h2, h3⟩ := boxesAt_get h
      simp only [SO.box.injEq] at h2
      subst h2
      have := idB h1 x (List.mem_cons_of_mem _ (atsAt_men hx))
      omega
  · simp only [NF.st] at hq ⊢
    cases hob : nf.fs.ob x with
    | none => rfl
    | some y =>
      rcases obC x y hob with h | h
      · have := idR (rowsAt_get h).1
        omega
      · obtain ⟨cs, j', h1, _⟩ := boxesAt_get h
        have := idB h1 x (by simp)
        omega

theorem nfFit_len {A : FS} {μ : Nat → Option Src} {β : Nat → Nat} {np : Nat} {nf : NF} {ls : List Lf} (h : nfFit A μ β np nf = some ls) : ls.length = nf.width := by
  unfold nfFit at h
  split at h
  · split at h <;> simp only [Option.some.injEq, reduceCtorEq] at h
    rename_i l1 l2 l3 h1 h2 h3
    subst h
    have n1 : ∀ {l : List (Nat × SVS)} {ls : List Lf}, slFit A μ β l = some ls → ls.length = slW l := by
      intro l
      induction l with
      | nil => intro ls h; simp only [slFit, Option.some.injEq] at h; subst h; rfl
      | cons x r ih =>
        intro ls h
        simp only [slFit] at h
        split at h
        · split at h <;> simp only [Option.some.injEq, reduceCtorEq] at h
          rename_i g1 g2
          subst h
          simp only [List.length_append, svFit_len g1, ih g2, slW]
        · cases h
    have n3 : ∀ {l : List (Nat × List AtS)} {ls : List Lf}, boxesFit A μ β np l = some ls → ls.length = boxesW l := by
      intro l
      induction l with
      | nil => intro ls h; simp only [boxesFit, Option.some.injEq] at h; subst h; rfl
      | cons x r ih =>
        intro ls h
        simp only [boxesFit] at h
        split at h
        · split at h
          · split at h <;> simp only [Option.some.injEq, reduceCtorEq] at h
            rename_i g1 g2
            subst h
            simp only [List.length_append, atsFit_len g1, ih g2, boxesW]
          · cases h
        · cases h
    simp only [List.length_append, n1 h1, rowsFit_len h2, n3 h3, NF.width]
  · cases h

section
variable {P : Program} {sg : List (Nat × Sig)} {nt np : Nat} {retOf : FS → Option (List Lf)} {c : Cx}

theorem fitTo_rel {nf : NF} {A : FS} {σ : List Lf} (h : fitTo np nf A = some σ) (hok : nf.ok np = true) (hpb : ∀ x, np ≤ x → c.parB x = none) {M : Mp} {env : List V} {a : Act} {w : World} (hR : Rel c nt M env A a w) :
    Inv np nf.st (σ.map (Lf.ev env)) ∧ ∃ M', Rel c nt M' (σ.map (Lf.ev env)) nf.st.A a w :=
  ⟨NF.inv hok (by rw [List.length_map]; exact nfFit_len h), _, nfFit_rel h hpb hR⟩

/-- The state at a return. -/
def RetR (c : Cx) (nt : Nat) (retOf : FS → Option (List Lf)) (outs : List V) (a : Act) (w : World) : Prop :=
  ∃ (M : Mp) (env : List V) (A : FS) (ls : List Lf), Rel c nt M env A a w ∧ retOf A = some ls ∧ outs = ls.map (Lf.ev env)

theorem cmp_sound (hnpk : npK ≤ np) (hpk : ∀ x, npK ≤ x → c.parB x = none) (hm : P.follows .mixedOrders = true) (hsg : ∀ f s, sg.lookup f = some s → Contract P f s) (hpb : ∀ x, np ≤ x → c.parB x = none) : ∀ (code : Code) (tg : Nat → Option NF) (st : St) (hs hs' : List NF) (l : L) (e : Option St),
    cmp P sg nt np retOf code tg st hs = some (l, e, hs') → (∀ i nf, tg i = some nf → nf.ok np = true) → ∀ (env : List V) (M : Mp) (a : Act) (w : World), Inv np st env → Rel c nt M env st.A a w →
    ∀ (Q : Exit → Act → World → Prop) (QL : LX → List V → Prop), wpL l QL env →
    (∀ st' env' M' a' w', e = some st' → Inv np st' env' → Rel c nt M' env' st'.A a' w' → QL .normal env' → Q .normal a' w') →
    (∀ id nf env' M' a' w', tg id = some nf → Inv np nf.st env' → Rel c nt M' env' nf.st.A a' w' → QL (.exit id) env' → Q (.exit id) a' w') →
    (∀ outs a' w', RetR c nt retOf outs a' w' → QL .ret outs → Q .ret a' w') → code.wp P Q a w := by
  intro code
  induction code with
  | skip =>
    intro tg st hs hs' l e h htg env M a w hI hR Q QL hl hN hX hT
    simp only [cmp, Option.some.injEq, Prod.mk.injEq] at h
    obtain ⟨rfl, rfl, rfl⟩ := h
    exact wp_skip (hN _ _ _ _ _ rfl hI hR hl)
  | region id ops draw =>
    intro tg st hs hs' l e h htg env M a w hI hR Q QL hl hN hX hT
    simp only [cmp] at h
    split at h <;> simp only [Option.some.injEq, Prod.mk.injEq, reduceCtorEq] at h
    rename_i es hrg
    obtain ⟨rfl, rfl, rfl⟩ := h
    obtain ⟨env', hrun, hq⟩ := hl
    have hseq : SeqOk P sg nt ops st.A st.fid st.nv es := by
      unfold rgn at hrg
      split at hrg
      · split at hrg <;> simp only [Option.some.injEq, reduceCtorEq] at hrg
        rename_i hgo _
        subst hrg
        exact (rgGo_ok hgo).1
      · cases hrg
    obtain ⟨_, _, hlen⟩ := envOk_of_run hseq hI.len hrun
    obtain ⟨hsc, hfr⟩ := hseq.end hI.sc hI.fr
    have hge : ∀ {es : List En} {A : FS} {fid nv : Nat}, SeqOk P sg nt ops A fid nv es → fid ≤ endFid fid es := by
      intro es
      induction es with
      | nil => intros; exact Nat.le_refl _
      | cons e r ih =>
        intro A fid nv h
        have := ih h.2.2.2.2.2
        simp only [endFid]
        have h1 := h.1
        simp only [En.nxt] at this ⊢
        omega
    exact region_sound hm hsg hrg hI.sc hI.fr hI.len hrun hpk (Nat.le_trans hnpk hI.np) hR fun M' a' w' hR' =>
      hN _ env' M' a' w' rfl ⟨hlen, hsc, hfr, Nat.le_trans hI.np (hge hseq)⟩ hR' hq
  | seq x y ihx ihy =>
    intro tg st hs hs' l e h htg env M a w hI hR Q QL hl hN hX hT
    simp only [cmp] at h
    split at h
    · rename_i la sa h1 hx
      split at h <;> simp only [Option.some.injEq, Prod.mk.injEq, reduceCtorEq] at h
      rename_i lb e' h2 hy
      obtain ⟨rfl, rfl, rfl⟩ := h
      refine wp_seq (ihx tg st hs h1 la (some sa) hx htg env M a w hI hR _ _ hl ?_ ?_ ?_)
      · intro st' env' M' a' w' he hI' hR' hq
        simp only [Option.some.injEq] at he
        subst he
        exact ihy tg sa h1 h2 lb e' hy htg env' M' a' w' hI' hR' Q QL hq hN hX hT
      · intro id nf env' M' a' w' ht hI' hR' hq
        exact hX id nf env' M' a' w' ht hI' hR' hq
      · intro outs a' w' hr hq
        exact hT outs a' w' hr hq
    · rename_i la h1 hx
      simp only [Option.some.injEq, Prod.mk.injEq] at h
      obtain ⟨rfl, rfl, rfl⟩ := h
      refine wp_seq (ihx tg st hs h1 la none hx htg env M a w hI hR _ QL hl ?_ ?_ ?_)
      · intro st' env' M' a' w' he
        cases he
      · intro id nf env' M' a' w' ht hI' hR' hq
        exact hX id nf env' M' a' w' ht hI' hR' hq
      · intro outs a' w' hr hq
        exact hT outs a' w' hr hq
    · cases h
  | cond x thn els iht ihe =>
    intro tg st hs hs' l e h htg env M a w hI hR Q QL hl hN hX hT
    simp only [cmp] at h
    split at h
    · cases h
    rename_i lf hlf
    split at h
    · cases h
    rename_i la ea h1 ha
    split at h
    · cases h
    rename_i lb eb h2 hb
    have hat := (look_scl hR hlf (by simp [GH])).atom_of
    have hcond : ∀ (b : Bool), lf.ev env = .bool b → a.eval x = .bool b := by
      intro b hb
      rw [hb] at hat
      generalize a.eval x = v at hat
      cases hat; rfl
    -- each side by itself
    have go : ∀ (ka kb : L) (K1 K2 : Option St), ((lf.ev env = .bool true ∧ wpL ka QL env) ∨ (lf.ev env = .bool false ∧ wpL kb QL env)) →
        (wpL ka QL env → thn.wp P Q a w) → (wpL kb QL env → els.wp P Q a w) → (Code.cond x thn els).wp P Q a w := by
      intro ka kb _ _ hor f g
      rcases hor with ⟨hb, hw⟩ | ⟨hb, hw⟩
      · exact wp_cond_true (hcond true hb) (f hw)
      · exact wp_cond_false (hcond false hb) (g hw)
    split at h
    · simp only [Option.some.injEq, Prod.mk.injEq] at h
      obtain ⟨rfl, rfl, rfl⟩ := h
      refine go la lb none none hl (fun hw => ?_) (fun hw => ?_)
      · exact iht tg st hs h1 la none ha htg env M a w hI hR Q QL hw (fun _ _ _ _ _ he => by cases he) hX hT
      · exact ihe tg st h1 h2 lb _ hb htg env M a w hI hR Q QL hw hN hX hT
    · simp only [Option.some.injEq, Prod.mk.injEq] at h
      obtain ⟨rfl, rfl, rfl⟩ := h
      refine go la lb none none hl (fun hw => ?_) (fun hw => ?_)
      · exact iht tg st hs h1 la _ ha htg env M a w hI hR Q QL hw hN hX hT
      · exact ihe tg st h1 h2 lb none hb htg env M a w hI hR Q QL hw (fun _ _ _ _ _ he => by cases he) hX hT
    · rename_i sa sb
      split at h
      · cases h
      rename_i nf h3
      split at h
      · rename_i σa σb hfa hfb
        split at h <;> simp only [Option.some.injEq, Prod.mk.injEq, reduceCtorEq] at h
        rename_i hok
        obtain ⟨rfl, rfl, rfl⟩ := h
        refine go (.seq la (.tup σa)) (.seq lb (.tup σb)) none none hl (fun hw => ?_) (fun hw => ?_)
        · refine iht tg st hs h1 la _ ha htg env M a w hI hR Q _ hw ?_ (fun id nf env' M' a' w' ht hI' hR' hq => hX id nf env' M' a' w' ht hI' hR' hq) (fun outs a' w' hr hq => hT outs a' w' hr hq)
          intro st' env' M' a' w' he hI' hR' hq
          simp only [Option.some.injEq] at he
          subst he
          obtain ⟨g1, M2, g2⟩ := fitTo_rel hfa hok hpb hR'
          exact hN _ _ M2 a' w' rfl g1 g2 hq
        · refine ihe tg st h1 (nf :: h3) lb _ hb htg env M a w hI hR Q _ hw ?_ (fun id nf env' M' a' w' ht hI' hR' hq => hX id nf env' M' a' w' ht hI' hR' hq) (fun outs a' w' hr hq => hT outs a' w' hr hq)
          intro st' env' M' a' w' he hI' hR' hq
          simp only [Option.some.injEq] at he
          subst he
          obtain ⟨g1, M2, g2⟩ := fitTo_rel hfb hok hpb hR'
          exact hN _ _ M2 a' w' rfl g1 g2 hq
      · cases h
  | block id b ih =>
    intro tg st hs hs' l e h htg env M a w hI hR Q QL hl hN hX hT
    simp only [cmp] at h
    split at h
    · cases h
    rename_i nf h1
    split at h
    case isFalse => cases h
    rename_i hok
    have htg' : ∀ i nf', (fun i => if i = id then some nf else tg i) i = some nf' → nf'.ok np = true := by
      intro i nf' h
      simp only at h
      split at h
      · simp only [Option.some.injEq] at h; subst h; exact hok
      · exact htg i nf' h
    split at h
    · rename_i lb h2 hb
      simp only [Option.some.injEq, Prod.mk.injEq] at h
      obtain ⟨rfl, rfl, rfl⟩ := h
      refine wp_block (ih _ st h1 h2 lb none hb htg' env M a w hI hR _ _ hl (fun _ _ _ _ _ he => by cases he) ?_ (fun outs a' w' hr hq => hT outs a' w' hr hq))
      intro i nf' env' M' a' w' ht hI' hR' hq
      simp only [Exit.inBlock] at ht hq ⊢
      by_cases hi : i = id
      · rw [if_pos hi] at ht hq ⊢
        simp only [Option.some.injEq] at ht
        subst ht
        exact hN _ _ M' a' w' rfl hI' hR' hq
      · rw [if_neg hi] at ht hq ⊢
        exact hX i nf' env' M' a' w' ht hI' hR' hq
    · rename_i lb sb h2 hb
      split at h <;> simp only [Option.some.injEq, Prod.mk.injEq, reduceCtorEq] at h
      rename_i σ hfit
      obtain ⟨rfl, rfl, rfl⟩ := h
      refine wp_block (ih _ st h1 h2 lb (some sb) hb htg' env M a w hI hR _ _ hl ?_ ?_ (fun outs a' w' hr hq => hT outs a' w' hr hq))
      · intro st' env' M' a' w' he hI' hR' hq
        simp only [Option.some.injEq] at he
        subst he
        obtain ⟨g1, M2, g2⟩ := fitTo_rel hfit hok hpb hR'
        exact hN _ _ M2 a' w' rfl g1 g2 hq
      · intro i nf' env' M' a' w' ht hI' hR' hq
        simp only [Exit.inBlock] at ht hq ⊢
        by_cases hi : i = id
        · rw [if_pos hi] at ht hq ⊢
          simp only [Option.some.injEq] at ht
          subst ht
          exact hN _ _ M' a' w' rfl hI' hR' hq
        · rw [if_neg hi] at ht hq ⊢
          exact hX i nf' env' M' a' w' ht hI' hR' hq
    · cases h
  | loop b ih =>
    intro tg st hs hs' l e h htg env M a w hI hR Q QL hl hN hX hT
    simp only [cmp] at h
    split at h
    · cases h
    rename_i nf h1
    split at h
    case isFalse => cases h
    rename_i hok
    split at h
    · cases h
    rename_i σ0 hfit0
    obtain ⟨i0, M0, r0⟩ := fitTo_rel hfit0 hok hpb hR
    split at h
    · rename_i lb h2 hb
      simp only [Option.some.injEq, Prod.mk.injEq] at h
      obtain ⟨rfl, rfl, rfl⟩ := h
      obtain ⟨I, m, hI0, hround⟩ := hl
      refine wp_loop_ghost (fun n a w => ∃ env M, Inv np nf.st env ∧ Rel c nt M env nf.st.A a w ∧ I env ∧ m env = n) _ ⟨_, M0, i0, r0, hI0, rfl⟩ ?_
      rintro n a w ⟨env1, M1, hI1, hR1, hIe, rfl⟩
      exact ih tg nf.st h1 h2 lb none hb htg env1 M1 a w hI1 hR1 _ _ (hround env1 hIe) (fun _ _ _ _ _ he => by cases he)
        (fun id nf env' M' a' w' ht hI' hR' hq => hX id nf env' M' a' w' ht hI' hR' hq) (fun outs a' w' hr hq => hT outs a' w' hr hq)
    · rename_i lb sb h2 hb
      split at h <;> simp only [Option.some.injEq, Prod.mk.injEq, reduceCtorEq] at h
      rename_i σ hfit
      obtain ⟨rfl, rfl, rfl⟩ := h
      obtain ⟨I, m, hI0, hround⟩ := hl
      refine wp_loop_ghost (fun n a w => ∃ env M, Inv np nf.st env ∧ Rel c nt M env nf.st.A a w ∧ I env ∧ m env = n) _ ⟨_, M0, i0, r0, hI0, rfl⟩ ?_
      rintro n a w ⟨env1, M1, hI1, hR1, hIe, rfl⟩
      refine ih tg nf.st h1 h2 lb (some sb) hb htg env1 M1 a w hI1 hR1 _ _ (hround env1 hIe) ?_
        (fun id nf env' M' a' w' ht hI' hR' hq => hX id nf env' M' a' w' ht hI' hR' hq) (fun outs a' w' hr hq => hT outs a' w' hr hq)
      intro st' env' M' a' w' he hI' hR' hq
      simp only [Option.some.injEq] at he
      subst he
      obtain ⟨g1, M2, g2⟩ := fitTo_rel hfit hok hpb hR'
      obtain ⟨q1, q2⟩ := hq
      exact ⟨_, q2, _, M2, g1, g2, q1, rfl⟩
    · cases h
  | exit id =>
    intro tg st hs hs' l e h htg env M a w hI hR Q QL hl hN hX hT
    simp only [cmp] at h
    split at h
    · rename_i nf ht
      split at h <;> simp only [Option.some.injEq, Prod.mk.injEq, reduceCtorEq] at h
      rename_i σ hfit
      obtain ⟨rfl, rfl, rfl⟩ := h
      obtain ⟨g1, M2, g2⟩ := fitTo_rel hfit (htg id nf ht) hpb hR
      exact wp_exit (hX id nf _ M2 a w ht g1 g2 hl)
    · cases h
  | ret =>
    intro tg st hs hs' l e h htg env M a w hI hR Q QL hl hN hX hT
    simp only [cmp] at h
    split at h <;> simp only [Option.some.injEq, Prod.mk.injEq, reduceCtorEq] at h
    rename_i ls hret
    obtain ⟨rfl, rfl, rfl⟩ := h
    exact wp_ret (hT _ a w ⟨M, env, st.A, ls, hR, hret, rfl⟩ hl)
  | _ =>
    intro tg st hs hs' l e h
    simp [cmp] at h

end

end Go.Mw

/- The first state of a function: its parameters. -/
namespace Go.Mw
open Go.RowKit

section
variable {c : Cx} {nt : Nat} {M : Mp} {env : List V} {A : FS} {a : Act} {w : World}

/-- A row that lies in memory already is taken in. -/
theorem Rel.add_rowG (hR : Rel c nt M env A a w) {id : Nat} (hf : Fresh A (· = id)) {v : Value} {l : Lf} {S : List Nat} (hrep : Rep w [v] [l.ev env] S) (hn : S.Nodup) (hS : ∀ b ∈ S, c.mine b ∧ Wr w b) {app : Bool} (ho : app = true → OwnHd w v (l.ev env) ∧ ∀ b ∈ S, c.w0.heap.size ≤ b) (hp : app = false → ∀ v' S', c.par id = some (v', S') → v = v' ∧ ∀ b ∈ S, b ∈ S')
    (hap : Apart M A.ob S) : Rel c nt ⟨fun i => if i = id then v else M.hd i, fun i => if i = id then S else M.ph i, M.be⟩ env ⟨A.sl, fun i => if i = id then some (.row 0 l app) else A.ob i⟩ a w ∧
      Ext c (· = id) M A.ob w ⟨fun i => if i = id then v else M.hd i, fun i => if i = id then S else M.ph i, M.be⟩ (fun i => if i = id then some (.row 0 l app) else A.ob i) w := by
  have E1 : Ext c (· = id) M A.ob w ⟨fun i => if i = id then v else M.hd i, fun i => if i = id then S else M.ph i, M.be⟩ (fun i => if i = id then some (.row 0 l app) else A.ob i) w := by
    refine ⟨fun r ver l1 app1 hr h => ?_, fun i cells hi h => ?_, fun b _ _ => rfl⟩
    · rw [if_neg hr] at h
      exact ⟨ver, l1, app1, h, by simp [hr], Nat.le_refl _, fun _ => ⟨rfl, fun b hb _ => ⟨by simp [hr, hb], rfl⟩⟩⟩
    · rw [if_neg hi] at h
      exact ⟨⟨cells, h⟩, rfl⟩
  refine ⟨⟨hR.size, hR.defs, ?_, ?_, ?_, ?_, ?_, ?_, hR.keep⟩, E1⟩
  · intro s gs sv hs
    obtain ⟨h1, h2, h3⟩ := hR.slots s gs sv hs
    exact ⟨h1, fun hg => RelSV.ext E1 (hf.1 s gs sv hs) (h2 hg), h3⟩
  · intro r ver l' app1 h
    simp only at h
    split at h
    · rename_i e
      subst e
      simp only [Option.some.injEq, SO.row.injEq] at h
      obtain ⟨rfl, rfl, rfl⟩ := h
      refine ⟨⟨S, by simpa using hrep, hn, fun b hb => ⟨by simpa using hb, (hS b hb).2⟩⟩, ?_, fun ha => ⟨by simpa using (ho ha).1, fun b hb => (ho ha).2 b (by simpa using hb)⟩, fun ha v' S' hv => ⟨by simpa using (hp ha v' S' hv).1, fun b hb => (hp ha v' S' hv).2 b (by simpa using hb)⟩⟩
      intro b hb
      have hb' : b ∈ S := by simpa using hb
      exact ⟨(hS b hb').1, hrep.lt b hb'⟩
    · rename_i e
      exact (hR.rows _ _ _ _ h).keep (by simp [e]) (by simp [e]) (Nat.le_refl _) fun _ _ => rfl
  · intro i cells h
    have h' := h
    simp only at h'
    split at h'
    · cases h'
    · exact (hR.boxes _ _ h').keep E1 rfl rfl (hf.2.1 _ _ h')
  · intro i j x y h1 h2 hij
    simp only at h1 h2
    split at h1
    · cases h1
    split at h2
    · cases h2
    exact hR.dBB _ _ _ _ h1 h2 hij
  · intro i j vi li ai vj lj aj h1 h2 hij b hb
    simp only at h1 h2 hb
    split at h1
    · rename_i hi
      subst hi
      rw [if_pos rfl] at hb
      rw [if_neg (Ne.symm hij)] at h2
      simp only [if_neg (Ne.symm hij)]
      exact (hap b hb).1 _ _ _ _ h2
    · rename_i hi
      rw [if_neg hi] at hb
      split at h2
      · rename_i hj
        subst hj
        simp only [if_true]
        exact fun hbS => (hap b hbS).1 _ _ _ _ h1 hb
      · rename_i hj
        simp only [if_neg hj]
        exact hR.dRR _ _ _ _ _ _ _ _ h1 h2 hij b hb
  · intro i j x vj lj aj h1 h2
    simp only at h1 h2
    split at h1
    · cases h1
    split at h2
    · rename_i hj
      subst hj
      simp only [if_true]
      exact fun hb => (hap _ hb).2 _ _ h1 rfl
    · rename_i hj
      simp only [if_neg hj]
      exact hR.dBR _ _ _ _ _ _ h1 h2


/-- A box that lies in memory already is taken in. -/
theorem Rel.add_boxG (hR : Rel c nt M env A a w) {id : Nat} (hf : Fresh A (· = id)) {b : Nat} {us : List Value} {E : TypeId} {cells : List At} (hb : w.heap[b]? = some (.cells us.toArray E (0, 0))) (hr : RelAts c M env w A.ob cells us)
    (hm : ∀ x, ¬ atsMen cells x) (hmine : c.mine b) (hp : ∀ b' t, c.parB id = some (b', t) → b = b' ∧ ∀ (i : Nat) u, t i = some u → us[i]? = some u ∧ ∃ x, cells[i]? = some x ∧ x.isSc = false) (hrow : ∀ r ver l app, A.ob r = some (.row ver l app) → b ∉ M.ph r) (hbox : ∀ i cs, A.ob i = some (.box cs) → b ≠ M.be i) :
    Rel c nt ⟨M.hd, M.ph, fun i => if i = id then b else M.be i⟩ env ⟨A.sl, fun i => if i = id then some (.box cells) else A.ob i⟩ a w ∧
      Ext c (· = id) M A.ob w ⟨M.hd, M.ph, fun i => if i = id then b else M.be i⟩ (fun i => if i = id then some (.box cells) else A.ob i) w := by
  have E1 : Ext c (· = id) M A.ob w ⟨M.hd, M.ph, fun i => if i = id then b else M.be i⟩ (fun i => if i = id then some (.box cells) else A.ob i) w := by
    refine ⟨fun r ver l1 app1 hr h => ?_, fun i cells hi h => ?_, fun b _ _ => rfl⟩
    · rw [if_neg hr] at h
      exact ⟨ver, l1, app1, h, rfl, Nat.le_refl _, fun _ => ⟨rfl, fun b hb _ => ⟨hb, rfl⟩⟩⟩
    · rw [if_neg hi] at h
      exact ⟨⟨cells, h⟩, if_neg hi⟩
  refine ⟨⟨hR.size, hR.defs, ?_, ?_, ?_, ?_, ?_, ?_, hR.keep⟩, E1⟩
  · intro s gs sv hs
    obtain ⟨h1, h2, h3⟩ := hR.slots s gs sv hs
    exact ⟨h1, fun hg => RelSV.ext E1 (hf.1 s gs sv hs) (h2 hg), h3⟩
  · intro r ver l' app1 h
    simp only at h
    split at h
    · cases h
    · exact (hR.rows _ _ _ _ h).keep rfl rfl (Nat.le_refl _) fun _ _ => rfl
  · intro i cells' h
    have h' := h
    simp only at h'
    split at h'
    · rename_i e
      subst e
      simp only [Option.some.injEq, SO.box.injEq] at h'
      subst h'
      exact ⟨us, E, by simp only [if_true]; exact hb, RelAts.ext E1 (fun x hx => absurd hx (hm x)) hr, by simp only [if_true]; exact hmine, fun b' t hb' => by simp only [if_true]; exact hp b' t hb'⟩
    · rename_i e
      exact (hR.boxes _ _ h').keep E1 (if_neg e) rfl (hf.2.1 _ _ h')
  · intro i j x y h1 h2 hij
    simp only at h1 h2 ⊢
    split at h1 <;> split at h2
    · rename_i a1 a2; exact absurd (a1.trans a2.symm) hij
    · rename_i a1 a2; rw [if_pos a1, if_neg a2]; exact hbox _ _ h2
    · rename_i a1 a2; rw [if_neg a1, if_pos a2]; exact (hbox _ _ h1).symm
    · rename_i a1 a2; rw [if_neg a1, if_neg a2]; exact hR.dBB _ _ _ _ h1 h2 hij
  · intro i j vi li ai vj lj aj h1 h2 hij
    simp only at h1 h2
    split at h1
    · cases h1
    split at h2
    · cases h2
    exact hR.dRR _ _ _ _ _ _ _ _ h1 h2 hij
  · intro i j x vj lj aj h1 h2
    simp only at h1 h2 ⊢
    split at h2
    · cases h2
    split at h1
    · rename_i a1; rw [if_pos a1]; exact hrow _ _ _ _ h2
    · rename_i a1; rw [if_neg a1]; exact hR.dBR _ _ _ _ _ _ h1 h2

/-- A slot whose value is known. -/
theorem Rel.add_slot (hR : Rel c nt M env A a w) {k : Nat} (hk : k < nt) {sv : SV} (hv : RelSV c M env w A.ob sv (a.tmps.getD k undef)) : Rel c nt M env ⟨upSl A.sl (some k) (some ([], sv)), A.ob⟩ a w := by
  have := hR.put (dst := some k) (gs := []) (sv := sv) (v := a.tmps.getD k undef) (fun d h => by cases h; exact hk) fun _ => ⟨fun _ => hv, fun h => absurd (by simp [GH]) h⟩
  have e : a.put (some k) (a.tmps.getD k undef) = a := by
    have hsz : k < a.tmps.size := by rw [hR.size]; exact hk
    obtain ⟨tmps, ds⟩ := a
    simp only [Act.put, Act.mk.injEq, and_true]
    apply Array.ext_getElem?
    intro i
    by_cases hi : k = i
    · subst hi
      have : k < tmps.size := hsz
      simp [this]
    · rw [Array.getElem?_setIfInBounds_ne hi]
  rw [e] at this
  exact this

end

end Go.Mw

/- The first state of a function, made from its parameters. -/
namespace Go.Mw
open Go.RowKit

def cellsIn : Nat → List AK → List At
  | _, [] => []
  | j, .sc :: ks => .sc (.v j) :: cellsIn (j + 1) ks
  | j, .sl _ :: ks => .ro (.v j) :: cellsIn (j + 1) ks

def cellsIoAt : Nat → Nat → List AK → List At
  | _, _, [] => []
  | j, id, .sc :: ks => .sc (.v j) :: cellsIoAt (j + 1) (id + 1) ks
  | j, id, .sl _ :: ks => .own id :: cellsIoAt (j + 1) (id + 1) ks

def ioOb : Nat → Nat → List AK → (Nat → Option SO) → Nat → Option SO
  | _, _, [], ob => ob
  | j, id, .sc :: ks, ob => ioOb (j + 1) (id + 1) ks ob
  | j, id, .sl _ :: ks, ob => ioOb (j + 1) (id + 1) ks (fun i => if i = id then some (.row 0 (.v j) false) else ob i)

/-- The state behind the parameters: slot 'k' on, leaves 'j' on, ids 'id' on. -/
def entry : List PK → Nat → Nat → Nat → FS → FS
  | [], _, _, _, A => A
  | .val g ks :: ps, k, j, id, A => entry ps (k + 1) (j + ks.length) id ⟨upSl A.sl (some k) (some ([], .sc ⟨g, cellsIn j ks⟩)), A.ob⟩
  | .io g ks :: ps, k, j, id, A => entry ps (k + 1) (j + ks.length) (id + ks.length) ⟨upSl A.sl (some k) (some ([], .sc ⟨g, cellsIoAt j id ks⟩)), ioOb j id ks A.ob⟩
  | .ptr ks :: ps, k, j, id, A => entry ps (k + 1) (j + ks.length) (id + 1) ⟨upSl A.sl (some k) (some ([], .ptr id 0)), fun i => if i = id then some (.box (cellsIn j ks)) else A.ob i⟩

def entryIds : List PK → Nat → Nat
  | [], id => id
  | .val _ _ :: ps, id => entryIds ps id
  | .io _ ks :: ps, id => entryIds ps (id + ks.length)
  | .ptr _ :: ps, id => entryIds ps (id + 1)

def psLen : List PK → Nat
  | [] => 0
  | .val _ ks :: ps => ks.length + psLen ps
  | .io _ ks :: ps => ks.length + psLen ps
  | .ptr ks :: ps => ks.length + psLen ps

/-- The ids of the rows that are handed in, in their order. -/
def ioIds : Nat → List AK → List Nat
  | _, [] => []
  | id, .sc :: ks => ioIds (id + 1) ks
  | id, .sl _ :: ks => id :: ioIds (id + 1) ks

def rowIds : List PK → Nat → List Nat
  | [], _ => []
  | .val _ _ :: ps, id => rowIds ps id
  | .io _ ks :: ps, id => ioIds id ks ++ rowIds ps (id + ks.length)
  | .ptr _ :: ps, id => rowIds ps (id + 1)

def boxIds : List PK → Nat → List (Nat × List AK)
  | [], _ => []
  | .val _ _ :: ps, id => boxIds ps id
  | .io _ ks :: ps, id => boxIds ps (id + ks.length)
  | .ptr ks :: ps, id => (id, ks) :: boxIds ps (id + 1)

/-- The tied cells of a box: its slices. -/
def ties (ks : List AK) (us : List Value) (i : Nat) : Option Value :=
  match ks[i]? with
  | some (.sl _) => us[i]?
  | _ => none

section
variable {c : Cx} {nt : Nat} {env : List V} {a : Act} {w : World}

theorem cellsIn_rel {M : Mp} {ob : Nat → Option SO} : ∀ {ks : List AK} {us : List Value} {ds : List V} {S : List Nat} {j : Nat}, CellsR w ks us ds S → (∀ i, i < ds.length → env[j + i]? = ds[i]?) → (∀ b ∈ S, ¬ c.mine b) →
    RelAts c M env w ob (cellsIn j ks) us ∧ ks.length = ds.length
  | [], us, ds, S, j, h, _, _ => by cases h; exact ⟨trivial, rfl⟩
  | k :: ks, us, ds, S, j, h, he, hS => by
    cases h with
    | sc h t =>
      rename_i u d us ds
      obtain ⟨h1, h2⟩ := cellsIn_rel (j := j + 1) (M := M) (ob := ob) t (fun i hi => by
        have := he (i + 1) (by simp; omega)
        simp only [List.getElem?_cons_succ] at this
        rw [show j + 1 + i = j + (i + 1) by omega]; exact this) hS
      have e0 : (Lf.v j).ev env = d := by
        have := he 0 (by simp)
        simp only [Nat.add_zero, List.getElem?_cons_zero] at this
        simp [Lf.ev, this]
      exact ⟨⟨⟨h.oneCell, by show Rep w [u] [(Lf.v j).ev env] []; rw [e0]; exact h⟩, h1⟩, by simp [h2]⟩
    | @sl u d js ks us ds S1 S2 h t =>
      obtain ⟨h1, h2⟩ := cellsIn_rel (j := j + 1) (M := M) (ob := ob) t (fun i hi => by
        have := he (i + 1) (by simp; omega)
        simp only [List.getElem?_cons_succ] at this
        rw [show j + 1 + i = j + (i + 1) by omega]; exact this) (fun b hb => hS b (by simp [hb]))
      have e0 : (Lf.v j).ev env = d := by
        have := he 0 (by simp)
        simp only [Nat.add_zero, List.getElem?_cons_zero] at this
        simp [Lf.ev, this]
      exact ⟨⟨⟨h.oneCell, S1, by rw [e0]; exact h, fun b hb => hS b (by simp [hb])⟩, h1⟩, by simp [h2]⟩

theorem cellsIn_men : ∀ {ks : List AK} {j x : Nat}, ¬ atsMen (cellsIn j ks) x
  | [], _, _, ⟨_, h, _⟩ => by cases h
  | .sc :: ks, j, x, ⟨b, hb, hx⟩ => by
    simp only [cellsIn, List.mem_cons] at hb
    rcases hb with rfl | hb
    · exact hx
    · exact cellsIn_men ⟨b, hb, hx⟩
  | .sl _ :: ks, j, x, ⟨b, hb, hx⟩ => by
    simp only [cellsIn, List.mem_cons] at hb
    rcases hb with rfl | hb
    · exact hx
    · exact cellsIn_men ⟨b, hb, hx⟩

theorem cellsIn_tie : ∀ {ks : List AK} {us : List Value} {j i : Nat} {u : Value}, ties ks us i = some u → us[i]? = some u ∧ ∃ x, (cellsIn j ks)[i]? = some x ∧ x.isSc = false
  | [], us, j, i, u, h => by simp [ties] at h
  | k :: ks, us, j, 0, u, h => by
    cases k with
    | sc => simp [ties] at h
    | sl js => exact ⟨by simpa [ties] using h, .ro (.v j), by simp [cellsIn], rfl⟩
  | k :: ks, us, j, i + 1, u, h => by
    cases us with
    | nil => simp only [ties, List.getElem?_cons_succ] at h; split at h <;> simp at h
    | cons u0 us =>
      have h' : ties ks us i = some u := by simpa [ties] using h
      obtain ⟨h1, x, h2, h3⟩ := cellsIn_tie (j := j + 1) h'
      refine ⟨by simpa using h1, x, ?_, h3⟩
      cases k <;> simpa [cellsIn] using h2

end

end Go.Mw

/- The parameters' rows and boxes are taken into the first state. -/
namespace Go.Mw
open Go.RowKit

def ParL (c : Cx) : List Nat → List (Value × List Nat) → Prop
  | [], [] => True
  | r :: rs, x :: xs => c.par r = some x ∧ ParL c rs xs
  | _, _ => False

theorem ParL.append {c : Cx} : ∀ {rs rs' : List Nat} {xs xs' : List (Value × List Nat)}, rs.length = xs.length → ParL c (rs ++ rs') (xs ++ xs') → ParL c rs xs ∧ ParL c rs' xs'
  | [], _, [], _, _, h => ⟨trivial, h⟩
  | [], _, _ :: _, _, h, _ => by simp at h
  | _ :: _, _, [], _, h, _ => by simp at h
  | _ :: _, _, _ :: _, _, hl, h => by
    obtain ⟨h1, h2⟩ := h
    obtain ⟨h3, h4⟩ := ParL.append (by simpa using hl) h2
    exact ⟨⟨h1, h3⟩, h4⟩

theorem ioIds_len {w : World} {ks : List AK} {us : List Value} {ds : List V} {R : List (Value × List Nat)} (h : CellsIo w ks us ds R) : ∀ id, (ioIds id ks).length = R.length := by
  induction h with
  | nil => intro _; rfl
  | sc _ _ ih => intro id; exact ih (id + 1)
  | sl _ _ _ _ ih => intro id; simp [ioIds, ih (id + 1)]

section
variable {c : Cx} {nt : Nat} {env : List V} {a : Act} {w : World}

theorem io_entry : ∀ {ks : List AK} {us : List Value} {ds : List V} {R : List (Value × List Nat)} {M : Mp} {A : FS} {j id : Nat}, Rel c nt M env A a w → CellsIo w ks us ds R → (∀ i, i < ds.length → env[j + i]? = ds[i]?) →
    Fresh A (fun x => id ≤ x) → (R.flatMap (·.2)).Nodup → (∀ b ∈ R.flatMap (·.2), c.mine b) → Apart M A.ob (R.flatMap (·.2)) → ParL c (ioIds id ks) R →
    ∃ M', Rel c nt M' env ⟨A.sl, ioOb j id ks A.ob⟩ a w ∧ RelAts c M' env w (ioOb j id ks A.ob) (cellsIoAt j id ks) us ∧ Ext c (fun x => id ≤ x) M A.ob w M' (ioOb j id ks A.ob) w ∧
      (∀ T, Apart M A.ob T → (∀ b ∈ T, b ∉ R.flatMap (·.2)) → Apart M' (ioOb j id ks A.ob) T) ∧ Fresh ⟨A.sl, ioOb j id ks A.ob⟩ (fun x => id + ks.length ≤ x) ∧ (∀ x, atsMen (cellsIoAt j id ks) x → id ≤ x ∧ x < id + ks.length) ∧ ks.length = ds.length
  | [], us, ds, R, M, A, j, id, hR, hc, _, hf, _, _, _, _ => by
    cases hc
    refine ⟨M, hR, trivial, ⟨fun r ver l app _ h => ⟨ver, l, app, h, rfl, Nat.le_refl _, fun _ => ⟨rfl, fun b hb _ => ⟨hb, rfl⟩⟩⟩, fun id cells _ h => ⟨⟨cells, h⟩, rfl⟩, fun _ _ _ => rfl⟩, fun T hT _ => hT, hf.mono (fun x hx => by simpa using hx), ?_, rfl⟩
    rintro x ⟨b, hb, _⟩
    simp [cellsIoAt] at hb
  | .sc :: ks, us, ds, R, M, A, j, id, hR, hc, he, hf, hn, hm, hap, hp => by
    cases hc with
    | sc h t =>
      rename_i u d us ds
      obtain ⟨M', h1, h2, h3, h4, h5, h6, h7⟩ := io_entry (j := j + 1) (id := id + 1) hR t (fun i hi => by
        have := he (i + 1) (by simp; omega)
        simp only [List.getElem?_cons_succ] at this
        rw [show j + 1 + i = j + (i + 1) by omega]; exact this) (hf.mono fun x hx => by omega) hn hm hap hp
      have e0 : (Lf.v j).ev env = d := by
        have := he 0 (by simp)
        simp only [Nat.add_zero, List.getElem?_cons_zero] at this
        simp [Lf.ev, this]
      refine ⟨M', h1, ⟨⟨h.oneCell, ?_⟩, h2⟩, ⟨fun r ver l app hr => h3.row r ver l app fun hx => hr (by omega), fun i cells hi => h3.box i cells fun hx => hi (by omega), h3.ro⟩, h4, h5.mono fun x hx => by simp only [List.length_cons] at hx; omega, ?_, by simp [h7]⟩
      · show Rep w [u] [(Lf.v j).ev env] []
        rw [e0]; exact h
      · rintro x ⟨b, hb, hx⟩
        simp only [cellsIoAt, List.mem_cons] at hb
        rcases hb with rfl | hb
        · exact hx.elim
        · have := h6 x ⟨b, hb, hx⟩
          simp only [List.length_cons]; omega
  | .sl js :: ks, us, ds, R, M, A, j, id, hR, hc, he, hf, hn, hm, hap, hp => by
    cases hc with
    | @sl u d js ks us ds S R h hnS hw t =>
      obtain ⟨hp1, hp2⟩ := hp
      simp only [List.flatMap_cons] at hn hm hap ⊢
      rw [List.nodup_append] at hn
      have e0 : (Lf.v j).ev env = d := by
        have := he 0 (by simp)
        simp only [Nat.add_zero, List.getElem?_cons_zero] at this
        simp [Lf.ev, this]
      have hf0 : Fresh A (· = id) := hf.mono fun x hx => by omega
      obtain ⟨g1, g2⟩ := hR.add_rowG hf0 (v := u) (l := .v j) (S := S) (app := false) (by rw [e0]; exact h) hnS (fun b hb => ⟨hm b (by simp [hb]), hw b hb⟩) (fun h => by cases h)
        (fun _ v' S' hv => by rw [hp1] at hv; simp only [Option.some.injEq, Prod.mk.injEq] at hv; obtain ⟨rfl, rfl⟩ := hv; exact ⟨rfl, fun b hb => hb⟩) (fun b hb => hap b (by simp [hb]))
      have hf1 : Fresh ⟨A.sl, fun i => if i = id then some (SO.row 0 (.v j) false) else A.ob i⟩ (fun x => id + 1 ≤ x) := by
        refine ⟨fun s gs sv hs x hx hq => hf.1 s gs sv hs x hx (by omega), fun i cells hc x hx hq => ?_, fun x hx => ?_⟩
        · simp only at hc
          split at hc
          · cases hc
          · exact hf.2.1 i cells hc x hx (by omega)
        · simp only
          rw [if_neg (by omega)]
          exact hf.2.2 x (by omega)
      obtain ⟨M', h1, h2, h3, h4, h5, h6, h7⟩ := io_entry (j := j + 1) (id := id + 1) g1 t (fun i hi => by
        have := he (i + 1) (by simp; omega)
        simp only [List.getElem?_cons_succ] at this
        rw [show j + 1 + i = j + (i + 1) by omega]; exact this) hf1 hn.2.1 (fun b hb => hm b (by simp only [List.mem_append]; exact .inr hb)) (by
          intro b hb
          refine ⟨fun r ver l app h => ?_, fun i cells h => ?_⟩
          · simp only at h ⊢
            split at h
            · rename_i e
              simp only [e, if_true]
              exact fun hb1 => hn.2.2 b hb1 b hb rfl
            · rename_i e
              simp only [e, if_false]
              exact (hap b (by simp only [List.mem_append]; exact .inr hb)).1 _ _ _ _ h
          · simp only at h ⊢
            split at h
            · cases h
            · exact (hap b (by simp only [List.mem_append]; exact .inr hb)).2 _ _ h) hp2
      refine ⟨M', h1, ⟨⟨h.oneCell, ?_⟩, h2⟩, ?_, ?_, h5.mono fun x hx => by simp only [List.length_cons] at hx; omega, ?_, by simp [h7]⟩
      · intro ver l app hrow
        obtain ⟨v0, l0, a0, q1, q2, _⟩ := h3.row id ver l app (by omega) hrow
        rw [q2]; simp
      · refine ⟨fun r ver l app hr hrow => ?_, fun i cells hi hbx => ?_, fun b hb hm => rfl⟩
        · obtain ⟨v0, l0, a0, q1, q2, q3, q4⟩ := h3.row r ver l app (fun hx => hr (by omega)) hrow
          have hne : r ≠ id := fun e => hr (by omega)
          simp only [hne, if_false] at q1 q2 q4
          exact ⟨v0, l0, a0, q1, q2, q3, fun e => ⟨(q4 e).1, fun b hb hlt => ⟨((q4 e).2 b hb hlt).1, rfl⟩⟩⟩
        · obtain ⟨⟨c0, q1⟩, q2⟩ := h3.box i cells (fun hx => hi (by omega)) hbx
          have hne : i ≠ id := fun e => hi (by omega)
          simp only [hne, if_false] at q1
          exact ⟨⟨c0, q1⟩, q2⟩
      · intro T hT hTS
        refine h4 T ?_ (fun b hb hb2 => hTS b hb (by simp only [List.mem_append]; exact .inr hb2))
        intro b hb
        refine ⟨fun r ver l app h => ?_, fun i cells h => ?_⟩
        · simp only at h ⊢
          split at h
          · rename_i e
            simp only [e, if_true]
            exact fun hb1 => hTS b hb (by simp [hb1])
          · rename_i e
            simp only [e, if_false]
            exact (hT b hb).1 _ _ _ _ h
        · simp only at h ⊢
          split at h
          · cases h
          · exact (hT b hb).2 _ _ h
      · rintro x ⟨b, hb, hx⟩
        simp only [cellsIoAt, List.mem_cons] at hb
        rcases hb with rfl | hb
        · have : x = id := hx
          simp only [List.length_cons]; omega
        · have := h6 x ⟨b, hb, hx⟩
          simp only [List.length_cons]; omega

end

end Go.Mw

/- The first state holds at the call. -/
namespace Go.Mw
open Go.RowKit

def ParB (c : Cx) : List (Nat × List AK) → List Bx → Prop
  | [], [] => True
  | r :: rs, x :: xs => c.parB r.1 = some (x.1, ties r.2 x.2.2) ∧ ParB c rs xs
  | _, _ => False

theorem Fresh.slot {A : FS} {p : Nat → Prop} (h : Fresh A p) {k : Nat} {sv : SV} (hs : ∀ x, sv.men x → ¬ p x) : Fresh ⟨upSl A.sl (some k) (some ([], sv)), A.ob⟩ p := by
  refine ⟨fun s gs sv' h' x hx => ?_, h.2.1, h.2.2⟩
  simp only [upSl] at h'
  split at h'
  · simp only [Option.some.injEq, Prod.mk.injEq] at h'
    obtain ⟨_, rfl⟩ := h'
    exact hs x hx
  · exact h.1 s gs sv' h' x hx

section
variable {c : Cx} {nt : Nat} {env : List V} {a : Act} {w : World}

theorem entry_rel : ∀ {ps : List PK} {vals : List Value} {ds : List V} {ro : List Nat} {rows : List (Value × List Nat)} {boxes : List Bx} {M : Mp} {A : FS} {k j id : Nat}, ArgsR w ps vals ds ro rows boxes → Rel c nt M env A a w →
    (∀ i, i < ds.length → env[j + i]? = ds[i]?) → Fresh A (fun x => id ≤ x) → (∀ i v, vals[i]? = some v → k + i < nt ∧ a.tmps.getD (k + i) undef = v) → (∀ b ∈ ro, ¬ c.mine b) → (∀ b ∈ ioB rows boxes, c.mine b) →
    (ioB rows boxes).Nodup → Apart M A.ob (ioB rows boxes) → ParL c (rowIds ps id) rows → ParB c (boxIds ps id) boxes →
    ∃ M', Rel c nt M' env (entry ps k j id A) a w ∧ Fresh (entry ps k j id A) (fun x => entryIds ps id ≤ x) ∧ psLen ps = ds.length
  | [], vals, ds, ro, rows, boxes, M, A, k, j, id, h, hR, _, hf, _, _, _, _, _, _, _ => by
    cases h
    exact ⟨M, hR, hf, rfl⟩
  | .val g ks :: ps, vals, ds, ro, rows, boxes, M, A, k, j, id, h, hR, he, hf, hv, hro, hm, hn, hap, hp, hpb => by
    cases h with
    | @val g ks ps us ds ds' S ro v vs rows boxes hc hpk t =>
      obtain ⟨h1, h2⟩ := cellsIn_rel (c := c) (M := M) (ob := A.ob) (j := j) hc (fun i hi => by
        have := he i (by simp; omega)
        rw [this, List.getElem?_append_left hi]) (fun b hb => hro b (by simp [hb]))
      obtain ⟨hk, hvk⟩ := hv 0 v rfl
      have hR' := hR.add_slot (k := k) (by simpa using hk) (sv := .sc ⟨g, cellsIn j ks⟩) (by
        simp only [Nat.add_zero] at hvk
        rw [hvk]; exact ⟨us, h1, hpk⟩)
      have hf' := hf.slot (k := k) (sv := .sc ⟨g, cellsIn j ks⟩) (fun x hx => absurd hx cellsIn_men)
      obtain ⟨M', g1, g2, g3⟩ := entry_rel (k := k + 1) (j := j + ks.length) t hR' (fun i hi => by
        have := he (ds.length + i) (by simp; omega)
        rw [List.getElem?_append_right (by omega), show ds.length + i - ds.length = i by omega] at this
        rw [h2, Nat.add_assoc]; exact this) hf' (fun i v' hi => by
          have := hv (i + 1) v' (by simpa using hi)
          rw [show k + 1 + i = k + (i + 1) by omega]; exact this) (fun b hb => hro b (by simp [hb])) hm hn hap hp hpb
      exact ⟨M', g1, g2, by simp [psLen, g3, h2]⟩
  | .io g ks :: ps, vals, ds, ro, rows, boxes, M, A, k, j, id, h, hR, he, hf, hv, hro, hm, hn, hap, hp, hpb => by
    cases h with
    | @io g ks ps us ds ds' ro v vs R rows boxes hc hpk t =>
      simp only [ioB, List.flatMap_append] at hm hn hap
      rw [List.append_assoc, List.nodup_append] at hn
      obtain ⟨hp1, hp2⟩ := ParL.append (ioIds_len hc id) hp
      obtain ⟨M1, h1, h2, h3, h4, h5, h6, h7⟩ := io_entry (j := j) (id := id) hR hc (fun i hi => by
        have := he i (by simp; omega)
        rw [this, List.getElem?_append_left hi]) hf hn.1 (fun b hb => hm b (by simp [hb])) (fun b hb => hap b (by simp only [List.mem_append]; exact .inl (.inl hb))) hp1
      obtain ⟨hk, hvk⟩ := hv 0 v rfl
      have hR' := h1.add_slot (k := k) (by simpa using hk) (sv := .sc ⟨g, cellsIoAt j id ks⟩) (by
        simp only [Nat.add_zero] at hvk
        rw [hvk]; exact ⟨us, h2, hpk⟩)
      have hf' := h5.slot (k := k) (sv := .sc ⟨g, cellsIoAt j id ks⟩) (fun x hx hq => by have := h6 x hx; omega)
      obtain ⟨M', g1, g2, g3⟩ := entry_rel (k := k + 1) (j := j + ks.length) (id := id + ks.length) t hR' (fun i hi => by
        have := he (ds.length + i) (by simp; omega)
        rw [List.getElem?_append_right (by omega), show ds.length + i - ds.length = i by omega] at this
        rw [h7, Nat.add_assoc]; exact this) hf' (fun i v' hi => by
          have := hv (i + 1) v' (by simpa using hi)
          rw [show k + 1 + i = k + (i + 1) by omega]; exact this) (fun b hb => hro b hb) (fun b hb => hm b (by simp only [ioB, List.mem_append] at hb ⊢; rcases hb with h | h <;> simp [h])) hn.2.1
        (h4 _ (fun b hb => hap b (by simp only [ioB, List.mem_append] at hb ⊢; rcases hb with h | h <;> simp [h])) (fun b hb hb2 => hn.2.2 b hb2 b hb rfl)) hp2 hpb
      exact ⟨M', g1, g2, by simp [psLen, g3, h7]⟩
  | .ptr ks :: ps, vals, ds, ro, rows, boxes, M, A, k, j, id, h, hR, he, hf, hv, hro, hm, hn, hap, hp, hpb => by
    cases h with
    | @ptr ks ps us ds ds' S ro b E vs rows boxes hb hc t =>
      obtain ⟨hpb1, hpb2⟩ := hpb
      obtain ⟨h1, h2⟩ := cellsIn_rel (c := c) (M := M) (ob := A.ob) (j := j) hc (fun i hi => by
        have := he i (by simp; omega)
        rw [this, List.getElem?_append_left hi]) (fun b hb => hro b (by simp [hb]))
      have hbm : b ∈ ioB rows ((b, ks, us) :: boxes) := by simp [ioB]
      simp only [ioB, List.map_cons] at hn
      have hn2 : (ioB rows boxes).Nodup ∧ b ∉ ioB rows boxes := by
        rw [List.nodup_append, List.nodup_cons] at hn
        obtain ⟨n1, ⟨n2, n3⟩, n4⟩ := hn
        refine ⟨List.nodup_append.2 ⟨n1, n3, fun x hx y hy => n4 x hx y (by simp [hy])⟩, fun hh => ?_⟩
        rcases List.mem_append.1 hh with hh | hh
        · exact n4 b hh b (by simp) rfl
        · exact n2 hh
      obtain ⟨g1, g2⟩ := hR.add_boxG (id := id) (hf.mono fun x hx => by omega) hb h1 (fun x => cellsIn_men) (hm b hbm) (fun b' tt hbt => by
        rw [hpb1] at hbt
        simp only [Option.some.injEq, Prod.mk.injEq] at hbt
        obtain ⟨rfl, rfl⟩ := hbt
        exact ⟨rfl, fun i u hi => cellsIn_tie hi⟩) (hap b hbm).1 (hap b hbm).2
      have hf1 : Fresh ⟨A.sl, fun i => if i = id then some (.box (cellsIn j ks)) else A.ob i⟩ (fun x => id + 1 ≤ x) := by
        refine ⟨fun s gs sv hs x hx hq => hf.1 s gs sv hs x hx (by omega), fun i cells hc x hx hq => ?_, fun x hx => ?_⟩
        · simp only at hc
          split at hc
          · simp only [Option.some.injEq, SO.box.injEq] at hc
            subst hc
            exact absurd hx cellsIn_men
          · exact hf.2.1 i cells hc x hx (by omega)
        · simp only
          rw [if_neg (by omega)]
          exact hf.2.2 x (by omega)
      obtain ⟨hk, hvk⟩ := hv 0 _ rfl
      have hR' := g1.add_slot (k := k) (by simpa using hk) (sv := .ptr id 0) (by
        simp only [Nat.add_zero] at hvk
        rw [hvk]
        intro cells hcells
        simp)
      have hf' := hf1.slot (k := k) (sv := .ptr id 0) (fun x hx hq => by have : x = id := hx; omega)
      obtain ⟨M', k1, k2, k3⟩ := entry_rel (k := k + 1) (j := j + ks.length) (id := id + 1) t hR' (fun i hi => by
        have := he (ds.length + i) (by simp; omega)
        rw [List.getElem?_append_right (by omega), show ds.length + i - ds.length = i by omega] at this
        rw [h2, Nat.add_assoc]; exact this) hf' (fun i v' hi => by
          have := hv (i + 1) v' (by simpa using hi)
          rw [show k + 1 + i = k + (i + 1) by omega]; exact this) (fun b hb => hro b (by simp [hb])) (fun b' hb' => hm b' (by simp only [ioB, List.map_cons, List.mem_append, List.mem_cons] at hb' ⊢; rcases hb' with h | h <;> simp [h])) hn2.1
        (by
          intro b' hb'
          have hin : b' ∈ ioB rows ((b, ks, us) :: boxes) := by simp only [ioB, List.map_cons, List.mem_append, List.mem_cons] at hb' ⊢; rcases hb' with h | h <;> simp [h]
          refine ⟨fun r ver l app hrow => ?_, fun i cells hbx => ?_⟩
          · simp only at hrow
            split at hrow
            · cases hrow
            · exact (hap b' hin).1 _ _ _ _ hrow
          · simp only at hbx ⊢
            split at hbx
            · rename_i e
              rw [if_pos e]
              exact fun e => hn2.2 (e ▸ hb')
            · rename_i e
              rw [if_neg e]
              exact (hap b' hin).2 _ _ hbx) hp hpb2
      exact ⟨M', k1, k2, by simp [psLen, k3, h2]⟩

end

end Go.Mw

/- The return: what a function's last state gives. -/
namespace Go.Mw
open Go.RowKit

def resSC (P : Program) (A : FS) : ResultVar → Option SC
  | .tmp t =>
    match A.sl t with
    | some ([], .sc c) => some c
    | _ => none
  | .cell x t =>
    match A.sl x with
    | some ([], .ptr id off) =>
      match tsize P t, A.ob id with
      | some n, some (.box cells) => if off + n ≤ cells.length && (isStruct P t || (isPlain P t && n == 1)) then some ⟨isStruct P t, (cells.drop off).take n⟩ else none
      | _, _ => none
    | _ => none

def retCells (ob : Nat → Option SO) : List AK → List At → Option (List Lf × List Nat)
  | [], [] => some ([], [])
  | .sc :: ks, .sc l :: as => (retCells ob ks as).map fun x => (l :: x.1, x.2)
  | .sl js :: ks, .nil :: as => (retCells ob ks as).map fun x => (.k (.list js []) :: x.1, x.2)
  | .sl _ :: ks, .own r :: as =>
    match ob r, retCells ob ks as with
    | some (.row _ l true), some x => if x.2.contains r then none else some (l :: x.1, r :: x.2)
    | _, _ => none
  | _, _ => none

def retSCs (ob : Nat → Option SO) : List (Bool × List AK) → List SC → Option (List Lf × List Nat)
  | [], [] => some ([], [])
  | (g, ks) :: rs, c :: cs =>
    if g == c.g then
      match retCells ob ks c.cs, retSCs ob rs cs with
      | some x, some y => if x.2.any (y.2.contains ·) then none else some (x.1 ++ y.1, x.2 ++ y.2)
      | _, _ => none
    else none
  | _, _ => none

def retRows (ob : Nat → Option SO) : List Nat → Option (List Lf)
  | [] => some []
  | r :: rs =>
    match ob r, retRows ob rs with
    | some (.row _ l false), some ls => some (l :: ls)
    | _, _ => none

def retBox : List AK → List At → Option (List Lf)
  | [], [] => some []
  | .sc :: ks, .sc l :: as => (retBox ks as).map fun ls => l :: ls
  | .sl _ :: ks, _ :: as => retBox ks as
  | _, _ => none

def retBoxes (ob : Nat → Option SO) : List (Nat × List AK) → Option (List Lf)
  | [] => some []
  | (id, ks) :: r =>
    match ob id with
    | some (.box cells) =>
      match retBox ks cells, retBoxes ob r with
      | some l, some ls => some (l ++ ls)
      | _, _ => none
    | _ => none

def retOf (P : Program) (fn : Func) (s : Sig) (A : FS) : Option (List Lf) :=
  match mapO (resSC P A) fn.results.toList with
  | none => none
  | some cs =>
    match retSCs A.ob s.rs cs, retRows A.ob (rowIds s.ps 0), retBoxes A.ob (boxIds s.ps 0) with
    | some x, some y, some z => some (x.1 ++ y ++ z)
    | _, _, _ => none

section
variable {P : Program} {c : Cx} {nt : Nat} {M : Mp} {env : List V} {A : FS} {a : Act} {w : World}

theorem resSC_run (hR : Rel c nt M env A a w) {rv : ResultVar} {x : SC} (h : resSC P A rv = some x) :
    ∃ v, (match rv with
      | .tmp t => (pure (a.tmps.getD t undef) : Sem Value)
      | .cell b t => do loadVar t (← asAddr (a.tmps.getD b undef))).run P w = .ok v w ∧ RelSC c M env w A.ob x v := by
  cases rv with
  | tmp t =>
    simp only [resSC] at h
    split at h <;> simp only [Option.some.injEq, reduceCtorEq] at h
    rename_i c' hs
    subst h
    exact ⟨_, rfl, (hR.slots _ _ _ hs).2.1 (by simp [GH])⟩
  | cell b t =>
    simp only [resSC] at h
    split at h
    · rename_i id off hs
      split at h
      · rename_i n cells hn hbx
        split at h <;> simp only [Option.some.injEq, reduceCtorEq] at h
        rename_i hc
        simp only [Bool.and_eq_true, decide_eq_true_eq] at hc
        subst h
        have hp : a.tmps.getD b undef = .pointer (some ⟨M.be id, off, none⟩) := (hR.slots _ _ _ hs).2.1 (by simp [GH]) cells hbx
        obtain ⟨us, E, q1, q2, q3⟩ := hR.boxes _ _ hbx
        have hlen := q2.length
        have hv : ∀ j v, ((us.drop off).take n)[j]? = some v → w.cell? ⟨M.be id, off + j, none⟩ = some v := by
          intro j v hj
          simp only [World.cell?, q1]
          have hjn : j < n := by
            rcases Nat.lt_or_ge j n with h | h
            · exact h
            · rw [List.getElem?_eq_none (by simp; omega)] at hj; cases hj
          rw [List.getElem?_take_of_lt hjn, List.getElem?_drop] at hj
          simpa using hj
        have hl : ((us.drop off).take n).length = n := by simp; omega
        have hr := q2.cells off n
        simp only [hp]
        by_cases hst : isStruct P t = true
        · have := run_loadStruct (P := P) w (b := M.be id) (off := off) (vs := (us.drop off).take n) hst (by rw [hn, hl]) hv
          refine ⟨.agg ((us.drop off).take n).toArray, ?_, _, hr, by simp [packV, hst]⟩
          simp only [asAddr, Sem.run_bind, Sem.run_pure, Result.andThen_ok, this]
        · have hs' : isStruct P t = false := by simpa using hst
          simp only [hs', Bool.false_or, Bool.and_eq_true, beq_iff_eq] at hc
          obtain ⟨v, hv1⟩ : ∃ v, (us.drop off).take n = [v] := by
            match h : (us.drop off).take n, hl.trans hc.2.2 with
            | [v], _ => exact ⟨v, rfl⟩
          have h0 := hv 0 v (by rw [hv1]; rfl)
          have := run_loadPlain (P := P) w (b := M.be id) (off := off) hc.2.1 h0
          refine ⟨v, ?_, [v], by rw [← hv1]; exact hr, by simp [packV, hs']⟩
          simp only [asAddr, Sem.run_bind, Sem.run_pure, Result.andThen_ok, this]
      · cases h
    · cases h

end

end Go.Mw

/- What the return leaves, as the contract asks. -/
namespace Go.Mw
open Go.RowKit

section
variable {P : Program} {c : Cx} {nt : Nat} {M : Mp} {env : List V} {A : FS} {a : Act} {w : World}

theorem retCells_rel (hR : Rel c nt M env A a w) : ∀ {ks : List AK} {cs : List At} {us : List Value} {q : List Lf × List Nat}, retCells A.ob ks cs = some q → RelAts c M env w A.ob cs us →
    ∃ S, ResC w ks us (q.1.map (Lf.ev env)) S ∧ S.Nodup ∧ (∀ b ∈ S, (∃ r ∈ q.2, b ∈ M.ph r) ∧ c.w0.heap.size ≤ b ∧ Wr w b) ∧ ∀ r ∈ q.2, ∃ ver l app, A.ob r = some (.row ver l app)
  | [], [], us, q, h, hr => by
    simp only [retCells, Option.some.injEq] at h
    subst h
    cases us with
    | nil => exact ⟨[], .nil, by simp, by simp, by simp⟩
    | cons => exact hr.elim
  | [], _ :: _, _, _, h, _ => by simp [retCells] at h
  | k :: _, [], _, _, h, _ => by cases k <;> simp [retCells] at h
  | k :: ks, x :: cs, us, q, h, hr => by
    cases us with
    | nil => exact hr.elim
    | cons u us =>
    obtain ⟨hu, hr⟩ := hr
    cases k with
    | sc =>
      cases x <;> simp only [retCells, Option.map_eq_some_iff, reduceCtorEq] at h
      obtain ⟨y, h1, rfl⟩ := h
      obtain ⟨S, g1, g2, g3, g4⟩ := retCells_rel hR h1 hr
      exact ⟨S, .sc hu.2 g1, g2, g3, g4⟩
    | sl js =>
      cases x <;> simp only [retCells, Option.map_eq_some_iff, reduceCtorEq] at h
      · obtain ⟨y, h1, rfl⟩ := h
        obtain ⟨S, g1, g2, g3, g4⟩ := retCells_rel hR h1 hr
        have hn := hu.2
        simp only at hn
        subst hn
        exact ⟨S, .sl (S1 := []) (.atom (.nil js) .nil) (.inl rfl) g1, g2, g3, g4⟩
      · rename_i r
        split at h
        · rename_i ver l y h1 h2
          split at h <;> simp only [Option.some.injEq, reduceCtorEq] at h
          rename_i hnc
          subst h
          obtain ⟨S, g1, g2, g3, g4⟩ := retCells_rel hR h2 hr
          obtain ⟨⟨S0, r1, r2, r3⟩, _, r5, _⟩ := hR.rows _ _ _ _ h1
          obtain ⟨o1, o2⟩ := r5 rfl
          have hv := hu.2 _ _ _ h1
          rw [← hv] at r1 o1
          have hnot : r ∉ y.2 := by simpa using hnc
          refine ⟨S0 ++ S, .sl r1 o1 g1, ?_, ?_, ?_⟩
          · rw [List.nodup_append]
            refine ⟨r2, g2, ?_⟩
            intro b hb b' hb' e
            subst e
            obtain ⟨⟨q, hq, hbq⟩, _⟩ := g3 b hb'
            obtain ⟨v2, l2, a2, hoq⟩ := g4 q hq
            exact hR.dRR _ _ _ _ _ _ _ _ h1 hoq (fun e => hnot (e ▸ hq)) b (r3 b hb).1 hbq
          · intro b hb
            rcases List.mem_append.1 hb with hb | hb
            · exact ⟨⟨r, by simp, (r3 b hb).1⟩, o2 b (r3 b hb).1, (r3 b hb).2⟩
            · obtain ⟨⟨q, hq, hbq⟩, hw⟩ := g3 b hb
              exact ⟨⟨q, by simp [hq], hbq⟩, hw⟩
          · intro q hq
            rcases List.mem_cons.1 hq with rfl | hq
            · exact ⟨_, _, _, h1⟩
            · exact g4 q hq
        · cases h

theorem retSCs_rel (hR : Rel c nt M env A a w) : ∀ {rs : List (Bool × List AK)} {cs : List SC} {vs : List Value} {q : List Lf × List Nat}, retSCs A.ob rs cs = some q → RelSCs c M env w A.ob cs vs →
    ∃ S, ResR w rs vs (q.1.map (Lf.ev env)) S ∧ S.Nodup ∧ (∀ b ∈ S, (∃ r ∈ q.2, b ∈ M.ph r) ∧ c.w0.heap.size ≤ b ∧ Wr w b) ∧ ∀ r ∈ q.2, ∃ ver l app, A.ob r = some (.row ver l app)
  | [], [], vs, q, h, hr => by
    simp only [retSCs, Option.some.injEq] at h
    subst h
    cases vs with
    | nil => exact ⟨[], .nil, by simp, by simp, by simp⟩
    | cons => exact hr.elim
  | [], _ :: _, _, _, h, _ => by simp [retSCs] at h
  | _ :: _, [], _, _, h, _ => by simp [retSCs] at h
  | (g, ks) :: rs, x :: cs, vs, q, h, hr => by
    cases vs with
    | nil => exact hr.elim
    | cons v vs =>
    obtain ⟨⟨us, hu, hp⟩, hr⟩ := hr
    simp only [retSCs] at h
    split at h
    · rename_i hg
      simp only [beq_iff_eq] at hg
      split at h
      · rename_i y z h1 h2
        split at h <;> simp only [Option.some.injEq, reduceCtorEq] at h
        rename_i hdis
        subst h
        obtain ⟨S1, g1, g2, g3, g4⟩ := retCells_rel hR h1 hu
        obtain ⟨S2, k1, k2, k3, k4⟩ := retSCs_rel hR h2 hr
        have hdis' : ∀ r ∈ y.2, r ∉ z.2 := by
          intro r hr hz
          exact hdis (List.any_eq_true.2 ⟨r, hr, by simpa using hz⟩)
        refine ⟨S1 ++ S2, by rw [List.map_append]; exact .cons g1 (hg ▸ hp) k1, ?_, ?_, ?_⟩
        · rw [List.nodup_append]
          refine ⟨g2, k2, ?_⟩
          intro b hb b' hb' e
          subst e
          obtain ⟨⟨r, hr, hbr⟩, _⟩ := g3 b hb
          obtain ⟨⟨r', hr', hbr'⟩, _⟩ := k3 b hb'
          obtain ⟨_, _, _, o1⟩ := g4 r hr
          obtain ⟨_, _, _, o2⟩ := k4 r' hr'
          exact hR.dRR _ _ _ _ _ _ _ _ o1 o2 (fun e => hdis' r hr (e ▸ hr')) b hbr hbr'
        · intro b hb
          rcases List.mem_append.1 hb with hb | hb
          · obtain ⟨⟨r, hr, hbr⟩, hw⟩ := g3 b hb
            exact ⟨⟨r, by simp [hr], hbr⟩, hw⟩
          · obtain ⟨⟨r, hr, hbr⟩, hw⟩ := k3 b hb
            exact ⟨⟨r, by simp [hr], hbr⟩, hw⟩
        · intro r hr
          rcases List.mem_append.1 hr with hr | hr
          · exact g4 r hr
          · exact k4 r hr
      · cases h
    · cases h

theorem retRows_rel (hR : Rel c nt M env A a w) : ∀ {ids : List Nat} {rows : List (Value × List Nat)} {ls : List Lf}, retRows A.ob ids = some ls → ParL c ids rows → PostRows w rows (ls.map (Lf.ev env))
  | [], [], ls, h, _ => by simp only [retRows, Option.some.injEq] at h; subst h; exact .nil
  | [], _ :: _, _, _, h => h.elim
  | _ :: _, [], _, _, h => h.elim
  | r :: ids, (u, S) :: rows, ls, h, hp => by
    simp only [retRows] at h
    split at h <;> simp only [Option.some.injEq, reduceCtorEq] at h
    rename_i ver l ls' h1 h2
    subst h
    obtain ⟨⟨S0, r1, r2, r3⟩, _, _, r6⟩ := hR.rows _ _ _ _ h1
    obtain ⟨p1, p2⟩ := r6 rfl u S hp.1
    rw [p1] at r1
    exact .cons r1 r2 (fun b hb => ⟨p2 b (r3 b hb).1, (r3 b hb).2⟩) (retRows_rel hR h2 hp.2)

theorem retBox_rel : ∀ {ks : List AK} {cells : List At} {us us' : List Value} {ls : List Lf}, retBox ks cells = some ls → RelAts c M env w A.ob cells us' → us.length = ks.length → (∀ (i : Nat) u, ties ks us i = some u → us'[i]? = some u) → BoxC w ks us us' (ls.map (Lf.ev env))
  | [], [], us, us', ls, h, hr, hl, _ => by
    simp only [retBox, Option.some.injEq] at h
    subst h
    have : us = [] := List.eq_nil_of_length_eq_zero (by simpa using hl)
    subst this
    cases us' with
    | nil => exact .nil
    | cons => exact hr.elim
  | [], _ :: _, _, _, _, h, _, _, _ => by simp [retBox] at h
  | k :: _, [], _, _, _, h, _, _, _ => by cases k <;> simp [retBox] at h
  | k :: ks, x :: cells, us, us', ls, h, hr, hl, ht => by
    cases us' with
    | nil => exact hr.elim
    | cons u' us' =>
    cases us with
    | nil => simp at hl
    | cons u us =>
    obtain ⟨hu, hr⟩ := hr
    have ht' : ∀ (i : Nat) u, ties ks us i = some u → us'[i]? = some u := by
      intro i v hi
      have := ht (i + 1) v (by simpa [ties] using hi)
      simpa using this
    cases k with
    | sc =>
      cases x <;> simp only [retBox, Option.map_eq_some_iff, reduceCtorEq] at h
      obtain ⟨ls', h1, rfl⟩ := h
      exact .sc hu.2 (retBox_rel h1 hr (by simpa using hl) ht')
    | sl js =>
      have h' : retBox ks cells = some ls := by cases x <;> simpa [retBox] using h
      have := ht 0 u (by simp [ties])
      simp only [List.getElem?_cons_zero, Option.some.injEq] at this
      subst this
      exact .sl (retBox_rel h' hr (by simpa using hl) ht')

theorem retBoxes_rel (hR : Rel c nt M env A a w) : ∀ {ids : List (Nat × List AK)} {boxes : List Bx} {ls : List Lf}, retBoxes A.ob ids = some ls → ParB c ids boxes → (∀ (i : Nat) r x, ids[i]? = some r → boxes[i]? = some x → r.2 = x.2.1 ∧ x.2.2.length = r.2.length) → PostBoxes w boxes (ls.map (Lf.ev env))
  | [], [], ls, h, _, _ => by simp only [retBoxes, Option.some.injEq] at h; subst h; exact .nil
  | [], _ :: _, _, _, h, _ => h.elim
  | _ :: _, [], _, _, h, _ => h.elim
  | (id, ks) :: ids, (b, ks', us) :: boxes, ls, h, hp, hk => by
    simp only [retBoxes] at h
    split at h
    · rename_i cells h1
      split at h <;> simp only [Option.some.injEq, reduceCtorEq] at h
      rename_i l ls' h2 h3
      subst h
      obtain ⟨us', E, q1, q2, q3, q4⟩ := hR.boxes _ _ h1
      obtain ⟨k1, k2⟩ := q4 _ _ hp.1
      obtain ⟨e1, e2⟩ := hk 0 _ _ rfl rfl
      simp only at e1 e2 k1 k2
      subst e1
      rw [List.map_append]
      rw [k1] at q1
      exact .cons q1 (retBox_rel h2 q2 e2 (fun i u hi => (k2 i u hi).1)) (retBoxes_rel hR h3 hp.2 (fun i r x hr hx => hk (i + 1) r x (by simpa using hr) (by simpa using hx)))
    · cases h

end

end Go.Mw

