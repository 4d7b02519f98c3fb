/- A part of the framework that turns Go code into small pure programs and shows that they are sound: no condition. -/
import Derived.Test.YtobecpmneaninaaGreatFwD
namespace Go.Mw
open Go.RowKit

theorem Rep.fn_inv {w : World} {v : Value} {f : Nat} {S : List Nat} (h : Rep w [v] [.fn f] S) : v = .func (.func f) #[] #[] := by
  generalize hu : [v] = us at h
  generalize hd : [V.fn f] = ds at h
  cases h with
  | nil => simp at hu
  | atom h t =>
    simp only [List.cons.injEq] at hu hd
    obtain ⟨rfl, _⟩ := hu
    obtain ⟨rfl, _⟩ := hd
    cases h; rfl
  | row => simp at hd

theorem op_forget {P : Program} {c : Cx} {nt : Nat} {M : Mp} {env : List V} {A : FS} {a : Act} {w : World} {o : Oper} {gs : Gs} {K : Act → World → Prop} {Q : Exit → Act → World → Prop} {out : Out} {x : Operand} (ho : o.op = .assign x)
    (hR : Rel c nt M env A a w) (hd : ∀ d, o.dst = some d → d < nt) (hout : out = ⟨none, 0, none, []⟩) (hK : Kont c nt env gs A a o out K) : o.wp P a w K Q := by
  subst hout
  refine wp_value (w' := w) (v := a.eval x) (by simp only [execOp, ho]; rfl) (hK M w (a.eval x) ?_)
  have E : Ext c (fun _ => False) M A.ob w M A.ob w := ⟨fun r ver l app _ ho => ⟨ver, l, app, ho, rfl, Nat.le_refl _, fun _ => ⟨rfl, fun b hb _ => ⟨hb, rfl⟩⟩⟩, fun id cells _ ho => ⟨⟨cells, ho⟩, rfl⟩, fun _ _ _ => rfl⟩
  have := slots_put hR E ⟨by simp, by simp, by simp⟩ (dst := o.dst) (sv := none) (gs := gs) (v := a.eval x) hd (fun s hs _ => by cases hs)
  exact ⟨by rw [Act.put_size]; exact hR.size, by rw [Act.put_defs]; exact hR.defs, this, hR.rows, hR.boxes, hR.dBB, hR.dRR, hR.dBR, hR.keep⟩

theorem op_sound {P : Program} {sg : List (Nat × Sig)} {c : Cx} {nt : Nat} {M : Mp} {env : List V} {A : FS} {a : Act} {w : World} {o : Oper} {gs : Gs} {fid nv : Nat} {K : Act → World → Prop} {Q : Exit → Act → World → Prop} {out : Out}
    (hsg : ∀ f s, sg.lookup f = some s → Contract c.G P f s) (hR : Rel c nt M env A a w) (hg : GH env gs) (hd : ∀ d, o.dst = some d → d < nt) (hf : Fresh A (fun x => fid ≤ x ∧ x < fid + nv + out.outs + 1)) (hpb : ∀ x, npK ≤ x → c.parB x = none ∧ c.par x = none) (hnp : npK ≤ fid) (hh : Holds env nv out)
    (hK : Kont c nt env gs A a o out K) (hc : core P sg (look A.sl gs) A.ob fid nv o = some out) : o.wp P a w K Q := by
  have hf1 : Fresh A (· = fid) := by
    refine ⟨fun q gs sv hs x hx e => hf.1 q gs sv hs x hx (by omega), fun id cells hb x hx e => hf.2.1 id cells hb x hx (by omega), fun x e => hf.2.2 x (by omega)⟩
  cases hop : o.op with
  | move x => simp only [core, hop] at hc; exact op_move (.inl hop) hR hg hd hc hK
  | assign x =>
    simp only [core, hop] at hc
    split at hc
    · simp only [Option.some.injEq] at hc
      exact op_forget hop hR hd hc.symm hK
    · exact op_move (.inr hop) hR hg hd hc hK
  | pick x y z =>
    simp only [core, hop] at hc
    split at hc
    · rename_i lc h1
      split at hc
      · rename_i la lb h2 h3
        simp only [Option.some.injEq] at hc
        exact op_pick hop hR hg hd h1 h2 h3 hc.symm hh hK
      · cases hc
    · cases hc
  | alloc t =>
    simp only [core, hop] at hc
    cases hz : zeroAts P t with
    | none => simp [hz] at hc
    | some z => simp only [hz, Option.map_some, Option.some.injEq] at hc; exact op_alloc hR hg hd hK hop hf1 (hpb _ hnp).1 hz hc.symm
  | box t x =>
    simp only [core, hop] at hc
    split at hc
    · rename_i y h1
      simp only [Option.some.injEq] at hc
      exact op_box hR hg hd hK hop hf1 (hpb _ hnp).1 h1 hc.symm
    · cases hc
  | build t parts =>
    simp only [core, hop] at hc
    split at hc
    · rename_i fs z hu hz
      split at hc
      · rename_i hall
        exact op_build hR hg hd hK hop hu hz hall hc
      · cases hc
    · cases hc
  | buildSlice t len parts =>
    simp only [core, hop] at hc
    exact op_buildSlice hR hg hd hf1 hh hK hop hc
  | load t x =>
    simp only [core, hop] at hc
    cases h1 : look A.sl gs [] x with
    | none => simp [h1] at hc
    | some sx => rw [h1] at hc; exact op_load hR hg hd hh hK hop h1 hc
  | store t x y =>
    simp only [core, hop] at hc
    split at hc
    · rename_i sa s h1 h2
      simp only [coreStore] at hc
      split at hc
      · rename_i hsz
        simp only [beq_iff_eq] at hsz
        split at hc
        · rename_i id off
          split at hc
          · rename_i cells hb
            split at hc
            · rename_i cells' hov
              split at hc <;> simp only [Option.some.injEq, reduceCtorEq] at hc
              rename_i hst
              obtain ⟨hst, hlt⟩ := hst
              simp only [Bool.or_eq_true, decide_eq_true_eq] at hst
              exact op_storeBox hR hg hd hK hop h1 h2 hsz hb hov (hst.imp (fun h => (hpb _ h).1) (fun h => h)) hlt hc.symm
            · cases hc
          · cases hc
        · rename_i r ver ll ix el off kk
          split at hc
          · rename_i ver' l app hrow
            split at hc
            · rename_i hcond
              simp only [Bool.and_eq_true, beq_iff_eq, decide_eq_true_eq, bne_iff_ne, ne_eq] at hcond
              obtain ⟨⟨rfl, hle⟩, hne⟩ := hcond
              split at hc
              · rename_i ls gone hmv
                split at hc
                · cases hc
                · rename_i hrg
                  simp only [Option.some.injEq] at hc
                  simp only [Bool.or_eq_true, Bool.and_eq_true, Bool.not_eq_true', List.contains_eq_mem, decide_eq_true_eq, List.isEmpty_eq_false_iff, not_or, not_and, ne_eq, Decidable.not_not] at hrg
                  exact op_storeElem hR hg hd hh hK hop h1 h2 hsz hrow hle hne hmv hrg.1 hrg.2 hc.symm
              · cases hc
            · cases hc
          · cases hc
        · rename_i r v0 l p ver ll ix el off kk
          split at hc
          · rename_i ver' lr app ls hrow hls
            split at hc <;> simp only [Option.some.injEq, reduceCtorEq] at hc
            rename_i hcond
            simp only [Bool.and_eq_true, beq_iff_eq, decide_eq_true_eq, bne_iff_ne, ne_eq] at hcond
            obtain ⟨⟨⟨⟨⟨⟨rfl, rfl⟩, hsame⟩, hks⟩, hfl⟩, hle⟩, hne⟩ := hcond
            obtain rfl := Lf.same_eq hsame
            exact op_storeIn hR hg hd hh hK hop h1 h2 hsz hrow hks hfl hle hne hls hc.symm
          · cases hc
        · cases hc
      · cases hc
    · cases hc
  | fieldAddr t x f =>
    simp only [core, hop] at hc
    cases h1 : look A.sl gs [] x with
    | none => simp [h1] at hc
    | some sx => rw [h1] at hc; exact op_addr hR hg hd hh hK hop h1 hc
  | indexAddr t x i =>
    simp only [core, hop] at hc
    split at hc
    · rename_i sx si h1 h2
      exact op_index hR hg hd hh hK hop h1 h2 hc
    · cases hc
  | index t x i =>
    simp only [core, hop] at hc
    split at hc
    · rename_i lx li hu h1 h2
      simp only [Option.some.injEq] at hc
      exact op_sindex hR hg hd hh hK hop hu h1 h2 hc.symm
    · cases hc
  | binOp op t x y u =>
    simp only [core, hop] at hc
    split at hc
    · rename_i sx sy h1 h2
      cases h3 : coreBin P nv op t sx sy with
      | some z => rw [h3] at hc; obtain rfl : z = out := Option.some.inj hc; exact op_bin hop hR hg hd h1 h2 h3 hh hK
      | none => rw [h3] at hc; exact op_err hop hR hg hd h1 hc hh hK
    · cases hc
  | unOp op t x =>
    simp only [core, hop] at hc
    cases h1 : (look A.sl gs [] x).bind SV.scl with
    | none => simp [h1] at hc
    | some l => simp only [h1, Option.map_some, Option.some.injEq] at hc; exact op_un hop hR hg hd h1 hc.symm hh hK
  | convert s d x =>
    simp only [core, hop] at hc
    cases h1 : look A.sl gs [] x with
    | none => simp [h1] at hc
    | some sx =>
      simp only [h1, Option.bind_some] at hc
      cases h3 : coreConv P A.ob nv s d sx with
      | some z => rw [h3] at hc; obtain rfl : z = out := Option.some.inj hc; exact op_conv hR hg hd hh hK hop h1 h3
      | none => rw [h3] at hc; exact op_bytes hR hg hd hf1 hh hK hop h1 hc
  | makeSlice t l k =>
    simp only [core, hop] at hc
    split at hc
    · rename_i sx sy h1 h2
      exact op_make hR hg hd hf1 hh hK hop h1 h2 hc
    · cases hc
  | slice t x lo hi mx =>
    cases mx with
    | some m => simp [core, hop] at hc
    | none =>
      simp only [core, hop] at hc
      split at hc
      · rename_i sx ll lh h1 h2 h3
        exact op_slice hR hg hd hh hK hop h1 h2 h3 hc
      · cases hc
  | extract x i =>
    simp only [core, hop] at hc
    split at hc
    · rename_i cs h1
      cases hy : cs[i]? with
      | none => simp [hy] at hc
      | some y => simp only [hy, Option.map_some, Option.some.injEq] at hc; exact op_extract hR hg hd hK hop h1 hy hc.symm
    · cases hc
  | nilCheck x =>
    simp only [core, hop] at hc
    split at hc
    · rename_i id off h1
      split at hc
      · rename_i cells hb
        split at hc <;> simp only [Option.some.injEq, reduceCtorEq] at hc
        rename_i hlt
        exact op_nilCheck hR hg hd hK hop h1 hb hlt hc.symm
      · cases hc
    · cases hc
  | makeFunc g first captured =>
    cases g with
    | func g =>
      simp only [core, hop] at hc
      split at hc
      · rename_i x hfi hca
        split at hc
        · rename_i id h1
          simp only [Option.some.injEq] at hc
          exact op_makeFunc hR hg hd hK hop hfi hca h1 hc.symm
        · cases hc
      · cases hc
    | _ => simp [core, hop] at hc
  | call k =>
    obtain ⟨callee, args, argTypes⟩ := k
    cases callee with
    | builtin b =>
      cases b with
      | len =>
        simp only [core, hop] at hc
        split at hc
        · rename_i x t ha ht
          cases h1 : look A.sl gs [] x with
          | none => simp [h1] at hc
          | some sx => rw [h1] at hc; exact op_len hR hg hd hh hK hop ha ht h1 hc
        · cases hc
      | append =>
        simp only [core, hop] at hc
        split at hc
        · rename_i x y t u ha ht
          split at hc
          · rename_i sx sy h1 h2
            have ha' : args = #[x, y] := Array.toList_inj.1 ha
            have ht' : argTypes = #[t, u] := Array.toList_inj.1 ht
            subst ha' ht'
            exact op_app hR hg hd hf1 hh hK hop h1 h2 hc
          · cases hc
        · cases hc
      | max =>
        simp only [core, hop] at hc
        split at hc
        · rename_i l ls h1
          simp only [Option.some.injEq] at hc
          exact op_mx hR hg hd hh hK hop h1 hc.symm
        · cases hc
      | min =>
        simp only [core, hop] at hc
        split at hc
        · rename_i l ls h1
          simp only [Option.some.injEq] at hc
          exact op_mn hR hg hd hh hK hop h1 hc.symm
        · cases hc
      | _ => simp [core, hop] at hc
    | value x =>
      simp only [core, hop] at hc
      split at hc
      · rename_i f hfn
        cases hl : look A.sl gs [] x with
        | none => rw [hl] at hfn; simp at hfn
        | some y =>
        rw [hl, Option.bind_some] at hfn
        have hx : a.eval x = .func (.func f) #[] #[] := (fnOf_rel (look_rel0 hR hl hg) hfn).fn_inv
        split at hc
        · rename_i xs h1
          cases h2 : coreCall P sg A.ob fid nv f xs with
          | some q =>
            rw [h2, Option.some_or, Option.some_or] at hc
            exact op_call hsg hpb hR hg hd hf hh hK hop hx h1 (by rw [h2]; exact hc)
          | none =>
            rw [h2, Option.none_or] at hc
            cases h3 : coreCallIn P sg A.ob fid nv f xs with
            | some q =>
              rw [h3, Option.some_or] at hc
              exact op_callIn hsg hR hg hd hf hh hK hop hx h1 (by rw [h3]; exact hc)
            | none =>
              rw [h3, Option.none_or] at hc
              exact op_callNew hsg hR hg hd hf1 (hpb _ hnp).1 hh hK hop hx h1 hc
        · cases hc
      · cases hc
    | _ => simp [core, hop] at hc
  | _ => simp [core, hop] at hc

end Go.Mw

namespace Go.Mw

theorem mapO_mono {α β : Type} {f g : α → Option β} (hfg : ∀ a b, f a = some b → g a = some b) : ∀ {as : List α} {bs : List β}, mapO f as = some bs → mapO g as = some bs
  | [], _, h => h
  | a :: as, bs, h => by
    simp only [mapO] at h ⊢
    split at h
    · rename_i b bs' h1 h2
      rw [hfg _ _ h1, mapO_mono hfg h2]; exact h
    · cases h

section
variable {P : Program} {sg : List (Nat × Sig)} {ρ ρ' : Look} {ob ob' : Nat → Option SO} {fid nv : Nat}
variable (hρ : ∀ ex x s, ρ ex x = some s → ρ' ex x = some s) (ho : ∀ i x, ob i = some x → ob' i = some x)

section
include ho

theorem lst_mono {ks : List AK} {a : At} {q : Nat × Lf} (h : a.lst ob ks = some q) : a.lst ob' ks = some q := by
  cases a with
  | own r =>
    simp only [At.lst] at h ⊢
    split at h
    · rename_i ver l app e; rw [ho _ _ e]; exact h
    · cases h
  | inn r ver l _ =>
    simp only [At.lst] at h ⊢
    split at h
    · rename_i ver' l' app e; rw [ho _ _ e]; exact h
    · cases h
  | _ => exact h

theorem leaves_mono : ∀ {ks : List AK} {as : List At} {ls : List Lf}, leaves ob ks as = some ls → leaves ob' ks as = some ls
  | [], [], _, h => h
  | [], _ :: _, _, h => h
  | _ :: _, [], _, h => h
  | k :: ks, a :: as, ls, h => by
    simp only [leaves] at h ⊢
    split at h
    · rename_i l ls' h1 h2
      have h1' : a.leaf ob' k = some l := by
        cases k with
        | sc => exact h1
        | sl js =>
          simp only [At.leaf, Option.map_eq_some_iff] at h1 ⊢
          obtain ⟨q, h3, h4⟩ := h1
          exact ⟨q, lst_mono ho h3, h4⟩
      rw [h1', leaves_mono h2]; exact h
    · cases h

theorem moved_mono : ∀ {ks : List AK} {as : List At} {q : List Lf × List Nat}, moved ob ks as = some q → moved ob' ks as = some q
  | [], [], _, h => h
  | [], _ :: _, _, h => by simp [moved] at h
  | k :: _, [], _, h => by cases k <;> simp [moved] at h
  | .sc :: ks, a :: as, q, h => by
    cases a <;> simp only [moved, Option.map_eq_some_iff, reduceCtorEq] at h ⊢
    obtain ⟨x, h1, h2⟩ := h
    exact ⟨x, moved_mono h1, h2⟩
  | .sl js :: ks, a :: as, q, h => by
    cases a <;> simp only [moved, Option.map_eq_some_iff, reduceCtorEq] at h ⊢
    · obtain ⟨x, h1, h2⟩ := h
      exact ⟨x, moved_mono h1, h2⟩
    · split at h
      · rename_i ver l x h1 h2
        rw [ho _ _ h1, moved_mono h2]; exact h
      · cases h

theorem ioCells_mono : ∀ {ks : List AK} {as : List At} {q : List Lf × List Nat}, ioCells ob ks as = some q → ioCells ob' ks as = some q
  | [], [], _, h => h
  | [], _ :: _, _, h => by simp [ioCells] at h
  | k :: _, [], _, h => by cases k <;> simp [ioCells] at h
  | .sc :: ks, a :: as, q, h => by
    cases a <;> simp only [ioCells, Option.map_eq_some_iff, reduceCtorEq] at h ⊢
    obtain ⟨x, h1, h2⟩ := h
    exact ⟨x, ioCells_mono h1, h2⟩
  | .sl js :: ks, a :: as, q, h => by
    cases a <;> simp only [ioCells, reduceCtorEq] at h ⊢
    split at h
    · rename_i ver l app x h1 h2
      rw [ho _ _ h1, ioCells_mono h2]; exact h
    · cases h

theorem alive_mono {b : At} {ver : Nat} (h : alive ob b ver = true) : alive ob' b ver = true := by
  cases b with
  | own r =>
    simp only [alive] at h ⊢
    split at h
    · rename_i e; rw [ho _ _ e]; exact h
    · cases h
  | inn r _ _ _ =>
    simp only [alive] at h ⊢
    split at h
    · rename_i e; rw [ho _ _ e]; exact h
    · cases h
  | _ => exact h

theorem coreArgs_mono : ∀ {ps : List PK} {xs : List SV} {q : Args}, coreArgs ob ps xs = some q → coreArgs ob' ps xs = some q ∧ roRows ob' ps xs = roRows ob ps xs ∧
    (∀ r ∈ q.rows, ∃ ver l app, ob r = some (.row ver l app))
  | [], [], q, h => by simp only [coreArgs, Option.some.injEq] at h; subst h; exact ⟨rfl, rfl, by simp⟩
  | [], _ :: _, _, h => by simp [coreArgs] at h
  | p :: _, [], _, h => by cases p <;> simp [coreArgs] at h
  | .val g ks :: ps, x :: xs, q, h => by
    cases x <;> simp only [coreArgs, reduceCtorEq] at h ⊢
    split at h
    · rename_i c hc
      split at h
      · rename_i l a h1 h2
        obtain ⟨i1, i2, i3⟩ := coreArgs_mono h2
        simp only [Option.some.injEq] at h
        subst h
        rw [if_pos hc, leaves_mono ho h1, i1]
        exact ⟨rfl, by simp [roRows, i2], i3⟩
      · cases h
    · cases h
  | .io g ks :: ps, x :: xs, q, h => by
    cases x <;> simp only [coreArgs, reduceCtorEq] at h ⊢
    split at h
    · rename_i c hc
      split at h
      · rename_i l rs a h1 h2
        obtain ⟨i1, i2, i3⟩ := coreArgs_mono h2
        rw [if_pos hc, ioCells_mono ho h1, i1]
        split at h
        · cases h
        · rename_i hn
          simp only [Option.some.injEq] at h
          subst h
          simp only [hn]
          refine ⟨rfl, by simp [roRows, i2], fun r hr => ?_⟩
          rcases List.mem_append.1 hr with hr | hr
          · have : ∀ {ks : List AK} {as : List At} {q : List Lf × List Nat}, ioCells ob ks as = some q → ∀ r ∈ q.2, ∃ ver l app, ob r = some (.row ver l app) := by
              intro ks
              induction ks with
              | nil => intro as q h; cases as <;> simp [ioCells] at h; subst h; simp
              | cons k ks ih =>
                intro as q h r hr
                cases as with
                | nil => cases k <;> simp [ioCells] at h
                | cons a as =>
                  cases k <;> cases a <;> simp only [ioCells, Option.map_eq_some_iff, reduceCtorEq] at h
                  · obtain ⟨x, h1, h2⟩ := h
                    subst h2
                    exact ih h1 r hr
                  · split at h
                    · rename_i ver l app x h1 h2
                      split at h
                      · cases h
                      · simp only [Option.some.injEq] at h
                        subst h
                        rcases List.mem_cons.1 hr with rfl | hr
                        · exact ⟨_, _, _, h1⟩
                        · exact ih h2 r hr
                    · cases h
            exact this h1 r hr
          · exact i3 r hr
      · cases h
    · cases h
  | .ptr po ks :: ps, x :: xs, q, h => by
    match x, h with
    | .ptr id off, h =>
      simp only [coreArgs] at h ⊢
      split at h
      · cases h
      rename_i hpo
      rw [if_neg hpo]
      split at h
      · rename_i cells e
        split at h
        · rename_i l a h1 h2
          obtain ⟨i1, i2, i3⟩ := coreArgs_mono h2
          rw [ho _ _ e]
          simp only [leaves_mono ho h1, i1]
          split at h
          · cases h
          · rename_i hn
            simp only [Option.some.injEq] at h
            subst h
            simp only [hn]
            refine ⟨rfl, ?_, i3⟩
            simp only [roRows, e, ho _ _ e, i2]
        · cases h
      · cases h
    | .sc _, h => simp [coreArgs] at h
    | .elem .., h => simp [coreArgs] at h
    | .tup _, h => simp [coreArgs] at h
  | .tk g ks :: ps, x :: xs, q, h => by
    cases x <;> simp only [coreArgs, reduceCtorEq] at h ⊢
    split at h
    · rename_i c hc
      split at h
      · rename_i l rs a h1 h2
        obtain ⟨i1, i2, i3⟩ := coreArgs_mono h2
        rw [if_pos hc, moved_mono ho h1, i1]
        split at h
        · cases h
        · rename_i hn
          simp only [Option.some.injEq] at h
          subst h
          simp only [hn]
          exact ⟨rfl, by simp [roRows, i2], i3⟩
      · cases h
    · cases h
  | .cst f :: ps, x :: xs, q, h => by
    simp only [coreArgs] at h ⊢
    split at h
    · rename_i hc
      obtain ⟨i1, i2, i3⟩ := coreArgs_mono h
      rw [if_pos hc]
      exact ⟨i1, by simp [roRows, i2], i3⟩
    · cases h
  | .new ks :: ps, x :: xs, q, h => by simp [coreArgs] at h

theorem any_appOf_mono : ∀ {rs : List Nat}, (∀ r ∈ rs, ∃ ver l app, ob r = some (.row ver l app)) → (rs.any fun r => decide (r < npK) && appOf ob' r) = (rs.any fun r => decide (r < npK) && appOf ob r)
  | [], _ => rfl
  | r :: rs, h => by
    obtain ⟨ver, l, app, e⟩ := h r (by simp)
    rw [List.any_cons, List.any_cons, any_appOf_mono (rs := rs) fun q hq => h q (List.mem_cons_of_mem _ hq)]
    simp only [appOf, e, ho _ _ e]

theorem rowUps_mono {keep : Bool} : ∀ {rs : List Nat} {j : Nat}, (∀ r ∈ rs, ∃ ver l app, ob r = some (.row ver l app)) → rowUps ob' keep j rs = rowUps ob keep j rs
  | [], _, _ => rfl
  | r :: rs, j, h => by
    obtain ⟨ver, l, app, e⟩ := h r (by simp)
    simp only [rowUps, e, ho _ _ e, rowUps_mono (rs := rs) (j := j + 1) (fun q hq => h q (List.mem_cons_of_mem _ hq))]

theorem coreCall_mono {f : Nat} {xs : List SV} {out : Out} (h : coreCall P sg ob fid nv f xs = some out) : coreCall P sg ob' fid nv f xs = some out := by
  unfold coreCall at h ⊢
  split at h
  · rename_i s fn h1 h2
    try simp only []
    split at h
    · rename_i hc
      rw [if_pos hc]
      split at h
      · rename_i a h3
        obtain ⟨i1, i2, i3⟩ := coreArgs_mono ho h3
        simp only [i1, i2, rowUps_mono ho i3, any_appOf_mono ho i3]
        split at h
        · cases h
        · rename_i hc2
          rw [if_neg hc2]
          split at h
          · cases h
          · rename_i rl hrl
            have : mapO (rowLf ob') a.rows = some rl := mapO_mono (fun r l hl => by
              simp only [rowLf] at hl ⊢
              split at hl
              · rename_i e; rw [ho _ _ e]; exact hl
              · cases hl) hrl
            rw [this]
            exact h
      · cases h
    · cases h
  · cases h


theorem coreCallIn_mono {f : Nat} {xs : List SV} {out : Out} (h : coreCallIn P sg ob fid nv f xs = some out) : coreCallIn P sg ob' fid nv f xs = some out := by
  unfold coreCallIn at h ⊢
  split at h
  case h_2 => cases h
  rename_i s fn h1 h2
  split at h
  case isFalse => cases h
  rename_i hb
  split at h
  case h_2 => cases h
  rename_i js ps r ver l p xs' hps
  simp only [hb, if_true]
  split at h
  case h_2 => cases h
  rename_i ver' lr app ar hrow har
  obtain ⟨i1, i2, _⟩ := coreArgs_mono ho har
  rw [ho _ _ hrow, i1]
  simp only [i2]
  exact h

theorem coreCallNew_mono {f : Nat} {xs : List SV} {out : Out} (h : coreCallNew P sg ob fid nv f xs = some out) : coreCallNew P sg ob' fid nv f xs = some out := by
  unfold coreCallNew at h ⊢
  split at h
  case h_2 => cases h
  rename_i s fn h1 h2
  split at h
  case isFalse => cases h
  rename_i hb
  split at h
  case h_2 => cases h
  rename_i ks ps hps
  simp only [hb, if_true]
  split at h
  case h_2 => cases h
  rename_i ar har
  obtain ⟨i1, i2, _⟩ := coreArgs_mono ho har
  rw [i1]
  simp only [i2]
  exact h

omit ho in
theorem coreCallNew_none {f : Nat} {xs : List SV} {out : Out} (h : coreCallNew P sg ob fid nv f xs = some out) : coreCall P sg ob' fid nv f xs = none ∧ coreCallIn P sg ob' fid nv f xs = none := by
  unfold coreCallNew at h
  split at h
  case h_2 => cases h
  rename_i s fn h1 h2
  split at h
  case isFalse => cases h
  rename_i hb
  split at h
  case h_2 => cases h
  rename_i ks ps hps
  constructor
  · unfold coreCall
    rw [h1, h2]
    simp only [hb, if_true]
    have : coreArgs ob' s.ps xs = none := by rw [hps]; cases xs <;> simp [coreArgs]
    rw [this]
  · unfold coreCallIn
    rw [h1, h2]
    simp only [hb, if_true, hps]

theorem coreLoad_mono {t : TypeId} {a : SV} {out : Out} (h : coreLoad P ob t a = some out) : coreLoad P ob' t a = some out := by
  unfold coreLoad at h ⊢
  split at h
  · rename_i n ks h1 h2
    try simp only [h1, h2]
    split at h
    · rename_i hc
      rw [if_pos hc]
      split at h
      · split at h
        · rename_i cells e
          simp only [ho _ _ e]; exact h
        · cases h
      · split at h
        · rename_i hal
          simp only [Bool.and_eq_true] at hal
          simp only [alive_mono ho hal.1.1, hal.1.2, hal.2, Bool.and_self, if_true]
          exact h
        · cases h
      · cases h
    · cases h
  · cases h

theorem coreStore_mono {t : TypeId} {a : SV} {c : SC} {out : Out} (h : coreStore P ob nv t a c = some out) : coreStore P ob' nv t a c = some out := by
  unfold coreStore at h ⊢
  split at h
  · rename_i hc
    rw [if_pos hc]
    split at h
    · split at h
      · rename_i e
        simp only [ho _ _ e]; exact h
      · cases h
    · split at h
      · rename_i e
        simp only [ho _ _ e]
        split at h
        · rename_i hcc
          rw [if_pos hcc]
          split at h
          · rename_i h1
            simp only [moved_mono ho h1]; exact h
          · cases h
        · cases h
      · cases h
    · split at h
      · rename_i e1 e2
        simp only [ho _ _ e1, e2]; exact h
      · cases h
    · cases h
  · cases h

theorem coreAddr_mono {t : TypeId} {a : SV} {f : Nat} {out : Out} (h : coreAddr P ob t a f = some out) : coreAddr P ob' t a f = some out := by
  unfold coreAddr at h ⊢
  split at h
  · rename_i fs h1
    try simp only [h1]
    split at h
    · rename_i fd h2
      try simp only [h2]
      split at h
      · rename_i h3
        try simp only [h3]
        split at h
        · split at h
          · rename_i e
            simp only [ho _ _ e]; exact h
          · cases h
        · exact h
        · cases h
      · cases h
    · cases h
  · cases h

theorem coreIndex_mono {t : TypeId} {x i : SV} {out : Out} (h : coreIndex P ob nv t x i = some out) : coreIndex P ob' nv t x i = some out := by
  unfold coreIndex at h ⊢
  split at h
  · rename_i h0
    try simp only [h0]
    split at h
    · rename_i h1 h2 h3 h4
      try simp only [h1, h2, h3, h4]
      split at h
      · rename_i hc
        rw [if_pos hc]
        split at h
        · rename_i h5
          simp only [lst_mono ho h5]; exact h
        · cases h
      · cases h
    · cases h
  · cases h

theorem coreConv_mono {s d : TypeId} {x : SV} {out : Out} (h : coreConv P ob nv s d x = some out) : coreConv P ob' nv s d x = some out := by
  unfold coreConv at h ⊢
  split at h
  · rename_i h1 h2
    (try simp only [h1, h2]); exact h
  · rename_i h1 h2
    try simp only [h1, h2]
    split at h
    · rename_i h3 h4
      try simp only [h3, h4]
      simp only [Option.map_eq_some_iff] at h ⊢
      obtain ⟨q, h5, h6⟩ := h
      exact ⟨q, lst_mono ho h5, h6⟩
    · cases h
  · cases h

omit ho in
theorem coreBytes_conv {ob : Nat → Option SO} {s d : TypeId} {x : SV} {out : Out} (h : coreBytes P fid nv s d x = some out) : coreConv P ob nv s d x = none := by
  unfold coreBytes at h
  split at h
  · rename_i e l h1 h2 h3
    unfold coreConv
    rw [h1, h2]
  · cases h
theorem coreConv2_mono {s d : TypeId} {x : SV} {out : Out} (h : (coreConv P ob nv s d x).or (coreBytes P fid nv s d x) = some out) : (coreConv P ob' nv s d x).or (coreBytes P fid nv s d x) = some out := by
  cases h1 : coreConv P ob nv s d x with
  | some z => rw [h1] at h; rw [coreConv_mono ho h1]; exact h
  | none => rw [h1] at h; rw [coreBytes_conv h]; exact h

theorem coreMake_mono {t : TypeId} {l c : SV} {out : Out} (h : coreMake P ob fid nv t l c = some out) : coreMake P ob' fid nv t l c = some out := by
  unfold coreMake at h ⊢
  split at h
  · rename_i h0
    try simp only [h0]
    split at h
    · rename_i h1 h2 h3 h4 h5
      try simp only [h1, h2, h3, h4, h5]
      split at h
      · rename_i hc
        rw [if_pos hc]
        split at h
        · rename_i h6
          simp only [moved_mono ho h6]; exact h
        · cases h
      · cases h
    · cases h
  · cases h

theorem coreSlice_mono {t : TypeId} {x : SV} {lo hi : Option Lf} {out : Out} (h : coreSlice P ob nv t x lo hi = some out) : coreSlice P ob' nv t x lo hi = some out := by
  unfold coreSlice at h ⊢
  split at h
  · rename_i h0
    (try simp only [h0]); exact h
  · rename_i h0
    try simp only [h0]
    split at h
    · rename_i h1 h2 h3
      try simp only [h1, h2, h3]
      split at h
      · cases h
      · rename_i hc
        rw [if_neg hc]
        split at h
        · rename_i h4
          simp only [lst_mono ho h4]; exact h
        · cases h
    · cases h
  · cases h

theorem coreLen_mono {t : TypeId} {x : SV} {out : Out} (h : coreLen P ob nv t x = some out) : coreLen P ob' nv t x = some out := by
  unfold coreLen at h ⊢
  split at h
  · rename_i h0
    (try simp only [h0]); exact h
  · rename_i h0
    try simp only [h0]
    split at h
    · rename_i h1 h2
      try simp only [h1, h2]
      simp only [Option.map_eq_some_iff] at h ⊢
      obtain ⟨q, h5, h6⟩ := h
      exact ⟨q, lst_mono ho h5, h6⟩
    · cases h
  · cases h

theorem appHead_mono {ks : List AK} {a : At} {q : Lf × List Nat} (h : appHead ob ks a = some q) : appHead ob' ks a = some q := by
  cases a <;> simp only [appHead] at h ⊢ <;> try exact h
  split at h
  · rename_i e
    rw [ho _ _ e]; exact h
  · cases h

theorem appOf_mono {q : Nat} (h : appOf ob q = true) : appOf ob' q = true := by
  unfold appOf at h ⊢
  split at h
  · rename_i e; rw [ho _ _ e]; exact h
  · cases h

theorem coreApp_mono {t u : TypeId} {x y : SV} {out : Out} (h : coreApp P ob fid nv t u x y = some out) : coreApp P ob' fid nv t u x y = some out := by
  unfold coreApp at h ⊢
  split at h
  · rename_i h0
    try simp only [h0]
    split at h
    · rename_i h1 h2 h3 h4
      try simp only [h1, h2, h3, h4]
      split at h
      · rename_i hc
        rw [if_pos hc]
        split at h
        · rename_i h5
          simp only [appHead_mono ho h5]
          split at h
          · rename_i h6
            (try simp only [h6]); exact h
          · rename_i h6
            try simp only [h6]
            split at h
            · rename_i h7
              try simp only [h7]
              split at h
              · rename_i h8
                (try simp only [lst_mono ho h8])
                split at h
                · rename_i hs
                  rw [if_pos hs]; exact h
                · rename_i hs
                  rw [if_neg hs]
                  split at h
                  · rename_i q
                    split at h
                    · cases h
                    · rename_i hq
                      have hq' : ∀ g : List Nat, ¬ (g.contains q || !appOf ob q) = true → ¬ (g.contains q || !appOf ob' q) = true := by
                        intro g hq e
                        refine hq ?_
                        simp only [Bool.or_eq_true, Bool.not_eq_true'] at e ⊢
                        rcases e with e | e
                        · exact .inl e
                        · refine .inr ?_
                          cases hh : appOf ob q with
                          | false => rfl
                          | true => rw [appOf_mono ho hh] at e; cases e
                      rw [if_neg (hq' _ hq)]; exact h
                  · cases h
              · cases h
            · cases h
          · cases h
        · cases h
      · cases h
    · cases h
  · cases h

theorem coreBuildSlice_mono0 {t : TypeId} {len : Nat} {parts : List (Nat × Operand)} {out : Out} (h : coreBuildSlice P ρ ob fid nv t len parts = some out) :
    coreBuildSlice P ρ ob' fid nv t len parts = some out := by
  unfold coreBuildSlice at h ⊢
  split at h
  · rename_i h0
    try simp only [h0]
    split at h
    · rename_i h1 h2 h3
      try simp only [h1, h2, h3]
      split at h
      · rename_i hc
        rw [if_pos hc]
        split at h
        · rename_i h4
          try simp only [h4]
          split at h
          · rename_i h5
            simp only [moved_mono ho h5]; exact h
          · cases h
        · cases h
      · cases h
    · cases h
  · cases h

end

section
include hρ

theorem bind_mono {α : Type} {f g : SV → Option α} {ex : Gs} {x : Operand} {y : α} (hfg : ∀ s, f s = some y → g s = some y) (h : (ρ ex x).bind f = some y) : (ρ' ex x).bind g = some y := by
  obtain ⟨s, h1, h2⟩ := Option.bind_eq_some_iff.1 h
  rw [hρ _ _ _ h1]; exact hfg s h2

theorem map_mono {α : Type} {f : SV → α} {ex : Gs} {x : Operand} {y : α} (h : (ρ ex x).map f = some y) : (ρ' ex x).map f = some y := by
  obtain ⟨s, h1, h2⟩ := Option.map_eq_some_iff.1 h
  rw [hρ _ _ _ h1]; exact Option.map_eq_some_iff.2 ⟨s, rfl, h2⟩

theorem mapScl_mono : ∀ {xs : List Operand} {ls : List Lf}, mapScl ρ xs = some ls → mapScl ρ' xs = some ls
  | [], _, h => h
  | x :: xs, ls, h => by
    simp only [mapScl] at h ⊢
    split at h
    · rename_i l ls' h1 h2
      rw [bind_mono hρ (fun _ h => h) h1, mapScl_mono h2]; exact h
    · cases h

theorem optScl_mono {x : Option Operand} {l : Option Lf} (h : optScl ρ x = some l) : optScl ρ' x = some l := by
  cases x with
  | none => exact h
  | some x =>
    simp only [optScl] at h ⊢
    split at h
    · rename_i l' h1
      rw [bind_mono hρ (fun _ h => h) h1]; exact h
    · cases h

theorem coreBuild_mono {fs : Array Field} : ∀ {parts : List (Nat × Operand)} {cells out : List At}, coreBuild P ρ fs cells parts = some out → coreBuild P ρ' fs cells parts = some out
  | [], _, _, h => h
  | (i, x) :: rest, cells, out, h => by
    simp only [coreBuild] at h ⊢
    split at h
    · rename_i f c h1 h2
      simp only [h1, hρ _ _ _ h2]
      split at h
      · rename_i hc
        rw [if_pos hc]
        split at h
        · rename_i h3
          (try simp only [h3]); exact coreBuild_mono h
        · cases h
      · cases h
    · cases h

theorem coreFill_mono {size : Nat} : ∀ {parts : List (Nat × Operand)} {cells out : List At}, coreFill ρ size cells parts = some out → coreFill ρ' size cells parts = some out
  | [], _, _, h => h
  | (i, x) :: rest, cells, out, h => by
    simp only [coreFill] at h ⊢
    split at h
    · rename_i c h2
      simp only [hρ _ _ _ h2]
      split at h
      · rename_i hc
        rw [if_pos hc]
        split at h
        · rename_i h3
          (try simp only [h3]); exact coreFill_mono h
        · cases h
      · cases h
    · cases h

theorem coreBuildSlice_mono1 {t : TypeId} {len : Nat} {parts : List (Nat × Operand)} {out : Out} (h : coreBuildSlice P ρ ob fid nv t len parts = some out) :
    coreBuildSlice P ρ' ob fid nv t len parts = some out := by
  unfold coreBuildSlice at h ⊢
  split at h
  · rename_i h0
    try simp only [h0]
    split at h
    · rename_i h1 h2 h3
      try simp only [h1, h2, h3]
      split at h
      · rename_i hc
        rw [if_pos hc]
        split at h
        · rename_i h4
          simp only [coreFill_mono hρ h4]; exact h
        · cases h
      · cases h
    · cases h
  · cases h

end

include hρ ho

theorem core_mono {o : Oper} {out : Out} (h : core P sg ρ ob fid nv o = some out) : core P sg ρ' ob' fid nv o = some out := by
  cases hop : o.op with
  | move x => simp only [core, hop] at h ⊢; exact map_mono hρ h
  | assign x =>
    simp only [core, hop] at h ⊢
    split at h
    · rename_i hn
      rw [if_pos hn]; exact h
    · rename_i hn
      rw [if_neg hn]; exact map_mono hρ h
  | pick x y z =>
    simp only [core, hop] at h ⊢
    split at h
    · rename_i lc h1
      rw [bind_mono hρ (fun _ h => h) h1]
      split at h
      · rename_i la lb h2 h3
        simp only [bind_mono hρ (fun _ h => h) h2, bind_mono hρ (fun _ h => h) h3]; exact h
      · cases h
    · cases h
  | alloc t => simp only [core, hop] at h ⊢; exact h
  | box t x =>
    simp only [core, hop] at h ⊢
    split at h
    · rename_i c h1
      rw [hρ _ _ _ h1]; exact h
    · cases h
  | build t parts =>
    simp only [core, hop] at h ⊢
    split at h
    · rename_i fs z h1 h2
      split at h
      · rename_i hc
        rw [if_pos hc]
        obtain ⟨cs, h3, h4⟩ := Option.map_eq_some_iff.1 h
        rw [coreBuild_mono hρ h3, Option.map_some, h4]
      · cases h
    · cases h
  | buildSlice t len parts =>
    simp only [core, hop] at h ⊢
    exact coreBuildSlice_mono0 ho (coreBuildSlice_mono1 hρ h)
  | load t x => simp only [core, hop] at h ⊢; exact bind_mono hρ (fun _ => coreLoad_mono ho) h
  | store t x y =>
    simp only [core, hop] at h ⊢
    split at h
    · rename_i sa c h1 h2
      simp only [hρ _ _ _ h1, hρ _ _ _ h2]; exact coreStore_mono ho h
    · cases h
  | fieldAddr t x f => simp only [core, hop] at h ⊢; exact bind_mono hρ (fun _ => coreAddr_mono ho) h
  | indexAddr t x i =>
    simp only [core, hop] at h ⊢
    split at h
    · rename_i sa c h1 h2
      simp only [hρ _ _ _ h1, hρ _ _ _ h2]; exact coreIndex_mono ho h
    · cases h
  | index t x i =>
    simp only [core, hop] at h ⊢
    split at h
    · rename_i h0 h1 h2
      simp only [h0, bind_mono hρ (fun _ h => h) h1, bind_mono hρ (fun _ h => h) h2]; exact h
    · cases h
  | binOp op t x y u =>
    simp only [core, hop] at h ⊢
    split at h
    · rename_i sa c h1 h2
      simp only [hρ _ _ _ h1, hρ _ _ _ h2]; exact h
    · cases h
  | unOp op t x =>
    simp only [core, hop] at h ⊢
    obtain ⟨l, h1, h2⟩ := Option.map_eq_some_iff.1 h
    rw [bind_mono hρ (fun _ h => h) h1, Option.map_some, h2]
  | convert s d x => simp only [core, hop] at h ⊢; exact bind_mono hρ (fun _ => coreConv2_mono ho) h
  | makeSlice t l k =>
    simp only [core, hop] at h ⊢
    split at h
    · rename_i sa c h1 h2
      simp only [hρ _ _ _ h1, hρ _ _ _ h2]; exact coreMake_mono ho h
    · cases h
  | slice t x lo hi mx =>
    cases mx with
    | some m => simp [core, hop] at h
    | none =>
      simp only [core, hop] at h ⊢
      split at h
      · rename_i a l r h1 h2 h3
        simp only [hρ _ _ _ h1, optScl_mono hρ h2, optScl_mono hρ h3]; exact coreSlice_mono ho h
      · cases h
  | extract x i =>
    simp only [core, hop] at h ⊢
    split at h
    · rename_i h1
      simp only [hρ _ _ _ h1]; exact h
    · cases h
  | nilCheck x =>
    simp only [core, hop] at h ⊢
    split at h
    · rename_i h1
      simp only [hρ _ _ _ h1]
      split at h
      · rename_i h2
        simp only [ho _ _ h2]; exact h
      · cases h
    · cases h
  | makeFunc g first captured =>
    cases g with
    | func g =>
      simp only [core, hop] at h ⊢
      split at h
      · rename_i x hfi hca
        try simp only [hfi, hca]
        split at h
        · rename_i id h1
          simp only [hρ _ _ _ h1]; exact h
        · cases h
      · cases h
    | _ => simp [core, hop] at h
  | call k =>
    obtain ⟨callee, args, argTypes⟩ := k
    cases callee with
    | builtin b =>
      cases b with
      | len =>
        simp only [core, hop] at h ⊢
        split at h
        · exact bind_mono hρ (fun _ => coreLen_mono ho) h
        · cases h
      | append =>
        simp only [core, hop] at h ⊢
        split at h
        · split at h
          · rename_i h1 h2
            simp only [hρ _ _ _ h1, hρ _ _ _ h2]; exact coreApp_mono ho h
          · cases h
        · cases h
      | max =>
        simp only [core, hop] at h ⊢
        split at h
        · rename_i h1
          simp only [mapScl_mono hρ h1]; exact h
        · cases h
      | min =>
        simp only [core, hop] at h ⊢
        split at h
        · rename_i h1
          simp only [mapScl_mono hρ h1]; exact h
        · cases h
      | _ => simp [core, hop] at h
    | value x =>
      simp only [core, hop] at h ⊢
      split at h
      · rename_i f hfn
        have hfn' : (ρ' [] x).bind SV.fnOf = some f := by
          cases hl : ρ [] x with
          | none => rw [hl] at hfn; simp at hfn
          | some y => rw [hρ _ _ _ hl]; rw [hl] at hfn; exact hfn
        rw [hfn']
        simp only
        split at h
        · rename_i xs h1
          rw [mapO_mono (hρ []) h1]
          simp only
          cases h2 : coreCall P sg ob fid nv f xs with
          | some q =>
            rw [h2, Option.some_or, Option.some_or] at h
            rw [coreCall_mono ho (by rw [h2]), Option.some_or, Option.some_or]; exact h
          | none =>
            rw [h2, Option.none_or] at h
            cases h3 : coreCallIn P sg ob fid nv f xs with
            | some q =>
              rw [h3, Option.some_or] at h
              rw [coreCall_none h3, Option.none_or, coreCallIn_mono ho h3, Option.some_or]; exact h
            | none =>
              rw [h3, Option.none_or] at h
              obtain ⟨g1, g2⟩ := coreCallNew_none (ob' := ob') h
              rw [g1, g2, Option.none_or, Option.none_or]; exact coreCallNew_mono ho h
        · cases h
      · cases h
    | _ => simp [core, hop] at h
  | _ => simp [core, hop] at h

end

end Go.Mw

namespace Go.Mw
open Go.RowKit

theorem Keep.heap {c : Cx} {w w' : World} (h : Keep c w) (h1 : w'.heap = w.heap) (h2 : w'.os = w.os) (h3 : w'.tape = w.tape) (h4 : w'.output = w.output) (h5 : w.drawn ≤ w'.drawn := by first | exact Nat.le_refl _ | exact Nat.le_succ _) : Keep c w' :=
  ⟨by rw [h2]; exact h.os, by rw [h3]; exact h.tape, by rw [h4]; exact h.output, by rw [h1]; exact h.size, by rw [h1]; exact h.block, by rw [h1]; exact h.sz, fun e => Nat.le_trans (h.dr e) h5, by rw [h1]; exact h.gl⟩

theorem Rel.heap {c : Cx} {nt : Nat} {M : Mp} {env : List V} {A : FS} {a : Act} {w w' : World} (h : Rel c nt M env A a w) (h1 : w'.heap = w.heap) (h2 : w'.os = w.os) (h3 : w'.tape = w.tape) (h4 : w'.output = w.output) (h5 : w.drawn ≤ w'.drawn := by first | exact Nat.le_refl _ | exact Nat.le_succ _) :
    Rel c nt M env A a w' := by
  have E : Ext c (fun _ => False) M A.ob w M A.ob w' := ⟨fun r ver l app _ ho => ⟨ver, l, app, ho, rfl, Nat.le_refl _, fun _ => ⟨rfl, fun b hb _ => ⟨hb, by rw [h1]⟩⟩⟩, fun id cells _ ho => ⟨⟨cells, ho⟩, rfl⟩, fun _ _ _ => by rw [h1]⟩
  refine ⟨h.size, h.defs, fun s gs sv hs => ?_, fun r ver l app hr => ?_, fun id cells hb => ?_, h.dBB, h.dRR, h.dBR, h.keep.heap h1 h2 h3 h4 h5⟩
  · obtain ⟨g1, g2, g3⟩ := h.slots s gs sv hs
    exact ⟨g1, fun hg => RelSV.ext E (fun _ _ => id) (g2 hg), g3⟩
  · obtain ⟨⟨S, g1, g2, g3⟩, g4, g5⟩ := h.rows r ver l app hr
    refine ⟨⟨S, g1.frame fun b _ => by rw [h1], g2, fun b hb => ⟨(g3 b hb).1, (g3 b hb).2.of_eq (by rw [h1])⟩⟩, fun b hb => by rw [h1]; exact g4 b hb, fun e => ⟨(g5.1 e).1.frame g1 fun b _ => by rw [h1], (g5.1 e).2⟩, g5.2⟩
  · obtain ⟨us, E', g1, g2, g3⟩ := h.boxes id cells hb
    exact ⟨us, E', by rw [h1]; exact g1, RelAts.ext E (fun _ _ => _root_.id) g2, g3⟩


def Lf.lt (n : Nat) : Lf → Bool
  | .v i => i < n
  | .k _ => true

theorem Lf.ev_ext {env env' : List V} {l : Lf} (h : l.lt env.length = true) (he : ∀ i, i < env.length → env'[i]? = env[i]?) : l.ev env' = l.ev env := by
  cases l with
  | v i => simp only [Lf.lt, decide_eq_true_eq] at h; simp only [Lf.ev, List.getD_eq_getElem?_getD, he i h]
  | k c => rfl

def pthLt (n : Nat) : Option Pth → Bool
  | none => true
  | some (.pre ll hi) => ll.lt n && hi.lt n
  | some (.elm q) => q.ll.lt n && q.ix.lt n && decide (q.el + q.ks.length ≤ n)

def At.lt (n : Nat) : At → Bool
  | .sc l => l.lt n
  | .ro l => l.lt n
  | .inn _ _ l p => l.lt n && pthLt n p
  | _ => true

def atsLt (n : Nat) : List At → Bool
  | [] => true
  | a :: as => a.lt n && atsLt n as

def SV.lt (n : Nat) : SV → Bool
  | .sc c => atsLt n c.cs
  | .ptr _ _ => true
  | .elem b _ ll ix el _ ks => b.lt n && ll.lt n && ix.lt n && el + ks.length ≤ n
  | .tup cs => cs.all fun c => atsLt n c.cs

def gsLt (n : Nat) : Gs → Bool
  | [] => true
  | p :: gs => p.1.lt n && gsLt n gs

theorem gsLt_mem {n : Nat} : ∀ {gs : Gs}, gsLt n gs = true → ∀ p ∈ gs, p.1.lt n = true
  | [], _, _, hp => by cases hp
  | q :: gs, h, p, hp => by
    simp only [gsLt, Bool.and_eq_true] at h
    rcases List.mem_cons.1 hp with rfl | hp
    · exact h.1
    · exact gsLt_mem h.2 p hp

def SO.lt (n : Nat) : SO → Bool
  | .box cells => atsLt n cells
  | .row _ l _ => l.lt n

structure Scoped (A : FS) (n : Nat) : Prop where
  sl : ∀ s gs sv, A.sl s = some (gs, sv) → gsLt n gs = true ∧ sv.lt n = true
  ob : ∀ i x, A.ob i = some x → x.lt n = true

section
variable {c : Cx} {M : Mp} {env env' : List V} {w : World} {ob : Nat → Option SO} (he : ∀ i, i < env.length → env'[i]? = env[i]?)
include he

theorem GH.ext_iff {gs : Gs} (h : gsLt env.length gs = true) : GH env' gs ↔ GH env gs := by
  have : ∀ p ∈ gs, p.1.ev env' = p.1.ev env := fun p hp => Lf.ev_ext (gsLt_mem h p hp) he
  exact ⟨fun g p hp => by rw [← this p hp]; exact g p hp, fun g p hp => by rw [this p hp]; exact g p hp⟩

variable (hob : ∀ i x, ob i = some x → x.lt env.length = true)

include hob in
theorem RelPth.grow {p : Option Pth} {r ver : Nat} {l : Lf} {v : Value} (hll0 : l.lt env.length = true) (hl : pthLt env.length p = true) (h : RelPth M env w ob p r ver l v) : RelPth M env' w ob p r ver l v := by
  cases p with
  | none => trivial
  | some q =>
  cases q with
  | pre ll hi =>
    simp only [pthLt, Bool.and_eq_true] at hl
    obtain ⟨hll, hhi⟩ := hl
    obtain ⟨u, ⟨ks, es, k, m, xx, cap, h1, h2, h3, h4, h5, h6, h7⟩, h8⟩ := h
    refine ⟨u, ⟨ks, es, k, m, xx, cap, by rw [Lf.ev_ext hll he]; exact h1, by rw [Lf.ev_ext hhi he]; exact h2, h3, h4, by rw [Lf.ev_ext hll0 he]; exact h5, h6, h7⟩, fun ver' l' app e2 e3 => ?_⟩
    have hl' := hob _ _ e2
    simp only [SO.lt] at hl'
    obtain ⟨g1, g2⟩ := h8 _ _ _ e2 e3
    exact ⟨by rw [Lf.ev_ext hll he, Lf.ev_ext hl' he]; exact g1, g2⟩
  | elm q =>
    simp only [pthLt, Bool.and_eq_true, decide_eq_true_eq] at hl
    obtain ⟨⟨hll, hix⟩, hel⟩ := hl
    obtain ⟨u, b, o, h0, ⟨b', o', n, cap, es, i, kk, e, h3, h4, h5, h6, h7, h8, h9, h10⟩, h2⟩ := h
    refine ⟨u, b, o, h0, ⟨b', o', n, cap, es, i, kk, e, h3, by rw [Lf.ev_ext hll he]; exact h4, by rw [Lf.ev_ext hix he]; exact h5, h6, h7, h8, fun j hj => by rw [he _ (by omega)]; exact h9 j hj, h10⟩, fun ver' l' app e2 e3 => ?_⟩
    have hl' := hob _ _ e2
    simp only [SO.lt] at hl'
    obtain ⟨g1, g2⟩ := h2 _ _ _ e2 e3
    exact ⟨by rw [Lf.ev_ext hll he, Lf.ev_ext hl' he]; exact g1, g2⟩

include hob in
theorem RelAt.grow {a : At} {v : Value} (hl : a.lt env.length = true) (h : RelAt c M env w ob a v) : RelAt c M env' w ob a v := by
  refine ⟨h.1, ?_⟩
  have h2 := h.2
  cases a with
  | sc l => simp only [At.lt] at hl; simp only [Lf.ev_ext hl he]; exact h2
  | ro l => simp only [At.lt] at hl; simp only [Lf.ev_ext hl he]; exact h2
  | inn r ver l p =>
    simp only [At.lt, Bool.and_eq_true] at hl
    refine ⟨?_, RelPth.grow he hob hl.1 hl.2 h2.2⟩
    simp only [Lf.ev_ext hl.1 he]; exact h2.1
  | _ => exact h2

include hob in
theorem RelAts.grow : ∀ {as : List At} {vs : List Value}, atsLt env.length as = true → RelAts c M env w ob as vs → RelAts c M env' w ob as vs
  | [], [], _, _ => trivial
  | [], _ :: _, _, h => h.elim
  | _ :: _, [], _, h => h.elim
  | _ :: _, _ :: _, hl, h => by
    simp only [atsLt, Bool.and_eq_true] at hl
    exact ⟨RelAt.grow he hob hl.1 h.1, RelAts.grow hl.2 h.2⟩

include hob in
theorem RelSCs.grow : ∀ {as : List SC} {vs : List Value}, (as.all fun c => atsLt env.length c.cs) = true → RelSCs c M env w ob as vs → RelSCs c M env' w ob as vs
  | [], [], _, _ => trivial
  | [], _ :: _, _, h => h.elim
  | _ :: _, [], _, h => h.elim
  | _ :: _, _ :: _, hl, h => by
    simp only [List.all_cons, Bool.and_eq_true] at hl
    obtain ⟨⟨vs, h1, h2⟩, h3⟩ := h
    exact ⟨⟨vs, RelAts.grow he hob hl.1 h1, h2⟩, RelSCs.grow hl.2 h3⟩

include hob in
theorem RelSV.grow {s : SV} {v : Value} (hl : s.lt env.length = true) (h : RelSV c M env w ob s v) : RelSV c M env' w ob s v := by
  cases s with
  | sc x => obtain ⟨vs, h1, h2⟩ := h; exact ⟨vs, RelAts.grow he hob hl h1, h2⟩
  | ptr id off => exact h
  | elem b ver ll ix el off ks =>
    simp only [SV.lt, Bool.and_eq_true, decide_eq_true_eq] at hl
    obtain ⟨⟨⟨hb, hll⟩, hix⟩, hel⟩ := hl
    obtain ⟨u, h1, b', o, n, cap, es, i, kk, e, h3, h4, h5, h6, h7, h8, h9, h10⟩ := h
    refine ⟨u, ?_, b', o, n, cap, es, i, kk, e, h3, by rw [Lf.ev_ext hll he]; exact h4, by rw [Lf.ev_ext hix he]; exact h5, h6, h7, h8, fun j hj => by rw [he _ (by omega)]; exact h9 j hj, h10⟩
    cases b with
    | ro l => simp only [RelBase, Lf.ev_ext hll he] at h1 ⊢; exact h1
    | own r =>
      intro ver' l' app e
      have hl' := hob _ _ e
      simp only [SO.lt] at hl'
      rw [Lf.ev_ext hll he, Lf.ev_ext hl' he]
      exact h1 _ _ _ e
    | inn r _ _ _ =>
      simp only [At.lt, Bool.and_eq_true] at hb
      simp only [RelBase, Lf.ev_ext hll he] at h1 ⊢
      exact ⟨h1.1, h1.2.1, RelPth.grow he hob hb.1 hb.2 h1.2.2⟩
    | _ => exact h1
  | tup cs => obtain ⟨vs, h1, h2⟩ := h; exact ⟨vs, h1, RelSCs.grow he hob hl h2⟩

end

theorem Rel.grow {c : Cx} {nt : Nat} {M : Mp} {env env' : List V} {A : FS} {a : Act} {w : World} (h : Rel c nt M env A a w) (hA : Scoped A env.length) (he : ∀ i, i < env.length → env'[i]? = env[i]?) : Rel c nt M env' A a w where
  size := h.size
  defs := h.defs
  slots := fun s gs sv e => by
    obtain ⟨h1, h2, h3⟩ := h.slots s gs sv e
    obtain ⟨g1, g2⟩ := hA.sl s gs sv e
    have := GH.ext_iff he g1
    exact ⟨h1, fun hg => RelSV.grow he hA.ob g2 (h2 (this.1 hg)), fun hg => h3 fun h => hg (this.2 h)⟩
  rows := fun r ver l app e => by
    have hl := hA.ob _ _ e
    simp only [SO.lt] at hl
    have := h.rows r ver l app e
    simp only [RowOk, Lf.ev_ext hl he]
    exact this
  boxes := fun id cells e => by
    obtain ⟨us, E, h1, h2, h3⟩ := h.boxes id cells e
    exact ⟨us, E, h1, RelAts.grow he hA.ob (hA.ob _ _ e) h2, h3⟩
  dBB := h.dBB
  dRR := h.dRR
  dBR := h.dBR
  keep := h.keep

end Go.Mw

namespace Go.Mw
open Go.RowKit

structure En where
  o : Oper
  gs : Gs
  out : Out
  fid : Nat
  nv : Nat

def En.nxt (e : En) : Nat := e.fid + e.nv + e.out.outs + 1

def En.up (A : FS) (e : En) : FS := ⟨upSl A.sl e.o.dst (e.out.sv.map fun s => (e.gs, s)), upOb A.ob e.out.obs⟩

def stD : FS → List En → (Nat → Bool) → FS
  | A, [], _ => A
  | A, e :: r, D => stD (if D 0 then e.up A else A) r (fun k => D (k + 1))

def setD (D : Nat → Bool) (i : Nat) : Nat → Bool := fun k => if k = i then true else D k

def En.apart (e e' : En) : Bool :=
  (match e.o.dst with
   | none => true
   | some d => e'.o.dst != some d) && e.out.obs.all fun x => e'.out.obs.all fun y => x.1 != y.1

theorem upOb_ne {ob : Nat → Option SO} : ∀ {l : List (Nat × Option SO)} {i : Nat}, (∀ x ∈ l, x.1 ≠ i) → upOb ob l i = ob i := by
  intro l
  induction l generalizing ob with
  | nil => intro i _; rfl
  | cons x l ih =>
    obtain ⟨j, y⟩ := x
    intro i h
    simp only [upOb]
    rw [ih fun x hx => h x (by simp [hx])]
    have := h (j, y) (by simp)
    simp [Ne.symm this]

theorem upOb_key {ob ob' : Nat → Option SO} : ∀ {l : List (Nat × Option SO)} {i : Nat}, ob i = ob' i → upOb ob l i = upOb ob' l i := by
  intro l
  induction l generalizing ob ob' with
  | nil => intro i h; exact h
  | cons x l ih =>
    obtain ⟨j, y⟩ := x
    intro i h
    simp only [upOb]
    refine ih ?_
    show (if i = j then y else ob i) = (if i = j then y else ob' i)
    rw [h]

theorem upOb_mem {ob ob' : Nat → Option SO} : ∀ {l : List (Nat × Option SO)} {i : Nat}, (∃ x ∈ l, x.1 = i) → upOb ob l i = upOb ob' l i := by
  intro l
  induction l generalizing ob ob' with
  | nil => rintro i ⟨x, hx, _⟩; cases hx
  | cons x l ih =>
    obtain ⟨j, y⟩ := x
    intro i h
    simp only [upOb]
    by_cases hij : i = j
    · exact upOb_key (by simp [hij])
    · refine ih ?_
      obtain ⟨x, hx, h1⟩ := h
      rcases List.mem_cons.1 hx with rfl | hx
      · exact absurd h1.symm hij
      · exact ⟨x, hx, h1⟩

theorem En.up_comm {e e' : En} (h : e.apart e' = true) (A : FS) : e'.up (e.up A) = e.up (e'.up A) := by
  simp only [En.apart, Bool.and_eq_true, List.all_eq_true, bne_iff_ne, ne_eq] at h
  obtain ⟨h1, h2⟩ := h
  simp only [En.up, FS.mk.injEq]
  constructor
  · cases hd : e.o.dst with
    | none => simp [upSl]
    | some d =>
      rw [hd] at h1
      cases hd' : e'.o.dst with
      | none => simp [upSl]
      | some d' =>
        simp only [hd', bne_iff_ne, ne_eq, Option.some.injEq] at h1
        funext s
        simp only [upSl]
        by_cases a : s = d
        · have : ¬ s = d' := fun b => h1 (b.symm.trans a)
          simp [a, Ne.symm h1]
        · simp [a]
  · funext i
    by_cases a : ∃ x ∈ e.out.obs, x.1 = i
    · have b : ∀ y ∈ e'.out.obs, y.1 ≠ i := fun y hy h => by
        obtain ⟨x, hx, hxi⟩ := a
        exact h2 x hx y hy (hxi.trans h.symm)
      rw [upOb_ne b]; exact upOb_mem a
    · have a' : ∀ x ∈ e.out.obs, x.1 ≠ i := fun x hx h => a ⟨x, hx, h⟩
      rw [upOb_ne a', upOb_key (upOb_ne a')]

theorem stD_up {e : En} : ∀ {r : List En} {A : FS} {D : Nat → Bool}, (∀ k e', r[k]? = some e' → D k = true → e.apart e' = true) → stD (e.up A) r D = e.up (stD A r D)
  | [], _, _, _ => rfl
  | e' :: r, A, D, h => by
    simp only [stD]
    by_cases hD : D 0 = true
    · rw [if_pos hD, if_pos hD, En.up_comm (h 0 e' rfl hD)]
      exact stD_up fun k e'' h1 h2 => h (k + 1) e'' h1 h2
    · rw [if_neg hD, if_neg hD]
      exact stD_up fun k e'' h1 h2 => h (k + 1) e'' h1 h2

theorem stD_congr : ∀ {es : List En} {A : FS} {D D' : Nat → Bool}, (∀ k, k < es.length → D k = D' k) → stD A es D = stD A es D'
  | [], _, _, _, _ => rfl
  | e :: r, A, D, D', h => by
    simp only [stD, h 0 (by simp)]
    exact stD_congr fun k hk => h (k + 1) (by simp; omega)

theorem stD_set : ∀ {es : List En} {A : FS} {D : Nat → Bool} {i : Nat} {e : En}, es[i]? = some e → D i = false → (∀ k e', i < k → es[k]? = some e' → D k = true → e.apart e' = true) →
    stD A es (setD D i) = e.up (stD A es D)
  | [], _, _, _, _, h, _, _ => by simp at h
  | e0 :: r, A, D, 0, e, h, hD, hk => by
    simp only [List.getElem?_cons_zero, Option.some.injEq] at h
    subst h
    simp only [stD, setD, if_true, hD, Bool.false_eq_true, if_false]
    exact stD_up fun k e' h1 h2 => hk (k + 1) e' (by omega) h1 h2
  | e0 :: r, A, D, i + 1, e, h, hD, hk => by
    simp only [List.getElem?_cons_succ] at h
    have h0 : setD D (i + 1) 0 = D 0 := by simp [setD]
    simp only [stD, h0]
    rw [stD_congr (D' := setD (fun k => D (k + 1)) i) (fun k _ => by simp [setD])]
    exact stD_set h hD fun k e' h1 h2 h3 => hk (k + 1) e' (by omega) h2 h3

theorem stD_sl {s : Nat} : ∀ {es : List En} {A A' : FS} {D D' : Nat → Bool}, A.sl s = A'.sl s → (∀ k e, es[k]? = some e → D k ≠ D' k → e.o.dst ≠ some s) → (stD A es D).sl s = (stD A' es D').sl s
  | [], _, _, _, _, h, _ => h
  | e :: r, A, A', D, D', h, hk => by
    simp only [stD]
    refine stD_sl ?_ fun k e' h1 h2 => hk (k + 1) e' h1 h2
    have hne : e.o.dst ≠ some s → ∀ B : FS, (e.up B).sl s = B.sl s := by
      intro hn B
      simp only [En.up]
      cases hd : e.o.dst with
      | none => rfl
      | some d => simp only [upSl]; rw [if_neg (fun h => hn (by rw [hd, h]))]
    by_cases hD : D 0 = D' 0
    · rw [hD]
      split
      · simp only [En.up]
        cases hd : e.o.dst with
        | none => exact h
        | some d =>
          simp only [upSl]
          split
          · rfl
          · exact h
      · exact h
    · have := hne (hk 0 e rfl hD)
      by_cases h1 : D 0 = true <;> by_cases h2 : D' 0 = true <;> simp only [h1, h2, if_true, this] <;> exact h

theorem stD_ob {i : Nat} : ∀ {es : List En} {A A' : FS} {D D' : Nat → Bool}, A.ob i = A'.ob i → (∀ k e, es[k]? = some e → D k ≠ D' k → ∀ x ∈ e.out.obs, x.1 ≠ i) → (stD A es D).ob i = (stD A' es D').ob i
  | [], _, _, _, _, h, _ => h
  | e :: r, A, A', D, D', h, hk => by
    simp only [stD]
    refine stD_ob ?_ fun k e' h1 h2 => hk (k + 1) e' h1 h2
    have hne : (∀ x ∈ e.out.obs, x.1 ≠ i) → ∀ B : FS, (e.up B).ob i = B.ob i := fun hn B => upOb_ne hn
    by_cases hD : D 0 = D' 0
    · rw [hD]
      split
      · exact upOb_key h
      · exact h
    · have := hne (hk 0 e rfl hD)
      by_cases h1 : D 0 = true <;> by_cases h2 : D' 0 = true <;> simp only [h1, h2, if_true, this] <;> exact h

theorem stD_none : ∀ {es : List En} {A : FS} {D : Nat → Bool}, (∀ k, k < es.length → D k = false) → stD A es D = A
  | [], _, _, _ => rfl
  | e :: r, A, D, h => by
    simp only [stD, h 0 (by simp), Bool.false_eq_true, if_false]
    exact stD_none fun k hk => h (k + 1) (by simp; omega)

theorem stD_take : ∀ {es : List En} {A : FS} {i : Nat}, stD A es (fun k => decide (k < i)) = (es.take i).foldl En.up A
  | [], _, _ => by simp [stD]
  | e :: r, A, 0 => by simp [stD, stD_none]
  | e :: r, A, i + 1 => by
    simp only [stD, Nat.zero_lt_succ, decide_true, if_true, List.take_succ_cons, List.foldl_cons]
    rw [stD_congr (D' := fun k => decide (k < i)) (fun k _ => by simp)]
    exact stD_take


def At.ids : At → List Nat
  | .own r => [r]
  | .inn r _ _ _ => [r]
  | _ => []

def atsIds : List At → List Nat
  | [] => []
  | a :: as => a.ids ++ atsIds as

def SV.ids : SV → List Nat
  | .sc c => atsIds c.cs
  | .ptr id _ => [id]
  | .elem b _ _ _ _ _ _ => b.ids
  | .tup cs => cs.flatMap fun c => atsIds c.cs

def SO.ids : SO → List Nat
  | .box cells => atsIds cells
  | .row _ _ _ => []

def obsIds : List (Nat × Option SO) → List Nat
  | [] => []
  | (i, x) :: r => i :: ((x.map SO.ids).getD [] ++ obsIds r)

def Out.ids (o : Out) : List Nat := (o.sv.map SV.ids).getD [] ++ obsIds o.obs

theorem At.men_ids {a : At} {x : Nat} (h : a.men x) : x ∈ a.ids := by
  cases a <;> simp_all [At.men, At.ids]

theorem atsMen_ids : ∀ {as : List At} {x : Nat}, atsMen as x → x ∈ atsIds as
  | [], _, ⟨_, h, _⟩ => by cases h
  | a :: as, x, ⟨b, hb, hx⟩ => by
    simp only [atsIds, List.mem_append]
    rcases List.mem_cons.1 hb with rfl | hb
    · exact .inl (At.men_ids hx)
    · exact .inr (atsMen_ids ⟨b, hb, hx⟩)

theorem SV.men_ids {s : SV} {x : Nat} (h : s.men x) : x ∈ s.ids := by
  cases s with
  | sc c => exact atsMen_ids h
  | ptr id off => simp only [SV.men] at h; simp [SV.ids, h]
  | elem b _ _ _ _ _ _ => exact At.men_ids h
  | tup cs =>
    obtain ⟨c, hc, hx⟩ := h
    simp only [SV.ids, List.mem_flatMap]
    exact ⟨c, hc, atsMen_ids hx⟩

theorem obsIds_key : ∀ {l : List (Nat × Option SO)} {x : Nat × Option SO}, x ∈ l → x.1 ∈ obsIds l
  | [], _, h => by cases h
  | (i, y) :: r, x, h => by
    simp only [obsIds, List.mem_cons, List.mem_append]
    rcases List.mem_cons.1 h with rfl | h
    · exact .inl rfl
    · exact .inr (.inr (obsIds_key h))

theorem obsIds_box : ∀ {l : List (Nat × Option SO)} {i : Nat} {cells : List At} {x : Nat}, (i, some (SO.box cells)) ∈ l → x ∈ atsIds cells → x ∈ obsIds l
  | [], _, _, _, h, _ => by cases h
  | (i, y) :: r, j, cells, x, h, hx => by
    simp only [obsIds, List.mem_cons, List.mem_append]
    rcases List.mem_cons.1 h with h | h
    · cases h; exact .inr (.inl (by simpa [SO.ids] using hx))
    · exact .inr (.inr (obsIds_box h hx))

theorem upOb_get {ob : Nat → Option SO} : ∀ {l : List (Nat × Option SO)} {i : Nat}, upOb ob l i = ob i ∨ ∃ y, (i, y) ∈ l ∧ upOb ob l i = y := by
  intro l
  induction l generalizing ob with
  | nil => intro i; exact .inl rfl
  | cons x l ih =>
    obtain ⟨j, y⟩ := x
    intro i
    simp only [upOb]
    rcases @ih (fun k => if k = j then y else ob k) i with h | ⟨z, h1, h2⟩
    · rw [h]
      by_cases hij : i = j
      · subst hij; exact .inr ⟨y, by simp, by simp⟩
      · exact .inl (by simp [hij])
    · exact .inr ⟨z, by simp [h1], h2⟩

theorem Fresh.up {A : FS} {fr : Nat → Prop} (h : Fresh A fr) {e : En} (he : ∀ x ∈ e.out.ids, ¬ fr x) : Fresh (e.up A) fr := by
  refine ⟨fun s gs sv hs x hx => ?_, fun id cells hb x hx => ?_, fun x hx => ?_⟩
  · have : A.sl s = some (gs, sv) ∨ e.out.sv = some sv := by
      simp only [En.up] at hs
      cases hd : e.o.dst with
      | none => rw [hd] at hs; exact .inl hs
      | some d =>
        rw [hd] at hs
        simp only [upSl] at hs
        split at hs
        · simp only [Option.map_eq_some_iff, Prod.mk.injEq] at hs
          obtain ⟨s', h1, _, h2⟩ := hs
          exact .inr (by rw [h1, h2])
        · exact .inl hs
    rcases this with h1 | h1
    · exact h.1 s gs sv h1 x hx
    · exact he x (by simp only [Out.ids, h1, Option.map_some, Option.getD_some, List.mem_append]; exact .inl (SV.men_ids hx))
  · simp only [En.up] at hb
    rcases @upOb_get A.ob e.out.obs id with h1 | ⟨y, h1, h2⟩
    · rw [h1] at hb; exact h.2.1 id cells hb x hx
    · rw [h2] at hb; subst hb
      exact he x (by simp only [Out.ids, List.mem_append]; exact .inr (obsIds_box h1 (atsMen_ids hx)))
  · simp only [En.up]
    rw [upOb_ne fun y hy hyx => he x (by simp only [Out.ids, List.mem_append]; exact .inr (hyx ▸ obsIds_key hy)) hx]
    exact h.2.2 x hx

theorem Fresh.stD {fr : Nat → Prop} : ∀ {es : List En} {A : FS} {D : Nat → Bool}, Fresh A fr → (∀ k e, es[k]? = some e → D k = true → ∀ x ∈ e.out.ids, ¬ fr x) → Fresh (Mw.stD A es D) fr
  | [], _, _, h, _ => h
  | e :: r, A, D, h, hk => by
    simp only [Mw.stD]
    refine Fresh.stD ?_ fun k e' h1 h2 => hk (k + 1) e' h1 h2
    split
    · rename_i hD; exact h.up (hk 0 e rfl hD)
    · exact h


def skipOk (fid nxt nv outs : Nat) : List (Nat × Option SO) → Bool
  | [] => true
  | (_, none) :: r => skipOk fid nxt nv outs r
  | (id, some (.row 0 (.v j) true)) :: r => (fid ≤ id && id < nxt && nv ≤ j && j < nv + outs) && !(r.any fun x => x.1 == id) && skipOk fid nxt nv outs r
  | _ => false

theorem skipOk_none {fid nxt nv outs id : Nat} {r : List (Nat × Option SO)} (h : skipOk fid nxt nv outs ((id, none) :: r) = true) : skipOk fid nxt nv outs r = true := by
  simpa [skipOk] using h

theorem Rel.skip0 {c : Cx} {nt : Nat} {env : List V} {a : Act} {w : World} {gs : Gs} {dst : Option Nat} {fid nxt nv outs : Nat} (hd : ∀ d, dst = some d → d < nt) (hg : ¬ GH env gs)
    (hdef : ∀ j, j < outs → env[nv + j]? = some (.list [] [])) (sv : Option SV) : ∀ {obs : List (Nat × Option SO)} {M : Mp} {A : FS}, skipOk fid nxt nv outs obs = true → Fresh A (fun x => ∃ y, (x, some y) ∈ obs) →
    Rel c nt M env A a w → ∃ M', Rel c nt M' env ⟨upSl A.sl dst (sv.map fun s => (gs, s)), upOb A.ob obs⟩ (a.put dst undef) w := by
  have base : ∀ {M : Mp} {A : FS}, Rel c nt M env A a w → ∃ M', Rel c nt M' env ⟨upSl A.sl dst (sv.map fun s => (gs, s)), A.ob⟩ (a.put dst undef) w := by
    intro M A hR
    refine ⟨M, ?_⟩
    cases sv with
    | some s => exact hR.put hd fun _ => ⟨fun h => absurd h hg, fun _ => rfl⟩
    | none =>
      have := hR.put (gs := gs) (sv := .sc ⟨false, []⟩) hd (v := undef) fun _ => ⟨fun h => absurd h hg, fun _ => rfl⟩
      refine this.sub (fun s x h => ?_) fun _ _ h => h
      cases dst with
      | none => exact h
      | some d =>
        simp only [upSl, Option.map_none] at h ⊢
        split at h
        · cases h
        · rename_i hne; rw [if_neg hne]; exact h
  intro obs
  induction obs with
  | nil => exact fun _ _ hR => base hR
  | cons x obs ih =>
    obtain ⟨id, y⟩ := x
    intro M A hs hf hR
    have hf' : Fresh A (fun x => ∃ y, (x, some y) ∈ obs) := hf.mono fun x ⟨z, hz⟩ => ⟨z, List.mem_cons_of_mem _ hz⟩
    cases y with
    | none =>
      have hR' := hR.sub (A' := ⟨A.sl, fun j => if j = id then none else A.ob j⟩) (fun _ _ h => h) (fun i x h => by
        simp only at h
        split at h
        · cases h
        · exact h)
      refine ih (A := ⟨A.sl, fun j => if j = id then none else A.ob j⟩) (skipOk_none hs) ⟨hf'.1, fun i cells h => ?_, fun x hx => ?_⟩ hR'
      · simp only at h
        split at h
        · cases h
        · exact hf'.2.1 i cells h
      · simp only
        split
        · rfl
        · exact hf'.2.2 x hx
    | some z =>
      match z, hs with
      | .row 0 (.v j) true, hs =>
        simp only [skipOk, Bool.and_eq_true, decide_eq_true_eq, Bool.not_eq_true'] at hs
        obtain ⟨⟨⟨⟨⟨h1, h2⟩, h3⟩, h4⟩, hni⟩, hs⟩ := hs
        replace hf : Fresh A fun x => ∃ y, (x, some y) ∈ (id, some (SO.row 0 (.v j) true)) :: obs := hf
        have hev : (Lf.v j).ev env = .list [] [] := by
          have := hdef (j - nv) (by omega)
          rw [show nv + (j - nv) = j by omega] at this
          simp [Lf.ev, this]
        have hin : ∃ y, (id, some y) ∈ (id, some (SO.row 0 (.v j) true)) :: obs := ⟨_, List.mem_cons_self⟩
        have hf1 : Fresh A (· = id) := ⟨fun s gs sv h x hx e => hf.1 s gs sv h x hx (by subst e; exact hin), fun i cells h x hx e => hf.2.1 i cells h x hx (by subst e; exact hin), fun x e => hf.2.2 x (by subst e; exact hin)⟩
        have hrep : Rep w [.slice none 0 0] [(Lf.v j).ev env] [] := by rw [hev]; exact .atom (.nil _) .nil
        obtain ⟨hR', _⟩ := hR.add_row hf1 hrep .nil (fun b hb => by cases hb) ⟨.inl rfl, Inn.nil⟩ (fun b hb => by cases hb)
        have hne : ∀ x, (∃ y, (x, some y) ∈ obs) → x ≠ id := by
          rintro x ⟨y, hy⟩ e
          subst e
          have : (obs.any fun q => q.1 == x) = true := List.any_eq_true.2 ⟨_, hy, by simp⟩
          rw [hni] at this; cases this
        have hup : ∀ i, i ≠ id → upOb A.ob [(id, some (SO.row 0 (.v j) true))] i = A.ob i := fun i hi => by simp [upOb, hi]
        refine ih (A := ⟨A.sl, upOb A.ob [(id, some (SO.row 0 (.v j) true))]⟩) hs ⟨hf'.1, fun i cells h => ?_, fun x hx => ?_⟩ hR'
        · have hi : i ≠ id := by
            rintro rfl
            simp [upOb] at h
          have h2 := h
          simp only at h2
          rw [hup i hi] at h2
          exact hf'.2.1 i cells h2
        · simp only
          rw [hup x (hne x hx)]
          exact hf'.2.2 x hx
      | .row 0 (.v _) false, hs => simp [skipOk] at hs
      | .row 0 (.k _) _, hs => simp [skipOk] at hs
      | .row (_ + 1) _ _, hs => simp [skipOk] at hs
      | .box _, hs => simp [skipOk] at hs

theorem skipOk_ids {fid nxt nv outs : Nat} : ∀ {obs : List (Nat × Option SO)}, skipOk fid nxt nv outs obs = true → ∀ x, (∃ y, (x, some y) ∈ obs) → fid ≤ x ∧ x < nxt
  | [], _, x, ⟨y, h⟩ => by cases h
  | (id, none) :: r, hs, x, ⟨y, h⟩ => by
    rcases List.mem_cons.1 h with h | h
    · cases h
    · exact skipOk_ids (skipOk_none hs) x ⟨y, h⟩
  | (id, some z) :: r, hs, x, ⟨y, h⟩ => by
    match z, hs with
    | .row 0 (.v j) true, hs =>
      simp only [skipOk, Bool.and_eq_true, decide_eq_true_eq] at hs
      rcases List.mem_cons.1 h with h | h
      · cases h; exact hs.1.1.1.1
      · exact skipOk_ids hs.2 x ⟨y, h⟩
    | .row 0 (.v _) false, hs => simp [skipOk] at hs
    | .row 0 (.k _) _, hs => simp [skipOk] at hs
    | .row (_ + 1) _ _, hs => simp [skipOk] at hs
    | .box _, hs => simp [skipOk] at hs

theorem Rel.skip {c : Cx} {nt : Nat} {env : List V} {a : Act} {w : World} {gs : Gs} {dst : Option Nat} {fid nxt nv outs : Nat} (hd : ∀ d, dst = some d → d < nt) (hg : ¬ GH env gs)
    (hdef : ∀ j, j < outs → env[nv + j]? = some (.list [] [])) (sv : Option SV) {obs : List (Nat × Option SO)} {M : Mp} {A : FS} (hs : skipOk fid nxt nv outs obs = true) (hf : Fresh A (fun x => fid ≤ x ∧ x < nxt))
    (hR : Rel c nt M env A a w) : ∃ M', Rel c nt M' env ⟨upSl A.sl dst (sv.map fun s => (gs, s)), upOb A.ob obs⟩ (a.put dst undef) w :=
  Rel.skip0 hd hg hdef sv hs (hf.mono (skipOk_ids hs)) hR

end Go.Mw

namespace Go.Mw
open Go.RowKit

structure In where
  gs : Gs
  p : Prim
  ls : List Lf
  outs : Nat

def gsOk (env : List V) : Gs → Bool
  | [] => true
  | p :: gs => (match p.1.ev env with
    | .bool b => b == p.2
    | _ => false) && gsOk env gs

theorem gsOk_iff {env : List V} : ∀ {gs : Gs}, gsOk env gs = true ↔ GH env gs
  | [] => by simp [gsOk, GH]
  | p :: gs => by
    simp only [gsOk, Bool.and_eq_true, gsOk_iff (gs := gs)]
    constructor
    · rintro ⟨h1, h2⟩ q hq
      rcases List.mem_cons.1 hq with rfl | hq
      · split at h1
        · rename_i b e; rw [e]; simp only [beq_iff_eq] at h1; rw [h1]
        · cases h1
      · exact h2 q hq
    · intro h
      refine ⟨?_, fun q hq => h q (by simp [hq])⟩
      rw [h p (by simp)]; simp

def guardOf (ops : Array Oper) (A : FS) (o : Oper) : Option Gs :=
  match o.guard with
  | none => some []
  | some (j, want) =>
    match (ops[j]?).bind (·.dst) with
    | some d =>
      match A.sl d with
      | some (gs, sv) =>
        match sv.scl with
        | some l => some (gs ++ [(l, want)])
        | none => none
      | none => none
    | none => none

def insOk (nv : Nat) (o : Out) : Bool :=
  match o.ins with
  | some (_, ls) => ls.all (Lf.lt nv)
  | none => o.outs == 0

def svLt (n : Nat) : Option SV → Bool
  | some s => s.lt n
  | none => true

def obsLt (n : Nat) : List (Nat × Option SO) → Bool
  | [] => true
  | (_, some x) :: r => x.lt n && obsLt n r
  | (_, none) :: r => obsLt n r

def En.ok (nt : Nat) (e : En) : Bool :=
  (match e.o.dst with
   | some d => d < nt
   | none => true) && e.out.ids.all (· < e.nxt) && insOk e.nv e.out && gsLt e.nv e.gs && svLt (e.nv + e.out.outs) e.out.sv && obsLt (e.nv + e.out.outs) e.out.obs &&
  (e.o.guard.isNone || skipOk e.fid e.nxt e.nv e.out.outs e.out.obs)

def SeqOk (P : Program) (sg : List (Nat × Sig)) (nt : Nat) (ops : Array Oper) : FS → Nat → Nat → List En → Prop
  | _, _, _, [] => True
  | A, fid, nv, e :: r => e.fid = fid ∧ e.nv = nv ∧ guardOf ops A e.o = some e.gs ∧ core P sg (look A.sl e.gs) A.ob fid nv e.o = some e.out ∧ e.ok nt = true ∧
    SeqOk P sg nt ops (e.up A) e.nxt (nv + e.out.outs) r

section
variable {P : Program} {sg : List (Nat × Sig)} {nt : Nat} {ops : Array Oper}

theorem SeqOk.get : ∀ {es : List En} {A : FS} {fid nv i : Nat} {e : En}, SeqOk P sg nt ops A fid nv es → es[i]? = some e →
    guardOf ops (stD A es (fun k => decide (k < i))) e.o = some e.gs ∧ core P sg (look (stD A es (fun k => decide (k < i))).sl e.gs) (stD A es (fun k => decide (k < i))).ob e.fid e.nv e.o = some e.out ∧ e.ok nt = true ∧
      fid ≤ e.fid ∧ nv ≤ e.nv ∧ ∀ k e', k < i → es[k]? = some e' → e'.nxt ≤ e.fid
  | [], _, _, _, _, _, _, h => by simp at h
  | e0 :: r, A, fid, nv, 0, e, h, he => by
    simp only [List.getElem?_cons_zero, Option.some.injEq] at he
    subst he
    obtain ⟨h1, h2, h3, h4, h5, h6⟩ := h
    rw [stD_none (by simp)]
    exact ⟨h3, h1 ▸ h2 ▸ h4, h5, by omega, by omega, fun k _ hk => by omega⟩
  | e0 :: r, A, fid, nv, i + 1, e, h, he => by
    simp only [List.getElem?_cons_succ] at he
    obtain ⟨h1, h2, h3, h4, h5, h6⟩ := h
    have := SeqOk.get h6 he
    have e1 : stD A (e0 :: r) (fun k => decide (k < i + 1)) = stD (e0.up A) r (fun k => decide (k < i)) := by
      simp only [stD, Nat.zero_lt_succ, decide_true, if_true]
      exact stD_congr fun k _ => by simp
    rw [e1]
    obtain ⟨g1, g2, g3, g4, g5, g6⟩ := this
    refine ⟨g1, g2, g3, by simp only [En.nxt] at g4; omega, by omega, fun k e' hk he' => ?_⟩
    cases k with
    | zero => simp only [List.getElem?_cons_zero, Option.some.injEq] at he'; subst he'; exact g4
    | succ k => exact g6 k e' (by omega) (by simpa using he')

def others (es : List En) (prec : Nat → Nat → Bool) (i : Nat) : List En :=
  (List.range es.length).filterMap fun k => if k != i && !prec k i && !prec i k then es[k]? else none

def cut (A : FS) (os : List En) : FS :=
  ⟨fun s => if os.any (fun e => e.o.dst == some s) then none else A.sl s, fun i => if os.any (fun e => e.out.obs.any fun x => x.1 == i) then none else A.ob i⟩

def AnyOk (P : Program) (sg : List (Nat × Sig)) (ops : Array Oper) (A : FS) (es : List En) (prec : Nat → Nat → Bool) : Prop :=
  ∀ (i : Nat) (e : En), es[i]? = some e → (∀ e' ∈ others es prec i, e.apart e' = true ∧ ∀ x ∈ e'.out.ids, ¬ (e.fid ≤ x ∧ x < e.nxt)) ∧
    (∃ y, guardOf ops (cut (stD A es (fun k => decide (k < i))) (others es prec i)) e.o = some y) ∧
    ∃ y, core P sg (look (cut (stD A es (fun k => decide (k < i))) (others es prec i)).sl e.gs) (cut (stD A es (fun k => decide (k < i))) (others es prec i)).ob e.fid e.nv e.o = some y

theorem guardOf_mono {A A' : FS} (h : ∀ s x, A.sl s = some x → A'.sl s = some x) {o : Oper} {gs : Gs} (hg : guardOf ops A o = some gs) : guardOf ops A' o = some gs := by
  unfold guardOf at hg ⊢
  split at hg
  · exact hg
  · split at hg
    · split at hg
      · rename_i e
        simp only [h _ _ e]
        exact hg
      · cases hg
    · cases hg

theorem look_mono {sl sl' : Nat → Option (Gs × SV)} (h : ∀ s x, sl s = some x → sl' s = some x) {gs ex : Gs} {x : Operand} {sv : SV} (hl : look sl gs ex x = some sv) : look sl' gs ex x = some sv := by
  unfold look at hl ⊢
  split at hl
  · exact hl
  · split at hl
    · rename_i e
      simp only [h _ _ e]
      exact hl
    · cases hl
  · exact hl
  · cases hl

variable {c : Cx} {env : List V} {a : Act} {w : World}

theorem wanted_iff {M : Mp} {A : FS} (hR : Rel c nt M env A a w) {o : Oper} {gs : Gs} (hg : guardOf ops A o = some gs) : Region.wanted o (yielded ops a.tmps) = true ↔ GH env gs := by
  unfold guardOf at hg
  unfold Region.wanted
  split at hg
  · rename_i h
    simp only [h, Option.some.injEq] at hg ⊢
    subst hg
    simp [GH]
  · rename_i j want h
    simp only [h]
    split at hg
    · rename_i d hd
      split at hg
      · rename_i gs' sv hs
        split at hg
        · rename_i l hl
          simp only [Option.some.injEq] at hg
          subst hg
          obtain ⟨h1, h2, h3⟩ := hR.slots d gs' sv hs
          have hsz : d < a.tmps.size := by rw [hR.size]; exact h1
          have hv : a.tmps[d]? = some (a.tmps.getD d undef) := by simp [hsz]
          have hy : yielded ops a.tmps j = match a.tmps.getD d undef with
              | .bool b => some b
              | _ => none := by
            unfold yielded
            rw [hd, Option.bind_some, hv]
            split
            · rename_i b e; simp only [Option.some.injEq] at e; rw [e]
            · rename_i hne
              split
              · rename_i b e; exact absurd (by rw [e]) (hne b)
              · rfl
          rw [hy]
          by_cases hgg : GH env gs'
          · have hr := (h2 hgg).scl hl
            have hat := hr.atom_of
            have hiff : GH env (gs' ++ [(l, want)]) ↔ l.ev env = .bool want := ⟨fun h => h (l, want) (by simp), fun h => hgg.snoc h⟩
            rw [hiff]
            generalize a.tmps.getD d undef = v at hat ⊢
            generalize l.ev env = dd at hat ⊢
            cases hat <;> simp
          · rw [h3 hgg]
            have : ¬ GH env (gs' ++ [(l, want)]) := fun h => hgg fun p hp => h p (by simp [hp])
            simp only [this, iff_false]
            simp [undef]
        · cases hg
      · cases hg
    · cases hg

def EnvOk (env : List V) (es : List En) : Prop :=
  ∀ (i : Nat) (e : En), es[i]? = some e → (GH env e.gs → Holds env e.nv e.out) ∧ (¬ GH env e.gs → ∀ j, j < e.out.outs → env[e.nv + j]? = some (.list [] []))

theorem mem_others {es : List En} {prec : Nat → Nat → Bool} {i k : Nat} {e : En} (h : es[k]? = some e) (h1 : k ≠ i) (h2 : prec k i = false) (h3 : prec i k = false) : e ∈ others es prec i := by
  simp only [others, List.mem_filterMap, List.mem_range]
  exact ⟨k, (List.getElem?_eq_some_iff.1 h).1, by simp [h1, h2, h3, h]⟩

theorem region_step {Q : Exit → Act → World → Prop} (hsg : ∀ f s, sg.lookup f = some s → Contract c.G P f s) {A : FS} {fid nv : Nat} {es : List En} {prec : Nat → Nat → Bool} (hops : ops.toList = es.map (·.o))
    (hseq : SeqOk P sg nt ops A fid nv es) (hany : AnyOk P sg ops A es prec) (hlt : ∀ k i, prec k i = true → k < i) (hA : Fresh A (fun x => fid ≤ x)) (hpb : ∀ x, npK ≤ x → c.parB x = none ∧ c.par x = none) (hnp : npK ≤ fid) (henv : EnvOk env es)
    {D : Nat → Bool} {i : Nat} {M : Mp} (hR : Rel c nt M env (stD A es D) a w) (hi : i < ops.size) (hDi : D i = false) (hpre : ∀ k, prec k i = true → D k = true) (hpost : ∀ k, D k = true → prec i k = false)
    {K : Act → World → Prop} (hK : ∀ M' a' w', Rel c nt M' env (stD A es (setD D i)) a' w' → K a' w') : wpOp P ops Q i K a w := by
  have hlen : es.length = ops.size := by rw [← Array.length_toList, hops, List.length_map]
  obtain ⟨e, he⟩ : ∃ e, es[i]? = some e := ⟨es[i]'(by omega), by simp [hlen, hi]⟩
  have ho : ops[i]? = some e.o := by
    rw [← Array.getElem?_toList, hops, List.getElem?_map, he]; rfl
  obtain ⟨s1, s2, s3, s4, s5, s6⟩ := hseq.get he
  obtain ⟨a1, ⟨y1, a2⟩, ⟨y2, a3⟩⟩ := hany i e he
  -- what may be done, though it is not ordered, or was to be done, and is not
  have hoth : ∀ k e', es[k]? = some e' → D k ≠ decide (k < i) → e' ∈ others es prec i := by
    intro k e' hk hne
    have hki : k ≠ i := by rintro rfl; simp [hDi] at hne
    refine mem_others hk hki ?_ ?_
    · cases h : prec k i with
      | false => rfl
      | true => have := hlt _ _ h; have := hpre _ h; simp_all
    · cases h : prec i k with
      | false => rfl
      | true =>
        have h1 := hlt _ _ h
        cases h2 : D k with
        | false => rw [h2] at hne; exact absurd (by simp; omega) hne
        | true => rw [hpost k h2] at h; cases h
  have hsl : ∀ s x, (cut (stD A es (fun k => decide (k < i))) (others es prec i)).sl s = some x → (stD A es D).sl s = some x := by
    intro s x h
    simp only [cut] at h
    split at h
    · cases h
    · rename_i hn
      rw [← h]
      refine stD_sl rfl fun k e' hk hne hd => hn ?_
      exact List.any_eq_true.2 ⟨e', hoth k e' hk hne, by simp [hd]⟩
  have hob : ∀ j x, (cut (stD A es (fun k => decide (k < i))) (others es prec i)).ob j = some x → (stD A es D).ob j = some x := by
    intro j x h
    simp only [cut] at h
    split at h
    · cases h
    · rename_i hn
      rw [← h]
      refine stD_ob rfl fun k e' hk hne y hy hd => hn ?_
      exact List.any_eq_true.2 ⟨e', hoth k e' hk hne, List.any_eq_true.2 ⟨y, hy, by simp [hd]⟩⟩
  have hsl' : ∀ s x, (cut (stD A es (fun k => decide (k < i))) (others es prec i)).sl s = some x → (stD A es (fun k => decide (k < i))).sl s = some x := fun s x h => by
    simp only [cut] at h; split at h
    · cases h
    · exact h
  have hob' : ∀ s x, (cut (stD A es (fun k => decide (k < i))) (others es prec i)).ob s = some x → (stD A es (fun k => decide (k < i))).ob s = some x := fun s x h => by
    simp only [cut] at h; split at h
    · cases h
    · exact h
  have hy1 : y1 = e.gs := by have := guardOf_mono hsl' a2; rw [s1] at this; exact (Option.some.inj this).symm
  have hy2 : y2 = e.out := by
    have := core_mono (ρ' := look (stD A es (fun k => decide (k < i))).sl e.gs) (fun ex x s => look_mono hsl') hob' a3
    rw [s2] at this; exact (Option.some.inj this).symm
  subst hy1 hy2
  have hguard := guardOf_mono hsl a2
  have hcore := core_mono (ρ' := look (stD A es D).sl e.gs) (fun ex x s => look_mono hsl) hob a3
  have hup : stD A es (setD D i) = e.up (stD A es D) := by
    refine stD_set he hDi fun k e' hik hk hD => ?_
    exact (a1 e' (hoth k e' hk (by rw [hD]; simp; omega))).1
  have hfresh : Fresh (stD A es D) (fun x => e.fid ≤ x ∧ x < e.nxt) := by
    refine Fresh.stD (hA.mono fun x hx => Nat.le_trans s4 hx.1) fun k e' hk hD x hx hq => ?_
    rcases Nat.lt_trichotomy k i with h | rfl | h
    · have := s6 k e' h hk
      have ok := (hseq.get hk).2.2.1
      simp only [En.ok, Bool.and_eq_true, List.all_eq_true, decide_eq_true_eq] at ok
      have := ok.1.1.1.1.1.2 x hx
      omega
    · rw [hDi] at hD; cases hD
    · exact (a1 e' (hoth k e' hk (by rw [hD]; simp; omega))).2 x hx hq
  simp only [En.ok, Bool.and_eq_true, List.all_eq_true, decide_eq_true_eq] at s3
  have hd : ∀ d, e.o.dst = some d → d < nt := by
    intro d hd
    have := s3.1.1.1.1.1.1
    rw [hd] at this
    simpa using this
  have hw := wanted_iff hR hguard
  unfold wpOp
  simp only [ho]
  by_cases hg : GH env e.gs
  · rw [if_pos (hw.2 hg)]
    refine .inl (op_sound hsg hR hg hd hfresh hpb (Nat.le_trans hnp s4) ((henv i e he).1 hg) ?_ hcore)
    intro M' w' v hR'
    refine hK M' _ _ ?_
    rw [hup]; exact hR'
  · rw [if_neg (fun h => hg (hw.1 h))]
    have hsk : skipOk e.fid e.nxt e.nv e.out.outs e.out.obs = true := by
      have := s3.2
      simp only [Bool.or_eq_true] at this
      rcases this with h | h
      · exfalso
        simp only [Option.isNone_iff_eq_none] at h
        simp only [guardOf, h, Option.some.injEq] at s1
        exact hg (by rw [← s1]; simp [GH])
      · exact h
    obtain ⟨M', hR'⟩ := hR.skip hd hg ((henv i e he).2 hg) e.out.sv hsk hfresh
    refine hK M' _ _ ?_
    rw [hup]; exact hR'

end

end Go.Mw

namespace Go.Mw
open Go.RowKit


def In.run (env : List V) (i : In) : Option (List V) :=
  if gsOk env i.gs then
    match i.p.run (i.ls.map (Lf.ev env)) with
    | some vs => if vs.length == i.outs then some vs else none
    | none => none
  else some (List.replicate i.outs (.list [] []))

def runIns : List In → List V → Option (List V)
  | [], env => some env
  | i :: r, env =>
    match i.run env with
    | some vs => runIns r (env ++ vs)
    | none => none

def En.ins (e : En) : Option In := e.out.ins.map fun p => ⟨e.gs, p.1, p.2, e.out.outs⟩

def outSum (es : List En) : Nat := (es.map fun e => e.out.outs).sum

theorem ev_map_eq {env env' : List V} {ls : List Lf} (hl : ls.all (Lf.lt env.length) = true) (he : ∀ i, i < env.length → env'[i]? = env[i]?) : ls.map (Lf.ev env') = ls.map (Lf.ev env) := by
  refine List.map_congr_left fun l h => Lf.ev_ext (List.all_eq_true.1 hl l h) he

theorem envOk_of_run {P : Program} {sg : List (Nat × Sig)} {nt : Nat} {ops : Array Oper} : ∀ {es : List En} {A : FS} {fid nv : Nat} {env0 env : List V}, SeqOk P sg nt ops A fid nv es → env0.length = nv →
    runIns (es.filterMap En.ins) env0 = some env → EnvOk env es ∧ (∀ i, i < nv → env[i]? = env0[i]?) ∧ env.length = nv + outSum es
  | [], A, fid, nv, env0, env, _, hl, h => by
    simp only [List.filterMap_nil, runIns, Option.some.injEq] at h
    subst h
    exact ⟨fun i e h => by simp at h, fun _ _ => rfl, by simp [outSum, hl]⟩
  | e :: r, A, fid, nv, env0, env, hs, hl, h => by
    obtain ⟨h1, h2, h3, h4, h5, h6⟩ := hs
    simp only [En.ok, Bool.and_eq_true] at h5
    obtain ⟨⟨⟨⟨⟨⟨o1, o2⟩, o3⟩, o4⟩, o5⟩, o6⟩, o7⟩ := h5
    simp only [insOk] at o3
    cases hi : e.out.ins with
    | none =>
      have : e.ins = none := by simp [En.ins, hi]
      rw [List.filterMap_cons_none this] at h
      rw [hi] at o3
      simp only [beq_iff_eq] at o3
      rw [o3] at h6
      obtain ⟨g1, g2, g3⟩ := envOk_of_run h6 hl h
      refine ⟨fun i e' he => ?_, g2, by simp only [outSum, List.map_cons, List.sum_cons, o3] at g3 ⊢; omega⟩
      cases i with
      | zero =>
        simp only [List.getElem?_cons_zero, Option.some.injEq] at he
        subst he
        exact ⟨fun _ => by simp [Holds, hi], fun _ j hj => by omega⟩
      | succ i => exact g1 i e' (by simpa using he)
    | some pl =>
      obtain ⟨p, ls⟩ := pl
      have : e.ins = some ⟨e.gs, p, ls, e.out.outs⟩ := by simp [En.ins, hi]
      rw [List.filterMap_cons_some this] at h
      rw [hi] at o3
      simp only [runIns] at h
      split at h
      · rename_i vs hv
        have hvl : vs.length = e.out.outs := by
          simp only [In.run] at hv
          split at hv
          · split at hv
            · split at hv
              · rename_i hq; simp only [Option.some.injEq] at hv; subst hv; simpa using hq
              · cases hv
            · cases hv
          · simp only [Option.some.injEq] at hv; subst hv; simp
        have hl' : (env0 ++ vs).length = nv + e.out.outs := by simp [hl, hvl]
        obtain ⟨g1, g2, g3⟩ := envOk_of_run h6 hl' h
        have hold : ∀ i, i < env0.length → env[i]? = env0[i]? := fun i hi => by
          rw [g2 i (by omega), List.getElem?_append_left hi]
        have hnew : ∀ j, j < e.out.outs → env[e.nv + j]? = vs[j]? := fun j hj => by
          rw [g2 _ (by omega), List.getElem?_append_right (by omega)]
          congr 1; omega
        refine ⟨fun i e' he => ?_, fun i hi => hold i (by omega), by simp only [outSum, List.map_cons, List.sum_cons] at g3 ⊢; omega⟩
        cases i with
        | zero =>
          simp only [List.getElem?_cons_zero, Option.some.injEq] at he
          subst he
          have hg : GH env e.gs ↔ GH env0 e.gs := GH.ext_iff hold (by rw [hl, ← h2]; exact o4)
          rw [hg]
          have hls : ls.map (Lf.ev env) = ls.map (Lf.ev env0) := ev_map_eq (by rw [hl, ← h2]; exact o3) hold
          refine ⟨fun hgh => ?_, fun hgh => ?_⟩
          · simp only [In.run, gsOk_iff.2 hgh, if_true] at hv
            split at hv
            · rename_i vs' hrun
              split at hv
              · simp only [Option.some.injEq] at hv
                subst hv
                simp only [Holds, hi, hls]
                exact ⟨_, hrun, hvl, hnew⟩
              · cases hv
            · cases hv
          · have hgs : ¬ gsOk env0 e.gs = true := fun h => hgh (gsOk_iff.1 h)
            simp only [In.run, hgs, if_false, Option.some.injEq, Bool.false_eq_true] at hv
            intro j hj
            rw [hnew j hj, ← hv]
            simp [hj]
        | succ i => exact g1 i e' (by simpa using he)
      · cases h


theorem Scoped.up {A : FS} {n : Nat} (h : Scoped A n) {e : En} {nt : Nat} (he : e.ok nt = true) (hn : e.nv = n) : Scoped (e.up A) (n + e.out.outs) := by
  subst hn
  simp only [En.ok, Bool.and_eq_true] at he
  obtain ⟨⟨⟨⟨⟨⟨o1, o2⟩, o3⟩, o4⟩, o5⟩, o6⟩, o7⟩ := he
  have lm : ∀ {l : Lf} {m k : Nat}, l.lt m = true → m ≤ k → l.lt k = true := by
    intro l m k h hk
    cases l with
    | v i => simp only [Lf.lt, decide_eq_true_eq] at h ⊢; omega
    | k c => rfl
  have am : ∀ {a : At} {m k : Nat}, a.lt m = true → m ≤ k → a.lt k = true := by
    intro a m k h hk
    cases a with
    | sc l => exact lm h hk
    | ro l => exact lm h hk
    | nil => rfl
    | own r => rfl
    | inn r ver l p =>
      simp only [At.lt, Bool.and_eq_true] at h ⊢
      refine ⟨lm h.1 hk, ?_⟩
      cases p with
      | none => rfl
      | some q =>
        cases q with
        | pre ll hi =>
          simp only [pthLt, Bool.and_eq_true] at h ⊢
          exact ⟨lm h.2.1 hk, lm h.2.2 hk⟩
        | elm q =>
          simp only [pthLt, Bool.and_eq_true, decide_eq_true_eq] at h ⊢
          exact ⟨⟨lm h.2.1.1 hk, lm h.2.1.2 hk⟩, by omega⟩
  have asm : ∀ {as : List At} {m k : Nat}, atsLt m as = true → m ≤ k → atsLt k as = true := by
    intro as
    induction as with
    | nil => intros; rfl
    | cons a as ih => intro m k h hk; simp only [atsLt, Bool.and_eq_true] at h ⊢; exact ⟨am h.1 hk, ih h.2 hk⟩
  have gm : ∀ {gs : Gs} {m k : Nat}, gsLt m gs = true → m ≤ k → gsLt k gs = true := by
    intro gs
    induction gs with
    | nil => intros; rfl
    | cons a as ih => intro m k h hk; simp only [gsLt, Bool.and_eq_true] at h ⊢; exact ⟨lm h.1 hk, ih h.2 hk⟩
  have sm : ∀ {s : SV} {m k : Nat}, s.lt m = true → m ≤ k → s.lt k = true := by
    intro s m k h hk
    cases s with
    | sc c => exact asm h hk
    | ptr => rfl
    | elem b _ ll ix el _ ks =>
      simp only [SV.lt, Bool.and_eq_true, decide_eq_true_eq] at h ⊢
      exact ⟨⟨⟨am h.1.1.1 hk, lm h.1.1.2 hk⟩, lm h.1.2 hk⟩, by omega⟩
    | tup cs =>
      simp only [SV.lt, List.all_eq_true] at h ⊢
      exact fun c hc => asm (h c hc) hk
  have om : ∀ {x : SO} {m k : Nat}, x.lt m = true → m ≤ k → x.lt k = true := by
    intro x m k h hk
    cases x with
    | box cells => exact asm h hk
    | row _ l _ => exact lm h hk
  refine ⟨fun s gs sv hs => ?_, fun i x hx => ?_⟩
  · have old : A.sl s = some (gs, sv) → gsLt (e.nv + e.out.outs) gs = true ∧ sv.lt (e.nv + e.out.outs) = true := fun h1 =>
      ⟨gm (h.sl s gs sv h1).1 (by omega), sm (h.sl s gs sv h1).2 (by omega)⟩
    simp only [En.up] at hs
    cases hd : e.o.dst with
    | none => rw [hd] at hs; exact old hs
    | some d =>
      rw [hd] at hs
      simp only [upSl] at hs
      split at hs
      · simp only [Option.map_eq_some_iff, Prod.mk.injEq] at hs
        obtain ⟨s', h1, h2, h3⟩ := hs
        subst h2 h3
        rw [h1] at o5
        exact ⟨gm o4 (by omega), o5⟩
      · exact old hs
  · simp only [En.up] at hx
    rcases @upOb_get A.ob e.out.obs i with h1 | ⟨y, h1, h2⟩
    · rw [h1] at hx; exact om (h.ob i x hx) (by omega)
    · rw [h2] at hx; subst hx
      have : ∀ {l : List (Nat × Option SO)}, obsLt (e.nv + e.out.outs) l = true → ∀ i x, (i, some x) ∈ l → x.lt (e.nv + e.out.outs) = true := by
        intro l
        induction l with
        | nil => intro _ i x h; cases h
        | cons y l ih =>
          obtain ⟨j, z⟩ := y
          intro h i x hm
          cases z with
          | none =>
            simp only [obsLt] at h
            rcases List.mem_cons.1 hm with hm | hm
            · cases hm
            · exact ih h i x hm
          | some z =>
            simp only [obsLt, Bool.and_eq_true] at h
            rcases List.mem_cons.1 hm with hm | hm
            · cases hm; exact h.1
            · exact ih h.2 i x hm
      exact this o6 i x h1

def endFid : Nat → List En → Nat
  | fid, [] => fid
  | _, e :: r => endFid e.nxt r

theorem SeqOk.end {P : Program} {sg : List (Nat × Sig)} {nt : Nat} {ops : Array Oper} : ∀ {es : List En} {A : FS} {fid nv : Nat}, SeqOk P sg nt ops A fid nv es → Scoped A nv → Fresh A (fun x => fid ≤ x) →
    Scoped (es.foldl En.up A) (nv + outSum es) ∧ Fresh (es.foldl En.up A) (fun x => endFid fid es ≤ x)
  | [], A, fid, nv, _, h1, h2 => ⟨by simpa [outSum] using h1, h2⟩
  | e :: r, A, fid, nv, hs, h1, h2 => by
    obtain ⟨g1, g2, g3, g4, g5, g6⟩ := hs
    have f : Fresh (e.up A) (fun x => e.nxt ≤ x) := by
      refine (h2.mono fun x hx => by simp only [En.nxt] at hx; omega).up fun x hx hq => ?_
      simp only [En.ok, Bool.and_eq_true, List.all_eq_true, decide_eq_true_eq] at g5
      have := g5.1.1.1.1.1.2 x hx
      omega
    have := SeqOk.end g6 (h1.up g5 g2) f
    simp only [List.foldl_cons, outSum, List.map_cons, List.sum_cons, endFid] at this ⊢
    rw [← Nat.add_assoc]
    exact this


section
variable {P : Program} {ops : Array Oper} {Q : Exit → Act → World → Prop}

theorem wpOps_range {I : Nat → Act → World → Prop} (hstep : ∀ i a w, i < ops.size → I i a w → ∀ K : Act → World → Prop, (∀ a' w', I (i + 1) a' w' → K a' w') → wpOp P ops Q i K a w)
    (hend : ∀ a w, I ops.size a w → Q .normal a w) : ∀ (m i : Nat) (a : Act) (w : World), i + m = ops.size → I i a w → wpOps P ops Q (List.range' i m) a w
  | 0, i, a, w, h, hI => by
    simp only [Nat.add_zero] at h
    subst h
    simpa [wpOps] using hend a w hI
  | m + 1, i, a, w, h, hI => by
    rw [List.range'_succ, wpOps_cons]
    exact hstep i a w (by omega) hI _ fun a' w' h' => wpOps_range hstep hend m (i + 1) a' w' (by omega) h'

theorem count_set {l : Array Bool} {i : Nat} (h : l.getD i true = false) : (l.setIfInBounds i true).toList.count false + 1 = l.toList.count false := by
  have hi : i < l.size := by
    rcases Nat.lt_or_ge i l.size with h' | h'
    · exact h'
    · simp [Array.getElem?_eq_none h'] at h
  have h2 : l.toList[i]'(by simpa using hi) = false := by simpa [hi] using h
  have := List.count_set (a := true) (b := false) (l := l.toList) (i := i) (by simpa using hi)
  simp only [h2] at this
  rw [Array.toList_setIfInBounds, this]
  have : 0 < List.count false l.toList := List.count_pos_iff.2 (by rw [← h2]; exact List.getElem_mem _)
  rw [show (true == false) = false from rfl, show (false == false) = true from rfl]
  simp only [if_true, Bool.false_eq_true, if_false]
  omega

theorem wpAny_inv {I : (Nat → Bool) → Act → World → Prop} (hcongr : ∀ D D' a w, (∀ k, k < ops.size → D k = D' k) → I D a w → I D' a w)
    (hedge : ∀ (i : Nat) (o : Oper), ops[i]? = some o → ∀ e ∈ o.after, Region.binds .any e = true → e.on < i)
    (hstep : ∀ D i o a w, ops[i]? = some o → D i = false → (∀ e ∈ o.after, Region.binds .any e = true → D e.on = true) → I D a w → ∀ K : Act → World → Prop, (∀ a' w', I (setD D i) a' w' → K a' w') → wpOp P ops Q i K a w)
    (hend : ∀ D a w, (∀ k, k < ops.size → D k = true) → I D a w → Q .normal a w) :
    ∀ (fuel : Nat) (listed : Array Bool) (a : Act) (w : World), listed.size = ops.size → listed.toList.count false ≤ fuel → I (fun k => listed.getD k false) a w → wpAny P .any ops Q fuel listed a w := by
  have hall : ∀ (listed : Array Bool), listed.size = ops.size → Region.ready .any ops listed = [] → ∀ k, k < ops.size → listed.getD k false = true := by
    intro listed hsz hr k
    induction k using Nat.strongRecOn with
    | _ k ih =>
      intro hk
      cases hl : listed.getD k false with
      | true => rfl
      | false =>
        exfalso
        have : k ∈ Region.ready .any ops listed := by
          refine mem_ready.2 ⟨by simpa [hsz, hk] using hl, ops[k], by simp [hk], fun e he hb => ?_⟩
          have hlt := hedge k ops[k] (by simp [hk]) e he hb
          exact ih _ hlt (by omega)
        rw [hr] at this; cases this
  intro fuel
  induction fuel with
  | zero =>
    intro listed a w hsz hc hI
    have hnil : Region.ready .any ops listed = [] := by
      cases h : Region.ready .any ops listed with
      | nil => rfl
      | cons i r =>
        have := (mem_ready.1 (by rw [h]; simp : i ∈ Region.ready .any ops listed)).1
        have := count_set this
        omega
    exact ⟨hnil, hend _ a w (hall listed hsz hnil) hI⟩
  | succ fuel ih =>
    intro listed a w hsz hc hI
    refine ⟨fun hnil => hend _ a w (hall listed hsz hnil) hI, fun i hi => ?_⟩
    obtain ⟨h0, o, ho, hall'⟩ := mem_ready.1 hi
    have hisz : i < listed.size := by rw [hsz]; exact (Array.getElem?_eq_some_iff.1 ho).1
    have h0' : listed.getD i false = false := by simpa [hisz] using h0
    refine hstep _ i o a w ho h0' hall' hI _ fun a' w' h' => ih _ a' w' (by simp [hsz]) (by have := count_set h0; omega) (hcongr _ _ a' w' (fun k hk => ?_) h')
    simp only [setD]
    by_cases hki : k = i
    · subst hki; simp [hisz]
    · rw [if_neg hki, getD_set_ne false (Ne.symm hki)]

end

end Go.Mw

namespace Go.Mw
open Go.RowKit

def maskOne (ms : List Nat) : List Edge → Nat
  | [] => 0
  | e :: r => if Region.binds .any e then (2 ^ e.on ||| ms.getD e.on 0) ||| maskOne ms r else maskOne ms r

def masksGo : List Oper → List Nat → List Nat
  | [], acc => acc
  | o :: r, acc => masksGo r (acc ++ [maskOne acc o.after.toList])

def precM (ms : List Nat) (k i : Nat) : Bool := (ms.getD i 0).testBit k

def masksOk (ms : List Nat) : List Oper → Nat → Bool
  | [], i => ms.length ≤ i
  | o :: r, i => o.after.toList.all (fun e => !Region.binds .any e || e.on < i) && maskOne ms o.after.toList == ms.getD i 0 && masksOk ms r (i + 1)

theorem maskOne_bit {ms : List Nat} {k : Nat} : ∀ {l : List Edge}, (maskOne ms l).testBit k = true → ∃ e ∈ l, Region.binds .any e = true ∧ (k = e.on ∨ precM ms k e.on = true)
  | [], h => by simp [maskOne] at h
  | e :: r, h => by
    simp only [maskOne] at h
    split at h
    · rename_i hb
      simp only [Nat.testBit_or, Bool.or_eq_true, Nat.testBit_two_pow, decide_eq_true_eq] at h
      rcases h with (h | h) | h
      · exact ⟨e, by simp, hb, .inl h.symm⟩
      · exact ⟨e, by simp, hb, .inr h⟩
      · obtain ⟨e', h1, h2⟩ := maskOne_bit h
        exact ⟨e', by simp [h1], h2⟩
    · obtain ⟨e', h1, h2⟩ := maskOne_bit h
      exact ⟨e', by simp [h1], h2⟩

theorem masksOk_get {ms : List Nat} : ∀ {l : List Oper} {b i : Nat} {o : Oper}, masksOk ms l b = true → l[i]? = some o →
    (∀ e ∈ o.after, Region.binds .any e = true → e.on < b + i) ∧ maskOne ms o.after.toList = ms.getD (b + i) 0
  | [], _, _, _, _, h => by simp at h
  | o' :: r, b, 0, o, h, ho => by
    simp only [List.getElem?_cons_zero, Option.some.injEq] at ho
    subst ho
    simp only [masksOk, Bool.and_eq_true, List.all_eq_true, Bool.or_eq_true, Bool.not_eq_true', decide_eq_true_eq, beq_iff_eq] at h
    exact ⟨fun e he hb => (h.1.1 e (by simpa using he)).resolve_left (by simp [hb]), h.1.2⟩
  | o' :: r, b, i + 1, o, h, ho => by
    simp only [masksOk, Bool.and_eq_true] at h
    have := masksOk_get h.2 (by simpa using ho : r[i]? = some o)
    rw [show b + 1 + i = b + (i + 1) by omega] at this
    exact this

theorem masksOk_len {ms : List Nat} : ∀ {l : List Oper} {b : Nat}, masksOk ms l b = true → ms.length ≤ b + l.length
  | [], b, h => by simpa [masksOk] using h
  | o :: r, b, h => by
    simp only [masksOk, Bool.and_eq_true] at h
    have := masksOk_len h.2
    simp only [List.length_cons]; omega

def rgGo (P : Program) (sg : List (Nat × Sig)) (nt : Nat) (ops : Array Oper) : List Oper → FS → Nat → Nat → Option (List En)
  | [], _, _, _ => some []
  | o :: r, A, fid, nv =>
    match guardOf ops A o with
    | none => none
    | some gs =>
      match core P sg (look A.sl gs) A.ob fid nv o with
      | none => none
      | some out =>
        if (En.mk o gs out fid nv).ok nt then
          match rgGo P sg nt ops r ((En.mk o gs out fid nv).up A) (En.mk o gs out fid nv).nxt (nv + out.outs) with
          | some es => some (⟨o, gs, out, fid, nv⟩ :: es)
          | none => none
        else none

theorem rgGo_ok {P : Program} {sg : List (Nat × Sig)} {nt : Nat} {ops : Array Oper} : ∀ {l : List Oper} {A : FS} {fid nv : Nat} {es : List En}, rgGo P sg nt ops l A fid nv = some es →
    SeqOk P sg nt ops A fid nv es ∧ l = es.map (·.o)
  | [], A, fid, nv, es, h => by simp only [rgGo, Option.some.injEq] at h; subst h; exact ⟨trivial, rfl⟩
  | o :: r, A, fid, nv, es, h => by
    simp only [rgGo] at h
    split at h
    · cases h
    · rename_i gs hg
      split at h
      · cases h
      · rename_i out hc
        split at h
        · rename_i hok
          split at h
          · rename_i es' hr
            simp only [Option.some.injEq] at h
            subst h
            obtain ⟨h1, h2⟩ := rgGo_ok hr
            exact ⟨⟨rfl, rfl, hg, hc, hok, h1⟩, by simp [h2]⟩
          · cases h
        · cases h

def anyOne (P : Program) (sg : List (Nat × Sig)) (ops : Array Oper) (A : FS) (os : List En) (e : En) : Bool :=
  os.all (fun e' => e.apart e' && e'.out.ids.all fun x => x < e.fid || e.nxt ≤ x) && (guardOf ops (cut A os) e.o).isSome && (core P sg (look (cut A os).sl e.gs) (cut A os).ob e.fid e.nv e.o).isSome

def anyGo (P : Program) (sg : List (Nat × Sig)) (ops : Array Oper) (all : List En) (prec : Nat → Nat → Bool) : List En → Nat → FS → Bool
  | [], _, _ => true
  | e :: r, i, A => anyOne P sg ops A (others all prec i) e && anyGo P sg ops all prec r (i + 1) (e.up A)

theorem anyGo_get {P : Program} {sg : List (Nat × Sig)} {ops : Array Oper} {all : List En} {prec : Nat → Nat → Bool} : ∀ {r : List En} {b : Nat} {A : FS} {j : Nat} {e : En}, anyGo P sg ops all prec r b A = true → r[j]? = some e →
    anyOne P sg ops (stD A r (fun k => decide (k < j))) (others all prec (b + j)) e = true
  | [], _, _, _, _, _, h => by simp at h
  | e0 :: r, b, A, 0, e, h, he => by
    simp only [List.getElem?_cons_zero, Option.some.injEq] at he
    subst he
    simp only [anyGo, Bool.and_eq_true] at h
    rw [stD_none (by simp)]
    exact h.1
  | e0 :: r, b, A, j + 1, e, h, he => by
    simp only [anyGo, Bool.and_eq_true] at h
    have := anyGo_get h.2 (by simpa using he : r[j]? = some e)
    have e1 : stD A (e0 :: r) (fun k => decide (k < j + 1)) = stD (e0.up A) r (fun k => decide (k < j)) := by
      simp only [stD, Nat.zero_lt_succ, decide_true, if_true]
      exact stD_congr fun k _ => by simp
    rw [e1, show b + (j + 1) = b + 1 + j by omega]
    exact this

def rgn (P : Program) (sg : List (Nat × Sig)) (nt : Nat) (ops : Array Oper) (draw : Bool) (A : FS) (fid nv : Nat) : Option (List En) :=
  match rgGo P sg nt ops ops.toList A fid nv with
  | some es => if !draw || (masksOk (masksGo ops.toList []) ops.toList 0 && anyGo P sg ops es (precM (masksGo ops.toList [])) es 0 A) then some es else none
  | none => none

theorem stD_all {es : List En} {A : FS} {D : Nat → Bool} (h : ∀ k, k < es.length → D k = true) : stD A es D = es.foldl En.up A := by
  rw [stD_congr (D' := fun k => decide (k < es.length)) (fun k hk => by simp [h k hk, hk]), stD_take, List.take_length]

theorem region_sound {c : Cx} {P : Program} {sg : List (Nat × Sig)} {nt id : Nat} {ops : Array Oper} {draw : Bool} {Q : Exit → Act → World → Prop} (hm : P.follows .mixedOrders = true) (hsg : ∀ f s, sg.lookup f = some s → Contract c.G P f s)
    {A : FS} {fid nv : Nat} {es : List En} (hrg : rgn P sg nt ops draw A fid nv = some es) (hA : Scoped A nv) (hF : Fresh A (fun x => fid ≤ x)) {env0 env : List V} (hl : env0.length = nv)
    (hrun : runIns (es.filterMap En.ins) env0 = some env) (hpb : ∀ x, npK ≤ x → c.parB x = none ∧ c.par x = none) (hnp : npK ≤ fid) {M : Mp} {a : Act} {w : World} (hR : Rel c nt M env0 A a w)
    (hK : ∀ M' a' w', Rel c nt M' env (es.foldl En.up A) a' w' → Q .normal a' w') : (Code.region id ops draw).wp P Q a w := by
  unfold rgn at hrg
  split at hrg
  · rename_i es' hgo
    split at hrg
    · rename_i hcond
      simp only [Option.some.injEq] at hrg
      subst hrg
      obtain ⟨hseq, hops⟩ := rgGo_ok hgo
      have hlen : es'.length = ops.size := by rw [← Array.length_toList, hops, List.length_map]
      obtain ⟨henv, hold, hlen'⟩ := envOk_of_run hseq hl hrun
      have hR0 : Rel c nt M env A a w := hR.grow (by rw [hl]; exact hA) (by rw [hl]; exact hold)
      cases draw with
      | false =>
        refine wp_region ?_
        rw [List.range_eq_range']
        have hothers : ∀ i, others es' (fun k i => decide (k < i)) i = [] := by
          intro i
          simp only [others, List.filterMap_eq_nil_iff, List.mem_range]
          intro k hk
          rw [if_neg]
          simp only [Bool.and_eq_true, bne_iff_ne, ne_eq, Bool.not_eq_true', decide_eq_false_iff_not]
          omega
        have hany : AnyOk P sg ops A es' (fun k i => decide (k < i)) := by
          intro i e he
          obtain ⟨s1, s2, _⟩ := hseq.get he
          rw [hothers i]
          refine ⟨by simp, ⟨e.gs, ?_⟩, ⟨e.out, ?_⟩⟩
          · exact guardOf_mono (fun s x h => by simpa [cut] using h) s1
          · exact core_mono (fun ex x s => look_mono (fun s x h => by simpa [cut] using h)) (fun i x h => by simpa [cut] using h) s2
        refine wpOps_range (I := fun i a w => ∃ M, Rel c nt M env (stD A es' (fun k => decide (k < i))) a w) ?_ ?_ ops.size 0 a w (by omega) ⟨M, by rw [stD_none (by simp)]; exact hR0⟩
        · rintro i a w hi ⟨M, hR⟩ K hK
          refine region_step hsg hops hseq hany (fun k i h => by simpa using h) hF hpb hnp henv hR hi (by simp) (fun k h => h) (fun k h => ?_) fun M' a' w' hR' => hK a' w' ⟨M', ?_⟩
          · simp only [decide_eq_true_eq, decide_eq_false_iff_not] at h ⊢; omega
          · rw [stD_congr (D' := setD (fun k => decide (k < i)) i) (fun k _ => by
              simp only [setD]
              by_cases h : k = i
              · subst h; simp
              · rw [if_neg h]; congr 1; simp; omega)]
            exact hR'
        · rintro a w ⟨M, hR⟩
          refine hK M a w ?_
          rw [← stD_all (D := fun k => decide (k < ops.size)) (fun k hk => by simp; omega)]
          exact hR
      | true =>
        simp only [Bool.not_true, Bool.false_or, Bool.and_eq_true] at hcond
        obtain ⟨hmk, hgo'⟩ := hcond
        generalize masksGo ops.toList [] = ms at hmk hgo'
        have hR1 := hR0.heap (w' := { w with drawn := w.drawn + 1 }) rfl rfl rfl rfl
        have hget : ∀ (i : Nat) (o : Oper), ops[i]? = some o → (∀ e ∈ o.after, Region.binds .any e = true → e.on < i) ∧ maskOne ms o.after.toList = ms.getD i 0 := by
          intro i o ho
          have := masksOk_get hmk (by rw [Array.getElem?_toList]; exact ho : ops.toList[i]? = some o)
          simpa using this
        have hmlen : ms.length ≤ ops.size := by have := masksOk_len hmk; simpa using this
        have hbit : ∀ k i, precM ms k i = true → ∃ o, ops[i]? = some o ∧ ∃ e ∈ o.after, Region.binds .any e = true ∧ e.on < i ∧ (k = e.on ∨ precM ms k e.on = true) := by
          intro k i h
          rcases Nat.lt_or_ge i ops.size with hi | hi
          · have hq := hget i ops[i] (by simp [hi])
            simp only [precM, ← hq.2] at h
            obtain ⟨e, h1, h2, h3⟩ := maskOne_bit h
            exact ⟨ops[i], by simp [hi], e, by simpa using h1, h2, hq.1 e (by simpa using h1) h2, h3⟩
          · simp only [precM, List.getD_eq_getElem?_getD, List.getElem?_eq_none (Nat.le_trans hmlen hi)] at h
            simp at h
        have hlt : ∀ k i, precM ms k i = true → k < i := by
          intro k i
          induction i using Nat.strongRecOn with
          | _ i ih =>
            intro h
            obtain ⟨o, _, e, _, _, h3, h4⟩ := hbit k i h
            rcases h4 with rfl | h4
            · exact h3
            · exact Nat.lt_trans (ih _ h3 h4) h3
        have hany : AnyOk P sg ops A es' (precM ms) := by
          intro i e he
          have := anyGo_get hgo' he
          simp only [anyOne, Bool.and_eq_true, List.all_eq_true, Nat.zero_add, Option.isSome_iff_exists, Bool.or_eq_true, decide_eq_true_eq] at this
          obtain ⟨⟨h1, h2⟩, h3⟩ := this
          exact ⟨fun e' he' => ⟨(h1 e' he').1, fun x hx hq => by have := (h1 e' he').2 x hx; omega⟩, h2, h3⟩
        refine wp_region_any hm ?_
        refine wpAny_inv (I := fun D a w => (∃ M, Rel c nt M env (stD A es' D) a w) ∧ ∀ k i, i < ops.size → precM ms k i = true → D i = true → D k = true) ?_ (fun i o ho => (hget i o ho).1) ?_ ?_ _ _ _ _ (by simp) (by simp []) ?_
        · rintro D D' a w hDD ⟨⟨M, hR⟩, hcl⟩
          refine ⟨⟨M, by rw [← stD_congr (fun k hk => hDD k (by omega))]; exact hR⟩, fun k i hi hp hD => ?_⟩
          rw [← hDD k (Nat.lt_trans (hlt _ _ hp) hi)]
          exact hcl k i hi hp (by rw [hDD i hi]; exact hD)
        · rintro D i o a w ho hDi hready ⟨⟨M, hR⟩, hcl⟩ K hK
          have hi : i < ops.size := (Array.getElem?_eq_some_iff.1 ho).1
          have hpre : ∀ k, precM ms k i = true → D k = true := by
            intro k h
            obtain ⟨o', ho', e, he, hb, h3, h4⟩ := hbit k i h
            rw [ho] at ho'; cases ho'
            have hon := hready e he hb
            rcases h4 with rfl | h4
            · exact hon
            · exact hcl k e.on (by omega) h4 hon
          refine region_step hsg hops hseq hany hlt hF hpb hnp henv hR hi hDi hpre (fun k hk => ?_) fun M' a' w' hR' => hK a' w' ⟨⟨M', hR'⟩, fun k j hj hp hD => ?_⟩
          · cases h : precM ms i k with
            | false => rfl
            | true =>
              have hks : k < ops.size := by
                obtain ⟨o', ho', _⟩ := hbit i k h
                exact (Array.getElem?_eq_some_iff.1 ho').1
              rw [hcl i k hks h hk] at hDi; cases hDi
          · simp only [setD] at hD ⊢
            split
            · rfl
            · split at hD
              · rename_i hji; subst hji; exact hpre k hp
              · exact hcl k j hj hp hD
        · rintro D a w hall ⟨⟨M, hR⟩, _⟩
          refine hK M a w ?_
          rw [← stD_all (D := D) (fun k hk => hall k (by omega))]
          exact hR
        · refine ⟨⟨M, ?_⟩, fun k i hi _ h => ?_⟩
          · rw [stD_none (fun k hk => by simp [show k < ops.size by omega])]
            exact hR1
          · simp [hi] at h
    · cases hrg
  · cases hrg

end Go.Mw

namespace Go.Mw
open Go.RowKit

inductive AtS where
  | sc
  | nil
  | ro (ks : List AK)
  | own (r : Nat)
  | inn (r : Nat) (ks : List AK)
  deriving Inhabited

inductive SVS where
  | sc (g : Bool) (cs : List AtS)
  | ptr (id off : Nat)
  | elem (b : AtS) (off : Nat) (ks : List AK)
  | tup (cs : List (Bool × List AtS))
  deriving Inhabited

structure NF where
  sl : List (Nat × SVS)
  rows : List (Nat × Bool × List AK)
  boxes : List (Nat × List AtS)
  fid : Nat
  deriving Inhabited

def AtS.width : AtS → Nat
  | .sc => 1
  | .ro _ => 1
  | .inn _ _ => 1
  | _ => 0

def AtS.at (j : Nat) : AtS → At
  | .sc => .sc (.v j)
  | .nil => .nil
  | .ro _ => .ro (.v j)
  | .own r => .own r
  | .inn r _ => .inn r 0 (.v j) none

def atsW : List AtS → Nat
  | [] => 0
  | a :: as => a.width + atsW as

def atsAt : Nat → List AtS → List At
  | _, [] => []
  | j, a :: as => a.at j :: atsAt (j + a.width) as

def scsAt : Nat → List (Bool × List AtS) → List SC
  | _, [] => []
  | j, c :: cs => ⟨c.1, atsAt j c.2⟩ :: scsAt (j + atsW c.2) cs

def scsW : List (Bool × List AtS) → Nat
  | [] => 0
  | c :: cs => atsW c.2 + scsW cs

def SVS.width : SVS → Nat
  | .sc _ cs => atsW cs
  | .ptr _ _ => 0
  | .elem _ _ ks => 2 + ks.length
  | .tup cs => scsW cs

def AtS.base (j : Nat) : AtS → At
  | .ro _ => .ro (.v j)
  | .own r => .own r
  | .inn r _ => .inn r 0 (.v j) none
  | a => a.at j

def SVS.at (j : Nat) : SVS → SV
  | .sc g cs => .sc ⟨g, atsAt j cs⟩
  | .ptr id off => .ptr id off
  | .elem b off ks => .elem (b.base j) 0 (.v j) (.v (j + 1)) (j + 2) off ks
  | .tup cs => .tup (scsAt j cs)

def slAt : Nat → List (Nat × SVS) → Nat → Option SV
  | _, [], _ => none
  | j, (s, x) :: r, t => if t = s then some (x.at j) else slAt (j + x.width) r t

def slW : List (Nat × SVS) → Nat
  | [] => 0
  | x :: r => x.2.width + slW r

def rowsAt : Nat → List (Nat × Bool × List AK) → Nat → Option SO
  | _, [], _ => none
  | j, (i, app, _) :: r, t => if t = i then some (.row 0 (.v j) app) else rowsAt (j + 1) r t

def boxesAt : Nat → List (Nat × List AtS) → Nat → Option SO
  | _, [], _ => none
  | j, (i, cs) :: r, t => if t = i then some (.box (atsAt j cs)) else boxesAt (j + atsW cs) r t

def boxesW : List (Nat × List AtS) → Nat
  | [] => 0
  | x :: r => atsW x.2 + boxesW r

def NF.fs (nf : NF) : FS :=
  ⟨fun s => (slAt 0 nf.sl s).map fun x => ([], x),
   fun i => match rowsAt (slW nf.sl) nf.rows i with
     | some x => some x
     | none => boxesAt (slW nf.sl + nf.rows.length) nf.boxes i⟩

def NF.width (nf : NF) : Nat := slW nf.sl + nf.rows.length + boxesW nf.boxes


inductive Src where
  | own (r : Nat)
  | nil
  deriving Inhabited

section
variable (ob : Nat → Option SO) (μ : Nat → Option Src) (β : Nat → Nat)

def srcIs (r r' : Nat) : Bool :=
  match μ r with
  | some (.own q) => q == r'
  | _ => false

def curVer (r ver : Nat) : Bool :=
  match ob r with
  | some (.row ver' _ _) => ver == ver'
  | _ => false

def atFit : AtS → At → Option (List Lf)
  | .sc, .sc l => some [l]
  | .nil, .nil => some []
  | .ro _, .ro l => some [l]
  | .ro ks, .nil => some [.k (.list ks [])]
  | .own r, .own r' => if srcIs μ r r' then some [] else none
  | .own r, .nil =>
    match μ r with
    | some .nil => some []
    | _ => none
  | .inn r _, .inn r' ver l _ => if srcIs μ r r' && curVer ob r' ver then some [l] else none
  | .inn _ ks, .nil => some [.k (.list ks [])]
  | _, _ => none

def atsFit : List AtS → List At → Option (List Lf)
  | [], [] => some []
  | s :: ss, a :: as =>
    match atFit ob μ s a, atsFit ss as with
    | some l, some ls => some (l ++ ls)
    | _, _ => none
  | _, _ => none

def scsFit : List (Bool × List AtS) → List SC → Option (List Lf)
  | [], [] => some []
  | s :: ss, c :: cs =>
    if s.1 == c.g then
      match atsFit ob μ s.2 c.cs, scsFit ss cs with
      | some l, some ls => some (l ++ ls)
      | _, _ => none
    else none
  | _, _ => none

def baseFit : AtS → At → Nat → Bool
  | .ro _, .ro _, _ => true
  | .own r, .own r', ver => srcIs μ r r' && curVer ob r' ver
  | .inn r _, .inn r' _ _ _, ver => srcIs μ r r' && curVer ob r' ver
  | _, _, _ => false

def svFit : SVS → SV → Option (List Lf)
  | .sc g cs, .sc c => if g == c.g then atsFit ob μ cs c.cs else none
  | .ptr id off, .ptr id' off' => if β id == id' && off == off' then some [] else none
  | .elem b off ks, .elem b' ver ll ix el off' ks' =>
    if baseFit ob μ b b' ver && off == off' && AK.eqs ks ks' then some (ll :: ix :: (List.range ks.length).map fun j => .v (el + j)) else none
  | .tup ss, .tup cs => scsFit ob μ ss cs
  | _, _ => none

end

def slFit (A : FS) (μ : Nat → Option Src) (β : Nat → Nat) : List (Nat × SVS) → Option (List Lf)
  | [] => some []
  | (s, x) :: r =>
    match A.sl s with
    | some ([], sv) =>
      match svFit A.ob μ β x sv, slFit A μ β r with
      | some l, some ls => some (l ++ ls)
      | _, _ => none
    | _ => none

def rowsFit (A : FS) (μ : Nat → Option Src) : List (Nat × Bool × List AK) → Option (List Lf)
  | [] => some []
  | (i, app, ks) :: r =>
    match μ i with
    | some .nil => if app then (rowsFit A μ r).map fun ls => .k (.list ks []) :: ls else none
    | some (.own q) =>
      match A.ob q with
      | some (.row _ l app') => if app == app' && (app || i == q) then (rowsFit A μ r).map fun ls => l :: ls else none
      | _ => none
    | none => none

def boxesFit (A : FS) (μ : Nat → Option Src) (β : Nat → Nat) (np : Nat) : List (Nat × List AtS) → Option (List Lf)
  | [] => some []
  | (i, cs) :: r =>
    match A.ob (β i) with
    | some (.box cells) =>
      if i == β i || np ≤ i then
        match atsFit A.ob μ cs cells, boxesFit A μ β np r with
        | some l, some ls => some (l ++ ls)
        | _, _ => none
      else none
    | _ => none

def injRows (μ : Nat → Option Src) : List (Nat × Bool × List AK) → Bool
  | [] => true
  | (i, _, _) :: r => r.all (fun x => match μ i, μ x.1 with
    | some (.own p), some (.own q) => p != q
    | _, _ => true) && injRows μ r

def injBoxes (β : Nat → Nat) : List (Nat × List AtS) → Bool
  | [] => true
  | (i, _) :: r => r.all (fun x => β i != β x.1) && injBoxes β r

def nfFit (A : FS) (μ : Nat → Option Src) (β : Nat → Nat) (np : Nat) (nf : NF) : Option (List Lf) :=
  if injRows μ nf.rows && injBoxes β nf.boxes then
    match slFit A μ β nf.sl, rowsFit A μ nf.rows, boxesFit A μ β np nf.boxes with
    | some a, some b, some c => some (a ++ b ++ c)
    | _, _, _ => none
  else none


def muHd (M : Mp) (μ : Nat → Option Src) (i : Nat) : Value :=
  match μ i with
  | some (.own q) => M.hd q
  | _ => .slice none 0 0

def muPh (M : Mp) (μ : Nat → Option Src) (i : Nat) : List Nat :=
  match μ i with
  | some (.own q) => M.ph q
  | _ => []

section
variable {c : Cx} {nt : Nat} {M : Mp} {env env' : List V} {A : FS} {a : Act} {w : World} {μ : Nat → Option Src} {β : Nat → Nat}

theorem srcIs_eq {r r' : Nat} (h : srcIs μ r r' = true) : μ r = some (.own r') := by
  unfold srcIs at h
  split at h
  · rename_i q e; simp only [beq_iff_eq] at h; rw [e, h]
  · cases h

theorem atFit_len {s : AtS} {x : At} {ls : List Lf} (h : atFit A.ob μ s x = some ls) : ls.length = s.width := by
  unfold atFit at h
  split at h <;> (try (split at h)) <;> simp only [Option.some.injEq, reduceCtorEq] at h <;> subst h <;> rfl

theorem atsFit_len : ∀ {ss : List AtS} {xs : List At} {ls : List Lf}, atsFit A.ob μ ss xs = some ls → ls.length = atsW ss
  | [], [], _, h => by simp only [atsFit, Option.some.injEq] at h; subst h; rfl
  | [], _ :: _, _, h => by simp [atsFit] at h
  | _ :: _, [], _, h => by simp [atsFit] at h
  | s :: ss, x :: xs, ls, h => by
    simp only [atsFit] at h
    split at h <;> simp only [Option.some.injEq, reduceCtorEq] at h
    rename_i l ls' h1 h2
    subst h
    simp only [List.length_append, atFit_len h1, atsFit_len h2, atsW]

theorem scsFit_len : ∀ {ss : List (Bool × List AtS)} {xs : List SC} {ls : List Lf}, scsFit A.ob μ ss xs = some ls → ls.length = scsW ss
  | [], [], _, h => by simp only [scsFit, Option.some.injEq] at h; subst h; rfl
  | [], _ :: _, _, h => by simp [scsFit] at h
  | _ :: _, [], _, h => by simp [scsFit] at h
  | s :: ss, x :: xs, ls, h => by
    simp only [scsFit] at h
    split at h
    · split at h <;> simp only [Option.some.injEq, reduceCtorEq] at h
      rename_i l ls' h1 h2
      subst h
      simp only [List.length_append, atsFit_len h1, scsFit_len h2, scsW]
    · cases h

theorem svFit_len {s : SVS} {x : SV} {ls : List Lf} (h : svFit A.ob μ β s x = some ls) : ls.length = s.width := by
  unfold svFit at h
  split at h
  · split at h
    · exact atsFit_len h
    · cases h
  · split at h <;> simp only [Option.some.injEq, reduceCtorEq] at h
    subst h; rfl
  · split at h <;> simp only [Option.some.injEq, reduceCtorEq] at h
    subst h; simp [SVS.width]; omega
  · exact scsFit_len h
  · cases h

def Sub (env env' : List V) (j : Nat) (ls : List Lf) : Prop := ∀ i, i < ls.length → env'[j + i]? = (ls.map (Lf.ev env))[i]?

theorem Sub.left {j : Nat} {l l' : List Lf} (h : Sub env env' j (l ++ l')) : Sub env env' j l := fun i hi => by
  have := h i (by simp; omega)
  rw [this, List.map_append, List.getElem?_append_left (by simpa using hi)]

theorem Sub.right {j : Nat} {l l' : List Lf} (h : Sub env env' j (l ++ l')) {n : Nat} (hn : l.length = n) : Sub env env' (j + n) l' := fun i hi => by
  have := h (n + i) (by simp; omega)
  rw [Nat.add_assoc, this, List.map_append, List.getElem?_append_right (by simp; omega)]
  congr 1; simp; omega

theorem Sub.one {j : Nat} {l : Lf} {ls : List Lf} (h : Sub env env' j (l :: ls)) : (Lf.v j).ev env' = l.ev env := by
  have := h 0 (by simp)
  simp only [Nat.add_zero, List.map_cons, List.getElem?_cons_zero] at this
  simp [Lf.ev, this]

end

end Go.Mw

