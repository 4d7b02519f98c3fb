/- A part of the framework that turns Go code into small pure programs and shows that they are sound: no condition. -/
import Derived.WalkKit
import Derived.Deep.LoopGhost
import Derived.Laws.StructEq
import Derived.WideLaws
namespace Go.Mw

inductive AK where
  | sc
  | sl (ks : List AK)
  deriving Inhabited

mutual
def AK.eqb : AK → AK → Bool
  | .sc, .sc => true
  | .sl a, .sl b => AK.eqs a b
  | _, _ => false
def AK.eqs : List AK → List AK → Bool
  | [], [] => true
  | a :: as, b :: bs => AK.eqb a b && AK.eqs as bs
  | _, _ => false
end

mutual
theorem AK.eqb_eq : ∀ {a b : AK}, AK.eqb a b = true → a = b
  | .sc, .sc, _ => rfl
  | .sl a, .sl b, h => by rw [AK.eqb] at h; rw [AK.eqs_eq h]
  | .sc, .sl _, h => by simp [AK.eqb] at h
  | .sl _, .sc, h => by simp [AK.eqb] at h
theorem AK.eqs_eq : ∀ {a b : List AK}, AK.eqs a b = true → a = b
  | [], [], _ => rfl
  | a :: as, b :: bs, h => by
    rw [AK.eqs, Bool.and_eq_true] at h
    rw [AK.eqb_eq h.1, AK.eqs_eq h.2]
  | [], _ :: _, h => by simp [AK.eqs] at h
  | _ :: _, [], h => by simp [AK.eqs] at h
end

mutual
theorem AK.eqb_refl : ∀ (a : AK), AK.eqb a a = true
  | .sc => by simp [AK.eqb]
  | .sl a => by rw [AK.eqb]; exact AK.eqs_refl a
theorem AK.eqs_refl : ∀ (a : List AK), AK.eqs a a = true
  | [] => by simp [AK.eqs]
  | a :: as => by rw [AK.eqs, AK.eqb_refl a, AK.eqs_refl as]; rfl
end

inductive V where
  | int (k : IntKind) (n : Int)
  | bool (b : Bool)
  | str (l : List UInt8)
  | list (ks : List AK) (es : List V)
  | agg (cs : List V)
  | fn (f : Nat)
  | err (b : Bool)
  | undef
  deriving Inhabited

def V.cells : V → List V
  | .agg cs => cs
  | v => [v]

def akOk : AK → V → Bool
  | .sc, .int _ _ => true
  | .sc, .bool _ => true
  | .sc, .str _ => true
  | .sc, .fn _ => true
  | .sl k, .list j _ => AK.eqs k j
  | _, _ => false

def aksOk : List AK → List V → Bool
  | [], [] => true
  | a :: as, v :: vs => akOk a v && aksOk as vs
  | _, _ => false

theorem aksOk_length : ∀ {ks : List AK} {ds : List V}, aksOk ks ds = true → ks.length = ds.length
  | [], [], _ => rfl
  | [], _ :: _, h => by simp [aksOk] at h
  | _ :: _, [], h => by simp [aksOk] at h
  | _ :: ks, _ :: ds, h => by simp only [aksOk, Bool.and_eq_true] at h; simp [aksOk_length h.2]

inductive Atom : Value → V → Prop
  | int (k : IntKind) (n : Int) : Atom (.int k n) (.int k n)
  | bool (b : Bool) : Atom (.bool b) (.bool b)
  | str (s : ByteArray) (l : List UInt8) (h : s.data.toList = l) : Atom (.string s) (.str l)
  | nil (ks : List AK) : Atom (.slice none 0 0) (.list ks [])
  | nil0 (ks : List AK) (a : Addr) : Atom (.slice (some a) 0 0) (.list ks [])
  | fn (f : Nat) : Atom (.func (.func f) #[] #[]) (.fn f)
  | noErr : Atom .nilIface (.err false)
  | err (t : TypeId) (v : Value) : Atom (.iface t v) (.err true)

inductive Rep (w : World) : List Value → List V → List Nat → Prop
  | nil : Rep w [] [] []
  | atom {u : Value} {d : V} {us : List Value} {ds : List V} {T : List Nat} (h : Atom u d) (t : Rep w us ds T) : Rep w (u :: us) (d :: ds) T
  | row {us : List Value} {ds : List V} {T : List Nat} (b off n cap : Nat) (ks : List AK) (es : List V) (vs : List Value) (S : List Nat) (cs : Array Value) (E : TypeId) (fz : Nat × Nat)
      (hn : es.length = n) (hk : ∀ e ∈ es, aksOk ks e.cells = true) (hc : n ≤ cap) (hb : w.heap[b]? = some (.cells cs E fz))
      (hs : off + n * ks.length ≤ cs.size) (hv : ∀ j, j < n * ks.length → cs[off + j]? = vs[j]?) (hin : Rep w vs (es.flatMap V.cells) S)
      (t : Rep w us ds T) : Rep w (.slice (some ⟨b, off, none⟩) n cap :: us) (.list ks es :: ds) (b :: S ++ T)

theorem Rep.length {w : World} {us : List Value} {ds : List V} {S : List Nat} (h : Rep w us ds S) : us.length = ds.length := by
  induction h with
  | nil => rfl
  | atom _ _ ih => simp [ih]
  | row => simp [*]

theorem Rep.lt {w : World} {us : List Value} {ds : List V} {S : List Nat} (h : Rep w us ds S) : ∀ b ∈ S, b < w.heap.size := by
  induction h with
  | nil => simp
  | atom _ _ ih => exact ih
  | row b off n cap ks es vs S cs E fz hn hk hc hb hs hv hin t ih1 ih2 =>
    intro x hx
    simp only [List.cons_append, List.mem_cons, List.mem_append] at hx
    rcases hx with rfl | hx | hx
    · exact (Array.getElem?_eq_some_iff.1 hb).1
    · exact ih1 x hx
    · exact ih2 x hx

theorem Rep.frame {w w' : World} {us : List Value} {ds : List V} {S : List Nat} (h : Rep w us ds S) (hf : ∀ b ∈ S, w'.heap[b]? = w.heap[b]?) : Rep w' us ds S := by
  induction h with
  | nil => exact .nil
  | atom h _ ih => exact .atom h (ih hf)
  | row b off n cap ks es vs S cs E fz hn hk hc hb hs hv hin t ih1 ih2 =>
    refine .row b off n cap ks es vs S cs E fz hn hk hc ?_ hs hv (ih1 fun x hx => hf x (by simp [hx])) (ih2 fun x hx => hf x (by simp [hx]))
    rw [hf b (by simp)]; exact hb

theorem Rep.append {w : World} {us us' : List Value} {ds ds' : List V} {S S' : List Nat} (h : Rep w us ds S) (h' : Rep w us' ds' S') : Rep w (us ++ us') (ds ++ ds') (S ++ S') := by
  induction h with
  | nil => exact h'
  | atom h _ ih => exact .atom h ih
  | row b off n cap ks es vs S cs E fz hn hk hc hb hs hv hin t ih1 ih2 =>
    have := Rep.row b off n cap ks es vs S cs E fz hn hk hc hb hs hv hin ih2
    simpa [List.append_assoc] using this

theorem Rep.split {w : World} {us : List Value} {S : List Nat} {ds1 ds2 : List V} (h0 : Rep w us (ds1 ++ ds2) S) :
    ∃ us1 us2 S1 S2, us = us1 ++ us2 ∧ S = S1 ++ S2 ∧ Rep w us1 ds1 S1 ∧ Rep w us2 ds2 S2 := by
  suffices H : ∀ {us : List Value} {ds : List V} {S : List Nat}, Rep w us ds S → ∀ ds1 ds2, ds = ds1 ++ ds2 →
      ∃ us1 us2 S1 S2, us = us1 ++ us2 ∧ S = S1 ++ S2 ∧ Rep w us1 ds1 S1 ∧ Rep w us2 ds2 S2 from H h0 _ _ rfl
  intro us ds S h
  induction h with
  | nil =>
    intro ds1 ds2 hd
    obtain ⟨rfl, rfl⟩ := List.append_eq_nil_iff.1 hd.symm
    exact ⟨[], [], [], [], rfl, rfl, .nil, .nil⟩
  | @atom u d us ds T h t ih =>
    intro ds1 ds2 hd
    cases ds1 with
    | nil => exact ⟨[], u :: us, [], T, rfl, rfl, .nil, by rw [← show d :: ds = ds2 from hd]; exact .atom h t⟩
    | cons x ds1 =>
      rw [List.cons_append] at hd
      injection hd with e1 hd
      subst e1
      obtain ⟨us1, us2, S1, S2, rfl, rfl, h1, h2⟩ := ih ds1 ds2 hd
      exact ⟨u :: us1, us2, S1, S2, rfl, rfl, .atom h h1, h2⟩
  | @row us ds T b off n cap ks es vs S cs E fz hn hk hc hb hs hv hin t ih1 ih2 =>
    intro ds1 ds2 hd
    cases ds1 with
    | nil => exact ⟨[], _, [], _, rfl, rfl, .nil, by rw [← show V.list ks es :: ds = ds2 from hd]; exact .row b off n cap ks es vs S cs E fz hn hk hc hb hs hv hin t⟩
    | cons x ds1 =>
      rw [List.cons_append] at hd
      injection hd with e1 hd
      subst e1
      obtain ⟨us1, us2, S1, S2, rfl, rfl, h1, h2⟩ := ih2 ds1 ds2 hd
      exact ⟨_ :: us1, us2, b :: S ++ S1, S2, rfl, by simp, .row b off n cap ks es vs S cs E fz hn hk hc hb hs hv hin h1, h2⟩

theorem Rep.nil_inv {w : World} {us : List Value} {S : List Nat} (h : Rep w us [] S) : us = [] ∧ S = [] := by cases h; exact ⟨rfl, rfl⟩

theorem Rep.cons_inv {w : World} {us : List Value} {d : V} {ds : List V} {S : List Nat} (h : Rep w us (d :: ds) S) :
    ∃ u us' S1 S2, us = u :: us' ∧ S = S1 ++ S2 ∧ Rep w [u] [d] S1 ∧ Rep w us' ds S2 := by
  cases h with
  | atom h t => exact ⟨_, _, [], _, rfl, rfl, .atom h .nil, t⟩
  | row b off n cap ks es vs S cs E fz hn hk hc hb hs hv hin t =>
    exact ⟨_, _, b :: S ++ [], _, rfl, by simp, .row b off n cap ks es vs S cs E fz hn hk hc hb hs hv hin .nil, t⟩

theorem Rep.cons_mk {w : World} {u : Value} {us : List Value} {d : V} {ds : List V} {S1 S2 : List Nat} (h : Rep w [u] [d] S1) (t : Rep w us ds S2) : Rep w (u :: us) (d :: ds) (S1 ++ S2) := Rep.append h t

theorem Rep.get {w : World} {us : List Value} {ds : List V} {S : List Nat} (h : Rep w us ds S) (i : Nat) (d : V) (hd : ds[i]? = some d) :
    ∃ u S', us[i]? = some u ∧ Rep w [u] [d] S' ∧ (∀ b ∈ S', b ∈ S) ∧ (S.Nodup → S'.Nodup) := by
  have hlt : i < ds.length := by
    rcases Nat.lt_or_ge i ds.length with h | h
    · exact h
    · simp [List.getElem?_eq_none h] at hd
  have e : ds = ds.take i ++ d :: ds.drop (i + 1) := by
    have : ds[i] = d := by simpa [List.getElem?_eq_getElem hlt] using hd
    rw [← this, List.getElem_cons_drop hlt, List.take_append_drop]
  have hl : (ds.take i).length = i := by simp; omega
  rw [e] at h
  obtain ⟨us1, us2, S1, S2, rfl, rfl, h1, h2⟩ := h.split
  obtain ⟨u, us', S3, S4, rfl, rfl, h3, h4⟩ := h2.cons_inv
  refine ⟨u, S3, ?_, h3, fun b hb => by simp [hb], fun hn => ?_⟩
  · have := h1.length
    rw [List.getElem?_append_right (by omega), show i - us1.length = 0 by omega]; rfl
  · simp only [List.nodup_append] at hn; exact hn.2.1.1

theorem Atom.one {u : Value} {d : V} (h : Atom u d) : u.oneCell' = true := by cases h <;> rfl

end Go.Mw

namespace Go.Mw

inductive Lf where
  | v (i : Nat)
  | k (c : V)
  deriving Inhabited

def Lf.ev (env : List V) : Lf → V
  | .v i => env.getD i .undef
  | .k c => c

def Lf.isK : Lf → Bool
  | .k _ => true
  | .v _ => false

def Lf.same : Lf → Lf → Bool
  | .v i, .v j => i == j
  | _, _ => false

structure PthE where
  ll : Lf
  ix : Lf
  el : Nat
  off : Nat
  ks : List AK
  deriving Inhabited

inductive Pth where
  | elm (q : PthE)
  | pre (ll hi : Lf)
  deriving Inhabited

inductive At where
  | sc (l : Lf)
  | nil
  | ro (l : Lf)
  | own (r : Nat)
  | inn (r ver : Nat) (l : Lf) (p : Option Pth)
  deriving Inhabited

structure SC where
  g : Bool
  cs : List At
  deriving Inhabited

inductive SV where
  | sc (c : SC)
  | ptr (id off : Nat)
  | elem (b : At) (ver : Nat) (ll ix : Lf) (el off : Nat) (ks : List AK)
  | tup (cs : List SC)
  deriving Inhabited

inductive SO where
  | box (cells : List At)
  | row (ver : Nat) (l : Lf) (app : Bool)
  deriving Inhabited

abbrev Gs := List (Lf × Bool)

inductive PK where
  | val (g : Bool) (ks : List AK)
  | io (g : Bool) (ks : List AK)
  | ptr (o : Nat) (ks : List AK)
  | tk (g : Bool) (ks : List AK)
  | cst (f : Nat)
  | new (ks : List AK)
  deriving Inhabited

structure Sig where
  ps : List PK
  rs : List (Bool × List AK)
  F : List V → Option (List V)


inductive FK where
  | i
  | b
  | s
  deriving Inhabited, DecidableEq

inductive Prim where
  | pick
  | bin (op : BinOp)
  | un (op : UnOp)
  | binb (op : BinOp)
  | eqa (neg : Bool) (ks : List FK)
  | conv (k : IntKind)
  | len
  | slen
  | mx
  | mn
  | idx (ks : List AK)
  | sidx
  | ssub
  | lsub (ks : List AK)
  | mk (ks : List AK) (z : V) (bytes : Nat)
  | lst (ks : List AK) (g : Bool) (n : Nat)
  | app (ks : List AK) (bytes : Nat)
  | apps (bytes : Nat)
  | set (ks : List AK) (off : Nat)
  | b2s
  | s2b (bytes : Nat)
  | isNil (neg : Bool)
  | chkLe
  | call (F : List V → Option (List V)) (n nr : Nat)
  | callN (F : List V → Option (List V)) (n nr : Nat)
  | callIn (F : List V → Option (List V)) (nr : Nat) (ks : List AK) (off : Nat)
  | setIn (js : List AK) (joff : Nat) (ks : List AK) (off : Nat)

def ksAll : List V → List V → Bool
  | [], _ => true
  | .list a _ :: xs, .list b _ :: ys => AK.eqs a b && ksAll xs ys
  | _, _ => false

def flatV : V → Bool
  | .list ks _ => ks.all (AK.eqb .sc)
  | _ => false

def binI (op : BinOp) (k : IntKind) (x y : Int) : Option V :=
  match op with
  | .add => some (.int k (k.wrap (x + y)))
  | .sub => some (.int k (k.wrap (x - y)))
  | .mul => some (.int k (k.wrap (x * y)))
  | .quo => if y = 0 then none else some (.int k (k.wrap (x.tdiv y)))
  | .rem => if y = 0 then none else some (.int k (x.tmod y))
  | .and => some (.int k (k.wrap (BitVec.ofInt k.bits x &&& BitVec.ofInt k.bits y).toNat))
  | .or => some (.int k (k.wrap (BitVec.ofInt k.bits x ||| BitVec.ofInt k.bits y).toNat))
  | .xor => some (.int k (k.wrap (BitVec.ofInt k.bits x ^^^ BitVec.ofInt k.bits y).toNat))
  | .andNot => some (.int k (k.wrap (BitVec.ofInt k.bits x &&& ~~~(BitVec.ofInt k.bits y)).toNat))
  | .eql => some (.bool (x == y))
  | .neq => some (.bool (x != y))
  | .lss => some (.bool (x < y))
  | .leq => some (.bool (x ≤ y))
  | .gtr => some (.bool (x > y))
  | .geq => some (.bool (x ≥ y))
  | _ => none

def binS (op : BinOp) (x y : List UInt8) : Option V :=
  match op with
  | .add => if x.length + y.length ≤ 1073741824 then some (.str (x ++ y)) else none
  | .eql => some (.bool (x == y))
  | .neq => some (.bool (!(x == y)))
  | .lss => some (.bool (Op.bytesLess x y))
  | .leq => some (.bool (Op.bytesLess x y || x == y))
  | .gtr => some (.bool (!(Op.bytesLess x y || x == y)))
  | .geq => some (.bool (!(Op.bytesLess x y)))
  | _ => none

def binV (op : BinOp) : V → V → Option V
  | .int k x, .int j y =>
    match op with
    | .shl => if y < 0 then none else some (.int k (k.wrap (x * 2 ^ (min y.toNat k.bits))))
    | .shr => if y < 0 then none else some (.int k (x.fdiv (2 ^ (min y.toNat k.bits))))
    | op => if k = j then binI op k x y else none
  | .str x, .str y => binS op x y
  | _, _ => none

def binB (op : BinOp) : V → V → Option V
  | .bool x, .bool y =>
    match op with
    | .eql => some (.bool (x == y))
    | .neq => some (.bool (!(x == y)))
    | _ => none
  | _, _ => none

def unV (op : UnOp) : V → Option V
  | .int k x =>
    match op with
    | .neg => some (.int k (k.wrap (0 - x)))
    | _ => none
  | .bool b =>
    match op with
    | .not => some (.bool (!b))
    | _ => none
  | _ => none

def eqV1 : FK → V → V → Option Bool
  | .i, .int k x, .int j y => if k = j then some (x == y) else none
  | .s, .str x, .str y => some (x == y)
  | .b, .bool x, .bool y => some (x == y)
  | _, _, _ => none

def eqVs : List FK → List V → List V → Option Bool
  | [], [], [] => some true
  | k :: ks, x :: xs, y :: ys =>
    match eqV1 k x y with
    | some true => eqVs ks xs ys
    | some false => some false
    | none => none
  | _, _, _ => none

def mx2 : V → V → Option V
  | .int k x, .int _ y => some (.int k (if y > x then y else x))
  | _, _ => none
def mn2 : V → V → Option V
  | .int k x, .int _ y => some (.int k (if y < x then y else x))
  | _, _ => none

def V.pack (g : Bool) (cs : List V) : V :=
  match g, cs with
  | true, cs => .agg cs
  | false, [c] => c
  | false, _ => .undef

def chunk (k : Nat) (g : Bool) : Nat → List V → List V
  | 0, _ => []
  | n + 1, l => V.pack g (l.take k) :: chunk k g n (l.drop k)

def V.put (off : Nat) (news : List V) : V → V
  | .agg cs => .agg (cs.take off ++ news ++ cs.drop (off + news.length))
  | v => match news with
    | [n] => n
    | _ => v

def bytesV : List V → Option (List UInt8)
  | [] => some []
  | .int .u8 n :: r => (bytesV r).map (UInt8.ofNat n.toNat :: ·)
  | _ => none

def subB (n : Nat) : List V → Option (Nat × Nat)
  | [.int _ lo, .int _ hi] => if 0 ≤ lo ∧ lo ≤ hi ∧ hi ≤ n then some (lo.toNat, hi.toNat) else none
  | [.int _ lo] => if 0 ≤ lo ∧ lo ≤ n then some (lo.toNat, n) else none
  | _ => none

def setV (ks : List AK) (off : Nat) : List V → Option (List V)
  | .list js es :: .int _ i :: news =>
    if AK.eqs js ks && decide (0 ≤ i) && aksOk ((ks.drop off).take news.length) news then (es[i.toNat]?).map fun e => [.list ks (es.set i.toNat (e.put off news))] else none
  | _ => none

def Prim.run : Prim → List V → Option (List V)
  | .pick, [.bool c, a, b] => some [if c then a else b]
  | .bin op, [x, y] => (binV op x y).map ([·])
  | .un op, [x] => (unV op x).map ([·])
  | .binb op, [x, y] => (binB op x y).map ([·])
  | .eqa neg ks, xs => (eqVs ks (xs.take ks.length) (xs.drop ks.length)).map fun b => [.bool (if neg then !b else b)]
  | .conv k, [.int _ n] => some [.int k (k.wrap n)]
  | .slen, [.str l] => some [.int .i64 l.length]
  | .len, [.list _ es] => some [.int .i64 es.length]
  | .mx, x :: xs => (xs.foldlM mx2 x).map ([·])
  | .mn, x :: xs => (xs.foldlM mn2 x).map ([·])
  | .idx ks, [.list js es, .int _ i] =>
    if AK.eqs js ks && decide (0 ≤ i) then (es[i.toNat]?).map V.cells else none
  | .sidx, [.str l, .int _ i] => if 0 ≤ i then (l[i.toNat]?).map (fun b => [.int .u8 b.toNat]) else none
  | .ssub, .str l :: bs => (subB l.length bs).map fun b => [.str ((l.take b.2).drop b.1)]
  | .lsub ks, .list js es :: bs => if AK.eqs js ks then (subB es.length bs).map fun b => [.list ks ((es.take b.2).drop b.1)] else none
  | .mk ks z bytes, [.int _ n, .int _ m] => if n = m ∧ 0 ≤ n ∧ n * bytes ≤ 140737488355328 ∧ n ≤ 140737488355328 ∧ aksOk ks z.cells = true then some [.list ks (List.replicate n.toNat z)] else none
  | .lst ks g n, cs => if aksOk (List.replicate n ks).flatten cs then some [.list ks (chunk ks.length g n cs)] else none
  | .app ks bytes, [.list a x, .list b y] => if AK.eqs a ks && AK.eqs b ks && decide ((x.length + y.length) * bytes ≤ 140737488355328) && decide (x.length + y.length ≤ 140737488355328) then some [.list ks (x ++ y)] else none
  | .apps bytes, [.list a x, .str y] => if AK.eqs a [.sc] && decide ((x.length + y.length) * bytes ≤ 140737488355328) && decide (x.length + y.length ≤ 140737488355328) then some [.list [.sc] (x ++ y.map fun b => .int .u8 b.toNat)] else none
  | .set ks off, .list js es :: .int _ i :: news =>
    if AK.eqs js ks && decide (0 ≤ i) && aksOk ((ks.drop off).take news.length) news then (es[i.toNat]?).map fun e => [.list ks (es.set i.toNat (e.put off news))] else none
  | .chkLe, [.int _ a, .int _ b] => if a ≤ b then some [] else none
  | .b2s, [.list _ es] => (bytesV es).map fun l => [.str l]
  | .s2b bytes, [.str y] => if y.length * bytes ≤ 140737488355328 ∧ y.length ≤ 140737488355328 then some [.list [.sc] (y.map fun b => .int .u8 b.toNat)] else none
  | .isNil neg, [.err b] => some [.bool (if neg then b else !b)]
  | .call F n nr, ds =>
    if n = 0 then F ds else
    match F (ds.take (ds.length - n)) with
    | some outs => if ksAll (ds.drop (ds.length - n)) (outs.drop nr) && (ds.drop (ds.length - n)).all flatV then some outs else none
    | none => none
  | .callN F n nr, ds =>
    match F (ds.take (ds.length - n)) with
    | some outs => if ksAll (ds.drop (ds.length - n)) (outs.drop nr) then some outs else none
    | none => none
  | .callIn F nr ks off, ds =>
    match F (ds.take (ds.length - 3)), ds.drop (ds.length - 3) with
    | some outs, [d, .list js es, .int _ i] =>
      match ksAll [d] (outs.drop nr), outs.drop nr, es[i.toNat]? with
      | true, [d'], some e => if AK.eqs js ks && decide (0 ≤ i) && aksOk ((ks.drop off).take 1) [d'] then some (outs.take nr ++ [.list js (es.set i.toNat (e.put off [d']))]) else none
      | _, _, _ => none
    | _, _ => none
  | .setIn jj joff ks off, ds =>
    match setV jj joff (ds.take (ds.length - 3)), ds.drop (ds.length - 3) with
    | some outs, [d, .list js es, .int _ i] =>
      match ksAll [d] outs, outs, es[i.toNat]? with
      | true, [d'], some e => if AK.eqs js ks && decide (0 ≤ i) && aksOk ((ks.drop off).take 1) [d'] then some [.list js (es.set i.toNat (e.put off [d']))] else none
      | _, _, _ => none
    | _, _ => none
  | _, _ => none


def tsize (P : Program) (t : TypeId) : Option Nat := (P.info? t).map (·.size)

def isStruct (P : Program) (t : TypeId) : Bool :=
  match P.underlying t with
  | some (.struct _) => true
  | _ => false

def isPlain (P : Program) (t : TypeId) : Bool :=
  match P.underlying t with
  | some (.struct _) => false
  | some (.array _ _) => false
  | some _ => true
  | none => false

def aks (P : Program) : Nat → TypeId → Option (List AK)
  | 0, _ => none
  | n + 1, t =>
    match P.underlying t with
    | some (.int _) => some [.sc]
    | some .bool => some [.sc]
    | some .string => some [.sc]
    | some (.slice e) => (aks P n e).map fun ks => [.sl ks]
    | some (.struct fs) => fs.toList.foldlM (fun acc f =>
        match aks P n f.type with
        | some a => if acc.length == f.offset then some (acc ++ a) else none
        | none => none) []
    | _ => none

def depthT : Nat := 6

def cst1 : Value → Option At
  | .int k n => some (.sc (.k (.int k n)))
  | .bool b => some (.sc (.k (.bool b)))
  | .string s => some (.sc (.k (.str s.data.toList)))
  | .slice none 0 0 => some .nil
  | .nilIface => some (.sc (.k (.err false)))
  | _ => none

def mapO {α β : Type} (f : α → Option β) : List α → Option (List β)
  | [] => some []
  | a :: as =>
    match f a, mapO f as with
    | some b, some bs => some (b :: bs)
    | _, _ => none

def cstC : Value → Option SC
  | .agg cells => (mapO cst1 cells.toList).map fun cs => ⟨true, cs⟩
  | v => (cst1 v).map fun a => ⟨false, [a]⟩

def zeroAts (P : Program) (t : TypeId) : Option (List At) :=
  match P.info? t with
  | some i =>
    match i.zero with
    | some z => (cstC z).map (·.cs)
    | none => none
  | none => none

def At.scl : At → Option Lf
  | .sc l => some l
  | _ => none

def SV.at1 : SV → Option At
  | .sc ⟨false, [a]⟩ => some a
  | _ => none

def SV.scl (s : SV) : Option Lf := s.at1.bind At.scl

def SV.ofAt (a : At) : SV := .sc ⟨false, [a]⟩

def At.lst (ob : Nat → Option SO) (ks : List AK) : At → Option (Nat × Lf)
  | .nil => some (0, .k (.list ks []))
  | .ro l => some (0, l)
  | .own r =>
    match ob r with
    | some (.row ver l _) => some (ver, l)
    | _ => none
  | .inn r ver l _ =>
    match ob r with
    | some (.row ver' _ _) => if ver == ver' then some (ver, l) else none
    | _ => none
  | _ => none

def At.leaf (ob : Nat → Option SO) (ak : AK) (a : At) : Option Lf :=
  match ak with
  | .sc => a.scl
  | .sl ks => (a.lst ob ks).map (·.2)

def leaves (ob : Nat → Option SO) : List AK → List At → Option (List Lf)
  | [], [] => some []
  | k :: ks, a :: as =>
    match a.leaf ob k, leaves ob ks as with
    | some l, some ls => some (l :: ls)
    | _, _ => none
  | _, _ => none

def moved (ob : Nat → Option SO) : List AK → List At → Option (List Lf × List Nat)
  | [], [] => some ([], [])
  | .sc :: ks, .sc l :: as => (moved ob ks as).map fun x => (l :: x.1, x.2)
  | .sl js :: ks, .nil :: as => (moved ob ks as).map fun x => (.k (.list js []) :: x.1, x.2)
  | .sl _ :: ks, .own r :: as =>
    match ob r, moved ob ks as with
    | some (.row _ l true), some x => if x.2.contains r then none else some (l :: x.1, r :: x.2)
    | _, _ => none
  | _, _ => none

def overlay {α : Type} (cells : List α) (off : Nat) (news : List α) : Option (List α) :=
  if off + news.length ≤ cells.length then some (cells.take off ++ news ++ cells.drop (off + news.length)) else none

structure Out where
  ins : Option (Prim × List Lf)
  outs : Nat
  sv : Option SV
  obs : List (Nat × Option SO)

def Out.val (sv : SV) : Out := ⟨none, 0, some sv, []⟩
def Out.scal (nv : Nat) (p : Prim) (ls : List Lf) : Out := ⟨some (p, ls), 1, some (.ofAt (.sc (.v nv))), []⟩

abbrev Look := Gs → Operand → Option SV

def isNilPtr : Operand → Bool
  | .const (.pointer none) => true
  | _ => false

section
variable (P : Program) (sg : List (Nat × Sig)) (ρ : Look) (ob : Nat → Option SO) (fid nv : Nat)

def coreBuild (fs : Array Field) (cells : List At) : List (Nat × Operand) → Option (List At)
  | [] => some cells
  | (i, x) :: rest =>
    match fs[i]?, ρ [] x with
    | some f, some (.sc c) =>
      if tsize P f.type == some c.cs.length then
        match overlay cells f.offset c.cs with
        | some cells' => coreBuild fs cells' rest
        | none => none
      else none
    | _, _ => none

def coreFill (size : Nat) (cells : List At) : List (Nat × Operand) → Option (List At)
  | [] => some cells
  | (i, x) :: rest =>
    match ρ [] x with
    | some (.sc c) =>
      if c.cs.length == size then
        match overlay cells (i * size) c.cs with
        | some cells' => coreFill size cells' rest
        | none => none
      else none
    | _ => none

def coreBuildSlice (t : TypeId) (len : Nat) (parts : List (Nat × Operand)) : Option Out :=
  match P.underlying t with
  | some (.slice e) =>
    match aks P depthT e, zeroAts P e, tsize P e with
    | some ks, some z, some size =>
      if ks.length == size && z.length == size && size != 0 && len * size ≤ 16777216 && (isStruct P e || size == 1) then
        match coreFill ρ size (List.replicate len z).flatten parts with
        | some cells =>
          match moved ob (List.replicate len ks).flatten cells with
          | some (ls, gone) => some ⟨some (.lst ks (isStruct P e) len, ls), 1, some (.ofAt (.own fid)), gone.map (fun r => (r, none)) ++ [(fid, some (.row 0 (.v nv) true))]⟩
          | none => none
        | none => none
      else none
    | _, _, _ => none
  | _ => none

def elemAt (pw : Nat → Option Pth) (b : At) (ver : Nat) (j : Nat) : AK → At
  | .sc => .sc (.v j)
  | .sl _ =>
    match b with
    | .own r => .inn r ver (.v j) (pw j)
    | .inn r _ _ _ => .inn r ver (.v j) none
    | _ => .ro (.v j)

def elemAts (pw : Nat → Option Pth) (b : At) (ver : Nat) : Nat → List AK → List At
  | _, [] => []
  | j, k :: ks => elemAt pw b ver j k :: elemAts pw b ver (j + 1) ks

def pthOf (ll ix : Lf) (el : Nat) (kk : List AK) (j : Nat) : Option Pth := some (.elm ⟨ll, ix, el, j - el, kk⟩)

def alive (b : At) (ver : Nat) : Bool :=
  match b with
  | .own r | .inn r _ _ _ =>
    match ob r with
    | some (.row ver' _ _) => ver == ver'
    | _ => false
  | .ro _ => true
  | _ => false

def cloK : Nat := 4294967296
def coreLoad (t : TypeId) (a : SV) : Option Out :=
  match tsize P t, aks P depthT t with
  | some n, some ks =>
    if ks.length == n && (isStruct P t || (isPlain P t && n == 1)) then
      match a with
      | .ptr id off =>
        match ob id with
        | some (.box cells) => if off + n ≤ cells.length ∧ off < cloK then some (.val (.sc ⟨isStruct P t, (cells.drop off).take n⟩)) else none
        | _ => none
      | .elem b ver ll ix el off kk =>
        if alive ob b ver && off + n ≤ kk.length && AK.eqs ((kk.drop off).take n) ks then some (.val (.sc ⟨isStruct P t, elemAts (pthOf ll ix el kk) b ver (el + off) ks⟩)) else none
      | _ => none
    else none
  | _, _ => none

def npK : Nat := 64

def At.isSc : At → Bool
  | .sc _ => true
  | _ => false

def coreStore (t : TypeId) (a : SV) (c : SC) : Option Out :=
  if tsize P t == some c.cs.length then
    match a with
    | .ptr id off =>
      match ob id with
      | some (.box cells) =>
        match overlay cells off c.cs with
        | some cells' => if (npK ≤ id || ((cells.drop off).take c.cs.length).all At.isSc) ∧ off < cloK then some ⟨none, 0, none, [(id, some (.box cells'))]⟩ else none
        | none => none
      | _ => none
    | .elem (.own r) ver _ ix _ off kk =>
      match ob r with
      | some (.row ver' l app) =>
        if ver == ver' && off + c.cs.length ≤ kk.length && c.cs.length != 0 then
          match moved ob ((kk.drop off).take c.cs.length) c.cs with
          | some (ls, gone) => if gone.contains r || (!app && !gone.isEmpty) then none else some ⟨some (.set kk off, l :: ix :: ls), 1, none, gone.map (fun q => (q, none)) ++ [(r, some (.row (ver + 1) (.v nv) app))]⟩
          | none => none
        else none
      | _ => none
    | .elem (.inn r v0 l (some (.elm p))) ver ll ix _ off kk =>
      match ob r, mapO At.scl c.cs with
      | some (.row ver' _ app), some ls =>
        if v0 == ver' && ver == ver' && l.same ll && AK.eqs ((p.ks.drop p.off).take 1) [.sl kk] && kk.all (AK.eqb .sc) && off + c.cs.length ≤ kk.length && c.cs.length != 0 then
          some ⟨some (.setIn kk off p.ks p.off, l :: ix :: ls ++ [l, p.ll, p.ix]), 1, none, [(r, some (.row (ver' + 1) (.v nv) app))]⟩
        else none
      | _, _ => none
    | _ => none
  else none

def coreAddr (t : TypeId) (a : SV) (f : Nat) : Option Out :=
  match P.underlying t with
  | some (.struct fs) =>
    match fs[f]? with
    | some fd =>
      match tsize P fd.type with
      | some (_ + 1) =>
        match a with
        | .ptr id off =>
          match ob id with
          | some (.box _) => if off + fd.offset < cloK then some (.val (.ptr id (off + fd.offset))) else none
          | _ => none
        | .elem b ver ll ix el off ks => some (.val (.elem b ver ll ix el (off + fd.offset) ks))
        | _ => none
      | _ => none
    | none => none
  | _ => none

def coreIndex (t : TypeId) (x i : SV) : Option Out :=
  match P.underlying t with
  | some (.slice e) =>
    match aks P depthT e, tsize P e, x.at1, i.scl with
    | some ks, some n, some b, some li =>
      if ks.length == n && n != 0 then
        match b.lst ob ks with
        | some (ver, ll) => some ⟨some (.idx ks, [ll, li]), n, some (.elem b ver ll li nv 0 ks), []⟩
        | none => none
      else none
    | _, _, _, _ => none
  | _ => none

def fkOf (t : TypeId) : Option FK :=
  match P.underlying t with
  | some (.int _) => some .i
  | some .bool => some .b
  | some .string => some .s
  | _ => none

def flatFields : Nat → List Field → Option (List FK)
  | _, [] => some []
  | j, f :: fs =>
    if f.offset == j && f.name != "_" then
      match fkOf P f.type, flatFields (j + 1) fs with
      | some k, some ks => some (k :: ks)
      | _, _ => none
    else none

def flatStruct (t : TypeId) : Option (List FK) :=
  match P.underlying t with
  | some (.struct fs) => if !P.eqGuardType P.depth t && !P.stoodInHeld t then flatFields P 0 fs.toList else none
  | _ => none

def coreBin (op : BinOp) (t : TypeId) (x y : SV) : Option Out :=
  match x, y with
  | .sc ⟨true, xs⟩, .sc ⟨true, ys⟩ =>
    match flatStruct P t, mapO At.scl xs, mapO At.scl ys, op with
    | some ks, some lx, some ly, .eql => if lx.length == ks.length && ly.length == ks.length then some (.scal nv (.eqa false ks) (lx ++ ly)) else none
    | some ks, some lx, some ly, .neq => if lx.length == ks.length && ly.length == ks.length then some (.scal nv (.eqa true ks) (lx ++ ly)) else none
    | _, _, _, _ => none
  | x, y =>
    match x.scl, y.scl with
    | some lx, some ly =>
      match P.underlying t with
      | some (.int _) => some (.scal nv (.bin op) [lx, ly])
      | some .string => some (.scal nv (.bin op) [lx, ly])
      | some .bool => some (.scal nv (.binb op) [lx, ly])
      | _ => none
    | _, _ => none

def coreErr (op : BinOp) (t : TypeId) (y : Operand) (x : SV) : Option Out :=
  match y, P.underlying t, x.scl with
  | .const .nilIface, some (.interface _), some l =>
    match op with
    | .eql => some (.scal nv (.isNil false) [l])
    | .neq => some (.scal nv (.isNil true) [l])
    | _ => none
  | _, _, _ => none

def coreBytes (s d : TypeId) (x : SV) : Option Out :=
  match P.underlying s, P.underlying d, x.scl with
  | some .string, some (.slice e), some l =>
    match P.underlying e, P.info? e with
    | some (.int .u8), some i => some ⟨some (.s2b i.bytes, [l]), 1, some (.ofAt (.own fid)), [(fid, some (.row 0 (.v nv) true))]⟩
    | _, _ => none
  | _, _, _ => none

def coreConv (s d : TypeId) (x : SV) : Option Out :=
  match P.underlying s, P.underlying d with
  | some (.int _), some (.int k) => x.scl.map fun l => .scal nv (.conv k) [l]
  | some (.slice e), some .string =>
    match P.underlying e, x.at1 with
    | some (.int .u8), some b => (b.lst ob [.sc]).map fun q => .scal nv .b2s [q.2]
    | _, _ => none
  | _, _ => none

def coreMake (t : TypeId) (l c : SV) : Option Out :=
  match P.underlying t with
  | some (.slice e) =>
    match aks P depthT e, zeroAts P e, P.info? e, l.scl, c.scl with
    | some ks, some z, some i, some ll, some lc =>
      if ks.length == i.size && z.length == i.size && i.size != 0 && (isStruct P e || i.size == 1) then
        match moved ob ks z with
        | some (ls, []) => if !ls.all Lf.isK then none else some ⟨some (.mk ks (V.pack (isStruct P e) (ls.map (Lf.ev []))) i.bytes, [ll, lc]), 1, some (.ofAt (.own fid)), [(fid, some (.row 0 (.v nv) true))]⟩
        | _ => none
      else none
    | _, _, _, _, _ => none
  | _ => none

def preOf (l : Lf) (lo hi : Option Lf) : Option Pth :=
  match lo, hi with
  | none, some h => some (.pre l h)
  | _, _ => none

def subAt (a : At) (ver nv : Nat) (p : Option Pth) : Option At :=
  match a with
  | .ro _ => some (.ro (.v nv))
  | .own r => some (.inn r ver (.v nv) p)
  | .inn r _ _ _ => some (.inn r ver (.v nv) none)
  | _ => none

def optScl (x : Option Operand) : Option (Option Lf) :=
  match x with
  | none => some none
  | some x =>
    match (ρ [] x).bind SV.scl with
    | some l => some (some l)
    | none => none

def coreSlice (t : TypeId) (x : SV) (lo hi : Option Lf) : Option Out :=
    match P.underlying t with
    | some .string => x.scl.map fun l => .scal nv .ssub (l :: lo.getD (.k (.int .i64 0)) :: hi.toList)
    | some (.slice e) =>
      match aks P depthT e, tsize P e, x.at1 with
      | some ks, some k, some b =>
        if ks.length != k then none else
        match b.lst ob ks with
        | some (ver, l) => (subAt b ver nv (preOf l lo hi)).map fun a => ⟨some (.lsub ks, l :: lo.getD (.k (.int .i64 0)) :: hi.toList), 1, some (.ofAt a), []⟩
        | none => none
      | _, _, _ => none
    | _ => none

def coreLen (t : TypeId) (x : SV) : Option Out :=
  match P.underlying t with
  | some .string => x.scl.map fun l => .scal nv .slen [l]
  | some (.slice e) =>
    match aks P depthT e, x.at1 with
    | some ks, some b => (b.lst ob ks).map fun q => .scal nv .len [q.2]
    | _, _ => none
  | _ => none

def appOf (q : Nat) : Bool :=
  match ob q with
  | some (.row _ _ app) => app
  | _ => false

def appHead (ks : List AK) : At → Option (Lf × List Nat)
  | .nil => some (.k (.list ks []), [])
  | .own r =>
    match ob r with
    | some (.row _ l true) => some (l, [r])
    | _ => none
  | _ => none

def coreApp (t u : TypeId) (x y : SV) : Option Out :=
  match P.underlying t with
  | some (.slice e) =>
    match aks P depthT e, P.info? e, zeroAts P e, x.at1 with
    | some ks, some i, some z, some b =>
      if ks.length == i.size && i.size != 0 && z.length == i.size then
        match appHead ob ks b with
        | some (lx, gone) =>
          match P.underlying u with
          | some .string =>
            if AK.eqs ks [.sc] then y.scl.map fun ly => ⟨some (.apps i.bytes, [lx, ly]), 1, some (.ofAt (.own fid)), gone.map (fun r => (r, none)) ++ [(fid, some (.row 0 (.v nv) true))]⟩ else none
          | some (.slice _) =>
            match y.at1 with
            | some c =>
              match c.lst ob ks with
              | some (_, ly) =>
                if ks.all (AK.eqb .sc) then some ⟨some (.app ks i.bytes, [lx, ly]), 1, some (.ofAt (.own fid)), gone.map (fun r => (r, none)) ++ [(fid, some (.row 0 (.v nv) true))]⟩
                else
                  match c with
                  | .own q => if gone.contains q || !appOf ob q then none else some ⟨some (.app ks i.bytes, [lx, ly]), 1, some (.ofAt (.own fid)), gone.map (fun r => (r, none)) ++ [(q, none), (fid, some (.row 0 (.v nv) true))]⟩
                  | _ => none
              | none => none
            | none => none
          | _ => none
        | none => none
      else none
    | _, _, _, _ => none
  | _ => none

def mapScl : List Operand → Option (List Lf)
  | [] => some []
  | x :: xs =>
    match (ρ [] x).bind SV.scl, mapScl xs with
    | some l, some ls => some (l :: ls)
    | _, _ => none


def ioCells : List AK → List At → Option (List Lf × List Nat)
  | [], [] => some ([], [])
  | .sc :: ks, .sc l :: as => (ioCells ks as).map fun x => (l :: x.1, x.2)
  | .sl _ :: ks, .own r :: as =>
    match ob r, ioCells ks as with
    | some (.row _ l _), some x => if x.2.contains r then none else some (l :: x.1, r :: x.2)
    | _, _ => none
  | _, _ => none

structure Args where
  ls : List Lf
  rows : List Nat
  boxes : List (Nat × List AK × List At)
  tk : List Nat

def SV.fnOf (x : SV) : Option Nat :=
  match x.scl with
  | some (.k (.fn f)) => some f
  | _ => none

def coreArgs : List PK → List SV → Option Args
  | [], [] => some ⟨[], [], [], []⟩
  | .val g ks :: ps, .sc c :: xs =>
    if g == c.g && (g || ks.length == 1) then
      match leaves ob ks c.cs, coreArgs ps xs with
      | some l, some a => some ⟨l ++ a.ls, a.rows, a.boxes, a.tk⟩
      | _, _ => none
    else none
  | .io g ks :: ps, .sc c :: xs =>
    if g == c.g && (g || ks.length == 1) then
      match ioCells ob ks c.cs, coreArgs ps xs with
      | some (l, rs), some a => if rs.any (a.rows.contains ·) then none else some ⟨l ++ a.ls, rs ++ a.rows, a.boxes, a.tk⟩
      | _, _ => none
    else none
  | .ptr o ks :: ps, .ptr id o' :: xs =>
    if o != o' then none else
    match ob id with
    | some (.box cells) =>
      match leaves ob ks cells, coreArgs ps xs with
      | some l, some a => if a.boxes.any (fun b => b.1 == id) then none else some ⟨l ++ a.ls, a.rows, (id, ks, cells) :: a.boxes, a.tk⟩
      | _, _ => none
    | _ => none
  | .tk g ks :: ps, .sc c :: xs =>
    if g == c.g && (g || ks.length == 1) then
      match moved ob ks c.cs, coreArgs ps xs with
      | some (l, rs), some a => if rs.any (a.tk.contains ·) then none else some ⟨l ++ a.ls, a.rows, a.boxes, rs ++ a.tk⟩
      | _, _ => none
    else none
  | .cst f :: ps, x :: xs => if x.fnOf == some f then coreArgs ps xs else none
  | _, _ => none

def roRows : List PK → List SV → List Nat
  | .val _ _ :: ps, .sc c :: xs => c.cs.filterMap (fun | .own r => some r | .inn r _ _ _ => some r | _ => none) ++ roRows ps xs
  | .ptr _ _ :: ps, .ptr id _ :: xs =>
    (match ob id with
     | some (.box cells) => cells.filterMap (fun | .own r => some r | .inn r _ _ _ => some r | _ => none)
     | _ => []) ++ roRows ps xs
  | _ :: ps, _ :: xs => roRows ps xs
  | _, _ => []

def resCells (fid : Nat) : Nat → List AK → List At × List (Nat × Option SO)
  | _, [] => ([], [])
  | j, .sc :: ks => let r := resCells fid (j + 1) ks; (.sc (.v j) :: r.1, r.2)
  | j, .sl _ :: ks => let r := resCells fid (j + 1) ks; (.own (fid + j) :: r.1, (fid + j, some (.row 0 (.v j) true)) :: r.2)

def resSCs (fid : Nat) : Nat → List (Bool × List AK) → List SC × List (Nat × Option SO) × Nat
  | j, [] => ([], [], j)
  | j, (g, ks) :: rs => let c := resCells fid j ks; let r := resSCs fid (j + ks.length) rs; (⟨g, c.1⟩ :: r.1, c.2 ++ r.2.1, r.2.2)

def rowUps (keep : Bool) : Nat → List Nat → List (Nat × Option SO)
  | _, [] => []
  | j, r :: rs =>
    (match ob r with
     | some (.row ver _ app) => [(r, some (.row (ver + 1) (.v j) (app && keep)))]
     | _ => []) ++ rowUps keep (j + 1) rs

def flatIo : List PK → Bool
  | [] => true
  | .io _ ks :: ps => (ks.all fun | .sl js => js.all (AK.eqb .sc) | .sc => true) && flatIo ps
  | _ :: ps => flatIo ps

def boxCells : Nat → List AK → List At → List At × Nat
  | j, .sc :: ks, _ :: as => let r := boxCells (j + 1) ks as; (.sc (.v j) :: r.1, r.2)
  | j, .sl _ :: ks, a :: as => let r := boxCells j ks as; (a :: r.1, r.2)
  | j, _, _ => ([], j)

def boxUps : Nat → List (Nat × List AK × List At) → List (Nat × Option SO) × Nat
  | j, [] => ([], j)
  | j, (id, ks, cells) :: xs => let c := boxCells j ks cells; let r := boxUps c.2 xs; ((id, some (.box c.1)) :: r.1, r.2)

def packRes : List SC → SV
  | [c] => .sc c
  | cs => .tup cs

def resLen (rs : List (Bool × List AK)) : Nat := (rs.map fun r => r.2.length).sum

def rowLf (r : Nat) : Option Lf :=
  match ob r with
  | some (.row _ l _) => some l
  | _ => none

def coreCall (f : Nat) (xs : List SV) : Option Out :=
  match sg.lookup f, P.funcs[f]? with
  | some s, some fn =>
    if fn.body.isSome && fn.name != "runtime.NumGoroutine" then
      match coreArgs ob s.ps xs with
      | some a =>
        if (roRows ob s.ps xs).any (fun r => a.rows.contains r || a.tk.contains r) || a.rows.any (a.tk.contains ·) then none else
        match mapO (rowLf ob) a.rows with
        | none => none
        | some rl =>
        if !flatIo s.ps && a.rows.any (fun r => r < npK && appOf ob r) then none else
        let r := resSCs fid nv s.rs
        let up := rowUps ob (flatIo s.ps) r.2.2 a.rows
        let bx := boxUps (r.2.2 + a.rows.length) a.boxes
        some ⟨some (if flatIo s.ps then .call s.F rl.length (resLen s.rs) else .callN s.F rl.length (resLen s.rs), a.ls ++ rl), bx.2 - nv, some (packRes r.1), a.tk.map (fun r => (r, none)) ++ (up ++ bx.1 ++ r.2.1)⟩
      | none => none
    else none
  | _, _ => none

def PK.isVal : PK → Bool
  | .val _ _ => true
  | _ => false

def coreCallIn (f : Nat) (xs : List SV) : Option Out :=
  match sg.lookup f, P.funcs[f]? with
  | some s, some fn =>
    if fn.body.isSome && fn.name != "runtime.NumGoroutine" then
      match s.ps, xs with
      | .io false [.sl js] :: ps, .sc ⟨false, [.inn r ver l (some (.elm p))]⟩ :: xs' =>
        match ob r, coreArgs ob ps xs' with
        | some (.row ver' _ app), some a =>
          if js.all (AK.eqb .sc) && ps.all PK.isVal && ver == ver' && AK.eqs ((p.ks.drop p.off).take 1) [.sl js] && !(roRows ob ps xs').contains r then
            let q := resSCs fid nv s.rs
            some ⟨some (.callIn s.F (resLen s.rs) p.ks p.off, l :: a.ls ++ [l, p.ll, p.ix]), resLen s.rs + 1, some (packRes q.1), (r, some (.row (ver + 1) (.v (nv + resLen s.rs)) app)) :: q.2.1⟩
          else none
        | _, _ => none
      | _, _ => none
    else none
  | _, _ => none

def cellsIn : Nat → List AK → List At
  | _, [] => []
  | j, .sc :: ks => .sc (.v j) :: cellsIn (j + 1) ks
  | j, .sl _ :: ks => .ro (.v j) :: cellsIn (j + 1) ks

def coreCallNew (f : Nat) (xs : List SV) : Option Out :=
  match sg.lookup f, P.funcs[f]? with
  | some s, some fn =>
    if fn.body.isSome && fn.name != "runtime.NumGoroutine" then
      match s.ps with
      | .new ks :: ps =>
        match coreArgs ob ps xs with
        | some a => if ps.all PK.isVal && (roRows ob ps xs).isEmpty then some ⟨some (.call s.F 0 ks.length, a.ls), ks.length, some (.ptr fid 0), [(fid, some (.box (cellsIn nv ks)))]⟩ else none
        | none => none
      | _ => none
    else none
  | _, _ => none

def core (o : Oper) : Option Out :=
  match o.op with
  | .move x => (ρ [] x).map .val
  | .assign x => if isNilPtr x then some ⟨none, 0, none, []⟩ else (ρ [] x).map .val
  | .pick c a b =>
    match (ρ [] c).bind SV.scl with
    | some lc =>
      match (ρ [(lc, true)] a).bind SV.scl, (ρ [(lc, false)] b).bind SV.scl with
      | some la, some lb => some (.scal nv .pick [lc, la, lb])
      | _, _ => none
    | none => none
  | .alloc t => (zeroAts P t).map fun z => ⟨none, 0, some (.ptr fid 0), [(fid, some (.box z))]⟩
  | .box _ x =>
    match ρ [] x with
    | some (.sc c) => some ⟨none, 0, some (.ptr fid 0), [(fid, some (.box c.cs))]⟩
    | _ => none
  | .build t parts =>
    match P.underlying t, zeroAts P t with
    | some (.struct fs), some z => if fs.toList.all fun f => (tsize P f.type).isSome then (coreBuild P ρ fs z parts.toList).map fun cs => .val (.sc ⟨true, cs⟩) else none
    | _, _ => none
  | .buildSlice t len parts => coreBuildSlice P ρ ob fid nv t len parts.toList
  | .load t a => (ρ [] a).bind (coreLoad P ob t)
  | .store t a x =>
    match ρ [] a, ρ [] x with
    | some sa, some (.sc c) => coreStore P ob nv t sa c
    | _, _ => none
  | .fieldAddr t x f => (ρ [] x).bind fun a => coreAddr P ob t a f
  | .indexAddr t x i =>
    match ρ [] x, ρ [] i with
    | some a, some b => coreIndex P ob nv t a b
    | _, _ => none
  | .index t x i =>
    match P.underlying t, (ρ [] x).bind SV.scl, (ρ [] i).bind SV.scl with
    | some .string, some a, some b => some (.scal nv .sidx [a, b])
    | _, _, _ => none
  | .binOp op t x y _ =>
    match ρ [] x, ρ [] y with
    | some a, some b => (coreBin P nv op t a b).or (coreErr P nv op t y a)
    | _, _ => none
  | .unOp op _ x => ((ρ [] x).bind SV.scl).map fun l => .scal nv (.un op) [l]
  | .convert s d x => (ρ [] x).bind fun a => (coreConv P ob nv s d a).or (coreBytes P fid nv s d a)
  | .makeSlice t l c =>
    match ρ [] l, ρ [] c with
    | some a, some b => coreMake P ob fid nv t a b
    | _, _ => none
  | .slice t x lo hi none =>
    match ρ [] x, optScl ρ lo, optScl ρ hi with
    | some a, some l, some h => coreSlice P ob nv t a l h
    | _, _, _ => none
  | .extract x i =>
    match ρ [] x with
    | some (.tup cs) => (cs[i]?).map fun c => .val (.sc c)
    | _ => none
  | .nilCheck x =>
    match ρ [] x with
    | some (.ptr id off) =>
      match ob id with
      | some (.box _) => if off < cloK then some (.val (.ptr id off)) else none
      | _ => none
    | _ => none
  | .makeFunc (.func g) first captured =>
    match first.toList, captured.toList with
    | [], [x] =>
      match ρ [] x with
      | some (.ptr id 0) => some (.val (.ptr id (cloK + g)))
      | _ => none
    | _, _ => none
  | .call { callee := .builtin .len, args, argTypes } =>
    match args.toList, argTypes.toList with
    | [x], [t] => (ρ [] x).bind (coreLen P ob nv t)
    | _, _ => none
  | .call { callee := .builtin .append, args, argTypes } =>
    match args.toList, argTypes.toList with
    | [x, y], [t, u] =>
      match ρ [] x, ρ [] y with
      | some a, some b => coreApp P ob fid nv t u a b
      | _, _ => none
    | _, _ => none
  | .call { callee := .builtin .max, args, .. } =>
    match mapScl ρ args.toList with
    | some (l :: ls) => some (.scal nv .mx (l :: ls))
    | _ => none
  | .call { callee := .builtin .min, args, .. } =>
    match mapScl ρ args.toList with
    | some (l :: ls) => some (.scal nv .mn (l :: ls))
    | _ => none
  | .call { callee := .value x, args, .. } =>
    match (ρ [] x).bind SV.fnOf with
    | some f =>
      match mapO (ρ []) args.toList with
      | some xs => ((coreCall P sg ob fid nv f xs).or (coreCallIn P sg ob fid nv f xs)).or (coreCallNew P sg ob fid nv f xs)
      | none => none
    | _ => none
  | _ => none

end

end Go.Mw

namespace Go.Mw
open Go.RowKit

structure Mp where
  hd : Nat → Value
  ph : Nat → List Nat
  be : Nat → Nat

structure Gl where
  blk : Nat → Option Obj
  dr : Bool
def Gl.Ok (G : Gl) (w : World) : Prop := ∀ b o, G.blk b = some o → w.heap[b]? = some o
def Gl.zero : Gl := ⟨fun _ => none, true⟩

structure Cx where
  w0 : World
  inb : List Nat
  par : Nat → Option (Value × List Nat)
  parB : Nat → Option (Nat × (Nat → Option Value))
  ros : List Nat
  tk : List Nat
  G : Gl

def Cx.mine (c : Cx) (b : Nat) : Prop := c.w0.heap.size ≤ b ∨ b ∈ c.inb
def Cx.own (c : Cx) (b : Nat) : Prop := c.w0.heap.size ≤ b ∨ (b ∈ c.tk ∧ b ∈ c.inb)
def Cx.rd (c : Cx) (b : Nat) : Prop := ¬ c.mine b ∧ b ∈ c.ros
theorem Cx.own.mine {c : Cx} {b : Nat} (h : c.own b) : c.mine b := h.imp id (·.2)

structure FS where
  sl : Nat → Option (Gs × SV)
  ob : Nat → Option SO

def GH (env : List V) (gs : Gs) : Prop := ∀ p ∈ gs, p.1.ev env = .bool p.2

def FzOk (n : Nat) (fz : Nat × Nat) : Prop := fz = (0, 0) ∨ n ≤ fz.1
theorem FzOk.zero {n : Nat} : FzOk n (0, 0) := .inl rfl
def Wr (w : World) (b : Nat) : Prop := ∃ cs E fz, w.heap[b]? = some (.cells cs E fz) ∧ FzOk cs.size fz
theorem Wr.mk {w : World} {b : Nat} {cs : Array Value} {E : TypeId} (h : w.heap[b]? = some (.cells cs E (0, 0))) : Wr w b := ⟨cs, E, (0, 0), h, .zero⟩

def OwnH1 (w : World) (v : Value) (d : V) : Prop :=
  v = .slice none 0 0 ∨ ∃ g n cap ks es, v = .slice (some ⟨g, 0, none⟩) n cap ∧ d = .list ks es ∧ (0 < cap → ∃ cur E fz, w.heap[g]? = some (.cells cur E fz) ∧ FzOk cur.size fz ∧ cur.size = cap * ks.length) ∧ n ≤ cap ∧ cap ≤ maxLen

def OwnCs (w : World) (us : List Value) (ds : List V) : Prop := ∀ (j : Nat) u js es', us[j]? = some u → ds[j]? = some (.list js es') → OwnH1 w u (.list js es')

def Inn (w : World) (v : Value) (d : V) : Prop :=
  ∀ b o n cap ks es, v = .slice (some ⟨b, o, none⟩) n cap → d = .list ks es → ∀ (j : Nat) u js es', j < n * ks.length → w.cell? ⟨b, o + j, none⟩ = some u → (es.flatMap V.cells)[j]? = some (.list js es') → OwnH1 w u (.list js es')

def OwnHd (w : World) (v : Value) (d : V) : Prop := OwnH1 w v d ∧ Inn w v d

def flatK (ks : List AK) : Bool := ks.all (AK.eqb .sc)

theorem aks_flat : ∀ {ks : List AK} {ds : List V}, aksOk ks ds = true → flatK ks = true → ∀ js es, V.list js es ∉ ds
  | [], [], _, _, _, _ => by simp
  | [], _ :: _, h, _, _, _ => by simp [aksOk] at h
  | _ :: _, [], h, _, _, _ => by simp [aksOk] at h
  | k :: ks, d :: ds, h, hf, js, es => by
    simp only [aksOk, Bool.and_eq_true] at h
    simp only [flatK, List.all_cons, Bool.and_eq_true] at hf
    intro hm
    rcases List.mem_cons.1 hm with rfl | hm
    · have := AK.eqb_eq hf.1
      subst this
      simp [akOk] at h
    · exact aks_flat h.2 hf.2 js es hm

theorem Inn.flat {w : World} {v : Value} {ks : List AK} {es : List V} {S : List Nat} (hr : Rep w [v] [.list ks es] S) (hf : flatK ks = true) : Inn w v (.list ks es) := by
  intro b o n cap ks' es' hv hd j u js es2 hj _ hcell
  simp only [V.list.injEq] at hd
  obtain ⟨rfl, rfl⟩ := hd
  have hm := List.mem_of_getElem? hcell
  obtain ⟨e, he, hme⟩ := List.mem_flatMap.1 hm
  cases hr with
  | atom h _ =>
    cases h
    all_goals simp at he
  | row b off n cap ks es vs S cs E fz hn hk => exact absurd hme (aks_flat (hk e he) hf _ _)

theorem Inn.nil {w : World} {d : V} : Inn w (.slice none 0 0) d := by
  intro b o n cap ks es hv
  simp at hv

theorem Inn.nil0 {w : World} {a : Addr} {d : V} : Inn w (.slice (some a) 0 0) d := by
  intro b o n cap ks es hv _ j u js es' hj
  simp only [Value.slice.injEq] at hv
  obtain ⟨_, rfl, _⟩ := hv
  simp at hj

def At.men : At → Nat → Prop
  | .own r, x => x = r
  | .inn r _ _ _, x => x = r
  | _, _ => False

def atsMen (cs : List At) (x : Nat) : Prop := ∃ a ∈ cs, a.men x

def SV.men : SV → Nat → Prop
  | .sc c, x => atsMen c.cs x
  | .ptr id _, x => x = id
  | .elem b _ _ _ _ _ _, x => b.men x
  | .tup cs, x => ∃ c ∈ cs, atsMen c.cs x

def ptrV (b off : Nat) : Value := if off < cloK then .pointer (some ⟨b, off, none⟩) else .func (.func (off - cloK)) #[] #[.pointer (some ⟨b, 0, none⟩)]
theorem ptrV_lt {b off : Nat} (h : off < cloK) : ptrV b off = .pointer (some ⟨b, off, none⟩) := if_pos h
@[simp] theorem ptrV_zero {b : Nat} : ptrV b 0 = .pointer (some ⟨b, 0, none⟩) := ptrV_lt (by unfold cloK; omega)
@[simp] theorem ptrV_clo {b g : Nat} : ptrV b (cloK + g) = .func (.func g) #[] #[.pointer (some ⟨b, 0, none⟩)] := by
  unfold ptrV
  rw [if_neg (by omega), Nat.add_sub_cancel_left]

section
variable (c : Cx) (M : Mp) (env : List V) (w : World) (ob : Nat → Option SO)

def ElemAt (ll ix : Lf) (el off : Nat) (ks : List AK) (u v : Value) : Prop :=
  ∃ b o n cap es i kk e, u = .slice (some ⟨b, o, none⟩) n cap ∧ ll.ev env = .list ks es ∧ ix.ev env = .int kk i ∧ 0 ≤ i ∧
    es[i.toNat]? = some e ∧ aksOk ks e.cells = true ∧ (∀ j, j < ks.length → env[el + j]? = e.cells[j]?) ∧ v = .pointer (some ⟨b, o + i.toNat * ks.length + off, none⟩)

def PreOf (ll hi l : Lf) (u v : Value) : Prop :=
  ∃ ks es k m xx cap, ll.ev env = .list ks es ∧ hi.ev env = .int k m ∧ 0 ≤ m ∧ m.toNat ≤ es.length ∧ l.ev env = .list ks (es.take m.toNat) ∧ u = .slice xx es.length cap ∧ v = .slice xx m.toNat cap

def RelPth (p : Option Pth) (r ver : Nat) (l : Lf) (v : Value) : Prop :=
  match p with
  | none => True
  | some (.pre ll hi) => ∃ u, PreOf env ll hi l u v ∧ ∀ ver' l' app, ob r = some (.row ver' l' app) → ver = ver' → l'.ev env = ll.ev env ∧ u = M.hd r
  | some (.elm q) => ∃ u b o, l = .v (q.el + q.off) ∧ ElemAt env q.ll q.ix q.el q.off q.ks u (.pointer (some ⟨b, o, none⟩)) ∧
      ∀ ver' l' app, ob r = some (.row ver' l' app) → ver = ver' → l'.ev env = q.ll.ev env ∧ u = M.hd r ∧ b ∈ M.ph r ∧ w.cell? ⟨b, o, none⟩ = some v

def RelAt (a : At) (v : Value) : Prop :=
  v.oneCell' = true ∧
  match a with
  | .sc l => Rep w [v] [l.ev env] []
  | .nil => v = .slice none 0 0
  | .ro l => ∃ S, Rep w [v] [l.ev env] S ∧ ∀ b ∈ S, c.rd b
  | .own r => ∀ ver l app, ob r = some (.row ver l app) → v = M.hd r
  | .inn r ver l p => (∀ ver' l' app, ob r = some (.row ver' l' app) → ver ≤ ver' ∧ (ver = ver' → ∃ S, Rep w [v] [l.ev env] S ∧ ∀ b ∈ S, b ∈ M.ph r)) ∧ RelPth M env w ob p r ver l v

def RelAts : List At → List Value → Prop
  | [], [] => True
  | a :: as, v :: vs => RelAt c M env w ob a v ∧ RelAts as vs
  | _, _ => False

def packV (g : Bool) (vs : List Value) (v : Value) : Prop := if g then v = .agg vs.toArray else vs = [v]

def RelSC (x : SC) (v : Value) : Prop := ∃ vs, RelAts c M env w ob x.cs vs ∧ packV x.g vs v

def RelSCs : List SC → List Value → Prop
  | [], [] => True
  | a :: as, v :: vs => RelSC c M env w ob a v ∧ RelSCs as vs
  | _, _ => False

def RelBase (b : At) (ver : Nat) (ll : Lf) (u : Value) : Prop :=
  match b with
  | .ro _ => ∃ S, Rep w [u] [ll.ev env] S ∧ ∀ x ∈ S, c.rd x
  | .own r => ∀ ver' l' app, ob r = some (.row ver' l' app) → ver ≤ ver' ∧ (ver = ver' → l'.ev env = ll.ev env ∧ u = M.hd r)
  | .inn r v0 l p => (∀ ver' l' app, ob r = some (.row ver' l' app) → ver ≤ ver' ∧ (ver = ver' → ∃ S, Rep w [u] [ll.ev env] S ∧ ∀ b ∈ S, b ∈ M.ph r)) ∧ (∀ ver' l' app, ob r = some (.row ver' l' app) → v0 ≤ ver') ∧ RelPth M env w ob p r v0 l u
  | _ => False

def RelSV (s : SV) (v : Value) : Prop :=
  match s with
  | .sc x => RelSC c M env w ob x v
  | .ptr id off => ∀ cells, ob id = some (.box cells) → v = ptrV (M.be id) off
  | .elem b ver ll ix el off ks => ∃ u, RelBase c M env w ob b ver ll u ∧ ElemAt env ll ix el off ks u v
  | .tup cs => ∃ vs, v = .tuple vs.toArray ∧ RelSCs c M env w ob cs vs

def RowOk (r : Nat) (l : Lf) (app : Bool) : Prop :=
  (∃ S, Rep w [M.hd r] [l.ev env] S ∧ S.Nodup ∧ ∀ b ∈ S, b ∈ M.ph r ∧ Wr w b) ∧ (∀ b ∈ M.ph r, c.mine b ∧ b < w.heap.size) ∧ (app = true → OwnHd w (M.hd r) (l.ev env) ∧ ∀ b ∈ M.ph r, c.own b) ∧
    (app = false → ∀ v S, c.par r = some (v, S) → M.hd r = v ∧ ∀ b ∈ M.ph r, b ∈ S)

def BoxOk (id : Nat) (cells : List At) : Prop :=
  ∃ us E, w.heap[M.be id]? = some (.cells us.toArray E (0, 0)) ∧ RelAts c M env w ob cells us ∧ c.mine (M.be id) ∧ ∀ b t, c.parB id = some (b, t) → M.be id = b ∧ ∀ (i : Nat) u, t i = some u → us[i]? = some u ∧ ∃ x, cells[i]? = some x ∧ x.isSc = false

structure Keep : Prop where
  os : w.os = c.w0.os
  tape : w.tape = c.w0.tape
  output : w.output = c.w0.output
  size : c.w0.heap.size ≤ w.heap.size
  block : ∀ b, b < c.w0.heap.size → b ∉ c.inb → w.heap[b]? = c.w0.heap[b]?
  sz : ∀ (b : Nat) (cs : Array Value) (E : TypeId) (fz : Nat × Nat), c.w0.heap[b]? = some (.cells cs E fz) → ∃ cs' : Array Value, w.heap[b]? = some (.cells cs' E fz) ∧ cs'.size = cs.size
  dr : c.G.dr = true → c.w0.drawn ≤ w.drawn
  gl : ∀ b o, c.G.blk b = some o → w.heap[b]? = some o ∧ ¬ c.mine b

end

structure Rel (c : Cx) (nt : Nat) (M : Mp) (env : List V) (A : FS) (a : Act) (w : World) : Prop where
  size : a.tmps.size = nt
  defs : a.defers = []
  slots : ∀ s gs sv, A.sl s = some (gs, sv) → s < nt ∧ (GH env gs → RelSV c M env w A.ob sv (a.tmps.getD s undef)) ∧ (¬ GH env gs → a.tmps.getD s undef = undef)
  rows : ∀ r ver l app, A.ob r = some (.row ver l app) → RowOk c M env w r l app
  boxes : ∀ id cells, A.ob id = some (.box cells) → BoxOk c M env w A.ob id cells
  dBB : ∀ i j x y, A.ob i = some (.box x) → A.ob j = some (.box y) → i ≠ j → M.be i ≠ M.be j
  dRR : ∀ i j vi li ai vj lj aj, A.ob i = some (.row vi li ai) → A.ob j = some (.row vj lj aj) → i ≠ j → ∀ b ∈ M.ph i, b ∉ M.ph j
  dBR : ∀ i j x vj lj aj, A.ob i = some (.box x) → A.ob j = some (.row vj lj aj) → M.be i ∉ M.ph j
  keep : Keep c w

structure Ext (c : Cx) (fr : Nat → Prop) (M : Mp) (ob : Nat → Option SO) (w : World) (M' : Mp) (ob' : Nat → Option SO) (w' : World) : Prop where
  row : ∀ r ver l app, ¬ fr r → ob' r = some (.row ver l app) → ∃ ver0 l0 app0, ob r = some (.row ver0 l0 app0) ∧ M'.hd r = M.hd r ∧ ver0 ≤ ver ∧
    (ver0 = ver → l = l0 ∧ ∀ b ∈ M.ph r, b < w.heap.size → b ∈ M'.ph r ∧ w'.heap[b]? = w.heap[b]?)
  box : ∀ id cells, ¬ fr id → ob' id = some (.box cells) → (∃ cells0, ob id = some (.box cells0)) ∧ M'.be id = M.be id
  ro : ∀ b, b < w.heap.size → ¬ c.mine b → w'.heap[b]? = w.heap[b]?

section
variable {c : Cx} {fr : Nat → Prop} {M M' : Mp} {env : List V} {w w' : World} {ob ob' : Nat → Option SO}

theorem cell_frame {w w' : World} {b o : Nat} (h : w'.heap[b]? = w.heap[b]?) : w'.cell? ⟨b, o, none⟩ = w.cell? ⟨b, o, none⟩ := by
  simp only [World.cell?, h]
theorem cell_lt {w : World} {b o : Nat} {v : Value} (h : w.cell? ⟨b, o, none⟩ = some v) : b < w.heap.size := by
  rcases Nat.lt_or_ge b w.heap.size with h1 | h1
  · exact h1
  · simp [World.cell?, Array.getElem?_eq_none h1] at h

theorem RelPth.ext (E : Ext c fr M ob w M' ob' w') {p : Option Pth} {r ver : Nat} {l : Lf} {v : Value} (hf : ¬ fr r) (hv : ∀ ver' l' app, ob r = some (.row ver' l' app) → ver ≤ ver') (h : RelPth M env w ob p r ver l v) : RelPth M' env w' ob' p r ver l v := by
  cases p with
  | none => trivial
  | some q =>
  cases q with
  | pre ll hi =>
    obtain ⟨u, h1, h2⟩ := h
    refine ⟨u, h1, fun ver' l' app ho e => ?_⟩
    obtain ⟨v0, l0, a0, h3, h4, h5, h6⟩ := E.row r ver' l' app hf ho
    have := hv _ _ _ h3
    obtain ⟨e1, e2⟩ := h6 (by omega)
    subst e1
    obtain ⟨g1, g2⟩ := h2 _ _ _ h3 (by omega)
    exact ⟨g1, by rw [h4]; exact g2⟩
  | elm q =>
    obtain ⟨u, b, o, h0, h1, h2⟩ := h
    refine ⟨u, b, o, h0, h1, fun ver' l' app ho e => ?_⟩
    obtain ⟨v0, l0, a0, h3, h4, h5, h6⟩ := E.row r ver' l' app hf ho
    have := hv _ _ _ h3
    obtain ⟨e1, e2⟩ := h6 (by omega)
    subst e1
    obtain ⟨g1, g2, g3, g4⟩ := h2 _ _ _ h3 (by omega)
    obtain ⟨g5, g6⟩ := e2 b g3 (cell_lt g4)
    exact ⟨g1, by rw [h4]; exact g2, g5, by rw [cell_frame g6]; exact g4⟩

theorem RelAt.ext (E : Ext c fr M ob w M' ob' w') {a : At} {v : Value} (hf : ∀ x, a.men x → ¬ fr x) (h : RelAt c M env w ob a v) : RelAt c M' env w' ob' a v := by
  refine ⟨h.1, ?_⟩
  have h2 := h.2
  cases a with
  | sc l => exact h2.frame (by simp)
  | nil => exact h2
  | ro l =>
    obtain ⟨S, h3, h4⟩ := h2
    exact ⟨S, h3.frame fun b hb => E.ro b (h3.lt b hb) (h4 b hb).1, h4⟩
  | own r =>
    intro ver l app ho
    obtain ⟨v0, l0, a0, h3, h4, _⟩ := E.row r ver l app (hf r rfl) ho
    rw [h4]; exact h2 _ _ _ h3
  | inn r ver l p =>
    refine ⟨fun ver' l' app ho => ?_, RelPth.ext E (hf r rfl) (fun v1 l1 a1 e => (h2.1 v1 l1 a1 e).1) h2.2⟩
    obtain ⟨v0, l0, a0, h3, h4, h5, h6⟩ := E.row r ver' l' app (hf r rfl) ho
    obtain ⟨h7, h8⟩ := h2.1 _ _ _ h3
    refine ⟨by omega, fun e => ?_⟩
    obtain ⟨S, h9, h10⟩ := h8 (by omega)
    obtain ⟨_, h11⟩ := h6 (by omega)
    exact ⟨S, h9.frame fun b hb => (h11 b (h10 b hb) (h9.lt b hb)).2, fun b hb => (h11 b (h10 b hb) (h9.lt b hb)).1⟩

theorem RelAts.ext (E : Ext c fr M ob w M' ob' w') : ∀ {as : List At} {vs : List Value}, (∀ x, atsMen as x → ¬ fr x) → RelAts c M env w ob as vs → RelAts c M' env w' ob' as vs
  | [], [], _, _ => trivial
  | [], _ :: _, _, h => h.elim
  | _ :: _, [], _, h => h.elim
  | a :: as, v :: vs, hf, h => ⟨RelAt.ext E (fun x hx => hf x ⟨a, by simp, hx⟩) h.1, RelAts.ext E (fun x ⟨b, hb, hx⟩ => hf x ⟨b, by simp [hb], hx⟩) h.2⟩

theorem RelSC.ext (E : Ext c fr M ob w M' ob' w') {x : SC} {v : Value} (hf : ∀ y, atsMen x.cs y → ¬ fr y) (h : RelSC c M env w ob x v) : RelSC c M' env w' ob' x v :=
  let ⟨vs, h1, h2⟩ := h; ⟨vs, RelAts.ext E hf h1, h2⟩

theorem RelSCs.ext (E : Ext c fr M ob w M' ob' w') : ∀ {as : List SC} {vs : List Value}, (∀ x, (∃ s ∈ as, atsMen s.cs x) → ¬ fr x) → RelSCs c M env w ob as vs → RelSCs c M' env w' ob' as vs
  | [], [], _, _ => trivial
  | [], _ :: _, _, h => h.elim
  | _ :: _, [], _, h => h.elim
  | a :: as, v :: vs, hf, h => ⟨RelSC.ext E (fun x hx => hf x ⟨a, by simp, hx⟩) h.1, RelSCs.ext E (fun x ⟨b, hb, hx⟩ => hf x ⟨b, by simp [hb], hx⟩) h.2⟩

theorem RelBase.ext (E : Ext c fr M ob w M' ob' w') {b : At} {ver : Nat} {ll : Lf} {u : Value} (hf : ∀ x, b.men x → ¬ fr x) (h : RelBase c M env w ob b ver ll u) : RelBase c M' env w' ob' b ver ll u := by
  cases b with
  | sc l => exact h
  | nil => exact h
  | ro l =>
    obtain ⟨S, h3, h4⟩ := h
    exact ⟨S, h3.frame fun b hb => E.ro b (h3.lt b hb) (h4 b hb).1, h4⟩
  | own r =>
    intro ver' l' app ho
    obtain ⟨v0, l0, a0, h3, h4, h5, h6⟩ := E.row r ver' l' app (hf r rfl) ho
    obtain ⟨h7, h8⟩ := h _ _ _ h3
    refine ⟨by omega, fun e => ?_⟩
    obtain ⟨rfl, h11⟩ := h6 (by omega)
    rw [h4]; exact h8 (by omega)
  | inn r v1 l1 p1 =>
    refine ⟨fun ver' l' app ho => ?_, fun ver' l' app ho => ?_, RelPth.ext E (hf r rfl) h.2.1 h.2.2⟩
    · obtain ⟨v0, l0, a0, h3, h4, h5, h6⟩ := E.row r ver' l' app (hf r rfl) ho
      obtain ⟨h7, h8⟩ := h.1 _ _ _ h3
      refine ⟨by omega, fun e => ?_⟩
      obtain ⟨S, h9, h10⟩ := h8 (by omega)
      obtain ⟨_, h11⟩ := h6 (by omega)
      exact ⟨S, h9.frame fun b hb => (h11 b (h10 b hb) (h9.lt b hb)).2, fun b hb => (h11 b (h10 b hb) (h9.lt b hb)).1⟩
    · obtain ⟨v0, l0, a0, h3, h4, h5, h6⟩ := E.row r ver' l' app (hf r rfl) ho
      have := h.2.1 _ _ _ h3
      omega

theorem RelSV.ext (E : Ext c fr M ob w M' ob' w') {s : SV} {v : Value} (hf : ∀ x, s.men x → ¬ fr x) (h : RelSV c M env w ob s v) : RelSV c M' env w' ob' s v := by
  cases s with
  | sc x => exact RelSC.ext E hf h
  | ptr id off =>
    intro cells ho
    obtain ⟨⟨cells0, h1⟩, h2⟩ := E.box id cells (hf id rfl) ho
    rw [h2]; exact h _ h1
  | elem b ver ll ix el off ks =>
    obtain ⟨u, h1, h2⟩ := h
    exact ⟨u, RelBase.ext E hf h1, h2⟩
  | tup cs =>
    obtain ⟨vs, h1, h2⟩ := h
    exact ⟨vs, h1, RelSCs.ext E hf h2⟩

theorem Wr.of_eq {b : Nat} (h : Wr w b) (he : w'.heap[b]? = w.heap[b]?) : Wr w' b := by
  obtain ⟨cs, E, h1⟩ := h; exact ⟨cs, E, he ▸ h1⟩

theorem OwnH1.frame {v : Value} {d : V} {S : List Nat} (h : OwnH1 w v d) (hr : Rep w [v] [d] S) (hf : ∀ b ∈ S, w'.heap[b]? = w.heap[b]?) : OwnH1 w' v d := by
  rcases h with h | ⟨g, n, cap, k, es, rfl, rfl, h3, h4⟩
  · exact .inl h
  · refine .inr ⟨g, n, cap, k, es, rfl, rfl, fun hp => ?_, h4⟩
    rw [hf g]; exact h3 hp
    cases hr with
    | atom h _ => cases h; simp at hp
    | row => simp

theorem Inn.frame {v : Value} {d : V} {S : List Nat} (h : Inn w v d) (hr : Rep w [v] [d] S) (hf : ∀ b ∈ S, w'.heap[b]? = w.heap[b]?) : Inn w' v d := by
  intro b o n cap ks es hv hd j u js es' hj hcell hd'
  subst hv
  subst hd
  cases hr with
  | atom h _ => cases h; simp at hj
  | row b off n cap ks es vs S cs E fz hn hk hc hb hs hvv hin t =>
    have hc0 : w.cell? ⟨b, o + j, none⟩ = some u := by rw [← hcell]; exact (cell_frame (hf b (by simp))).symm
    have h1 := h b o n cap ks es rfl rfl j u js es' hj hc0 hd'
    obtain ⟨u', S', g1, g2, g3, _⟩ := hin.get j _ hd'
    have hu : u' = u := by
      simp only [World.cell?, hb] at hc0
      rw [← hvv j hj] at g1
      have : cs[o + j]? = some u := by simpa using hc0
      rw [this] at g1
      simpa using g1.symm
    subst hu
    exact h1.frame g2 fun x hx => hf x (by simp [g3 x hx])

theorem OwnHd.frame {v : Value} {d : V} {S : List Nat} (h : OwnHd w v d) (hr : Rep w [v] [d] S) (hf : ∀ b ∈ S, w'.heap[b]? = w.heap[b]?) : OwnHd w' v d := ⟨h.1.frame hr hf, h.2.frame hr hf⟩

theorem OwnCs.frame {us : List Value} {ds : List V} {S : List Nat} (h : OwnCs w us ds) (hr : Rep w us ds S) (hf : ∀ b ∈ S, w'.heap[b]? = w.heap[b]?) : OwnCs w' us ds := by
  intro j u js es' hu hd
  obtain ⟨u', S', g1, g2, g3, _⟩ := hr.get j _ hd
  rw [hu] at g1
  simp only [Option.some.injEq] at g1
  subst g1
  exact (h j u js es' hu hd).frame g2 fun x hx => hf x (g3 x hx)

theorem OwnCs.append {us us' : List Value} {ds ds' : List V} (h : OwnCs w us ds) (h' : OwnCs w us' ds') (hl : us.length = ds.length) : OwnCs w (us ++ us') (ds ++ ds') := by
  intro j u js es' hu hd
  by_cases hj : j < us.length
  · rw [List.getElem?_append_left hj] at hu
    rw [List.getElem?_append_left (by omega)] at hd
    exact h j u js es' hu hd
  · rw [List.getElem?_append_right (by omega)] at hu
    rw [List.getElem?_append_right (by omega), ← hl] at hd
    exact h' _ u js es' hu hd

theorem OwnCs.take {us : List Value} {ds : List V} (h : OwnCs w us ds) (n : Nat) : OwnCs w (us.take n) (ds.take n) := by
  intro j u js es' hu hd
  simp only [List.getElem?_take] at hu hd
  split at hu
  · rename_i hj
    rw [if_pos hj] at hd
    exact h j u js es' hu hd
  · cases hu

theorem OwnCs.drop {us : List Value} {ds : List V} (h : OwnCs w us ds) (n : Nat) : OwnCs w (us.drop n) (ds.drop n) := by
  intro j u js es' hu hd
  rw [List.getElem?_drop] at hu hd
  exact h _ u js es' hu hd

theorem Inn.cells {b o n cap : Nat} {ks : List AK} {es : List V} (h : Inn w (.slice (some ⟨b, o, none⟩) n cap) (.list ks es)) {cs : Array Value} {E : TypeId} {fz : Nat × Nat} (hb : w.heap[b]? = some (.cells cs E fz))
    {vs : List Value} (hl : vs.length = n * ks.length) (hv : ∀ j, j < n * ks.length → cs[o + j]? = vs[j]?) : OwnCs w vs (es.flatMap V.cells) := by
  intro j u js es' hu hd
  have hj : j < n * ks.length := by
    rcases Nat.lt_or_ge j vs.length with h1 | h1
    · omega
    · rw [List.getElem?_eq_none h1] at hu; cases hu
  refine h b o n cap ks es rfl rfl j u js es' hj ?_ hd
  simp only [World.cell?, hb]
  have := hv j hj
  rw [hu] at this
  simpa using this

theorem Inn.mk {b o n cap : Nat} {ks : List AK} {es : List V} {cs : Array Value} {E : TypeId} {fz : Nat × Nat} (hb : w.heap[b]? = some (.cells cs E fz))
    {vs : List Value} (hv : ∀ j, j < n * ks.length → cs[o + j]? = vs[j]?) (h : OwnCs w vs (es.flatMap V.cells)) : Inn w (.slice (some ⟨b, o, none⟩) n cap) (.list ks es) := by
  intro b' o' n' cap' ks' es2 hv' hd' j u js es' hj hcell hd
  simp only [Value.slice.injEq, Option.some.injEq, Addr.mk.injEq, and_true] at hv'
  obtain ⟨⟨rfl, rfl⟩, rfl, rfl⟩ := hv'
  simp only [V.list.injEq] at hd'
  obtain ⟨rfl, rfl⟩ := hd'
  simp only [World.cell?, hb] at hcell
  refine h j u js es' ?_ hd
  rw [← hv j hj]
  simpa using hcell

theorem RowOk.keep {r : Nat} {l : Lf} {app : Bool} (h : RowOk c M env w r l app) (hh : M'.hd r = M.hd r) (hp : M'.ph r = M.ph r) (hs : w.heap.size ≤ w'.heap.size)
    (hf : ∀ b ∈ M.ph r, w'.heap[b]? = w.heap[b]?) : RowOk c M' env w' r l app := by
  obtain ⟨⟨S, h1, h2, h3⟩, h4, h5, h6⟩ := h
  refine ⟨⟨S, ?_, h2, ?_⟩, ?_, ?_, fun ha v S hv => by rw [hh, hp]; exact h6 ha v S hv⟩
  · rw [hh]; exact h1.frame fun b hb => hf b (h3 b hb).1
  · intro b hb; rw [hp]; exact ⟨(h3 b hb).1, (h3 b hb).2.of_eq (hf b (h3 b hb).1)⟩
  · intro b hb; rw [hp] at hb; exact ⟨(h4 b hb).1, Nat.lt_of_lt_of_le (h4 b hb).2 hs⟩
  · intro ha; rw [hh, hp]; exact ⟨(h5 ha).1.frame h1 fun b hb => hf b (h3 b hb).1, (h5 ha).2⟩

theorem BoxOk.keep (E : Ext c fr M ob w M' ob' w') {id : Nat} {cells : List At} (h : BoxOk c M env w ob id cells) (hb : M'.be id = M.be id) (hf : w'.heap[M.be id]? = w.heap[M.be id]?)
    (hm : ∀ x, atsMen cells x → ¬ fr x) : BoxOk c M' env w' ob' id cells := by
  obtain ⟨us, F, h1, h2, h3, h4⟩ := h
  exact ⟨us, F, by rw [hb, hf]; exact h1, RelAts.ext E hm h2, by rw [hb]; exact h3, by rw [hb]; exact h4⟩

theorem RelAts.length : ∀ {as : List At} {vs : List Value}, RelAts c M env w ob as vs → as.length = vs.length
  | [], [], _ => rfl
  | [], _ :: _, h => h.elim
  | _ :: _, [], h => h.elim
  | _ :: _, _ :: _, h => by simp [RelAts.length h.2]

theorem RelAts.append : ∀ {as as' : List At} {vs vs' : List Value}, RelAts c M env w ob as vs → RelAts c M env w ob as' vs' → RelAts c M env w ob (as ++ as') (vs ++ vs')
  | [], _, [], _, _, h' => h'
  | [], _, _ :: _, _, h, _ => h.elim
  | _ :: _, _, [], _, h, _ => h.elim
  | _ :: _, _, _ :: _, _, h, h' => ⟨h.1, RelAts.append h.2 h'⟩

theorem RelAts.take : ∀ (n : Nat) {as : List At} {vs : List Value}, RelAts c M env w ob as vs → RelAts c M env w ob (as.take n) (vs.take n)
  | 0, _, _, _ => by simp [RelAts]
  | n + 1, [], [], _ => by simp [RelAts]
  | _ + 1, [], _ :: _, h => h.elim
  | _ + 1, _ :: _, [], h => h.elim
  | n + 1, _ :: _, _ :: _, h => ⟨h.1, RelAts.take n h.2⟩

theorem RelAts.drop : ∀ (n : Nat) {as : List At} {vs : List Value}, RelAts c M env w ob as vs → RelAts c M env w ob (as.drop n) (vs.drop n)
  | 0, _, _, h => by simpa using h
  | n + 1, [], [], _ => by simp [RelAts]
  | _ + 1, [], _ :: _, h => h.elim
  | _ + 1, _ :: _, [], h => h.elim
  | n + 1, _ :: _, _ :: _, h => RelAts.drop n h.2

end

def Fresh (A : FS) (fr : Nat → Prop) : Prop :=
  (∀ s gs sv, A.sl s = some (gs, sv) → ∀ x, sv.men x → ¬ fr x) ∧ (∀ id cells, A.ob id = some (.box cells) → ∀ x, atsMen cells x → ¬ fr x) ∧ ∀ x, fr x → A.ob x = none

def upSl (sl : Nat → Option (Gs × SV)) (dst : Option Nat) (x : Option (Gs × SV)) : Nat → Option (Gs × SV) :=
  match dst with
  | some d => fun s => if s = d then x else sl s
  | none => sl

def upOb (ob : Nat → Option SO) : List (Nat × Option SO) → Nat → Option SO
  | [] => ob
  | (i, x) :: r => upOb (fun j => if j = i then x else ob j) r

theorem slots_put {c : Cx} {nt : Nat} {M M' : Mp} {env : List V} {A : FS} {a : Act} {w w' : World} {ob' : Nat → Option SO} {fr : Nat → Prop} (h : Rel c nt M env A a w)
    (E : Ext c fr M A.ob w M' ob' w') (hfr : Fresh A fr) {dst : Option Nat} {gs : Gs} {sv : Option SV} {v : Value} (hd : ∀ d, dst = some d → d < nt)
    (hv : ∀ s, sv = some s → dst ≠ none → (GH env gs → RelSV c M' env w' ob' s v) ∧ (¬ GH env gs → v = undef)) :
    ∀ s gs' sv', upSl A.sl dst (sv.map fun s => (gs, s)) s = some (gs', sv') → s < nt ∧ (GH env gs' → RelSV c M' env w' ob' sv' ((a.put dst v).tmps.getD s undef)) ∧ (¬ GH env gs' → (a.put dst v).tmps.getD s undef = undef) := by
  intro s gs' sv' hs
  have old : A.sl s = some (gs', sv') → (∀ d, dst = some d → s ≠ d) → s < nt ∧ (GH env gs' → RelSV c M' env w' ob' sv' ((a.put dst v).tmps.getD s undef)) ∧ (¬ GH env gs' → (a.put dst v).tmps.getD s undef = undef) := by
    intro hs hne
    obtain ⟨h1, h2, h3⟩ := h.slots s gs' sv' hs
    have e : (a.put dst v).tmps.getD s undef = a.tmps.getD s undef := by
      cases dst with
      | none => rfl
      | some d =>
        have := hne d rfl
        simp [Act.put, Array.getElem?_setIfInBounds_ne (Ne.symm this)]
    rw [e]
    exact ⟨h1, fun hg => RelSV.ext E (hfr.1 s gs' sv' hs) (h2 hg), h3⟩
  cases dst with
  | none => exact old hs (by simp)
  | some d =>
    simp only [upSl] at hs
    by_cases hsd : s = d
    · subst hsd
      rw [if_pos rfl] at hs
      cases sv with
      | none => simp at hs
      | some x =>
        simp only [Option.map_some, Option.some.injEq, Prod.mk.injEq] at hs
        obtain ⟨rfl, rfl⟩ := hs
        have hlt := hd s rfl
        have e : (a.put (some s) v).tmps.getD s undef = v := by
          have : s < a.tmps.size := by rw [h.size]; exact hlt
          simp [Act.put, this]
        rw [e]
        exact ⟨hlt, hv x rfl (by simp)⟩
    · rw [if_neg hsd] at hs
      exact old hs (by intro d' hd'; cases hd'; exact hsd)

theorem Act.put_size (a : Act) (dst : Option Nat) (v : Value) : (a.put dst v).tmps.size = a.tmps.size := by cases dst <;> simp [Act.put]
theorem Act.put_defs (a : Act) (dst : Option Nat) (v : Value) : (a.put dst v).defers = a.defers := by cases dst <;> rfl

theorem Rel.put {c : Cx} {nt : Nat} {M : Mp} {env : List V} {A : FS} {a : Act} {w : World} (h : Rel c nt M env A a w) {dst : Option Nat} {gs : Gs} {sv : SV} {v : Value} (hd : ∀ d, dst = some d → d < nt)
    (hv : dst ≠ none → (GH env gs → RelSV c M env w A.ob sv v) ∧ (¬ GH env gs → v = undef)) : Rel c nt M env ⟨upSl A.sl dst (some (gs, sv)), A.ob⟩ (a.put dst v) w where
  size := by rw [Act.put_size]; exact h.size
  defs := by rw [Act.put_defs]; exact h.defs
  slots := by
    have E : Ext c (fun _ => False) M A.ob w M A.ob w := ⟨fun r ver l app _ ho => ⟨ver, l, app, ho, rfl, Nat.le_refl _, fun _ => ⟨rfl, fun b hb _ => ⟨hb, rfl⟩⟩⟩, fun id cells _ ho => ⟨⟨cells, ho⟩, rfl⟩, fun _ _ _ => rfl⟩
    have := slots_put h E ⟨by simp, by simp, by simp⟩ (sv := some sv) (gs := gs) (v := v) hd (fun s hs hne => by cases hs; exact hv hne)
    simpa using this
  rows := h.rows
  boxes := h.boxes
  dBB := h.dBB
  dRR := h.dRR
  dBR := h.dBR
  keep := h.keep

end Go.Mw

namespace Go.Mw

section
variable {w : World} {S : List Nat} {v : Value}

theorem Rep.int_inv {k : IntKind} {n : Int} (h : Rep w [v] [.int k n] S) : v = .int k n ∧ S = [] := by
  cases h with
  | atom h t => cases h; cases t; exact ⟨rfl, rfl⟩
theorem Rep.bool_inv {b : Bool} (h : Rep w [v] [.bool b] S) : v = .bool b ∧ S = [] := by
  cases h with
  | atom h t => cases h; cases t; exact ⟨rfl, rfl⟩
theorem Rep.str_inv {l : List UInt8} (h : Rep w [v] [.str l] S) : ∃ s, v = .string s ∧ s.data.toList = l ∧ S = [] := by
  cases h with
  | atom h t => cases h with
    | str s l hs => cases t; exact ⟨s, rfl, hs, rfl⟩
theorem Rep.agg_inv {cs : List V} (h : Rep w [v] [.agg cs] S) : False := by
  cases h with
  | atom h t => cases h
theorem Rep.undef_inv (h : Rep w [v] [.undef] S) : False := by
  cases h with
  | atom h t => cases h
theorem Rep.list_inv {ks : List AK} {es : List V} (h : Rep w [v] [.list ks es] S) :
    ((∃ x, v = .slice x 0 0) ∧ es = [] ∧ S = []) ∨
    ∃ b off n cap vs S' cs E fz, v = .slice (some ⟨b, off, none⟩) n cap ∧ S = b :: S' ∧ es.length = n ∧ (∀ e ∈ es, aksOk ks e.cells = true) ∧ n ≤ cap ∧ w.heap[b]? = some (.cells cs E fz) ∧
      off + n * ks.length ≤ cs.size ∧ (∀ j, j < n * ks.length → cs[off + j]? = vs[j]?) ∧ Rep w vs (es.flatMap V.cells) S' := by
  cases h with
  | atom h t => cases h <;> cases t <;> exact .inl ⟨⟨_, rfl⟩, rfl, rfl⟩
  | row b off n cap ks es vs S cs E fz hn hk hc hb hs hv hin t =>
    cases t
    exact .inr ⟨b, off, n, cap, vs, S, cs, E, fz, rfl, by simp, hn, hk, hc, hb, hs, hv, hin⟩

theorem Rep.one (_h : ∀ d, Rep w [v] [d] S → v.oneCell' = true) : True := trivial

theorem Rep.oneCell {d : V} (h : Rep w [v] [d] S) : v.oneCell' = true := by
  cases h with
  | atom h t => exact h.one
  | row => rfl

theorem lens {es : List V} {ks : List AK} (hk : ∀ e ∈ es, aksOk ks e.cells = true) : ∀ e ∈ es, e.cells.length = ks.length := fun e he => (aksOk_length (hk e he)).symm

theorem flatMap_length {es : List V} {k : Nat} (hk : ∀ e ∈ es, e.cells.length = k) : (es.flatMap V.cells).length = es.length * k := by
  induction es with
  | nil => simp
  | cons e es ih =>
    rw [List.flatMap_cons, List.length_append, ih (fun x hx => hk x (by simp [hx])), hk e (by simp), List.length_cons, Nat.add_mul]
    omega

theorem Rep.flat_length {es : List V} {k : Nat} {vs : List Value} (hk : ∀ e ∈ es, e.cells.length = k) (h : Rep w vs (es.flatMap V.cells) S) : vs.length = es.length * k := by
  rw [h.length, flatMap_length hk]

theorem flatMap_take {es : List V} {k : Nat} (hk : ∀ e ∈ es, e.cells.length = k) (i : Nat) : (es.flatMap V.cells).take (i * k) = (es.take i).flatMap V.cells := by
  induction es generalizing i with
  | nil => simp
  | cons e es ih =>
    cases i with
    | zero => simp
    | succ i =>
      have he := hk e (by simp)
      have : (i + 1) * k = e.cells.length + i * k := by rw [he, Nat.add_mul]; omega
      rw [this, List.flatMap_cons, List.take_append, List.take_of_length_le (by omega), Nat.add_sub_cancel_left, ih (fun x hx => hk x (by simp [hx]))]
      simp

theorem flatMap_drop {es : List V} {k : Nat} (hk : ∀ e ∈ es, e.cells.length = k) (i : Nat) : (es.flatMap V.cells).drop (i * k) = (es.drop i).flatMap V.cells := by
  induction es generalizing i with
  | nil => simp
  | cons e es ih =>
    cases i with
    | zero => simp
    | succ i =>
      have he := hk e (by simp)
      have : (i + 1) * k = e.cells.length + i * k := by rw [he, Nat.add_mul]; omega
      rw [this, List.flatMap_cons, List.drop_append, List.drop_eq_nil_of_le (by omega), Nat.add_sub_cancel_left, ih (fun x hx => hk x (by simp [hx]))]
      simp

end

section
variable {P : Program} (w : World)

theorem run_eqGuard_atom (op : BinOp) (t : TypeId) (x y : Operand) (a b : Value) (d e : V) (ha : Atom a d) (hb : Atom b e) (hn : ∀ q, d ≠ .err q) : (eqGuard op t x y a b).run P w = .ok () w := by
  unfold eqGuard
  cases ha <;> cases hb <;> cases op <;> first | exact absurd rfl (hn _) | simp

theorem run_isNil {neg : Bool} {a : Value} {q : Bool} (t : TypeId) (ms) (x : Operand) (ht : P.underlying t = some (.interface ms)) (ha : Atom a (.err q)) :
    (eqGuard (if neg then .neq else .eql) t x (.const .nilIface) a .nilIface).run P w = .ok () w ∧
    ∃ r, (Go.binOp (if neg then .neq else .eql) t a .nilIface).run P w = .ok r w ∧ Atom r (.bool (if neg then q else !q)) := by
  have hm : P.underlying t = some (.interface (P.methodsAt t)) := by simp [Program.methodsAt, ht]
  cases ha with
  | noErr => cases neg <;> exact ⟨by simp [eqGuard], _, by first | exact run_eql_nil_nil w t hm | exact run_neq_nil_nil w t hm, .bool _⟩
  | err u v => cases neg <;> exact ⟨by simp [eqGuard], _, by first | exact run_eql_held_nil w t u v hm | exact run_neq_held_nil w t u v hm, .bool _⟩

theorem run_binI {op : BinOp} {k : IntKind} {x y : Int} {d : V} (t : TypeId) (hop : op ≠ .shl ∧ op ≠ .shr) (h : binI op k x y = some d) :
    ∃ v, (Go.binOp op t (.int k x) (.int k y)).run P w = .ok v w ∧ Atom v d := by
  cases op <;> simp only [binI, Option.some.injEq, reduceCtorEq] at h
  case quo | rem =>
    split at h
    · cases h
    · rename_i hy; simp only [Option.some.injEq] at h; subst h
      refine ⟨_, ?_, .int _ _⟩
      simp [Go.binOp, Op.intDiv, hy]
  all_goals first
    | (subst h; refine ⟨_, ?_, .int _ _⟩; simp [Go.binOp, Op.intArith, Op.intBits]; done)
    | (subst h; refine ⟨_, ?_, .bool _⟩; simp [Go.binOp, Op.intCmp]; done)

theorem run_binV {op : BinOp} {a b d : V} {u v : Value} (t : TypeId) (hu : Rep w [u] [a] []) (hv : Rep w [v] [b] []) (h : binV op a b = some d) :
    ∃ r, (Go.binOp op t u v).run P w = .ok r w ∧ Atom r d := by
  cases a <;> cases b <;> simp only [binV, reduceCtorEq] at h
  case int.int k x j y =>
    obtain ⟨rfl, _⟩ := hu.int_inv
    obtain ⟨rfl, _⟩ := hv.int_inv
    split at h
    · split at h
      · cases h
      · rename_i hy
        simp only [Option.some.injEq] at h; subst h
        refine ⟨_, ?_, .int _ _⟩
        simp [Go.binOp, Op.shift, hy]
    · split at h
      · cases h
      · rename_i hy
        simp only [Option.some.injEq] at h; subst h
        refine ⟨_, ?_, .int _ _⟩
        simp [Go.binOp, Op.shift, hy]
    · rename_i h1 h2
      split at h
      · rename_i hk; subst hk
        exact run_binI w t ⟨h1, h2⟩ h
      · cases h
  case str.str x y =>
    obtain ⟨s, rfl, hs, _⟩ := hu.str_inv
    obtain ⟨s', rfl, hs', _⟩ := hv.str_inv
    subst hs hs'
    have e1 : s.toList = s.data.toList := ByteArray.toList_eq s
    have e2 : s'.toList = s'.data.toList := ByteArray.toList_eq s'
    cases op <;> simp only [binS, Option.some.injEq, reduceCtorEq] at h
    case add =>
      split at h
      · rename_i hle
        simp only [Option.some.injEq] at h; subst h
        refine ⟨.string (s ++ s'), ?_, .str _ _ (by simp)⟩
        have : ¬ (((s.size + s'.size : Nat) : Int) > IntKind.i64.max) := by
          have q1 : s.size = s.data.toList.length := by rw [Array.length_toList]; rfl
          have q2 : s'.size = s'.data.toList.length := by rw [Array.length_toList]; rfl
          rw [show IntKind.i64.max = 9223372036854775807 from by decide]
          omega
        simp only [Go.binOp, Op.stringOp, this, if_false]
        rfl
      · cases h
    all_goals (subst h; refine ⟨_, ?_, .bool _⟩; simp [Go.binOp, Op.stringOp, e1, e2])

theorem run_binB {op : BinOp} {a b d : V} {u v : Value} (t : TypeId) (hu : Rep w [u] [a] []) (hv : Rep w [v] [b] []) (h : binB op a b = some d) (ht : P.underlying t = some .bool) :
    ∃ r, (Go.binOp op t u v).run P w = .ok r w ∧ Atom r d := by
  cases a <;> cases b <;> simp only [binB, reduceCtorEq] at h
  case bool.bool x y =>
    obtain ⟨rfl, _⟩ := hu.bool_inv
    obtain ⟨rfl, _⟩ := hv.bool_inv
    split at h <;> simp only [Option.some.injEq, reduceCtorEq] at h
    · subst h
      refine ⟨.bool (x == y), ?_, .bool _⟩
      simp [Go.binOp, run_equal_bool w t x y ht]
    · subst h
      refine ⟨.bool (!(x == y)), ?_, .bool _⟩
      simp [Go.binOp, run_equal_bool w t x y ht]

theorem run_unV {op : UnOp} {a d : V} {u : Value} (hu : Rep w [u] [a] []) (h : unV op a = some d) : ∃ r, (Op.unary op u).run P w = .ok r w ∧ Atom r d := by
  cases a <;> simp only [unV, reduceCtorEq] at h
  case int k x =>
    obtain ⟨rfl, _⟩ := hu.int_inv
    cases op <;> simp only [Option.some.injEq, reduceCtorEq] at h
    subst h; exact ⟨_, rfl, .int _ _⟩
  case bool b =>
    obtain ⟨rfl, _⟩ := hu.bool_inv
    cases op <;> simp only [Option.some.injEq, reduceCtorEq] at h
    subst h; exact ⟨_, rfl, .bool _⟩

theorem run_eqV1 {k : FK} {a b : V} {u v : Value} {q : Bool} (d : Nat) (t : TypeId) (hu : Rep w [u] [a] []) (hv : Rep w [v] [b] []) (hk : fkOf P t = some k) (h : eqV1 k a b = some q) :
    (Op.equalIn (d + 1) t u v).run P w = .ok q w := by
  cases k <;> cases a <;> cases b <;> simp only [eqV1, reduceCtorEq, Option.some.injEq] at h
  · obtain ⟨rfl, _⟩ := hu.int_inv
    obtain ⟨rfl, _⟩ := hv.int_inv
    split at h <;> simp only [reduceCtorEq, Option.some.injEq] at h
    rename_i hk2; subst hk2; subst h
    unfold fkOf at hk
    split at hk <;> simp only [reduceCtorEq, Option.some.injEq] at hk
    rename_i k' ht
    exact run_equalIn_int w d t _ k' _ _ ht
  · obtain ⟨rfl, _⟩ := hu.bool_inv
    obtain ⟨rfl, _⟩ := hv.bool_inv
    subst h
    unfold fkOf at hk
    split at hk <;> simp only [reduceCtorEq, Option.some.injEq] at hk
    rename_i ht
    exact run_equalIn_bool' w d t _ _ ht
  · obtain ⟨s, rfl, hs, _⟩ := hu.str_inv
    obtain ⟨s', rfl, hs', _⟩ := hv.str_inv
    subst hs hs' h
    unfold fkOf at hk
    split at hk <;> simp only [reduceCtorEq, Option.some.injEq] at hk
    rename_i ht
    rw [run_equalIn_string w d t _ _ ht, ByteArray.toList_eq, ByteArray.toList_eq]

theorem run_isAgg {t : TypeId} {d : TypeDesc} (h : P.underlying t = some d) : (isAgg t).run P w = .ok (match d with | .struct _ | .array _ _ => true | _ => false) w := by
  unfold isAgg
  rw [Sem.run_bind, run_underlying h w, Result.andThen_ok]
  cases d <;> rfl

theorem fkOf_agg {t : TypeId} {k : FK} (h : fkOf P t = some k) : (isAgg t).run P w = .ok false w := by
  cases hd : P.underlying t with
  | none => simp [fkOf, hd] at h
  | some d =>
    rw [run_isAgg w hd]
    cases d <;> simp [fkOf, hd] at h <;> rfl

theorem run_part {t : TypeId} {k : FK} (h : fkOf P t = some k) (cs : Array Value) (off : Nat) (v : Value) (hv : cs[off]? = some v) : (part t cs off).run P w = .ok v w := by
  simp [part, fkOf_agg w h, hv]

inductive Scs (w : World) : List Value → List V → Prop
  | nil : Scs w [] []
  | cons {u : Value} {d : V} {us : List Value} {ds : List V} (h : Rep w [u] [d] []) (t : Scs w us ds) : Scs w (u :: us) (d :: ds)

theorem Scs.length {us : List Value} {ds : List V} (h : Scs w us ds) : us.length = ds.length := by
  induction h with
  | nil => rfl
  | cons _ _ ih => simp [ih]

theorem run_eqFields (d : Nat) (xs ys : Array Value) : ∀ (fs : List Field) (j : Nat) (ks : List FK) (us vs : List Value) (a b : List V) (q : Bool), flatFields P j fs = some ks →
    Scs w us a → Scs w vs b → (∀ i, i < us.length → xs[j + i]? = us[i]?) → (∀ i, i < vs.length → ys[j + i]? = vs[i]?) → eqVs ks a b = some q → (Op.eqFields (d + 1) xs ys fs).run P w = .ok q w
  | [], j, ks, us, vs, a, b, q, hf, hu, hv, hx, hy, h => by
    simp only [flatFields, Option.some.injEq] at hf
    subst hf
    cases a <;> cases b <;> simp only [eqVs, reduceCtorEq, Option.some.injEq] at h
    subst h
    simp [Op.eqFields]
  | f :: fs, j, ks, us, vs, a, b, q, hf, hu, hv, hx, hy, h => by
    simp only [flatFields] at hf
    split at hf
    · rename_i hoff
      split at hf <;> simp only [reduceCtorEq, Option.some.injEq] at hf
      rename_i k ks' hk hks
      subst hf
      simp only [Bool.and_eq_true, beq_iff_eq, bne_iff_ne] at hoff
      cases hu with
      | nil => cases b <;> simp only [eqVs, reduceCtorEq] at h
      | @cons u x us a hu1 hu2 =>
        cases hv with
        | nil => simp only [eqVs, reduceCtorEq] at h
        | @cons v y vs b hv1 hv2 =>
          have e1 : xs[f.offset]? = some u := by have := hx 0 (by simp); simpa [hoff.1] using this
          have e2 : ys[f.offset]? = some v := by have := hy 0 (by simp); simpa [hoff.1] using this
          have p1 := run_part (P := P) w hk xs f.offset u e1
          have p2 := run_part (P := P) w hk ys f.offset v e2
          have hx' : ∀ i, i < us.length → xs[j + 1 + i]? = us[i]? := fun i hi => by
            have := hx (i + 1) (by simp; omega)
            rw [show j + (i + 1) = j + 1 + i by omega] at this; simpa using this
          have hy' : ∀ i, i < vs.length → ys[j + 1 + i]? = vs[i]? := fun i hi => by
            have := hy (i + 1) (by simp; omega)
            rw [show j + (i + 1) = j + 1 + i by omega] at this; simpa using this
          simp only [eqVs] at h
          have hname : f.name ≠ "_" := hoff.2
          simp only [Op.eqFields, hname, ne_eq, not_false_eq_true, if_true, Sem.run_bind, p1, p2, Result.andThen_ok]
          split at h
          · rename_i he
            rw [run_eqV1 w d f.type hu1 hv1 hk he]
            simp only [Result.andThen_ok, Bool.not_true, Bool.false_eq_true, if_false]
            exact run_eqFields d xs ys fs (j + 1) ks' us vs a b q hks hu2 hv2 hx' hy' h
          · rename_i he
            simp only [Option.some.injEq] at h
            subst h
            rw [run_eqV1 w d f.type hu1 hv1 hk he]
            simp
          · cases h
    · cases hf

end
end Go.Mw

namespace Go.Mw

def lfIn (gs : Gs) (p : Lf × Bool) : Bool := gs.any fun q => p.1.same q.1 && p.2 == q.2

def look (sl : Nat → Option (Gs × SV)) (gs : Gs) : Look := fun ex x =>
  match x with
  | .const v => (cstC v).map .sc
  | .tmp t =>
    match sl t with
    | some (gs', sv) => if gs'.all (lfIn (gs ++ ex)) then some sv else none
    | none => none
  | .func f => some (.sc ⟨false, [.sc (.k (.fn f))]⟩)
  | _ => none

theorem Lf.same_eq {x y : Lf} (h : x.same y = true) : x = y := by
  cases x <;> cases y <;> simp [Lf.same] at h
  rw [h]

theorem GH.snoc {env : List V} {gs : Gs} {l : Lf} {b : Bool} (hg : GH env gs) (h : l.ev env = .bool b) : GH env (gs ++ [(l, b)]) := by
  intro p hp
  simp only [List.mem_append, List.mem_singleton] at hp
  rcases hp with hp | hp
  · exact hg p hp
  · subst hp; exact h

theorem Rep.atom_of {w : World} {v : Value} {d : V} (h : Rep w [v] [d] []) : Atom v d := by
  generalize hu : [v] = us at h
  generalize hS : ([] : List Nat) = S at h
  cases h with
  | atom h t => simp only [List.cons.injEq] at hu; obtain ⟨rfl, _⟩ := hu; exact h
  | row => simp at hS

theorem GH.of_all {env : List V} {gs gs' : Gs} (h : gs'.all (lfIn gs) = true) (hg : GH env gs) : GH env gs' := by
  intro p hp
  have := List.all_eq_true.1 h p hp
  simp only [lfIn, List.any_eq_true, Bool.and_eq_true, beq_iff_eq] at this
  obtain ⟨q, hq, h1, h2⟩ := this
  rw [Lf.same_eq h1, h2]; exact hg q hq

section
variable {c : Cx} {M : Mp} {env : List V} {w : World} {ob : Nat → Option SO}

theorem cst1_rel {v : Value} {a : At} (h : cst1 v = some a) : RelAt c M env w ob a v := by
  unfold cst1 at h
  split at h <;> simp only [Option.some.injEq, reduceCtorEq] at h
  all_goals subst h
  · exact ⟨rfl, .atom (.int _ _) .nil⟩
  · exact ⟨rfl, .atom (.bool _) .nil⟩
  · exact ⟨rfl, .atom (.str _ _ rfl) .nil⟩
  · exact ⟨rfl, rfl⟩
  · exact ⟨rfl, .atom .noErr .nil⟩

theorem mapO_cst_rel : ∀ {vs : List Value} {as : List At}, mapO cst1 vs = some as → RelAts c M env w ob as vs
  | [], as, h => by simp only [mapO, Option.some.injEq] at h; subst h; trivial
  | v :: vs, as, h => by
    simp only [mapO] at h
    split at h <;> simp only [Option.some.injEq, reduceCtorEq] at h
    rename_i b bs h1 h2
    subst h
    exact ⟨cst1_rel h1, mapO_cst_rel h2⟩

theorem cstC_rel {v : Value} {x : SC} (h : cstC v = some x) : RelSC c M env w ob x v := by
  unfold cstC at h
  split at h
  · rename_i cells
    cases hm : mapO cst1 cells.toList with
    | none => simp [hm] at h
    | some cs =>
      simp only [hm, Option.map_some, Option.some.injEq] at h
      subst h
      exact ⟨cells.toList, mapO_cst_rel hm, by simp [packV]⟩
  · rename_i hne
    cases hm : cst1 v with
    | none => simp [hm] at h
    | some a =>
      simp only [hm, Option.map_some, Option.some.injEq] at h
      subst h
      exact ⟨[v], ⟨cst1_rel hm, trivial⟩, by simp [packV]⟩

theorem RelSV.at1 {s : SV} {a : At} {v : Value} (h : RelSV c M env w ob s v) (ha : s.at1 = some a) : RelAt c M env w ob a v := by
  unfold SV.at1 at ha
  split at ha <;> simp only [Option.some.injEq, reduceCtorEq] at ha
  subst ha
  obtain ⟨vs, h1, h2⟩ := h
  simp only [packV, Bool.false_eq_true, if_false] at h2
  subst h2
  exact h1.1

theorem RelAt.scl {a : At} {l : Lf} {v : Value} (h : RelAt c M env w ob a v) (ha : a.scl = some l) : Rep w [v] [l.ev env] [] := by
  cases a <;> simp only [At.scl, Option.some.injEq, reduceCtorEq] at ha
  subst ha; exact h.2

theorem RelSV.scl {s : SV} {l : Lf} {v : Value} (h : RelSV c M env w ob s v) (ha : s.scl = some l) : Rep w [v] [l.ev env] [] := by
  unfold SV.scl at ha
  cases h1 : s.at1 with
  | none => simp [h1] at ha
  | some a => exact (h.at1 h1).scl (by simpa [h1] using ha)

theorem RelSV.ofAt {a : At} {v : Value} (h : RelAt c M env w ob a v) : RelSV c M env w ob (.ofAt a) v := ⟨[v], ⟨h, trivial⟩, by simp [packV]⟩

theorem RelSV.ofSc {l : Lf} {v : Value} (h : Rep w [v] [l.ev env] []) : RelSV c M env w ob (.ofAt (.sc l)) v := RelSV.ofAt ⟨h.oneCell, h⟩

end

theorem look_rel {c : Cx} {nt : Nat} {M : Mp} {env : List V} {A : FS} {a : Act} {w : World} (h : Rel c nt M env A a w) {gs ex : Gs} {x : Operand} {sv : SV} (hl : look A.sl gs ex x = some sv)
    (hg : GH env (gs ++ ex)) : RelSV c M env w A.ob sv (a.eval x) := by
  unfold look at hl
  split at hl
  · rename_i v
    cases hc : cstC v with
    | none => simp [hc] at hl
    | some y => simp only [hc, Option.map_some, Option.some.injEq] at hl; subst hl; exact cstC_rel hc
  · rename_i t
    split at hl
    · rename_i gs' sv' hs
      split at hl
      · rename_i hall
        simp only [Option.some.injEq] at hl; subst hl
        exact (h.slots t gs' _ hs).2.1 (GH.of_all hall hg)
      · cases hl
    · cases hl
  · simp only [Option.some.injEq] at hl
    subst hl
    rename_i f
    exact ⟨[.func (.func f) #[] #[]], ⟨⟨rfl, .atom (.fn f) .nil⟩, trivial⟩, rfl⟩
  · cases hl

theorem look_rel0 {c : Cx} {nt : Nat} {M : Mp} {env : List V} {A : FS} {a : Act} {w : World} (h : Rel c nt M env A a w) {gs : Gs} {x : Operand} {sv : SV} (hl : look A.sl gs [] x = some sv)
    (hg : GH env gs) : RelSV c M env w A.ob sv (a.eval x) := look_rel h hl (by simpa using hg)

theorem look_scl {c : Cx} {nt : Nat} {M : Mp} {env : List V} {A : FS} {a : Act} {w : World} (h : Rel c nt M env A a w) {gs ex : Gs} {x : Operand} {l : Lf} (hl : (look A.sl gs ex x).bind SV.scl = some l)
    (hg : GH env (gs ++ ex)) : Rep w [a.eval x] [l.ev env] [] := by
  cases h1 : look A.sl gs ex x with
  | none => simp [h1] at hl
  | some sv => exact (look_rel h h1 hg).scl (by simpa [h1] using hl)

def Holds (env : List V) (nv : Nat) (o : Out) : Prop :=
  match o.ins with
  | some (p, ls) => ∃ vs, p.run (ls.map (Lf.ev env)) = some vs ∧ vs.length = o.outs ∧ ∀ j, j < o.outs → env[nv + j]? = vs[j]?
  | none => True

theorem Holds.one {env : List V} {nv : Nat} {p : Prim} {ls : List Lf} {sv : Option SV} {obs : List (Nat × Option SO)} (h : Holds env nv ⟨some (p, ls), 1, sv, obs⟩) :
    ∃ d, p.run (ls.map (Lf.ev env)) = some [d] ∧ (Lf.v nv).ev env = d := by
  obtain ⟨vs, h1, h2, h3⟩ := h
  obtain ⟨d, rfl⟩ : ∃ d, vs = [d] := by
    match vs, h2 with
    | [d], _ => exact ⟨d, rfl⟩
  have := h3 0 (Nat.zero_lt_one)
  refine ⟨d, h1, ?_⟩
  simp only [Nat.add_zero, List.getElem?_cons_zero] at this
  simp [Lf.ev, this]

def Kont (c : Cx) (nt : Nat) (env : List V) (gs : Gs) (A : FS) (a : Act) (o : Oper) (out : Out) (K : Act → World → Prop) : Prop :=
  ∀ M' w' v, Rel c nt M' env ⟨upSl A.sl o.dst (out.sv.map fun s => (gs, s)), upOb A.ob out.obs⟩ (a.put o.dst v) w' → K (a.put o.dst v) w'

section
variable {P : Program} {c : Cx} {nt : Nat} {M : Mp} {env : List V} {A : FS} {a : Act} {w : World} {o : Oper} {gs : Gs} {fid nv : Nat} {K : Act → World → Prop} {Q : Exit → Act → World → Prop} {out : Out}

theorem wp_value {v : Value} {w' : World} (h : (execOp a.eval o).run P w = .ok (.value v) w') (hk : K (a.put o.dst v) w') : o.wp P a w K Q := by
  unfold Oper.wp; rw [h]; exact hk

theorem wp_skip' {w' : World} (h : (execOp a.eval o).run P w = .ok .skip w') (hk : K (a.put o.dst undef) w') : o.wp P a w K Q := by
  unfold Oper.wp; rw [h]; exact hk

theorem op_val (hR : Rel c nt M env A a w) (hg : GH env gs) (hd : ∀ d, o.dst = some d → d < nt) {sv : SV} (hsv : out.sv = some sv) (hob : out.obs = []) {v : Value}
    (hrun : (execOp a.eval o).run P w = .ok (.value v) w) (hv : RelSV c M env w A.ob sv v) (hK : Kont c nt env gs A a o out K) : o.wp P a w K Q := by
  refine wp_value hrun (hK M w v ?_)
  rw [hsv, hob]
  exact hR.put hd fun _ => ⟨fun _ => hv, fun hn => absurd hg hn⟩

theorem op_move {x : Operand} (ho : o.op = .move x ∨ o.op = .assign x) (hR : Rel c nt M env A a w) (hg : GH env gs) (hd : ∀ d, o.dst = some d → d < nt)
    (hc : (look A.sl gs [] x).map Out.val = some out) (hK : Kont c nt env gs A a o out K) : o.wp P a w K Q := by
  cases h1 : look A.sl gs [] x with
  | none => simp [h1] at hc
  | some sv =>
    simp only [h1, Option.map_some, Option.some.injEq] at hc
    subst hc
    refine op_val hR hg hd (sv := sv) rfl rfl (v := a.eval x) ?_ (look_rel0 hR h1 hg) hK
    rcases ho with ho | ho <;> simp only [execOp, ho] <;> rfl

theorem op_pick {x y z : Operand} (ho : o.op = .pick x y z) (hR : Rel c nt M env A a w) (hg : GH env gs) (hd : ∀ d, o.dst = some d → d < nt)
    {lc la lb : Lf} (h1 : (look A.sl gs [] x).bind SV.scl = some lc) (h2 : (look A.sl gs [(lc, true)] y).bind SV.scl = some la) (h3 : (look A.sl gs [(lc, false)] z).bind SV.scl = some lb)
    (hout : out = .scal nv .pick [lc, la, lb]) (hh : Holds env nv out) (hK : Kont c nt env gs A a o out K) : o.wp P a w K Q := by
  subst hout
  obtain ⟨d, h4, h5⟩ := hh.one
  have r1 := look_scl hR h1 (by simpa using hg)
  simp only [List.map_cons, List.map_nil] at h4
  cases hb : lc.ev env <;> rw [hb] at h4 r1 <;> simp only [Prim.run, reduceCtorEq, Option.some.injEq, List.cons.injEq, and_true] at h4
  rename_i b
  obtain ⟨e1, _⟩ := r1.bool_inv
  cases b with
  | true =>
    have r2 := look_scl hR h2 (hg.snoc hb)
    refine op_val hR hg hd rfl rfl (v := a.eval y) ?_ (.ofSc (l := .v nv) ?_) hK
    · simp [execOp, ho, e1, asBool]
    · rw [h5, ← h4]; exact r2
  | false =>
    have r3 := look_scl hR h3 (hg.snoc hb)
    refine op_val hR hg hd rfl rfl (v := a.eval z) ?_ (.ofSc (l := .v nv) ?_) hK
    · simp [execOp, ho, e1, asBool]
    · rw [h5, ← h4]; exact r3

theorem op_scal (hR : Rel c nt M env A a w) (hg : GH env gs) (hd : ∀ d, o.dst = some d → d < nt) {p : Prim} {ls : List Lf} (hout : out = .scal nv p ls) (hh : Holds env nv out)
    (hrun : ∀ d, p.run (ls.map (Lf.ev env)) = some [d] → ∃ v, (execOp a.eval o).run P w = .ok (.value v) w ∧ Atom v d) (hK : Kont c nt env gs A a o out K) : o.wp P a w K Q := by
  subst hout
  obtain ⟨d, h4, h5⟩ := hh.one
  obtain ⟨v, h6, h7⟩ := hrun d h4
  exact op_val hR hg hd rfl rfl h6 (.ofSc (l := .v nv) (by rw [h5]; exact .atom h7 .nil)) hK

theorem Prim.one_of {f : Option V} {d : V} (h : f.map ([·]) = some [d]) : f = some d := by
  cases f <;> simp_all

theorem op_un {op : UnOp} {t : TypeId} {x : Operand} (ho : o.op = .unOp op t x) (hR : Rel c nt M env A a w) (hg : GH env gs) (hd : ∀ d, o.dst = some d → d < nt)
    {l : Lf} (h1 : (look A.sl gs [] x).bind SV.scl = some l) (hout : out = .scal nv (.un op) [l]) (hh : Holds env nv out) (hK : Kont c nt env gs A a o out K) : o.wp P a w K Q := by
  refine op_scal hR hg hd hout hh ?_ hK
  intro d h
  have r1 := look_scl hR h1 (by simpa using hg)
  obtain ⟨r, h3, h4⟩ := run_unV (P := P) w r1 (Prim.one_of h)
  exact ⟨r, by simp [execOp, ho, h3], h4⟩

theorem RelAts.scs {c : Cx} {M : Mp} {env : List V} {w : World} {ob : Nat → Option SO} : ∀ {as : List At} {vs : List Value} {ls : List Lf}, RelAts c M env w ob as vs → mapO At.scl as = some ls → Scs w vs (ls.map (Lf.ev env))
  | [], [], ls, _, h => by simp only [mapO, Option.some.injEq] at h; subst h; exact .nil
  | [], _ :: _, _, h, _ => h.elim
  | _ :: _, [], _, h, _ => h.elim
  | a :: as, v :: vs, ls, h, hm => by
    simp only [mapO] at hm
    split at hm <;> simp only [Option.some.injEq, reduceCtorEq] at hm
    rename_i b bs h1 h2
    subst hm
    exact .cons (h.1.scl h1) (RelAts.scs h.2 h2)

theorem op_bin {op : BinOp} {t u : TypeId} {x y : Operand} (ho : o.op = .binOp op t x y u) (hR : Rel c nt M env A a w) (hg : GH env gs) (hd : ∀ d, o.dst = some d → d < nt)
    {sx sy : SV} (h1 : look A.sl gs [] x = some sx) (h2 : look A.sl gs [] y = some sy) (hc : coreBin P nv op t sx sy = some out) (hh : Holds env nv out)
    (hK : Kont c nt env gs A a o out K) : o.wp P a w K Q := by
  have r1 := look_rel0 hR h1 hg
  have r2 := look_rel0 hR h2 hg
  unfold coreBin at hc
  split at hc
  · rename_i xs ys
    obtain ⟨us, q1, q2⟩ := r1
    obtain ⟨vs, q3, q4⟩ := r2
    simp only [packV, if_true] at q2 q4
    have key : ∀ ks lx ly (neg : Bool), flatStruct P t = some ks → mapO At.scl xs = some lx → mapO At.scl ys = some ly → lx.length = ks.length → ly.length = ks.length → op = (if neg then .neq else .eql) →
        out = .scal nv (.eqa neg ks) (lx ++ ly) → o.wp P a w K Q := by
      intro ks lx ly neg hf hx hy l1 l2 hop hout
      refine op_scal hR hg hd hout hh ?_ hK
      intro d h
      simp only [Prim.run, List.map_append] at h
      rw [List.take_left' (by simp [l1]), List.drop_left' (by simp [l1])] at h
      cases hq : eqVs ks (lx.map (Lf.ev env)) (ly.map (Lf.ev env)) with
      | none => simp [hq] at h
      | some q =>
        simp only [hq, Option.map_some, Option.some.injEq, List.cons.injEq, and_true] at h
        subst h
        unfold flatStruct at hf
        split at hf
        · rename_i fs hst
          split at hf
          · rename_i hgd
            simp only [Bool.and_eq_true, Bool.not_eq_true'] at hgd
            have hfs : P.fieldsOf t = fs := by simp [Program.fieldsOf, hst]
            have hst' : P.underlying t = some (.struct (P.fieldsOf t)) := by rw [hfs]; exact hst
            have e1 := run_equalIn_struct (P := P) w 9999 t us.toArray vs.toArray hst' hgd.2
            rw [hfs, run_eqFields w 9998 us.toArray vs.toArray fs.toList 0 ks us vs _ _ q hf (q1.scs hx) (q3.scs hy) (by simp) (by simp) hq] at e1
            have eg := run_eqGuard_agg (P := P) w op t x y us.toArray vs.toArray hgd.1
            refine ⟨.bool (if neg then !q else q), ?_, .bool _⟩
            rw [← q2, ← q4] at e1 eg
            cases neg <;> simp only [Bool.false_eq_true, if_false, if_true] at hop <;> subst hop
            · simp only [execOp, ho, Sem.run_bind, eg, Result.andThen_ok]
              rw [q2, q4] at e1 ⊢
              rw [run_eql_struct, e1]; simp
            · simp only [execOp, ho, Sem.run_bind, eg, Result.andThen_ok]
              rw [q2, q4] at e1 ⊢
              rw [run_neq_struct, e1]; simp
          · cases hf
        · cases hf
    split at hc
    · rename_i ks lx ly hf hx hy
      split at hc <;> simp only [Option.some.injEq, reduceCtorEq] at hc
      rename_i hl
      simp only [Bool.and_eq_true, beq_iff_eq] at hl
      exact key _ _ _ false hf hx hy hl.1 hl.2 rfl hc.symm
    · rename_i ks lx ly hf hx hy
      split at hc <;> simp only [Option.some.injEq, reduceCtorEq] at hc
      rename_i hl
      simp only [Bool.and_eq_true, beq_iff_eq] at hl
      exact key _ _ _ true hf hx hy hl.1 hl.2 rfl hc.symm
    · cases hc
  · split at hc
    · rename_i lx ly hx hy
      have s1 := r1.scl hx
      have s2 := r2.scl hy
      have fin : ∀ p, out = .scal nv p [lx, ly] → (∀ q d u, p.run [.err q, d] = some u → False) → (∀ d, p.run ([lx, ly].map (Lf.ev env)) = some [d] → ∃ r, (Go.binOp op t (a.eval x) (a.eval y)).run P w = .ok r w ∧ Atom r d) → o.wp P a w K Q := by
        intro p hout hno hp
        refine op_scal hR hg hd hout hh ?_ hK
        intro d h
        have eg : (eqGuard op t x y (a.eval x) (a.eval y)).run P w = .ok () w := by
          refine run_eqGuard_atom w op t x y _ _ _ _ s1.atom_of s2.atom_of fun q e => ?_
          simp only [List.map_cons, List.map_nil] at h
          rw [e] at h
          exact hno _ _ _ h
        obtain ⟨r, h3, h4⟩ := hp d h
        exact ⟨r, by simp [execOp, ho, eg, h3], h4⟩
      split at hc <;> simp only [Option.some.injEq, reduceCtorEq] at hc
      · exact fin _ hc.symm (fun q d u h => by cases d <;> simp [Prim.run, binV] at h) fun d h => run_binV w t s1 s2 (Prim.one_of h)
      · exact fin _ hc.symm (fun q d u h => by cases d <;> simp [Prim.run, binV] at h) fun d h => run_binV w t s1 s2 (Prim.one_of h)
      · rename_i ht
        exact fin _ hc.symm (fun q d u h => by cases d <;> simp [Prim.run, binB] at h) fun d h => run_binB w t s1 s2 (Prim.one_of h) ht
    · cases hc

theorem op_err {op : BinOp} {t u : TypeId} {x y : Operand} (ho : o.op = .binOp op t x y u) (hR : Rel c nt M env A a w) (hg : GH env gs) (hd : ∀ d, o.dst = some d → d < nt)
    {sx : SV} (h1 : look A.sl gs [] x = some sx) (hc : coreErr P nv op t y sx = some out) (hh : Holds env nv out) (hK : Kont c nt env gs A a o out K) : o.wp P a w K Q := by
  have r1 := look_rel0 hR h1 hg
  unfold coreErr at hc
  split at hc
  · rename_i ms l ht hl
    have s1 := (r1.scl hl).atom_of
    have key : ∀ neg, op = (if neg then .neq else .eql) → out = .scal nv (.isNil neg) [l] → o.wp P a w K Q := by
      intro neg hop hout
      refine op_scal hR hg hd hout hh ?_ hK
      intro d h
      simp only [List.map_cons, List.map_nil] at h
      cases hq : l.ev env <;> rw [hq] at h s1 <;> simp only [Prim.run, reduceCtorEq, Option.some.injEq, List.cons.injEq, and_true] at h
      subst h
      obtain ⟨e1, r, e2, e3⟩ := run_isNil (P := P) w (neg := neg) t ms x ht s1
      have ey : a.eval (.const .nilIface) = .nilIface := rfl
      exact ⟨r, by subst hop; simp only [execOp, ho, Sem.run_bind, ey, e1, Result.andThen_ok, e2, Sem.run_pure], e3⟩
    split at hc <;> simp only [Option.some.injEq, reduceCtorEq] at hc
    · exact key false rfl hc.symm
    · exact key true rfl hc.symm
  · cases hc

end
end Go.Mw

